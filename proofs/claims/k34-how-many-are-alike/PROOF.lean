import PyProof.Rows.All
import Wide.All
import OpenK.AllK
import Wide.FinOn
import HandS.ForMost
import HandS.ForExc
import KE.GoesEnum
import KE.GoesMore
import HandS.Zip
import HandS.Style
import HandS.TupAny
import HandS.IsInst
import HandS.Conv
import HandS.Deep
import HandS.Wide
import HandS.TupSets
import HandS.SortInts
import PySem.Challenge.RW_handshakes_k34_how_many_are_alike
set_option Elab.async false
set_option linter.all false
set_option maxRecDepth 100000
set_option maxHeartbeats 4000000
namespace Mini
open PySem L2

/-! ### values, cells, results -/
inductive D where
  | non | bl (b : Bool) | int (i : Int) | str (x : Str) | tup (xs : List D) | lv (xs : List D) | fl (xs : List D) | ref (n : Nat)
inductive O where
  | lst (xs : List D) | dead
abbrev Hd := List O
structure Ex where
  cls : Str
  fs : List (Str × D)
inductive Res (α : Type) where
  | ok (a : α) (h : Hd) | exc (x : Ex) (h : Hd) | fail
abbrev Ev := List (Option D)
def Res.bind {α β : Type} (r : Res α) (k : α → Hd → Res β) : Res β := match r with
  | .ok a h => k a h
  | .exc x h => .exc x h
  | .fail => .fail

def live (h : Hd) (m : Nat) : Bool := match h[m]? with
  | some (.lst _) => true
  | _ => false

/-! ### the relation to the abstract heap -/
/-- where the cells stand; Z: addresses that no value speaks of (a comprehension's list while it grows) -/
structure Rh where
  f : Nat → Addr
  Z : Addr → Prop
instance : CoeFun Rh (fun _ => Nat → Addr) := ⟨Rh.f⟩

def KLst (K : PySem.W.Frag) (a : Addr) (xs : List V) : Prop :=
  ∃ (o : Obj) (its : Array Value) (n : Nat), K.lookup a = some o ∧ o.cls = .type "list" ∧ o.dict = none ∧ o.data = .seq its n ∧ its.size ≤ sizeLine ∧ Vals xs its.toList

mutual
def RelD (K : PySem.W.Frag) (rho : Rh) (h : Hd) (B : Nat) (H : Hp) : D → V → Prop
  | .non, v => v = .non
  | .bl b, v => v = .bl b
  | .int i, v => v = .int i
  | .str x, v => v = .str x
  | .tup xs, v => ∃ a us, v = .ref a ∧ SqT K H a us ∧ RelDs K rho h B H xs us
  | .lv xs, v => ∃ a us, v = .ref a ∧ (H a = some (.lst us) ∧ ¬ rho.Z a ∧ ∀ m, live h m = true → rho m ≠ a) ∧ RelDs K rho h B H xs us
  | .fl xs, v => ∃ a us, v = .ref a ∧ ((∃ o, H a = some (.frz o (.lst us))) ∨ KLst K a us) ∧ RelDs K rho h B H xs us
  | .ref n, v => n < B ∧ v = .ref (rho n)
def RelDs (K : PySem.W.Frag) (rho : Rh) (h : Hd) (B : Nat) (H : Hp) : List D → List V → Prop
  | [], us => us = []
  | d :: ds, us => ∃ v r, us = v :: r ∧ RelD K rho h B H d v ∧ RelDs K rho h B H ds r
end

structure Ext (K : PySem.W.Frag) (rho : Rh) (h : Hd) (H : Hp) (rho' : Rh) (h' : Hd) (H' : Hp) : Prop where
  le : h.length ≤ h'.length
  ag : ∀ m, m < h.length → rho' m = rho m
  lv : ∀ m, m < h.length → live h' m = true → live h m = true
  fr : ∀ m, h.length ≤ m → live h' m = true → H (rho' m) = none
  kp : ∀ a o, H a = some o → (∀ m, live h m = true → rho m ≠ a) → H' a = some o
  tp : ∀ a us, H a = some (.tup us) → H' a = some (.tup us)
  fz : ∀ a o u, H a = some (.frz o u) → H' a = some (.frz o u)
  dm : ∀ a, H' a = none → H a = none
  zi : ∀ a, rho.Z a → rho'.Z a
  zo : ∀ a, rho'.Z a → rho.Z a ∨ H a = none

theorem live_lt {h : Hd} {m : Nat} (e : live h m = true) : m < h.length := by
  unfold live at e
  cases q : h[m]? with
  | none => rw [q] at e; cases e
  | some o => exact (List.getElem?_eq_some_iff.mp q).1

section
variable {K : PySem.W.Frag} {rho rho' rho2 : Rh} {h h' h2 : Hd} {H H' H2 : Hp}
theorem Ext.refl : Ext K rho h H rho h H where
  le := Nat.le_refl _
  ag := fun _ _ => rfl
  lv := fun _ _ e => e
  fr := fun m hm e => absurd (live_lt e) (Nat.not_lt.mpr hm)
  kp := fun _ _ e _ => e
  tp := fun _ _ e => e
  fz := fun _ _ _ e => e
  dm := fun _ e => e
  zi := fun _ e => e
  zo := fun _ e => .inl e
theorem Ext.ne (x : Ext K rho h H rho' h' H') {a : Addr} {o : HO} (e : H a = some o) (n : ∀ m, live h m = true → rho m ≠ a) : ∀ m, live h' m = true → rho' m ≠ a := fun m hm => by
  by_cases hl : m < h.length
  · rw [x.ag m hl]; exact n m (x.lv m hl hm)
  · have := x.fr m (Nat.not_lt.mp hl) hm
    intro z; rw [z, e] at this; cases this
theorem Ext.trans (x : Ext K rho h H rho' h' H') (y : Ext K rho' h' H' rho2 h2 H2) : Ext K rho h H rho2 h2 H2 where
  le := Nat.le_trans x.le y.le
  ag := fun m hm => (y.ag m (Nat.lt_of_lt_of_le hm x.le)).trans (x.ag m hm)
  lv := fun m hm e => x.lv m hm (y.lv m (Nat.lt_of_lt_of_le hm x.le) e)
  fr := fun m hm e => by
    by_cases hl : m < h'.length
    · rw [y.ag m hl]; exact x.fr m hm (y.lv m hl e)
    · exact x.dm _ (y.fr m (Nat.not_lt.mp hl) e)
  kp := fun a o e n => y.kp a o (x.kp a o e n) (x.ne e n)
  tp := fun a us e => y.tp a us (x.tp a us e)
  fz := fun a o u e => y.fz a o u (x.fz a o u e)
  dm := fun a e => x.dm a (y.dm a e)
  zi := fun a e => y.zi a (x.zi a e)
  zo := fun a e => (y.zo a e).elim (x.zo a) fun q => .inr (x.dm a q)
theorem Ext.nz (x : Ext K rho h H rho' h' H') {a : Addr} {o : HO} (e : H a = some o) (z : ¬ rho.Z a) : ¬ rho'.Z a := fun q => (x.zo a q).elim z fun n => by rw [e] at n; cases n
theorem Ext.sqT (x : Ext K rho h H rho' h' H') {a : Addr} {us : List V} (e : SqT K H a us) : SqT K H' a us := by
  rcases e with (e | ⟨o, e⟩) | e
  · exact .inl (.inl (x.tp _ _ e))
  · exact .inl (.inr ⟨o, x.fz _ _ _ e⟩)
  · exact .inr e

mutual
theorem RelD.mono (x : Ext K rho h H rho' h' H') {B B' : Nat} (hB : B ≤ B') (hh : B ≤ h.length) : ∀ (d : D) (v : V), RelD K rho h B H d v → RelD K rho' h' B' H' d v
  | .non, v, e => by simp only [RelD] at e ⊢; exact e
  | .bl b, v, e => by simp only [RelD] at e ⊢; exact e
  | .int i, v, e => by simp only [RelD] at e ⊢; exact e
  | .str z, v, e => by simp only [RelD] at e ⊢; exact e
  | .tup xs, v, e => by
    simp only [RelD] at e ⊢
    obtain ⟨a, us, e1, e2, e3⟩ := e
    exact ⟨a, us, e1, x.sqT e2, RelDs.mono x hB hh xs us e3⟩
  | .lv xs, v, e => by
    simp only [RelD] at e ⊢
    obtain ⟨a, us, e1, e2, e3⟩ := e
    refine ⟨a, us, e1, ?_, RelDs.mono x hB hh xs us e3⟩
    obtain ⟨e2, z, n⟩ := e2
    exact ⟨x.kp _ _ e2 n, x.nz e2 z, x.ne e2 n⟩
  | .fl xs, v, e => by
    simp only [RelD] at e ⊢
    obtain ⟨a, us, e1, e2, e3⟩ := e
    refine ⟨a, us, e1, ?_, RelDs.mono x hB hh xs us e3⟩
    rcases e2 with ⟨o, e2⟩ | e2
    · exact .inl ⟨o, x.fz _ _ _ e2⟩
    · exact .inr e2
  | .ref n, v, e => by
    simp only [RelD] at e ⊢
    exact ⟨Nat.lt_of_lt_of_le e.1 hB, by rw [x.ag n (Nat.lt_of_lt_of_le e.1 hh)]; exact e.2⟩
theorem RelDs.mono (x : Ext K rho h H rho' h' H') {B B' : Nat} (hB : B ≤ B') (hh : B ≤ h.length) : ∀ (ds : List D) (us : List V), RelDs K rho h B H ds us → RelDs K rho' h' B' H' ds us
  | [], us, e => by simp only [RelDs] at e ⊢; exact e
  | d :: ds, us, e => by
    simp only [RelDs] at e ⊢
    obtain ⟨v, r, e1, e2, e3⟩ := e
    exact ⟨v, r, e1, RelD.mono x hB hh d v e2, RelDs.mono x hB hh ds r e3⟩
end
end

/-- a cell and what stands for it -/
def RelC (K : PySem.W.Frag) (rho : Rh) (h : Hd) (m : Nat) (H : Hp) : O → Prop
  | .lst xs => ∃ us, H (rho m) = some (.lst us) ∧ RelDs K rho h m H xs us
  | .dead => True
structure Rel (K : PySem.W.Frag) (rho : Rh) (h : Hd) (H : Hp) : Prop where
  inj : ∀ m n, live h m = true → live h n = true → rho m = rho n → m = n
  cell : ∀ m o, h[m]? = some o → RelC K rho h m H o
  zd : ∀ a, rho.Z a → H a ≠ none
  zc : ∀ m, live h m = true → ¬ rho.Z (rho m)
abbrev RelV' (K : PySem.W.Frag) (rho : Rh) (h : Hd) (H : Hp) (d : D) (v : V) : Prop := RelD K rho h h.length H d v
abbrev RelVs' (K : PySem.W.Frag) (rho : Rh) (h : Hd) (H : Hp) (d : List D) (v : List V) : Prop := RelDs K rho h h.length H d v
def RelS (K : PySem.W.Frag) (rho : Rh) (h : Hd) (H : Hp) (s : Ev) (σ : St) : Prop :=
  s.length = σ.length ∧ ∀ (i : Nat) (d : D), s[i]? = some (some d) → ∃ v, σ[i]? = some (some v) ∧ RelV' K rho h H d v
def RelX (K : PySem.W.Frag) (mg : Str → Option Value) (rho : Rh) (h : Hd) (H : Hp) (x : Ex) (cls : Value) (dd : Option Addr) : Prop :=
  ∃ C, mg x.cls = some (.ref C) ∧ cls = .ref C ∧ (x.fs = [] ∨ ∃ d us, dd = some d ∧ H d = some (.xd us) ∧ us.map (·.1) = x.fs.map (·.1) ∧ RelDs K rho h h.length H (x.fs.map (·.2)) (us.map (·.2)))
section
variable {K : PySem.W.Frag} {rho rho' rho2 : Rh} {h h' h2 : Hd} {H H' H2 : Hp}
theorem Ext.v (x : Ext K rho h H rho' h' H') {d : D} {v : V} (r : RelV' K rho h H d v) : RelV' K rho' h' H' d v := RelD.mono x x.le (Nat.le_refl _) d v r
theorem Ext.vs (x : Ext K rho h H rho' h' H') {d : List D} {v : List V} (r : RelVs' K rho h H d v) : RelVs' K rho' h' H' d v := RelDs.mono x x.le (Nat.le_refl _) d v r
theorem Ext.s (x : Ext K rho h H rho' h' H') {s : Ev} {σ : St} (r : RelS K rho h H s σ) : RelS K rho' h' H' s σ := ⟨r.1, fun i d e => let ⟨v, a, b⟩ := r.2 i d e; ⟨v, a, x.v b⟩⟩
theorem RelS.set {s : Ev} {σ : St} (r : RelS K rho h H s σ) {d : D} {v : V} (e : RelV' K rho h H d v) (i : Nat) : RelS K rho h H (s.set i (some d)) (σ.set i (some v)) := by
  refine ⟨by simp [r.1], fun j d' q => ?_⟩
  by_cases hj : i = j
  · subst hj
    by_cases hl : i < s.length
    · rw [List.getElem?_set_self hl] at q
      cases q
      exact ⟨v, by rw [List.getElem?_set_self (by rw [← r.1]; exact hl)], e⟩
    · rw [List.getElem?_eq_none (by simpa using hl)] at q; cases q
  · rw [List.getElem?_set_ne hj] at q
    obtain ⟨w, a, b⟩ := r.2 j d' q
    exact ⟨w, by rw [List.getElem?_set_ne hj]; exact a, b⟩
theorem RelDs.length : ∀ {ds : List D} {us : List V} {B : Nat}, RelDs K rho h B H ds us → ds.length = us.length
  | [], us, B, e => by simp only [RelDs] at e; subst e; rfl
  | d :: ds, us, B, e => by
    simp only [RelDs] at e
    obtain ⟨v, r, e1, _, e3⟩ := e
    subst e1
    simp [RelDs.length e3]
theorem RelDs.get : ∀ {ds : List D} {us : List V} {B i : Nat} {d : D}, RelDs K rho h B H ds us → ds[i]? = some d → ∃ v, us[i]? = some v ∧ RelD K rho h B H d v
  | [], us, B, i, d, e, q => by simp at q
  | d' :: ds, us, B, 0, d, e, q => by
    simp only [RelDs] at e
    obtain ⟨v, r, e1, e2, e3⟩ := e
    subst e1
    simp at q
    subst q
    exact ⟨v, rfl, e2⟩
  | d' :: ds, us, B, i + 1, d, e, q => by
    simp only [RelDs] at e
    obtain ⟨v, r, e1, e2, e3⟩ := e
    subst e1
    simp at q
    obtain ⟨w, a, b⟩ := RelDs.get (i := i) e3 q
    exact ⟨w, by simpa using a, b⟩
theorem RelDs.append : ∀ {ds es : List D} {us ws : List V} {B : Nat}, RelDs K rho h B H ds us → RelDs K rho h B H es ws → RelDs K rho h B H (ds ++ es) (us ++ ws)
  | [], es, us, ws, B, e, q => by simp only [RelDs] at e; subst e; exact q
  | d :: ds, es, us, ws, B, e, q => by
    simp only [RelDs] at e
    obtain ⟨v, r, e1, e2, e3⟩ := e
    subst e1
    simp only [List.cons_append, RelDs]
    exact ⟨v, _, rfl, e2, RelDs.append e3 q⟩
theorem RelDs.set {d : D} {v : V} {B : Nat} (r : RelD K rho h B H d v) : ∀ {ds : List D} {us : List V} (i : Nat), RelDs K rho h B H ds us → RelDs K rho h B H (ds.set i d) (us.set i v)
  | [], us, i, e => by simp only [RelDs] at e; subst e; simp [RelDs]
  | d' :: ds, us, 0, e => by
    simp only [RelDs] at e
    obtain ⟨v', r', e1, e2, e3⟩ := e
    subst e1
    simp only [List.set_cons_zero, RelDs]
    exact ⟨v, _, rfl, r, e3⟩
  | d' :: ds, us, i + 1, e => by
    simp only [RelDs] at e
    obtain ⟨v', r', e1, e2, e3⟩ := e
    subst e1
    simp only [List.set_cons_succ, RelDs]
    exact ⟨v', _, rfl, e2, RelDs.set r i e3⟩
theorem RelDs.take : ∀ {ds : List D} {us : List V} {B : Nat} (i : Nat), RelDs K rho h B H ds us → RelDs K rho h B H (ds.take i) (us.take i)
  | ds, us, B, 0, e => by simp [RelDs]
  | [], us, B, i + 1, e => by simp only [RelDs] at e; subst e; simp [RelDs]
  | d' :: ds, us, B, i + 1, e => by
    simp only [RelDs] at e
    obtain ⟨v', r', e1, e2, e3⟩ := e
    subst e1
    simp only [List.take_succ_cons, RelDs]
    exact ⟨v', _, rfl, e2, RelDs.take i e3⟩
theorem RelDs.drop : ∀ {ds : List D} {us : List V} {B : Nat} (i : Nat), RelDs K rho h B H ds us → RelDs K rho h B H (ds.drop i) (us.drop i)
  | ds, us, B, 0, e => e
  | [], us, B, i + 1, e => by simp only [RelDs] at e; subst e; simp [RelDs]
  | d' :: ds, us, B, i + 1, e => by
    simp only [RelDs] at e
    obtain ⟨v', r', e1, e2, e3⟩ := e
    subst e1
    simp only [List.drop_succ_cons]
    exact RelDs.drop i e3
theorem RelDs.reverse : ∀ {ds : List D} {us : List V} {B : Nat}, RelDs K rho h B H ds us → RelDs K rho h B H ds.reverse us.reverse
  | [], us, B, e => by simp only [RelDs] at e; subst e; simp [RelDs]
  | d :: ds, us, B, e => by
    simp only [RelDs] at e
    obtain ⟨v, r, e1, e2, e3⟩ := e
    subst e1
    rw [List.reverse_cons, List.reverse_cons]
    exact RelDs.append (RelDs.reverse e3) (by simp only [RelDs]; exact ⟨v, [], rfl, e2, rfl⟩)
theorem RelDs.nil_iff {ds : List D} {us : List V} {B : Nat} (e : RelDs K rho h B H ds us) : ds = [] ↔ us = [] := by
  have := RelDs.length e
  constructor
  · intro z; subst z; exact List.length_eq_zero_iff.mp this.symm
  · intro z; subst z; exact List.length_eq_zero_iff.mp this
end
end Mini
namespace Mini
open PySem L2

/-! ### what is wanted behind a mirror's result -/
abbrev PG' (α : Type) := α → (Rh) → Hd → Hp → Prop
def PostG {α : Type} (K : PySem.W.Frag) (mg : Str → Option Value) (W : XK) (rho : Rh) (h : Hd) (H : Hp) (r : Res α) (P : PG' α) : Prop := match r with
  | .ok a h' => ∀ rho' H', Ext K rho h H rho' h' H' → Rel K rho' h' H' → P a rho' h' H'
  | .exc x h' => ∀ rho' H' cls dd, Ext K rho h H rho' h' H' → Rel K rho' h' H' → RelX K mg rho' h' H' x cls dd → W cls dd H'
  | .fail => False
abbrev pE (K : PySem.W.Frag) (Q : VK) : PG' D := fun d rho h H => ∀ v, RelV' K rho h H d v → Q v H
abbrev pA (K : PySem.W.Frag) (Q : List V → Hp → Prop) : PG' (List D) := fun d rho h H => ∀ v, RelVs' K rho h H d v → Q v H
abbrev pT (Q : Bool → Hp → Prop) : PG' Bool := fun b _ _ H => Q b H
section
variable {α β : Type} {K : PySem.W.Frag} {mg : Str → Option Value} {W W' : XK} {rho rho1 : Rh} {h h1 : Hd} {H H1 : Hp} {P P' : PG' α}
theorem PostG.ext {r : Res α} (x : Ext K rho h H rho1 h1 H1) (p : PostG K mg W rho h H r P) : PostG K mg W rho1 h1 H1 r P := by
  cases r with
  | ok a h' => exact fun rho' H' e R => p rho' H' (x.trans e) R
  | exc y h' => exact fun rho' H' cls dd e R q => p rho' H' cls dd (x.trans e) R q
  | fail => exact p
theorem PostG.imp {r : Res α} (p : PostG K mg W rho h H r P) (i : ∀ a rho' h' H', Ext K rho h H rho' h' H' → Rel K rho' h' H' → P a rho' h' H' → P' a rho' h' H') : PostG K mg W rho h H r P' := by
  cases r with
  | ok a h' => exact fun rho' H' e R => i a rho' h' H' e R (p rho' H' e R)
  | exc y h' => exact p
  | fail => exact p
theorem PostG.bind {r : Res α} {k : α → Hd → Res β} {P : PG' β} (p : PostG K mg W rho h H (r.bind k) P) : PostG K mg W rho h H r (fun a rho' h' H' => PostG K mg W rho' h' H' (k a h') P) := by
  cases r with
  | ok a h' => exact fun rho' H' e R => PostG.ext e p
  | exc y h' => exact p
  | fail => exact p
theorem PostG.ok {a : α} (p : PostG K mg W rho h H (.ok a h) P) (R : Rel K rho h H) : P a rho h H := p rho H Ext.refl R
end

/-- a primitive's result: no exception -/
abbrev PR := Option (D × Hd)
def lift {α : Type} (r : Option (α × Hd)) : Res α := match r with
  | some (d, h) => .ok d h
  | none => .fail
abbrev EF := Ev → Hd → Res D
abbrev TF := Ev → Hd → Res Bool
abbrev AF := Ev → Hd → Res (List D)
inductive Fl where
  | nx (s : Ev) | rt (d : D) | bk (s : Ev) | ct (s : Ev) | ex (x : Ex) (s : Ev)
abbrev SF := Ev → Hd → Res Fl

def tG {α β : Type} (K : PySem.W.Frag) (mg : Str → Option Value) (W : WX) (f : Ev → Hd → Res α) (p : β → PG' α) : St → Hp → β → Prop := fun σ H Q =>
  ∃ rho h s, Rel K rho h H ∧ RelS K rho h H s σ ∧ PostG K mg (fun c d H' => W c d σ H') rho h H (f s h) (p Q)
abbrev tE (K : PySem.W.Frag) (mg : Str → Option Value) (W : WX) (f : EF) : TE := tG K mg W f (pE K)
abbrev tT (K : PySem.W.Frag) (mg : Str → Option Value) (W : WX) (f : TF) : TT := tG K mg W f pT
abbrev tA (K : PySem.W.Frag) (mg : Str → Option Value) (W : WX) (f : AF) : TA := tG K mg W f (pA K)
def pS (K : PySem.W.Frag) (W : WX) (mg : Str → Option Value) (E : Ends) : PG' Fl := fun fl rho h H => match fl with
  | .nx s => ∀ σ, RelS K rho h H s σ → E.nx σ H
  | .rt d => ∀ v, RelV' K rho h H d v → E.rt v H
  | .bk s => ∀ σ, RelS K rho h H s σ → E.bk σ H
  | .ct s => ∀ σ, RelS K rho h H s σ → E.ct σ H
  | .ex x s => ∀ σ cls dd, RelS K rho h H s σ → RelX K mg rho h H x cls dd → W cls dd σ H
def tS (K : PySem.W.Frag) (mg : Str → Option Value) (W : WX) (f : SF) : TS := fun E σ H =>
  ∃ rho h s, Rel K rho h H ∧ RelS K rho h H s σ ∧ PostG K mg (fun _ _ _ => False) rho h H (f s h) (pS K W mg E)

/-! ### the judgements -/
abbrev SE (X : Cx) (W : WX) (e : Expr) (f : EF) : Prop := PE X e (tE X.K X.mg W f)
abbrev ST (X : Cx) (W : WX) (e : Expr) (f : TF) : Prop := PT X e (tT X.K X.mg W f)
abbrev SW (X : Cx) (W : WX) (e : Expr) (f : TF) : Prop := PW X e (tT X.K X.mg W f)
abbrev SA (X : Cx) (W : WX) (e : List Expr) (f : AF) : Prop := PA X e (tA X.K X.mg W f)
abbrev SK (X : Cx) (W : WX) (e : List Keyword) (f : AF) : Prop := PK X e (tA X.K X.mg W f)
abbrev SS (X : Cx) (W : WX) (e : Stmt) (f : SF) : Prop := PS X e (tS X.K X.mg W f)
abbrev SSs (X : Cx) (W : WX) (e : List Stmt) (f : SF) : Prop := PSs X e (tS X.K X.mg W f)
section
variable {X : Cx} {e : Expr} {es : List Expr} {st : Stmt} {sts : List Stmt}
theorem PE.imp {t t' : TE} (p : PE X e t) (i : ∀ σ H Q, t' σ H Q → t σ H Q) : PE X e t' := ⟨fun pins s σ H Q I q => p.run pins s σ H Q I (i σ H Q q)⟩
theorem PT.imp {t t' : TT} (p : PT X e t) (i : ∀ σ H Q, t' σ H Q → t σ H Q) : PT X e t' := ⟨fun pins s σ H Q I q => p.run pins s σ H Q I (i σ H Q q)⟩
theorem PW.imp {t t' : TT} (p : PW X e t) (i : ∀ σ H Q, t' σ H Q → t σ H Q) : PW X e t' := ⟨fun wh pins s σ H Q I q => p.run wh pins s σ H Q I (i σ H Q q)⟩
theorem PA.imp {t t' : TA} (p : PA X es t) (i : ∀ σ H Q, t' σ H Q → t σ H Q) : PA X es t' := ⟨fun ps pins s σ H Q I q => p.run ps pins s σ H Q I (i σ H Q q)⟩
theorem PK.imp {ks : List Keyword} {t t' : TA} (p : PK X ks t) (i : ∀ σ H Q, t' σ H Q → t σ H Q) : PK X ks t' := ⟨fun ps pins s σ H Q I q => p.run ps pins s σ H Q I (i σ H Q q)⟩
theorem PS.imp {t t' : TS} (p : PS X st t) (i : ∀ E σ H, t' E σ H → t E σ H) : PS X st t' := ⟨fun pins s σ H E I q => p.run pins s σ H E I (i E σ H q)⟩
theorem PSs.imp {t t' : TS} (p : PSs X sts t) (i : ∀ E σ H, t' E σ H → t E σ H) : PSs X sts t' := ⟨fun pins s σ H E I q => p.run pins s σ H E I (i E σ H q)⟩
end

/-! ### the general step: the mirror's bind against the reading's nesting -/
section
variable {α β γ : Type} {K : PySem.W.Frag} {mg : Str → Option Value} {W : WX} {f : Ev → Hd → Res α} {k : α → Hd → Res γ} {p : β → PG' α} {P : PG' γ} {σ : St} {H : Hp} {c : β} {rho : Rh} {h : Hd} {s : Ev}
theorem step (R : Rel K rho h H) (S : RelS K rho h H s σ) (po : PostG K mg (fun c d H' => W c d σ H') rho h H ((f s h).bind k) P)
    (hc : ∀ rho' h' H' a, Ext K rho h H rho' h' H' → Rel K rho' h' H' → RelS K rho' h' H' s σ → PostG K mg (fun c d H' => W c d σ H') rho' h' H' (k a h') P → p c a rho' h' H') : tG K mg W f p σ H c :=
  ⟨rho, h, s, R, S, (PostG.bind po).imp fun a rho' h' H' e R' z => hc rho' h' H' a e R' (e.s S) z⟩
end

/-! ### names, constants -/
def e_var (i : Nat) : EF := fun s h => match s[i]? with
  | some (some d) => .ok d h
  | _ => .fail
def e_c (d : D) : EF := fun _ h => .ok d h
section
variable {X : Cx} {W : WX} {pos : Pos}
theorem tE.get {K : PySem.W.Frag} {mg : Str → Option Value} {i : Nat} {σ : St} {H : Hp} {Q : VK} (h : tE K mg W (e_var i) σ H Q) : tVar i σ H Q := by
  obtain ⟨rho, hh, s, R, S, po⟩ := h
  unfold e_var at po
  cases q : s[i]? with
  | none => rw [q] at po; exact po.elim
  | some o =>
    cases o with
    | none => rw [q] at po; exact po.elim
    | some d =>
      rw [q] at po
      obtain ⟨v, e, r⟩ := S.2 i d q
      exact ⟨v, e, PostG.ok po R v r⟩
theorem r_var (i : Nat) {x : Str} (hN : X.N[i]? = some x := by rfl) (hv : Vis X.env.scope x := by first | exact Or.inl rfl | exact Or.inr (Or.inl rfl) | exact Or.inr (Or.inr rfl)) (hd : (x == ("__debug__" : Str)) = false := by decide)
    (hcd : (x == ("__classdict__" : Str)) = false := by decide) : SE X W (.Name x pos) (e_var i) := PE.imp (pe_var hN hv hd hcd) fun _ _ _ h => tE.get h
theorem tE.const {K : PySem.W.Frag} {mg : Str → Option Value} {d : D} {v : V} {σ : St} {H : Hp} {Q : VK} (h : tE K mg W (e_c d) σ H Q) (r : ∀ rho h H, RelV' K rho h H d v) : tC v σ H Q := by
  obtain ⟨rho, hh, s, R, S, po⟩ := h
  exact PostG.ok po R v (r _ _ _)
theorem r_int {i : Int} {j : Nat} : SE X W (.Constant (.int i) j pos) (e_c (.int i)) := PE.imp pe_int fun _ _ _ h => tE.const h fun _ _ _ => by simp only [RelV', RelD]
theorem r_bl {b : Bool} {j : Nat} : SE X W (.Constant (.bool b) j pos) (e_c (.bl b)) := PE.imp pe_bl fun _ _ _ h => tE.const h fun _ _ _ => by simp only [RelV', RelD]
theorem r_non {j : Nat} : SE X W (.Constant .none j pos) (e_c .non) := PE.imp pe_non fun _ _ _ h => tE.const h fun _ _ _ => by simp only [RelV', RelD]
theorem r_str {x : Str} {j : Nat} : SE X W (.Constant (.str x) j pos) (e_c (.str x)) := PE.imp pe_str fun _ _ _ h => tE.const h fun _ _ _ => by simp only [RelV', RelD]
end

/-! ### primitives -/
def PostP (K : PySem.W.Frag) (rho : Rh) (h : Hd) (H : Hp) (r : PR) (Q : VK) : Prop := match r with
  | some (d, h') => ∀ rho' H' v, Ext K rho h H rho' h' H' → Rel K rho' h' H' → RelV' K rho' h' H' d v → Q v H'
  | none => False
theorem PostP.of {K : PySem.W.Frag} {mg : Str → Option Value} {W : XK} {rho : Rh} {h : Hd} {H : Hp} {r : PR} {Q : VK} (p : PostG K mg W rho h H (lift r) (pE K Q)) : PostP K rho h H r Q := by
  cases r with
  | none => exact p
  | some x => exact fun rho' H' v e R r => p rho' H' e R v r
theorem PostP.here {K : PySem.W.Frag} {rho : Rh} {h : Hd} {H : Hp} {d : D} {Q : VK} (p : PostP K rho h H (some (d, h)) Q) (R : Rel K rho h H) {v : V} (r : RelV' K rho h H d v) : Q v H := p rho H v Ext.refl R r
abbrev P2 := D → D → Hd → PR
abbrev P1 := D → Hd → PR
abbrev PL := List D → Hd → PR
abbrev PM := D → List D → Hd → PR
def rO (K : PySem.W.Frag) (g : P2) : R2 := fun x y H Q => ∃ rho h dx dy, Rel K rho h H ∧ RelV' K rho h H dx x ∧ RelV' K rho h H dy y ∧ PostP K rho h H (g dx dy h) Q
def rU' (K : PySem.W.Frag) (g : P1) : V → Hp → VK → Prop := fun x H Q => ∃ rho h dx, Rel K rho h H ∧ RelV' K rho h H dx x ∧ PostP K rho h H (g dx h) Q
def rC (K : PySem.W.Frag) (g : PL) : List V → Hp → VK → Prop := fun xs H Q => ∃ rho h ds, Rel K rho h H ∧ RelVs' K rho h H ds xs ∧ PostP K rho h H (g ds h) Q
def rM (K : PySem.W.Frag) (g : PM) : V → List V → Hp → VK → Prop := fun x xs H Q => ∃ rho h d ds, Rel K rho h H ∧ RelV' K rho h H d x ∧ RelVs' K rho h H ds xs ∧ PostP K rho h H (g d ds h) Q

def e_op (g : P2) (a b : EF) : EF := fun s h => (a s h).bind fun x h1 => (b s h1).bind fun y h2 => lift (g x y h2)
def e_un (g : P1) (a : EF) : EF := fun s h => (a s h).bind fun x h1 => lift (g x h1)
section
variable {X : Cx} {W : WX} {pos : Pos} {a b c : Expr} {fa fb fc : EF}
theorem OpR.imp' {f : Value → Value → Sem Value} {r r' : R2} (p : OpR X f r) (i : ∀ x y H Q, r' x y H Q → r x y H Q) : OpR X f r' := fun pins s σ H x y v u Q I rx ry q => p pins s σ H x y v u Q I rx ry (i x y H Q q)
theorem tE.op {K : PySem.W.Frag} {mg : Str → Option Value} {g : P2} {σ : St} {H : Hp} {Q : VK} (h : tE K mg W (e_op g fa fb) σ H Q) : tOp (rO K g) (tE K mg W fa) (tE K mg W fb) σ H Q := by
  obtain ⟨rho, h, s, R, S, po⟩ := h
  exact step R S po fun rho1 h1 H1 x e1 R1 S1 po1 v r => step R1 S1 po1 fun rho2 h2 H2 y e2 R2 S2 po2 u ru => ⟨rho2, h2, x, y, R2, e2.v r, ru, PostP.of po2⟩
theorem r_op {op : Operator} {g : P2} (ho : OpR X (binaryOp op) (rO X.K g)) (ha : SE X W a fa) (hb : SE X W b fb) : SE X W (.BinOp a op b pos) (e_op g fa fb) := PE.imp (pe_op ho ha hb) fun _ _ _ h => tE.op h
theorem r_cmp {op : CmpOp} {g : P2} (ho : OpR X (compareOp op) (rO X.K g)) (ha : SE X W a fa) (hb : SE X W b fb) (hm : behindInMarks op b = false := by first | exact nobehind _ (by decide) (by decide) | rfl) : SE X W (.Compare a [op] [b] pos) (e_op g fa fb) :=
  PE.imp (pe_cmpR ho ha hb hm) fun _ _ _ h => tE.op h
theorem tE.un {K : PySem.W.Frag} {mg : Str → Option Value} {g : P1} {σ : St} {H : Hp} {Q : VK} (h : tE K mg W (e_un g fa) σ H Q) : tUn (rU' K g) (tE K mg W fa) σ H Q := by
  obtain ⟨rho, h, s, R, S, po⟩ := h
  exact step R S po fun rho1 h1 H1 x e1 R1 S1 po1 v r => ⟨rho1, h1, x, R1, r, PostP.of po1⟩
theorem r_un {op : UnaryOp} {g : P1} (ho : UnR X (unaryOp op) (rU' X.K g)) (ha : SE X W a fa) : SE X W (.UnaryOp op a pos) (e_un g fa) := PE.imp (pe_un ho ha) fun _ _ _ h => tE.un h
/-- a subscript -/
theorem r_ix {g : P2} (ho : IxR X (rO X.K g)) (ha : SE X W a fa) (hb : SE X W b fb) (hs : PlainIx b := by intro _ _; rfl) : SE X W (.Subscript a b pos) (e_op g fa fb) := PE.imp (pe_ix ho ha hb hs) fun _ _ _ h => tE.op h
end

/-! ### tests -/
def t_b (f : EF) : TF := fun s h => (f s h).bind fun d h1 => match d with
  | .bl b => .ok b h1
  | _ => .fail
def truD (d : D) (h : Hd) : Option Bool := match d with
  | .non => some false
  | .bl b => some b
  | .int i => some (i != 0)
  | .str y => if y.length ≤ sizeLine then some ((y.length : Int) != 0) else none
  | .tup xs => some (!xs.isEmpty)
  | .lv xs => some (!xs.isEmpty)
  | .fl xs => some (!xs.isEmpty)
  | .ref n => match h[n]? with
    | some (.lst xs) => some (!xs.isEmpty)
    | _ => none
def t_tru (f : EF) : TF := fun s h => (f s h).bind fun d h1 => match truD d h1 with
  | some b => .ok b h1
  | none => .fail
section
variable {K : PySem.W.Frag} {rho : Rh} {h : Hd} {H : Hp}
theorem RelV'.bl {b : Bool} {v : V} (r : RelV' K rho h H (.bl b) v) : v = .bl b := by simpa only [RelV', RelD] using r
theorem RelV'.int {b : Int} {v : V} (r : RelV' K rho h H (.int b) v) : v = .int b := by simpa only [RelV', RelD] using r
theorem RelV'.str {b : Str} {v : V} (r : RelV' K rho h H (.str b) v) : v = .str b := by simpa only [RelV', RelD] using r
theorem RelV'.non {v : V} (r : RelV' K rho h H .non v) : v = .non := by simpa only [RelV', RelD] using r
theorem relInt (i : Int) : RelV' K rho h H (.int i) (.int i) := by simp only [RelV', RelD]
theorem relBl (i : Bool) : RelV' K rho h H (.bl i) (.bl i) := by simp only [RelV', RelD]
theorem relStr (i : Str) : RelV' K rho h H (.str i) (.str i) := by simp only [RelV', RelD]
theorem relNon : RelV' K rho h H .non .non := by simp only [RelV', RelD]
theorem RelV'.tup {xs : List D} {v : V} (r : RelV' K rho h H (.tup xs) v) : ∃ a us, v = .ref a ∧ SqT K H a us ∧ RelVs' K rho h H xs us := by simpa only [RelV', RelD] using r
theorem Rel.cellL (R : Rel K rho h H) {n : Nat} {xs : List D} (e : h[n]? = some (.lst xs)) : ∃ us, H (rho n) = some (.lst us) ∧ RelVs' K rho h H xs us := by
  obtain ⟨us, a, b⟩ := R.cell n _ e
  exact ⟨us, a, RelDs.mono Ext.refl (Nat.le_of_lt (List.getElem?_eq_some_iff.mp e).1) (Nat.le_of_lt (List.getElem?_eq_some_iff.mp e).1) _ _ b⟩
/-- a list that is read: by value, or a cell -/
def asL (d : D) (h : Hd) : Option (List D) := match d with
  | .lv xs => some xs
  | .fl xs => some xs
  | .ref n => match h[n]? with
    | some (.lst xs) => some xs
    | _ => none
  | _ => none
theorem asL_ok (R : Rel K rho h H) {d : D} {v : V} {xs : List D} (r : RelV' K rho h H d v) (e : asL d h = some xs) : ∃ a us, v = .ref a ∧ SqL K H a us ∧ RelVs' K rho h H xs us := by
  cases d with
  | lv ys =>
    simp only [asL, Option.some.injEq] at e
    subst e
    simp only [RelV', RelD] at r
    obtain ⟨a, us, e1, e2, e3⟩ := r
    exact ⟨a, us, e1, .inl (.inl e2.1), e3⟩
  | fl ys =>
    simp only [asL, Option.some.injEq] at e
    subst e
    simp only [RelV', RelD] at r
    obtain ⟨a, us, e1, e2, e3⟩ := r
    refine ⟨a, us, e1, ?_, e3⟩
    rcases e2 with e2 | e2
    · exact .inl (.inr e2)
    · exact .inr e2
  | ref n =>
    simp only [asL] at e
    cases q : h[n]? with
    | none => rw [q] at e; cases e
    | some o =>
      cases o with
      | dead => rw [q] at e; cases e
      | lst ys =>
        rw [q] at e
        cases e
        obtain ⟨us, a, b⟩ := R.cellL q
        simp only [RelV', RelD] at r
        exact ⟨_, us, r.2, .inl (.inl a), b⟩
  | _ => simp [asL] at e
/-- a list or a tuple that is read -/
def asS (d : D) (h : Hd) : Option (List D) := match d with
  | .tup xs => some xs
  | d => asL d h
theorem asS_ok (R : Rel K rho h H) {d : D} {v : V} {xs : List D} (r : RelV' K rho h H d v) (e : asS d h = some xs) : ∃ a us, v = .ref a ∧ (SqL K H a us ∨ SqT K H a us) ∧ RelVs' K rho h H xs us := by
  cases d with
  | tup ys =>
    simp only [asS, Option.some.injEq] at e
    subst e
    obtain ⟨a, us, e1, e2, e3⟩ := r.tup
    exact ⟨a, us, e1, .inr e2, e3⟩
  | lv ys => obtain ⟨a, us, e1, e2, e3⟩ := asL_ok R r e; exact ⟨a, us, e1, .inl e2, e3⟩
  | fl ys => obtain ⟨a, us, e1, e2, e3⟩ := asL_ok R r e; exact ⟨a, us, e1, .inl e2, e3⟩
  | ref n => obtain ⟨a, us, e1, e2, e3⟩ := asL_ok R r e; exact ⟨a, us, e1, .inl e2, e3⟩
  | _ => simp [asS, asL] at e
theorem RelDs.isEmpty {ds : List D} {us : List V} {B : Nat} (e : RelDs K rho h B H ds us) : ds.isEmpty = us.isEmpty := by
  cases ds with
  | nil => simp only [RelDs] at e; subst e; rfl
  | cons d r => simp only [RelDs] at e; obtain ⟨_, _, e, _⟩ := e; subst e; rfl
theorem truD_ok (R : Rel K rho h H) {d : D} {v : V} {b : Bool} (r : RelV' K rho h H d v) (e : truD d h = some b) : TruV K v H b := by
  cases d with
  | non => rw [r.non]; simp only [truD, Option.some.injEq] at e; exact e.symm
  | bl c => rw [r.bl]; simp only [truD, Option.some.injEq] at e; exact e.symm
  | int i => rw [r.int]; simp only [truD, Option.some.injEq] at e; exact e.symm
  | str y =>
    rw [r.str]
    simp only [truD] at e
    split at e
    · rename_i hl; cases e; exact ⟨hl, rfl⟩
    · cases e
  | tup xs =>
    obtain ⟨a, us, e1, e2, e3⟩ := r.tup
    simp only [truD, Option.some.injEq] at e
    subst e1 e
    exact .inr (.inl ⟨us, e2, by rw [RelDs.isEmpty e3]⟩)
  | lv xs =>
    obtain ⟨a, us, e1, e2, e3⟩ := asL_ok R r (xs := xs) rfl
    simp only [truD, Option.some.injEq] at e
    subst e1 e
    exact .inl ⟨us, e2, by rw [RelDs.isEmpty e3]⟩
  | fl xs =>
    obtain ⟨a, us, e1, e2, e3⟩ := asL_ok R r (xs := xs) rfl
    simp only [truD, Option.some.injEq] at e
    subst e1 e
    exact .inl ⟨us, e2, by rw [RelDs.isEmpty e3]⟩
  | ref n =>
    simp only [truD] at e
    cases q : h[n]? with
    | none => rw [q] at e; cases e
    | some o =>
      cases o with
      | dead => rw [q] at e; cases e
      | lst ys =>
        rw [q] at e
        cases e
        obtain ⟨a, us, e1, e2, e3⟩ := asL_ok R r (xs := ys) (by simp only [asL, q])
        subst e1
        exact .inl ⟨us, e2, by rw [RelDs.isEmpty e3]⟩
end
section
variable {X : Cx} {W : WX} {pos : Pos} {a b c : Expr} {fa fb fc : EF} {ta tb : TF} {rest : List Expr}
theorem tE.asB {K : PySem.W.Frag} {mg : Str → Option Value} {σ : St} {H : Hp} {Q : Bool → Hp → Prop} (h : tT K mg W (t_b fa) σ H Q) : tE K mg W fa σ H fun x H1 => ∃ c, x = .bl c ∧ Q c H1 := by
  obtain ⟨rho, h, s, R, S, po⟩ := h
  refine step R S po fun rho1 h1 H1 x e1 R1 S1 po1 v r => ?_
  cases x with
  | bl c => exact ⟨c, r.bl, PostG.ok po1 R1⟩
  | _ => exact po1.elim
theorem tE.asTru {K : PySem.W.Frag} {mg : Str → Option Value} {σ : St} {H : Hp} {Q : Bool → Hp → Prop} (h : tT K mg W (t_tru fa) σ H Q) : tE K mg W fa σ H fun x H' => ∃ k, TruV K x H' k ∧ Q k H' := by
  obtain ⟨rho, h, s, R, S, po⟩ := h
  refine step R S po fun rho1 h1 H1 x e1 R1 S1 po1 v r => ?_
  cases q : truD x h1 with
  | none => simp only [q] at po1; exact po1.elim
  | some k => simp only [q] at po1; exact ⟨k, truD_ok R1 r q, PostG.ok po1 R1⟩
/-- a test of any plain expression: a name, a call, a subscript -/
theorem r_tru (ha : SE X W a fa) (he : ∀ whole, isTrue a X.env whole = (do let v ← whole; standAt a.pos; holding [v] (truthy v)) := by intro _; rfl) : ST X W a (t_tru fa) := PT.imp (pt_truth ha he) fun _ _ _ h => tE.asTru h
/-- a comparison as a test -/
theorem r_tcmp {op : CmpOp} {g : P2} (ho : OpR X (compareOp op) (rO X.K g)) (ha : SE X W a fa) (hb : SE X W b fb) (hm : behindInMarks op b = false := by first | exact nobehind _ (by decide) (by decide) | rfl) : ST X W (.Compare a [op] [b] pos) (t_b (e_op g fa fb)) :=
  PT.imp (pt_cmpR ho ha hb hm) fun _ _ _ h => by
    have z := tE.asB h
    obtain ⟨rho, h, s, R, S, po⟩ := z
    exact tE.op ⟨rho, h, s, R, S, po⟩
def t_and (a b : TF) : TF := fun s h => (a s h).bind fun c h1 => if c then b s h1 else .ok false h1
def t_or (a b : TF) : TF := fun s h => (a s h).bind fun c h1 => if c then .ok true h1 else b s h1
def t_not (a : TF) : TF := fun s h => (a s h).bind fun c h1 => .ok (!c) h1
theorem r_and1 (ha : ST X W a ta) : SW X W (.BoolOp .And [a] pos) ta := pw_and1 ha
theorem r_or1 (ha : ST X W a ta) : SW X W (.BoolOp .Or [a] pos) ta := pw_or1 ha
theorem r_and (ha : ST X W a ta) (hb : SW X W (.BoolOp .And (b :: rest) pos) tb) : SW X W (.BoolOp .And (a :: b :: rest) pos) (t_and ta tb) := PW.imp (pw_and ha hb) fun σ H Q h => by
  obtain ⟨rho, h, s, R, S, po⟩ := h
  refine step R S po fun rho1 h1 H1 x e1 R1 S1 po1 => ?_
  cases x with
  | true => exact iteT ⟨rho1, h1, s, R1, S1, po1⟩
  | false => exact iteF (PostG.ok po1 R1)
theorem r_or (ha : ST X W a ta) (hb : SW X W (.BoolOp .Or (b :: rest) pos) tb) : SW X W (.BoolOp .Or (a :: b :: rest) pos) (t_or ta tb) := PW.imp (pw_or ha hb) fun σ H Q h => by
  obtain ⟨rho, h, s, R, S, po⟩ := h
  refine step R S po fun rho1 h1 H1 x e1 R1 S1 po1 => ?_
  cases x with
  | true => exact iteT (PostG.ok po1 R1)
  | false => exact iteF ⟨rho1, h1, s, R1, S1, po1⟩
theorem r_bool (h : SW X W a ta) : ST X W a ta := PW.pt h
theorem r_not (ha : ST X W a ta) : ST X W (.UnaryOp .Not a pos) (t_not ta) := PT.imp (pt_not ha) fun σ H Q h => by
  obtain ⟨rho, h, s, R, S, po⟩ := h
  refine step R S po fun rho1 h1 H1 x e1 R1 S1 po1 => ?_
  have z := PostG.ok po1 R1
  exact z
/-- as values: all but the last are bools -/
def e_and (a b : EF) : EF := fun s h => (a s h).bind fun c h1 => match c with
  | .bl true => b s h1
  | .bl false => .ok (.bl false) h1
  | _ => .fail
def e_or (a b : EF) : EF := fun s h => (a s h).bind fun c h1 => match c with
  | .bl true => .ok (.bl true) h1
  | .bl false => b s h1
  | _ => .fail
def e_not (a : EF) : EF := fun s h => (a s h).bind fun c h1 => match c with
  | .bl c => .ok (.bl (!c)) h1
  | _ => .fail
theorem r_one {op} (ha : SE X W a fa) : SE X W (.BoolOp op [a] pos) fa := pe_one ha
theorem r_andV (ha : SE X W a fa) (hb : SE X W (.BoolOp .And (b :: rest) pos) fb) : SE X W (.BoolOp .And (a :: b :: rest) pos) (e_and fa fb) := PE.imp (pe_and ha hb) fun σ H Q h => by
  obtain ⟨rho, h, s, R, S, po⟩ := h
  refine step R S po fun rho1 h1 H1 x e1 R1 S1 po1 v r => ?_
  cases x with
  | bl c =>
    refine ⟨c, r.bl, ?_⟩
    cases c with
    | true => exact iteT ⟨rho1, h1, s, R1, S1, po1⟩
    | false => exact iteF (PostG.ok po1 R1 _ (relBl false))
  | _ => exact po1.elim
theorem r_orV (ha : SE X W a fa) (hb : SE X W (.BoolOp .Or (b :: rest) pos) fb) : SE X W (.BoolOp .Or (a :: b :: rest) pos) (e_or fa fb) := PE.imp (pe_or ha hb) fun σ H Q h => by
  obtain ⟨rho, h, s, R, S, po⟩ := h
  refine step R S po fun rho1 h1 H1 x e1 R1 S1 po1 v r => ?_
  cases x with
  | bl c =>
    refine ⟨c, r.bl, ?_⟩
    cases c with
    | true => exact iteT (PostG.ok po1 R1 _ (relBl true))
    | false => exact iteF ⟨rho1, h1, s, R1, S1, po1⟩
  | _ => exact po1.elim
theorem r_notV (ha : SE X W a fa) : SE X W (.UnaryOp .Not a pos) (e_not fa) := PE.imp (pe_not ha) fun σ H Q h => by
  obtain ⟨rho, h, s, R, S, po⟩ := h
  refine step R S po fun rho1 h1 H1 x e1 R1 S1 po1 v r => ?_
  cases x with
  | bl c => exact ⟨c, r.bl, PostG.ok po1 R1 _ (relBl _)⟩
  | _ => exact po1.elim
def e_if (t : TF) (a b : EF) : EF := fun s h => (t s h).bind fun c h1 => if c then a s h1 else b s h1
theorem r_ifE (hc : ST X W c ta) (ha : SE X W a fa) (hb : SE X W b fb) : SE X W (.IfExp c a b pos) (e_if ta fa fb) := PE.imp (pe_ifExp hc ha hb) fun σ H Q h => by
  obtain ⟨rho, h, s, R, S, po⟩ := h
  refine step R S po fun rho1 h1 H1 x e1 R1 S1 po1 => ?_
  cases x with
  | true => exact iteT ⟨rho1, h1, s, R1, S1, po1⟩
  | false => exact iteF ⟨rho1, h1, s, R1, S1, po1⟩
/-- a < b < c -/
def e_chain (g g' : P2) (a b c : EF) : EF := fun s h => (a s h).bind fun x h1 => (b s h1).bind fun y h2 => (lift (g x y h2)).bind fun z h3 => match z with
  | .bl true => (c s h3).bind fun w h4 => lift (g' y w h4)
  | .bl false => .ok (.bl false) h3
  | _ => .fail
theorem tE.chain {K : PySem.W.Frag} {mg : Str → Option Value} {g g' : P2} {σ : St} {H : Hp} {Q : VK} (h : tE K mg W (e_chain g g' fa fb fc) σ H Q) : tChain (rO K g) (rO K g') (tE K mg W fa) (tE K mg W fb) (tE K mg W fc) σ H Q := by
  obtain ⟨rho, h, s, R, S, po⟩ := h
  refine step R S po fun rho1 h1 H1 x e1 R1 S1 po1 v r => step R1 S1 po1 fun rho2 h2 H2 y e2 R2 S2 po2 u ru => ⟨rho2, h2, x, y, R2, e2.v r, ru, ?_⟩
  have po3 := PostG.bind po2
  cases q : g x y h2 with
  | none => rw [q] at po3; exact po3
  | some dz =>
    obtain ⟨z, h3⟩ := dz
    rw [q] at po3
    intro rho3 H3 w e3 R3 rw
    have po4 := po3 rho3 H3 e3 R3
    cases z with
    | bl k =>
      refine ⟨k, rw.bl, ?_⟩
      cases k with
      | true => exact iteT (step R3 (e3.s S2) po4 fun rho4 h4 H4 z e4 R4 S4 po5 t rt => ⟨rho4, h4, y, z, R4, (e3.trans e4).v ru, rt, PostP.of po5⟩)
      | false => exact iteF (PostG.ok po4 R3 _ (relBl false))
    | _ => exact po4.elim
theorem r_chain {op op' : CmpOp} {g g' : P2} (ho : OpR X (compareOp op) (rO X.K g)) (ho' : OpR X (compareOp op') (rO X.K g')) (ha : SE X W a fa) (hb : SE X W b fb) (hc : SE X W c fc)
    (hm : lastMarks [op, op'] [b, c] = false := by with_unfolding_all rfl) : SE X W (.Compare a [op, op'] [b, c] pos) (e_chain g g' fa fb fc) := PE.imp (pe_chain ho ho' ha hb hc hm) fun _ _ _ h => tE.chain h
theorem r_tchain {op op' : CmpOp} {g g' : P2} (ho : OpR X (compareOp op) (rO X.K g)) (ho' : OpR X (compareOp op') (rO X.K g')) (ha : SE X W a fa) (hb : SE X W b fb) (hc : SE X W c fc)
    (hm : lastMarks [op, op'] [b, c] = false := by with_unfolding_all rfl) : ST X W (.Compare a [op, op'] [b, c] pos) (t_b (e_chain g g' fa fb fc)) := PT.imp (pt_chain ho ho' ha hb hc hm) fun _ _ _ h => by
  have z := tE.asB h
  obtain ⟨rho, h, s, R, S, po⟩ := z
  exact tE.chain ⟨rho, h, s, R, S, po⟩
end

/-! ### argument lists, displays -/
def a_nil : AF := fun _ h => .ok [] h
def a_cons (a : EF) (r : AF) : AF := fun s h => (a s h).bind fun x h1 => (r s h1).bind fun xs h2 => .ok (x :: xs) h2
theorem tA.cons {K : PySem.W.Frag} {mg : Str → Option Value} {W : WX} {fa : EF} {fr : AF} {σ : St} {H : Hp} {Q : List V → Hp → Prop} (h : tA K mg W (a_cons fa fr) σ H Q) : tCons (tE K mg W fa) (tA K mg W fr) σ H Q := by
  obtain ⟨rho, h, s, R, S, po⟩ := h
  refine step R S po fun rho1 h1 H1 x e1 R1 S1 po1 v r => step R1 S1 po1 fun rho2 h2 H2 ys e2 R2 S2 po2 us ru => ?_
  refine PostG.ok po2 R2 (v :: us) ?_
  simp only [RelVs', RelDs]
  exact ⟨v, us, rfl, e2.v r, ru⟩
theorem tA.nil {K : PySem.W.Frag} {mg : Str → Option Value} {W : WX} {σ : St} {H : Hp} {Q : List V → Hp → Prop} (h : tA K mg W a_nil σ H Q) : tNil σ H Q := by
  obtain ⟨rho, h, s, R, S, po⟩ := h
  exact PostG.ok po R [] (by simp only [RelVs', RelDs])
section
variable {X : Cx} {W : WX} {pos : Pos} {e : Expr} {es : List Expr} {fa : EF} {fr : AF}
theorem ra_nil : SA X W [] a_nil := PA.imp pa_nil fun _ _ _ h => tA.nil h
theorem ra_cons (ha : SE X W e fa) (hr : SA X W es fr) (hs : starEach (e :: es) X.env = (false, eval e X.env) :: starEach es X.env := by rfl) : SA X W (e :: es) (a_cons fa fr) := PA.imp (pa_cons ha hr hs) fun _ _ _ h => tA.cons h
theorem rk_nil : SK X W [] a_nil := PK.imp pk_nil fun _ _ _ h => tA.nil h
theorem rk_cons {nm : Option Str} {kpos : Pos} {kws : List Keyword} (ha : SE X W e fa) (hr : SK X W kws fr) : SK X W (⟨nm, e, kpos⟩ :: kws) (a_cons fa fr) := PK.imp (pk_cons ha hr) fun _ _ _ h => tA.cons h
end

/-! ### allocation -/
/-- a new list by value (m = false) or as a cell (m = true) -/
def mkL (m : Bool) (xs : List D) (h : Hd) : PR := if m then some (.ref h.length, h ++ [.lst xs]) else some (.lv xs, h)
section
variable {K : PySem.W.Frag} {rho : Rh} {h : Hd} {H : Hp} {p : Addr}
theorem Ext.upd (R : Rel K rho h H) (np : H p = none) (o : HO) : Ext K rho h H rho h (L2.upd H p o) where
  le := Nat.le_refl _
  ag := fun _ _ => rfl
  lv := fun _ _ e => e
  fr := fun m hm e => absurd (live_lt e) (Nat.not_lt.mpr hm)
  kp := fun a o' e _ => by rw [upd_ne (ne_of_none e np)]; exact e
  tp := fun a us e => by rw [upd_ne (ne_of_none e np)]; exact e
  fz := fun a o' u e => by rw [upd_ne (ne_of_none e np)]; exact e
  dm := fun a e => by
    by_cases q : a = p
    · subst q; exact np
    · rw [upd_ne q] at e; exact e
  zi := fun _ e => e
  zo := fun _ e => .inl e
theorem live_of {m : Nat} (e : live h m = true) : ∃ xs, h[m]? = some (.lst xs) := by
  unfold live at e
  cases q : h[m]? with
  | none => rw [q] at e; cases e
  | some o =>
    cases o with
    | dead => rw [q] at e; cases e
    | lst xs => exact ⟨xs, rfl⟩
theorem Rel.at (R : Rel K rho h H) {m : Nat} (e : live h m = true) : ∃ us, H (rho m) = some (.lst us) := by
  obtain ⟨xs, q⟩ := live_of e
  obtain ⟨us, a, _⟩ := R.cell m _ q
  exact ⟨us, a⟩
/-- the heap grew by something that is no cell -/
theorem Rel.upd (R : Rel K rho h H) (np : H p = none) (o : HO) : Rel K rho h (L2.upd H p o) where
  inj := R.inj
  cell := fun m ob e => by
    have c := R.cell m ob e
    have hm := (List.getElem?_eq_some_iff.mp e).1
    cases ob with
    | dead => trivial
    | lst xs =>
      obtain ⟨us, a, b⟩ := c
      exact ⟨us, by rw [upd_ne (ne_of_none a np)]; exact a, RelDs.mono (Ext.upd R np o) (Nat.le_refl _) (Nat.le_of_lt hm) _ _ b⟩
  zd := fun a z e => R.zd a z ((Ext.upd R np o).dm a e)
  zc := R.zc
theorem Rel.newV (R : Rel K rho h H) (np : H p = none) {xs : List D} {us : List V} (r : RelVs' K rho h H xs us) : RelV' K rho h (L2.upd H p (.lst us)) (.lv xs) (.ref p) := by
  simp only [RelV', RelD]
  refine ⟨p, us, rfl, ⟨upd_same, fun z => R.zd p z np, fun m hm => ?_⟩, (Ext.upd R np _).vs r⟩
  obtain ⟨ws, q⟩ := R.at hm
  exact ne_of_none q np
theorem Rel.newT (R : Rel K rho h H) (np : H p = none) {xs : List D} {us : List V} (r : RelVs' K rho h H xs us) : RelV' K rho h (L2.upd H p (.tup us)) (.tup xs) (.ref p) := by
  simp only [RelV', RelD]
  exact ⟨p, us, rfl, .inl (.inl upd_same), (Ext.upd R np _).vs r⟩
def rhoAdd (rho : Rh) (n : Nat) (p : Addr) : Rh := ⟨fun m => if m = n then p else rho m, rho.Z⟩
theorem live_app {xs : List D} {m : Nat} (e : live (h ++ [.lst xs]) m = true) : live h m = true ∨ m = h.length := by
  have hl := live_lt e
  rw [List.length_append] at hl
  by_cases q : m < h.length
  · left
    unfold live at e ⊢
    rw [List.getElem?_append_left q] at e
    exact e
  · right
    simp at hl; omega
theorem Ext.alloc (R : Rel K rho h H) (np : H p = none) {xs : List D} {us : List V} : Ext K rho h H (rhoAdd rho h.length p) (h ++ [.lst xs]) (L2.upd H p (.lst us)) where
  le := by rw [List.length_append]; exact Nat.le_add_right _ _
  ag := fun m hm => by show (if m = h.length then p else rho m) = rho m; rw [if_neg (Nat.ne_of_lt hm)]
  lv := fun m hm e => by
    rcases live_app e with q | q
    · exact q
    · omega
  fr := fun m hm e => by
    rcases live_app e with q | q
    · exact absurd (live_lt q) (Nat.not_lt.mpr hm)
    · subst q; show H (if h.length = h.length then p else rho h.length) = none; rw [if_pos rfl]; exact np
  kp := (Ext.upd R np _).kp
  tp := (Ext.upd R np _).tp
  fz := (Ext.upd R np _).fz
  dm := (Ext.upd R np (.lst us)).dm
  zi := fun _ e => e
  zo := fun _ e => .inl e
theorem Rel.alloc (R : Rel K rho h H) (np : H p = none) {xs : List D} {us : List V} (r : RelVs' K rho h H xs us) : Rel K (rhoAdd rho h.length p) (h ++ [.lst xs]) (L2.upd H p (.lst us)) where
  inj := fun m n hm hn e => by
    have e : (if m = h.length then p else rho m) = (if n = h.length then p else rho n) := e
    rcases live_app hm with qm | qm <;> rcases live_app hn with qn | qn
    · rw [if_neg (Nat.ne_of_lt (live_lt qm)), if_neg (Nat.ne_of_lt (live_lt qn))] at e; exact R.inj m n qm qn e
    · rw [if_neg (Nat.ne_of_lt (live_lt qm)), if_pos qn] at e
      obtain ⟨ws, z⟩ := R.at qm
      exact absurd e (ne_of_none z np)
    · rw [if_pos qm, if_neg (Nat.ne_of_lt (live_lt qn))] at e
      obtain ⟨ws, z⟩ := R.at qn
      exact absurd e.symm (ne_of_none z np)
    · rw [qm, qn]
  cell := fun m ob e => by
    have x := Ext.alloc (xs := xs) (us := us) R np
    by_cases q : m < h.length
    · rw [List.getElem?_append_left q] at e
      cases ob with
      | dead => trivial
      | lst ys =>
        obtain ⟨ws, a, b⟩ := R.cell m _ e
        exact ⟨ws, by rw [x.ag m q, upd_ne (ne_of_none a np)]; exact a, RelDs.mono x (Nat.le_refl _) (Nat.le_of_lt q) _ _ b⟩
    · have hl := (List.getElem?_eq_some_iff.mp e).1
      rw [List.length_append] at hl
      have em : m = h.length := by simp at hl; omega
      subst em
      rw [List.getElem?_append_right (Nat.le_refl _)] at e
      simp at e
      subst e
      exact ⟨us, by show L2.upd H p (.lst us) (if h.length = h.length then p else rho h.length) = _; rw [if_pos rfl]; exact upd_same, RelDs.mono x (Nat.le_refl _) (Nat.le_refl _) _ _ r⟩
  zd := fun a z e => R.zd a z ((Ext.upd R np (.lst us)).dm a e)
  zc := fun m hm z => by
    have z : rho.Z (if m = h.length then p else rho m) := z
    rcases live_app hm with q | q
    · rw [if_neg (Nat.ne_of_lt (live_lt q))] at z; exact R.zc m q z
    · rw [if_pos q] at z; exact R.zd p z np
/-- a new list: both ways -/
theorem post_mkL (R : Rel K rho h H) {m : Bool} {xs : List D} {us : List V} {Q : VK} (r : RelVs' K rho h H xs us) (po : PostP K rho h H (mkL m xs h) Q) (np : H p = none) : Q (.ref p) (L2.upd H p (.lst us)) := by
  unfold mkL at po
  cases m with
  | true =>
    refine po (rhoAdd rho h.length p) _ _ (Ext.alloc R np) (Rel.alloc R np r) ?_
    simp only [RelV', RelD, List.length_append]
    exact ⟨by simp, by show V.ref p = .ref (if h.length = h.length then p else rho h.length); rw [if_pos rfl]⟩
  | false => exact po rho _ _ (Ext.upd R np _) (R.upd np _) (R.newV np r)
theorem post_tup (R : Rel K rho h H) {xs : List D} {us : List V} {Q : VK} (r : RelVs' K rho h H xs us) (po : PostP K rho h H (some (.tup xs, h)) Q) (np : H p = none) : Q (.ref p) (L2.upd H p (.tup us)) :=
  po rho _ _ (Ext.upd R np _) (R.upd np _) (R.newT np r)
end
def e_tup (a : AF) : EF := fun s h => (a s h).bind fun xs h1 => if xs.length ≤ sizeLine then .ok (.tup xs) h1 else .fail
def e_lst (m : Bool) (a : AF) : EF := fun s h => (a s h).bind fun xs h1 => if xs.length ≤ sizeLine then lift (mkL m xs h1) else .fail
section
variable {X : Cx} {W : WX} {pos : Pos} {es : List Expr} {fa : AF}
theorem r_tup {x1} (ha : SA X W es fa) : SE X W (.Tuple es x1 pos) (e_tup fa) := PE.imp (pe_tup ha) fun σ H Q h => by
  obtain ⟨rho, h, s, R, S, po⟩ := h
  refine step R S po fun rho1 h1 H1 x e1 R1 S1 po1 v r => ?_
  by_cases q : x.length ≤ sizeLine
  · simp only [q, if_true] at po1
    refine ⟨by rw [← RelDs.length r]; exact q, fun p np => post_tup R1 r ?_ np⟩
    exact fun rho' H' v e R' rr => po1 rho' H' e R' v rr
  · simp only [q, if_false] at po1; exact po1.elim
theorem r_lst (m : Bool) (ha : SA X W es fa) : SE X W (.List es pos) (e_lst m fa) := PE.imp (pe_lst ha) fun σ H Q h => by
  obtain ⟨rho, h, s, R, S, po⟩ := h
  refine step R S po fun rho1 h1 H1 x e1 R1 S1 po1 v r => ?_
  by_cases q : x.length ≤ sizeLine
  · simp only [q, if_true] at po1
    exact ⟨by rw [← RelDs.length r]; exact q, fun p np => post_mkL R1 r (PostP.of po1) np⟩
  · simp only [q, if_false] at po1; exact po1.elim
end

/-! ### calls of built-ins and methods, by primitives -/
def e_call (g : PL) (a : AF) : EF := fun s h => (a s h).bind fun xs h1 => lift (g xs h1)
def e_meth (g : PM) (o : EF) (a : AF) : EF := fun s h => (o s h).bind fun x h1 => (a s h1).bind fun xs h2 => lift (g x xs h2)
section
variable {X : Cx} {W : WX} {p pos : Pos} {x : Str} {e o : Expr} {es : List Expr} {fo : EF} {fa : AF} {id T : String} {g : PL}
theorem CallR.imp' {f : Value} {r r' : List V → Hp → VK → Prop} (p : CallR X f r) (i : ∀ x H Q, r' x H Q → r x H Q) : CallR X f r' := fun pins s σ H xs us Q I rx q => p pins s σ H xs us Q I rx (i xs H Q q)
theorem tE.cb {K : PySem.W.Frag} {mg : Str → Option Value} {σ : St} {H : Hp} {Q : VK} (h : tE K mg W (e_call g fa) σ H Q) : tCB (rC K g) (tA K mg W fa) σ H Q := by
  obtain ⟨rho, h, s, R, S, po⟩ := h
  exact step R S po fun rho1 h1 H1 x e1 R1 S1 po1 v r => ⟨rho1, h1, x, R1, r, PostP.of po1⟩
theorem r_callB (hc : CallR X (.builtin id) (rC X.K g)) (hm : X.mg x = none) (hv : bootBuiltins x = some (.builtin id)) (ha : SA X W (e :: es) fa) (hg : Gl X x := by rfl) (hn : x ≠ "__name__" := by decide) (hdb : (x == ("__debug__" : Str)) = false := by decide)
    (he : starEach (e :: es) X.env = (false, eval e X.env) :: starEach es X.env := by rfl) (hpl : (backTo pos (starEach es X.env)).any (·.1) = false := by rfl) : SE X W (.Call (.Name x p) (e :: es) [] pos) (e_call g fa) :=
  PE.imp (pe_callB hc hg hm hv ha hn hdb he hpl) fun _ _ _ h => tE.cb h
theorem r_callTy (hc : CallR X (.type T) (rC X.K g)) (hm : X.mg x = none) (hv : bootBuiltins x = some (.type T)) (ha : SA X W (e :: es) fa) (hg : Gl X x := by rfl) (hn : x ≠ "__name__" := by decide) (hdb : (x == ("__debug__" : Str)) = false := by decide)
    (he : starEach (e :: es) X.env = (false, eval e X.env) :: starEach es X.env := by rfl) (hpl : (backTo pos (starEach es X.env)).any (·.1) = false := by rfl) : SE X W (.Call (.Name x p) (e :: es) [] pos) (e_call g fa) :=
  PE.imp (pe_callTy hc hg hm hv ha hn hdb he hpl) fun _ _ _ h => tE.cb h
end
end Mini
namespace Mini
open PySem L2

/-! ### statements -/
def bindE {α : Type} (r : Res α) (s : Ev) (k : α → Hd → Res Fl) : Res Fl := match r with
  | .ok a h => k a h
  | .exc x h => .ok (.ex x s) h
  | .fail => .fail
section
variable {α β : Type} {K : PySem.W.Frag} {mg : Str → Option Value} {W : WX} {f : Ev → Hd → Res α} {k : α → Hd → Res Fl} {p : β → PG' α} {E : Ends} {σ : St} {H : Hp} {c : β} {rho : Rh} {h : Hd} {s : Ev}
theorem stepS (R : Rel K rho h H) (S : RelS K rho h H s σ) (po : PostG K mg (fun _ _ _ => False) rho h H (bindE (f s h) s k) (pS K W mg E))
    (hc : ∀ rho' h' H' a, Ext K rho h H rho' h' H' → Rel K rho' h' H' → RelS K rho' h' H' s σ → PostG K mg (fun _ _ _ => False) rho' h' H' (k a h') (pS K W mg E) → p c a rho' h' H') : tG K mg W f p σ H c := by
  refine ⟨rho, h, s, R, S, ?_⟩
  cases q : f s h with
  | ok a h' => rw [q] at po; exact fun rho' H' e R' => hc rho' h' H' a e R' (e.s S) (PostG.ext e po)
  | exc x h' => rw [q] at po; exact fun rho' H' cls dd e R' rx => po rho' H' e R' σ cls dd (e.s S) rx
  | fail => rw [q] at po; exact po
end
def s_nil : SF := fun s h => .ok (.nx s) h
def s_seq (a b : SF) : SF := fun s h => match a s h with
  | .ok (.nx s1) h1 => b s1 h1
  | r => r
def s_expr (f : EF) : SF := fun s h => bindE (f s h) s fun _ h1 => .ok (.nx s) h1
def s_ret (f : EF) : SF := fun s h => bindE (f s h) s fun d h1 => .ok (.rt d) h1
def s_retN : SF := fun _ h => .ok (.rt .non) h
def s_if (t : TF) (a b : SF) : SF := fun s h => bindE (t s h) s fun c h1 => if c then a s h1 else b s h1
def s_never : SF := fun _ _ => .fail
def s_break : SF := fun s h => .ok (.bk s) h
def s_cont : SF := fun s h => .ok (.ct s) h
def s_set (i : Nat) (f : EF) : SF := fun s h => bindE (f s h) s fun d h1 => .ok (.nx (s.set i (some d))) h1
def s_aug (i : Nat) (g : P2) (f : EF) : SF := fun s h => match s[i]? with
  | some (some x) => bindE (f s h) s fun y h1 => match g x y h1 with
    | some (d, h2) => .ok (.nx (s.set i (some d))) h2
    | none => .fail
  | _ => .fail
section
variable {X : Cx} {W : WX} {pos : Pos} {e c : Expr} {fe : EF} {tc : TF} {st : Stmt} {rest a b : List Stmt} {fs gs : SF}
theorem r_nil : SSs X W [] s_nil := PSs.imp pss_nil fun E σ H h => by
  obtain ⟨rho, h, s, R, S, po⟩ := h
  exact PostG.ok po R σ S
theorem tS.seq {K : PySem.W.Frag} {mg : Str → Option Value} {E : Ends} {σ : St} {H : Hp} (h : tS K mg W (s_seq fs gs) E σ H) : tSeq (tS K mg W fs) (tS K mg W gs) E σ H := by
  obtain ⟨rho, h, s, R, S, po⟩ := h
  refine ⟨rho, h, s, R, S, ?_⟩
  unfold s_seq at po
  cases q : fs s h with
  | ok fl h' =>
    rw [q] at po
    cases fl with
    | nx s1 => exact fun rho' H' e R' σ' S' => ⟨rho', h', s1, R', S', PostG.ext e po⟩
    | rt d => exact po
    | bk s1 => exact po
    | ct s1 => exact po
    | ex x s1 => exact po
  | exc x h' => rw [q] at po; exact po
  | fail => rw [q] at po; exact po
theorem r_seq (h1 : SS X W st fs) (h2 : SSs X W rest gs) : SSs X W (st :: rest) (s_seq fs gs) := PSs.imp (pss_cons h1 h2) fun _ _ _ h => tS.seq h
theorem r_last (h1 : SS X W st fs) : SSs X W [st] fs := pss_one h1
theorem r_pass : SS X W (.Pass pos) s_nil := PS.imp ps_pass fun E σ H h => by
  obtain ⟨rho, h, s, R, S, po⟩ := h
  exact PostG.ok po R σ S
theorem r_break : SS X W (.Break pos) s_break := PS.imp ps_break fun E σ H h => by
  obtain ⟨rho, h, s, R, S, po⟩ := h
  exact PostG.ok po R σ S
theorem r_cont : SS X W (.Continue pos) s_cont := PS.imp ps_continue fun E σ H h => by
  obtain ⟨rho, h, s, R, S, po⟩ := h
  exact PostG.ok po R σ S
theorem r_never : SS X W st s_never := PS.imp ps_never fun E σ H h => by
  obtain ⟨rho, h, s, R, S, po⟩ := h
  exact po
theorem r_nevers : SSs X W rest s_never := PSs.imp pss_never fun E σ H h => by
  obtain ⟨rho, h, s, R, S, po⟩ := h
  exact po
theorem r_expr (he : SE X W e fe) (hs : swapsWith e none pos.line X.env = pure false := by rfl) : SS X W (.Expr e pos) (s_expr fe) := PS.imp (ps_expr he hs) fun E σ H h => by
  obtain ⟨rho, h, s, R, S, po⟩ := h
  exact stepS R S po fun rho1 h1 H1 x e1 R1 S1 po1 v r => PostG.ok po1 R1 σ S1
theorem r_ret (he : SE X W e fe) : SS X W (.Return (some e) pos) (s_ret fe) := PS.imp (ps_ret he) fun E σ H h => by
  obtain ⟨rho, h, s, R, S, po⟩ := h
  exact stepS R S po fun rho1 h1 H1 x e1 R1 S1 po1 v r => PostG.ok po1 R1 v r
theorem r_retN : SS X W (.Return none pos) s_retN := PS.imp ps_retN fun E σ H h => by
  obtain ⟨rho, h, s, R, S, po⟩ := h
  exact PostG.ok po R _ relNon
theorem r_if (hc : ST X W c tc) (ha : SSs X W a fs) (hb : SSs X W b gs) : SS X W (.If c a b pos) (s_if tc fs gs) := PS.imp (ps_if hc ha hb) fun E σ H h => by
  obtain ⟨rho, h, s, R, S, po⟩ := h
  refine stepS R S po fun rho1 h1 H1 x e1 R1 S1 po1 => ?_
  cases x with
  | true => exact iteT ⟨rho1, h1, s, R1, S1, po1⟩
  | false => exact iteF ⟨rho1, h1, s, R1, S1, po1⟩
theorem r_set {i : Nat} {x : Str} {pos' : Pos} (hN : X.N.Nodup) (he : SE X W e fe) (hi : X.N[i]? = some x := by rfl) (hx : Loc X.env.scope x := by first | exact Or.inl rfl | exact Or.inr rfl) (hs : swapsWith e (some (.Name x pos')) pos.line X.env = pure false := by rfl)
    (hf : X.fn x = true ∨ X.env.scope.names.lookup x = some .local := by first | exact .inl rfl | exact .inr rfl | assumption) : SS X W (.Assign [.Name x pos'] e pos) (s_set i fe) := PS.imp (ps_set hN hi hx he hs hf) fun E σ H h => by
  obtain ⟨rho, h, s, R, S, po⟩ := h
  exact stepS R S po fun rho1 h1 H1 x e1 R1 S1 po1 v r => PostG.ok po1 R1 _ (S1.set r i)
theorem r_aug {i : Nat} {x : Str} {op : Operator} {g : P2} {pos' : Pos} (hN : X.N.Nodup) (ho : OpR X (inplaceOp op) (rO X.K g)) (he : SE X W e fe) (hi : X.N[i]? = some x := by rfl) (hx : Loc X.env.scope x := by first | exact Or.inl rfl | exact Or.inr rfl)
    (hf : X.fn x = true ∨ X.env.scope.names.lookup x = some .local := by first | exact .inl rfl | exact .inr rfl | assumption) : SS X W (.AugAssign (.Name x pos') op e pos) (s_aug i g fe) := PS.imp (ps_aug hN hi hx he ho hf) fun E σ H h => by
  obtain ⟨rho, h, s, R, S, po⟩ := h
  unfold s_aug at po
  cases q : s[i]? with
  | none => rw [q] at po; exact po.elim
  | some o =>
    cases o with
    | none => rw [q] at po; exact po.elim
    | some x =>
      rw [q] at po
      obtain ⟨v, e1, r⟩ := S.2 i x q
      refine ⟨v, e1, stepS R S po fun rho1 h1 H1 y e1 R1 S1 po1 u ru => ⟨rho1, h1, x, y, R1, e1.v r, ru, ?_⟩⟩
      cases q2 : g x y h1 with
      | none => simp only [q2] at po1; exact po1
      | some dz =>
        simp only [q2] at po1
        exact fun rho' H' v' e2 R2 r2 => po1 rho' H' e2 R2 _ ((e2.s S1).set r2 i)
end

/-! ### targets: names and tuples of names -/
inductive Pat where
  | nm (i : Nat) | tp (ps : List Pat)
mutual
def patG (K : PySem.W.Frag) : Pat → TG
  | .nm i => gName i
  | .tp ps => gTup K (patN ps) (patGs K ps)
def patGs (K : PySem.W.Frag) : List Pat → TGs
  | [] => gNil
  | p :: ps => gCons (patG K p) (patGs K ps)
def patN : List Pat → Nat
  | [] => 0
  | _ :: ps => patN ps + 1
end
mutual
def patD : Pat → D → Ev → Option Ev
  | .nm i, d, s => some (s.set i (some d))
  | .tp ps, .tup xs, s => if xs.length = patN ps then patDs ps xs s else none
  | .tp _, _, _ => none
def patDs : List Pat → List D → Ev → Option Ev
  | [], [], s => some s
  | p :: ps, x :: xs, s => match patD p x s with
    | some s1 => patDs ps xs s1
    | none => none
  | _, _, _ => none
end
mutual
def patI : Pat → List Nat
  | .nm i => [i]
  | .tp ps => patIs ps
def patIs : List Pat → List Nat
  | [] => []
  | p :: ps => patI p ++ patIs ps
end
theorem wipe_get (σ : St) (j : Nat) : ∀ vs : List Nat, (wipe σ vs)[j]? = if j ∈ vs then (if j < σ.length then some none else none) else σ[j]?
  | [] => by simp [wipe]
  | v :: vs => by
    unfold wipe
    by_cases hv : v = j
    · subst hv
      by_cases hl : v < σ.length
      · rw [List.getElem?_set_self (by rw [wipe_length]; exact hl)]
        simp [hl]
      · rw [List.getElem?_eq_none (by simp [wipe_length]; omega)]
        simp [hl]
    · rw [List.getElem?_set_ne hv, wipe_get σ j vs]
      have : ¬ j = v := fun e => hv e.symm
      simp [this]
theorem wipe_set {σ : St} {i : Nat} {v : Option V} {vs : List Nat} (h : i ∈ vs) : wipe (σ.set i v) vs = wipe σ vs := by
  apply List.ext_getElem?
  intro j
  rw [wipe_get, wipe_get]
  by_cases hj : j ∈ vs
  · simp [hj]
  · have : i ≠ j := fun e => hj (e ▸ h)
    simp [hj, List.getElem?_set_ne this]
section
variable {K : PySem.W.Frag} {rho : Rh} {h : Hd} {H : Hp}
mutual
theorem patG_ok : ∀ (p : Pat) (d : D) (v : V) (s s' : Ev) (σ : St), RelV' K rho h H d v → RelS K rho h H s σ → patD p d s = some s' →
    ∃ σ', RelS K rho h H s' σ' ∧ (∀ Q : St → Hp → Prop, Q σ' H → patG K p v σ H Q) ∧ ∀ vs, (∀ i ∈ patI p, i ∈ vs) → wipe σ' vs = wipe σ vs
  | .nm i, d, v, s, s', σ, r, S, e => by
    simp only [patD, Option.some.injEq] at e
    subst e
    refine ⟨σ.set i (some v), S.set r i, fun Q q => ?_, fun vs hv => wipe_set (hv i (by simp [patI]))⟩
    simp only [patG]
    exact q
  | .tp ps, .tup xs, v, s, s', σ, r, S, e => by
    simp only [patD] at e
    split at e
    · rename_i hl
      obtain ⟨a, us, e1, e2, e3⟩ := r.tup
      obtain ⟨σ', S', q, w⟩ := patGs_ok ps xs us s s' σ e3 S e
      refine ⟨σ', S', fun Q z => ?_, fun vs hv => w vs (by simpa [patI] using hv)⟩
      simp only [patG]
      exact ⟨a, us, e1, e2, by rw [← RelDs.length e3]; exact hl, q Q z⟩
    · cases e
  | .tp ps, .non, v, s, s', σ, r, S, e => by simp [patD] at e
  | .tp ps, .bl _, v, s, s', σ, r, S, e => by simp [patD] at e
  | .tp ps, .int _, v, s, s', σ, r, S, e => by simp [patD] at e
  | .tp ps, .str _, v, s, s', σ, r, S, e => by simp [patD] at e
  | .tp ps, .lv _, v, s, s', σ, r, S, e => by simp [patD] at e
  | .tp ps, .fl _, v, s, s', σ, r, S, e => by simp [patD] at e
  | .tp ps, .ref _, v, s, s', σ, r, S, e => by simp [patD] at e
theorem patGs_ok : ∀ (ps : List Pat) (ds : List D) (us : List V) (s s' : Ev) (σ : St), RelVs' K rho h H ds us → RelS K rho h H s σ → patDs ps ds s = some s' →
    ∃ σ', RelS K rho h H s' σ' ∧ (∀ Q : St → Hp → Prop, Q σ' H → patGs K ps us σ H Q) ∧ ∀ vs, (∀ i ∈ patIs ps, i ∈ vs) → wipe σ' vs = wipe σ vs
  | [], [], us, s, s', σ, r, S, e => by
    simp only [patDs, Option.some.injEq] at e
    subst e
    simp only [RelVs', RelDs] at r
    subst r
    exact ⟨σ, S, fun Q q => by simp only [patGs]; exact ⟨rfl, q⟩, fun vs _ => rfl⟩
  | p :: ps, x :: xs, us, s, s', σ, r, S, e => by
    simp only [patDs] at e
    cases q : patD p x s with
    | none => rw [q] at e; cases e
    | some s1 =>
      rw [q] at e
      simp only [RelVs', RelDs] at r
      obtain ⟨v, rr, e1, e2, e3⟩ := r
      obtain ⟨σ1, S1, q1, w1⟩ := patG_ok p x v s s1 σ e2 S q
      obtain ⟨σ2, S2, q2, w2⟩ := patGs_ok ps xs rr s1 s' σ1 e3 S1 e
      refine ⟨σ2, S2, fun Q z => ?_, fun vs hv => ?_⟩
      · simp only [patGs]
        exact ⟨v, rr, e1, q1 _ (q2 Q z)⟩
      · have h1 : ∀ i ∈ patI p, i ∈ vs := fun i hi => hv i (by simp [patIs, hi])
        have h2 : ∀ i ∈ patIs ps, i ∈ vs := fun i hi => hv i (by simp [patIs, hi])
        rw [w2 vs h2, w1 vs h1]
  | [], _ :: _, us, s, s', σ, r, S, e => by simp [patDs] at e
  | _ :: _, [], us, s, s', σ, r, S, e => by simp [patDs] at e
end
end
abbrev SG (X : Cx) (tg : Expr) (p : Pat) : Prop := PG X tg (patG X.K p)
abbrev SGs (X : Cx) (tg : List Expr) (p : List Pat) : Prop := PGs X tg (patGs X.K p)
def s_asg (p : Pat) (f : EF) : SF := fun s h => bindE (f s h) s fun d h1 => match patD p d s with
  | some s1 => .ok (.nx s1) h1
  | none => .fail
section
variable {X : Cx} {W : WX} {pos : Pos} {e tg : Expr} {fe : EF} {es : List Expr} {p : Pat} {ps : List Pat}
theorem g_nm {i : Nat} {x : Str} (hN : X.N.Nodup) (hi : X.N[i]? = some x := by rfl) (hx : Loc X.env.scope x := by first | exact Or.inl rfl | exact Or.inr rfl) (hf : X.fn x = true ∨ X.env.scope.names.lookup x = some .local := by first | exact .inl rfl | exact .inr rfl | assumption) :
    SG X (.Name x pos) (.nm i) := by
  show PG X _ _
  unfold patG
  exact pg_name hN hi hx hf
theorem gs_nil : SGs X [] [] := by
  show PGs X _ _
  unfold patGs
  exact pgs_nil
theorem gs_cons (h1 : SG X e p) (h2 : SGs X es ps) (hs : (assignEach (e :: es) X.env).map (·.2) = assign e X.env :: (assignEach es X.env).map (·.2) := by rfl) : SGs X (e :: es) (p :: ps) := by
  show PGs X _ _
  unfold patGs
  exact pgs_cons h1 h2 hs
theorem g_tp {k : Nat} (hc : X.calm = true) (h : SGs X es ps) (hn : (assignEach es X.env).length = patN ps := by rfl) (hst : (assignEach es X.env).findIdx? (·.1) = none := by rfl) : SG X (.Tuple es k pos) (.tp ps) := by
  show PG X _ _
  unfold patG
  exact pg_tup hc h hn hst
theorem r_asg (he : SE X W e fe) (hg : SG X tg p) (hs : swapsWithSole [tg] e pos.line X.env = pure false := by rfl) (hw : swappedStores [tg] e X.env = pure none := by rfl)
    (h1 : (assignEach [tg] X.env).map (·.2) = [assign tg X.env] := by rfl) : SS X W (.Assign [tg] e pos) (s_asg p fe) := PS.imp (ps_asg he hg hs hw h1) fun E σ H h => by
  obtain ⟨rho, h, s, R, S, po⟩ := h
  refine stepS R S po fun rho1 h1 H1 x e1 R1 S1 po1 v r => ?_
  cases q : patD p x s with
  | none => simp only [q] at po1; exact po1.elim
  | some s1 =>
    simp only [q] at po1
    obtain ⟨σ', S', z, _⟩ := patG_ok p x v s s1 σ r S1 q
    exact z _ (PostG.ok po1 R1 σ' S')
end
/-- a, b = x, y of plain local names -/
def s_par (i j : Nat) (a : AF) : SF := fun s h => bindE (a s h) s fun ds h1 => match ds with
  | [x, y] => .ok (.nx ((s.set i (some x)).set j (some y))) h1
  | _ => .fail
theorem r_par {X : Cx} {W : WX} {pos : Pos} {i j : Nat} {x y : Str} {a b : Expr} {fa : AF} {px py pt : Pos} {kt k2 pt2} (hN : X.N.Nodup) (hc : X.calm = true) (ha : SA X W [a, b] fa) (hi : X.N[i]? = some x := by rfl) (hj : X.N[j]? = some y := by rfl) (hij : i ≠ j := by decide)
    (hx : X.env.scope.names.lookup x = some .local := by rfl) (hy : X.env.scope.names.lookup y = some .local := by rfl)
    (hw : swappedStores [.Tuple [.Name x px, .Name y py] kt pt] (.Tuple [a, b] k2 pt2) X.env = pure (some [x, y]) := by rfl)
    (hs : swapsWithSole [.Tuple [.Name x px, .Name y py] kt pt] (.Tuple [a, b] k2 pt2) pos.line X.env = pure false := by rfl) :
    SS X W (.Assign [.Tuple [.Name x px, .Name y py] kt pt] (.Tuple [a, b] k2 pt2) pos) (s_par i j fa) := PS.imp (ps_par hc hN hi hj hij hx hy ha hw hs) fun E σ H h => by
  obtain ⟨rho, h, s, R, S, po⟩ := h
  refine stepS R S po fun rho1 h1 H1 ds e1 R1 S1 po1 vs r => ?_
  match ds, po1, r with
  | [d1, d2], po1, r =>
    simp only [RelVs', RelDs] at r
    obtain ⟨v, rr, e1, r1, w, rr2, e2, r2, e3⟩ := r
    subst e3 e2
    exact ⟨v, w, e1, PostG.ok po1 R1 _ ((S1.set r1 i).set r2 j)⟩
  | [], po1, r => exact po1.elim
  | [_], po1, r => exact po1.elim
  | _ :: _ :: _ :: _, po1, r => exact po1.elim

/-! ### targets with places: xs[i] = v, xs[i], ys[j] = v, w -/
abbrev GF := D → Ev → Hd → Res Ev
def tGt (K : PySem.W.Frag) (mg : Str → Option Value) (g : GF) : TG := fun v σ H Q => ∃ rho h s d, Rel K rho h H ∧ RelS K rho h H s σ ∧ RelV' K rho h H d v ∧ PostG K mg (fun _ _ _ => False) rho h H (g d s h) fun s' rho' h' H' => ∀ σ', RelS K rho' h' H' s' σ' → Q σ' H'
abbrev GFs := List D → Ev → Hd → Res Ev
def tGts (K : PySem.W.Frag) (mg : Str → Option Value) (g : GFs) : TGs := fun v σ H Q => ∃ rho h s d, Rel K rho h H ∧ RelS K rho h H s σ ∧ RelVs' K rho h H d v ∧ PostG K mg (fun _ _ _ => False) rho h H (g d s h) fun s' rho' h' H' => ∀ σ', RelS K rho' h' H' s' σ' → Q σ' H'
def g_name (i : Nat) : GF := fun d s h => .ok (s.set i (some d)) h
def g_sub (g : D → D → D → Hd → Option Hd) (o i : EF) : GF := fun d s h => (o s h).bind fun x h1 => (i s h1).bind fun y h2 => match g x y d h2 with
  | some h3 => .ok s h3
  | none => .fail
def g_nil : GFs := fun ds s h => match ds with
  | [] => .ok s h
  | _ => .fail
def g_cons (g : GF) (r : GFs) : GFs := fun ds s h => match ds with
  | d :: ds => (g d s h).bind fun s1 h1 => r ds s1 h1
  | [] => .fail
def g_tup (n : Nat) (r : GFs) : GF := fun d s h => match d with
  | .tup xs => if xs.length = n then r xs s h else .fail
  | _ => .fail
def rS (K : PySem.W.Frag) (g : D → D → D → Hd → Option Hd) : TSet := fun o i v H Q => ∃ rho h d0 d1 d2, Rel K rho h H ∧ RelV' K rho h H d0 o ∧ RelV' K rho h H d1 i ∧ RelV' K rho h H d2 v ∧ ∃ h', g d0 d1 d2 h = some h' ∧ ∀ rho' H', Ext K rho h H rho' h' H' → Rel K rho' h' H' → Q H'
section
variable {X : Cx} {W : WX} {pos : Pos} {e o i tg : Expr} {fe fo fi : EF} {es : List Expr}
theorem tG.noex {α β : Type} {K : PySem.W.Frag} {mg : Str → Option Value} {f : Ev → Hd → Res α} {p : β → PG' α} {σ : St} {H : Hp} {c : β} (h : tG K mg (fun _ _ _ _ => False) f p σ H c) : tG K mg W f p σ H c := by
  obtain ⟨rho, h, s, R, S, po⟩ := h
  refine ⟨rho, h, s, R, S, ?_⟩
  cases q : f s h with
  | ok a h' => rw [q] at po; exact po
  | exc x h' => rw [q] at po; exact fun rho' H' cls dd e R' rx => (po rho' H' cls dd e R' rx).elim
  | fail => rw [q] at po; exact po
theorem PG.imp {t t' : TG} (p : PG X tg t) (i : ∀ v σ H Q, t' v σ H Q → t v σ H Q) : PG X tg t' := ⟨fun pins s σ H v u Q I r q => p.run pins s σ H v u Q I r (i v σ H Q q)⟩
theorem PGs.imp {t t' : TGs} (p : PGs X es t) (i : ∀ v σ H Q, t' v σ H Q → t v σ H Q) : PGs X es t' := ⟨fun pins s σ H v u Q I r q => p.run pins s σ H v u Q I r (i v σ H Q q)⟩
theorem q_name {i : Nat} {x : Str} (hN : X.N.Nodup) (hi : X.N[i]? = some x := by rfl) (hx : Loc X.env.scope x := by first | exact Or.inl rfl | exact Or.inr rfl) (hf : X.fn x = true ∨ X.env.scope.names.lookup x = some .local := by first | exact .inl rfl | exact .inr rfl | assumption) :
    PG X (.Name x pos) (tGt X.K X.mg (g_name i)) := PG.imp (pg_name hN hi hx hf) fun v σ H Q h => by
  obtain ⟨rho, h, s, d, R, S, r, po⟩ := h
  exact PostG.ok po R _ (S.set r i)
theorem q_sub {g : D → D → D → Hd → Option Hd} (hs : PSet X (rS X.K g)) (ho : SE X W o fo) (hi : SE X W i fi)
    (ha : ∀ v, assign (.Subscript o i pos) X.env v = (do
      let ov ← holding [v] (eval o X.env)
      let iv ← holding [v, ov] (eval i X.env)
      standAt pos
      holding [v, ov, iv] (setItem ov iv v)
      release [v, ov, iv] []) := by intro _; rfl) : PG X (.Subscript o i pos) (tGt X.K X.mg (g_sub g fo fi)) := PG.imp (pg_sub ho hi hs ha) fun v σ H Q h => by
  obtain ⟨rho, h, s, d, R, S, r, po⟩ := h
  refine tG.noex (step R S po fun rho1 h1 H1 x e1 R1 S1 po1 ov ro => tG.noex (step R1 S1 po1 fun rho2 h2 H2 y e2 R2 S2 po2 iv ri => ⟨rho2, h2, x, y, d, R2, e2.v ro, ri, (e1.trans e2).v r, ?_⟩))
  cases q : g x y d h2 with
  | none => simp only [q] at po2; exact po2.elim
  | some h3 =>
    simp only [q] at po2
    exact ⟨h3, rfl, fun rho' H' e3 R3 => po2 rho' H' e3 R3 σ (e3.s S2)⟩
theorem qs_nil : PGs X [] (tGts X.K X.mg g_nil) := PGs.imp pgs_nil fun v σ H Q h => by
  obtain ⟨rho, h, s, d, R, S, r, po⟩ := h
  cases d with
  | nil => simp only [RelVs', RelDs] at r; exact ⟨r, PostG.ok po R σ S⟩
  | cons _ _ => exact po.elim
theorem qs_cons {g : GF} {gs : GFs} (h1 : PG X e (tGt X.K X.mg g)) (h2 : PGs X es (tGts X.K X.mg gs)) (hs : (assignEach (e :: es) X.env).map (·.2) = assign e X.env :: (assignEach es X.env).map (·.2) := by rfl) : PGs X (e :: es) (tGts X.K X.mg (g_cons g gs)) :=
  PGs.imp (pgs_cons h1 h2 hs) fun v σ H Q h => by
    obtain ⟨rho, h, s, d, R, S, r, po⟩ := h
    cases d with
    | nil => exact po.elim
    | cons d ds =>
      simp only [RelVs', RelDs] at r
      obtain ⟨u, us, e1, r1, r2⟩ := r
      refine ⟨u, us, e1, rho, h, s, d, R, S, r1, ?_⟩
      exact (PostG.bind po).imp fun s1 rho1 h1 H1 e1 R1 z σ' S' => ⟨rho1, h1, s1, ds, R1, S', e1.vs r2, z⟩
theorem q_tup {k n : Nat} {gs : GFs} (hc : X.calm = true) (h : PGs X es (tGts X.K X.mg gs)) (hn : (assignEach es X.env).length = n := by rfl) (hst : (assignEach es X.env).findIdx? (·.1) = none := by rfl) : PG X (.Tuple es k pos) (tGt X.K X.mg (g_tup n gs)) :=
  PG.imp (pg_tup hc h hn hst) fun v σ H Q h => by
    obtain ⟨rho, h, s, d, R, S, r, po⟩ := h
    cases d with
    | tup xs =>
      simp only [g_tup] at po
      split at po
      · rename_i hl
        obtain ⟨a, us, e1, e2, e3⟩ := r.tup
        exact ⟨a, us, e1, e2, by rw [← RelDs.length e3]; exact hl, rho, h, s, xs, R, S, e3, po⟩
      · exact po.elim
    | _ => exact po.elim
def s_asgT (g : GF) (f : EF) : SF := fun s h => bindE (f s h) s fun d h1 => match g d s h1 with
  | .ok s1 h2 => .ok (.nx s1) h2
  | _ => .fail
theorem r_asgT {g : GF} (he : SE X W e fe) (hg : PG X tg (tGt X.K X.mg g)) (hs : swapsWithSole [tg] e pos.line X.env = pure false := by rfl) (hw : swappedStores [tg] e X.env = pure none := by rfl)
    (h1 : (assignEach [tg] X.env).map (·.2) = [assign tg X.env] := by rfl) : SS X W (.Assign [tg] e pos) (s_asgT g fe) := PS.imp (ps_asg he hg hs hw h1) fun E σ H h => by
  obtain ⟨rho, h, s, R, S, po⟩ := h
  refine stepS R S po fun rho1 h1 H1 x e1 R1 S1 po1 v r => ⟨rho1, h1, s, x, R1, S1, r, ?_⟩
  cases q : g x s h1 with
  | ok s1 h2 => simp only [q] at po1; exact fun rho' H' e2 R2 σ' S' => po1 rho' H' e2 R2 σ' S'
  | exc _ _ => simp only [q] at po1; exact po1.elim
  | fail => simp only [q] at po1; exact po1
end

/-! ### a cell becomes a value: no code of Python's -/
def s_freeze (i : Nat) (b : SF) : SF := fun s h => match s[i]? with
  | some (some (.ref n)) => match h[n]? with
    | some (.lst xs) => b (s.set i (some (.lv xs))) (h.set n .dead)
    | _ => .fail
  | _ => .fail
theorem live_dead {h : Hd} {n m : Nat} (e : live (h.set n .dead) m = true) : live h m = true ∧ m ≠ n := by
  unfold live at e ⊢
  by_cases q : n = m
  · subst q
    by_cases hl : n < h.length
    · rw [List.getElem?_set_self hl] at e; cases e
    · rw [List.getElem?_eq_none (by simpa using hl)] at e; cases e
  · rw [List.getElem?_set_ne q] at e
    exact ⟨e, fun z => q z.symm⟩
section
variable {K : PySem.W.Frag} {rho : Rh} {h : Hd} {H : Hp}
theorem Ext.dead (n : Nat) : Ext K rho h H rho (h.set n .dead) H where
  le := by simp
  ag := fun _ _ => rfl
  lv := fun m _ e => (live_dead e).1
  fr := fun m hm e => absurd (live_lt e) (by simpa using hm)
  kp := fun _ _ e _ => e
  tp := fun _ _ e => e
  fz := fun _ _ _ e => e
  dm := fun _ e => e
  zi := fun _ e => e
  zo := fun _ e => .inl e
theorem Rel.dead (R : Rel K rho h H) (n : Nat) : Rel K rho (h.set n .dead) H where
  inj := fun m k hm hk e => R.inj m k (live_dead hm).1 (live_dead hk).1 e
  cell := fun m o e => by
    by_cases q : n = m
    · subst q
      have hl : n < h.length := by
        have := (List.getElem?_eq_some_iff.mp e).1
        simpa using this
      rw [List.getElem?_set_self hl] at e
      cases e
      trivial
    · rw [List.getElem?_set_ne q] at e
      have c := R.cell m o e
      cases o with
      | dead => trivial
      | lst xs =>
        obtain ⟨us, a, b⟩ := c
        exact ⟨us, a, RelDs.mono (Ext.dead n) (Nat.le_refl _) (Nat.le_of_lt (List.getElem?_eq_some_iff.mp e).1) _ _ b⟩
  zd := R.zd
  zc := fun m hm => R.zc m (live_dead hm).1
theorem Rel.frozen (R : Rel K rho h H) {n : Nat} {xs : List D} (e : h[n]? = some (.lst xs)) : RelV' K rho (h.set n .dead) H (.lv xs) (.ref (rho n)) := by
  obtain ⟨us, a, b⟩ := R.cellL e
  have ln : live h n = true := by unfold live; rw [e]
  simp only [RelV', RelD]
  refine ⟨rho n, us, rfl, ⟨a, R.zc n ln, fun m hm z => ?_⟩, ?_⟩
  · obtain ⟨hm, ne⟩ := live_dead hm
    exact ne (R.inj m n hm ln z)
  · have := (Ext.dead (K := K) (rho := rho) (H := H) n).vs b
    exact this
end
theorem tS.freeze {K : PySem.W.Frag} {mg : Str → Option Value} {W : WX} {i : Nat} {b : SF} {E : Ends} {σ : St} {H : Hp} (q : tS K mg W (s_freeze i b) E σ H) : tS K mg W b E σ H := by
  obtain ⟨rho, h, s, R, S, po⟩ := q
  unfold s_freeze at po
  split at po
  · rename_i n q
    split at po
    · rename_i xs q2
      obtain ⟨v, e1, r⟩ := S.2 i _ q
      simp only [RelV', RelD] at r
      have hil : i < σ.length := (List.getElem?_eq_some_iff.mp e1).1
      refine ⟨rho, h.set n .dead, s.set i (some (.lv xs)), R.dead n, ?_, PostG.ext (Ext.dead n) po⟩
      have S1 := ((Ext.dead (K := K) (rho := rho) (H := H) n).s S).set (R.frozen q2) i
      have e : σ.set i (some (.ref (rho n))) = σ := by
        apply List.ext_getElem?
        intro j
        by_cases hj : i = j
        · subst hj; rw [List.getElem?_set_self hil, e1, r.2]
        · rw [List.getElem?_set_ne hj]
      rw [e] at S1
      exact S1
    · exact po.elim
  · exact po.elim
theorem r_freeze {X : Cx} {W : WX} (i : Nat) {sts : List Stmt} {b : SF} (p : SSs X W sts b) : SSs X W sts (s_freeze i b) := PSs.imp p fun _ _ _ q => tS.freeze q

/-! ### while -/
def whileM (t : TF) (b : SF) : Nat → SF
  | 0 => fun _ _ => .fail
  | n + 1 => fun s h => bindE (t s h) s fun c h1 => if c then (match b s h1 with
    | .ok (.nx s2) h2 => whileM t b n s2 h2
    | .ok (.ct s2) h2 => whileM t b n s2 h2
    | .ok (.bk s2) h2 => .ok (.nx s2) h2
    | r => r) else .ok (.nx s) h1
theorem r_while {X : Cx} {W : WX} {c : Expr} {body : List Stmt} {pos : Pos} {tc : TF} {b : SF} (n : Nat) (hp : PassesOwn (model X.prog X.w) X.A X.env X.xe) (hc : ST X W c tc) (hb : SSs X W body b) : SS X W (.While c body [] pos) (whileM tc b n) :=
  PS.imp (ps_while hp hc hb) fun E σ H q => by
    refine ⟨fun m σ H => ∃ k, k < m + 1 ∧ tS X.K X.mg W (whileM tc b k) E σ H, ⟨n, n, Nat.lt_succ_self _, q⟩, fun m σ H q => ?_⟩
    obtain ⟨k, hk, rho, h, s, R, S, po⟩ := q
    cases k with
    | zero => exact po.elim
    | succ k =>
      refine stepS R S po fun rho1 h1 H1 x e1 R1 S1 po1 => ?_
      cases x with
      | false => exact iteF (PostG.ok po1 R1 σ S1)
      | true =>
        refine iteT ⟨fun σ' H' => tS X.K X.mg W (whileM tc b k) E σ' H', fun σ' H' z => ⟨m - 1, by omega, k, by omega, z⟩, ?_⟩
        refine ⟨rho1, h1, s, R1, S1, ?_⟩
        simp only [if_true] at po1
        cases qb : b s h1 with
        | ok fl h2 =>
          rw [qb] at po1
          cases fl with
          | nx s2 => exact fun rho' H' e R' σ' S' => ⟨rho', h2, s2, R', S', PostG.ext e po1⟩
          | ct s2 => exact fun rho' H' e R' σ' S' => ⟨rho', h2, s2, R', S', PostG.ext e po1⟩
          | bk s2 => exact po1
          | rt d => exact po1
          | ex x s2 => exact po1
        | exc x h2 => rw [qb] at po1; exact po1
        | fail => rw [qb] at po1; exact po1
end Mini
namespace Mini
open PySem L2

/-! ### what may go on besides: reserved addresses may change -/
structure ExtZ (K : PySem.W.Frag) (rho : Rh) (h : Hd) (H : Hp) (rho' : Rh) (h' : Hd) (H' : Hp) : Prop where
  le : h.length ≤ h'.length
  ag : ∀ m, m < h.length → rho' m = rho m
  lv : ∀ m, m < h.length → live h' m = true → live h m = true
  fr : ∀ m, h.length ≤ m → live h' m = true → H (rho' m) = none
  kp : ∀ a o, H a = some o → ¬ rho.Z a → (∀ m, live h m = true → rho m ≠ a) → H' a = some o
  tp : ∀ a us, H a = some (.tup us) → H' a = some (.tup us)
  fz : ∀ a o u, H a = some (.frz o u) → H' a = some (.frz o u)
  dm : ∀ a, H' a = none → H a = none
  zo : ∀ a, rho'.Z a → rho.Z a ∨ H a = none
section
variable {K : PySem.W.Frag} {rho rho' rho2 : Rh} {h h' h2 : Hd} {H H' H2 : Hp}
theorem Ext.z (x : Ext K rho h H rho' h' H') : ExtZ K rho h H rho' h' H' := ⟨x.le, x.ag, x.lv, x.fr, fun a o e _ n => x.kp a o e n, x.tp, x.fz, x.dm, x.zo⟩
theorem ExtZ.ne (x : ExtZ K rho h H rho' h' H') {a : Addr} {o : HO} (e : H a = some o) (n : ∀ m, live h m = true → rho m ≠ a) : ∀ m, live h' m = true → rho' m ≠ a := fun m hm => by
  by_cases hl : m < h.length
  · rw [x.ag m hl]; exact n m (x.lv m hl hm)
  · have := x.fr m (Nat.not_lt.mp hl) hm
    intro z; rw [z, e] at this; cases this
theorem ExtZ.nz (x : ExtZ K rho h H rho' h' H') {a : Addr} {o : HO} (e : H a = some o) (z : ¬ rho.Z a) : ¬ rho'.Z a := fun q => (x.zo a q).elim z fun n => by rw [e] at n; cases n
theorem ExtZ.trans (x : ExtZ K rho h H rho' h' H') (y : ExtZ K rho' h' H' rho2 h2 H2) : ExtZ K rho h H rho2 h2 H2 where
  le := Nat.le_trans x.le y.le
  ag := fun m hm => (y.ag m (Nat.lt_of_lt_of_le hm x.le)).trans (x.ag m hm)
  lv := fun m hm e => x.lv m hm (y.lv m (Nat.lt_of_lt_of_le hm x.le) e)
  fr := fun m hm e => by
    by_cases hl : m < h'.length
    · rw [y.ag m hl]; exact x.fr m hm (y.lv m hl e)
    · exact x.dm _ (y.fr m (Nat.not_lt.mp hl) e)
  kp := fun a o e z n => y.kp a o (x.kp a o e z n) (x.nz e z) (x.ne e n)
  tp := fun a us e => y.tp a us (x.tp a us e)
  fz := fun a o u e => y.fz a o u (x.fz a o u e)
  dm := fun a e => x.dm a (y.dm a e)
  zo := fun a e => (y.zo a e).elim (x.zo a) fun q => .inr (x.dm a q)
theorem ExtZ.sqT (x : ExtZ K rho h H rho' h' H') {a : Addr} {us : List V} (e : SqT K H a us) : SqT K H' a us := by
  rcases e with (e | ⟨o, e⟩) | e
  · exact .inl (.inl (x.tp _ _ e))
  · exact .inl (.inr ⟨o, x.fz _ _ _ e⟩)
  · exact .inr e
mutual
theorem RelD.monoZ (x : ExtZ K rho h H rho' h' H') {B B' : Nat} (hB : B ≤ B') (hh : B ≤ h.length) : ∀ (d : D) (v : V), RelD K rho h B H d v → RelD K rho' h' B' H' d v
  | .non, v, e => by simp only [RelD] at e ⊢; exact e
  | .bl b, v, e => by simp only [RelD] at e ⊢; exact e
  | .int i, v, e => by simp only [RelD] at e ⊢; exact e
  | .str z, v, e => by simp only [RelD] at e ⊢; exact e
  | .tup xs, v, e => by
    simp only [RelD] at e ⊢
    obtain ⟨a, us, e1, e2, e3⟩ := e
    exact ⟨a, us, e1, x.sqT e2, RelDs.monoZ x hB hh xs us e3⟩
  | .lv xs, v, e => by
    simp only [RelD] at e ⊢
    obtain ⟨a, us, e1, e2, e3⟩ := e
    refine ⟨a, us, e1, ?_, RelDs.monoZ x hB hh xs us e3⟩
    obtain ⟨e2, z, n⟩ := e2
    exact ⟨x.kp _ _ e2 z n, x.nz e2 z, x.ne e2 n⟩
  | .fl xs, v, e => by
    simp only [RelD] at e ⊢
    obtain ⟨a, us, e1, e2, e3⟩ := e
    refine ⟨a, us, e1, ?_, RelDs.monoZ x hB hh xs us e3⟩
    rcases e2 with ⟨o, e2⟩ | e2
    · exact .inl ⟨o, x.fz _ _ _ e2⟩
    · exact .inr e2
  | .ref n, v, e => by
    simp only [RelD] at e ⊢
    exact ⟨Nat.lt_of_lt_of_le e.1 hB, by rw [x.ag n (Nat.lt_of_lt_of_le e.1 hh)]; exact e.2⟩
theorem RelDs.monoZ (x : ExtZ K rho h H rho' h' H') {B B' : Nat} (hB : B ≤ B') (hh : B ≤ h.length) : ∀ (ds : List D) (us : List V), RelDs K rho h B H ds us → RelDs K rho' h' B' H' ds us
  | [], us, e => by simp only [RelDs] at e ⊢; exact e
  | d :: ds, us, e => by
    simp only [RelDs] at e ⊢
    obtain ⟨v, r, e1, e2, e3⟩ := e
    exact ⟨v, r, e1, RelD.monoZ x hB hh d v e2, RelDs.monoZ x hB hh ds r e3⟩
end
theorem ExtZ.v (x : ExtZ K rho h H rho' h' H') {d : D} {v : V} (r : RelV' K rho h H d v) : RelV' K rho' h' H' d v := RelD.monoZ x x.le (Nat.le_refl _) d v r
theorem ExtZ.vs (x : ExtZ K rho h H rho' h' H') {d : List D} {v : List V} (r : RelVs' K rho h H d v) : RelVs' K rho' h' H' d v := RelDs.monoZ x x.le (Nat.le_refl _) d v r
theorem ExtZ.s (x : ExtZ K rho h H rho' h' H') {s : Ev} {σ : St} (r : RelS K rho h H s σ) : RelS K rho' h' H' s σ := ⟨r.1, fun i d e => let ⟨v, a, b⟩ := r.2 i d e; ⟨v, a, x.v b⟩⟩
/-- a reserved list is changed -/
theorem ExtZ.grow (x : ExtZ K rho h H rho' h' H') {p : Addr} {us : List V} {o : HO} (hp : H p = some (.lst us)) (hz : rho.Z p) : ExtZ K rho h H rho' h' (L2.upd H' p o) where
  le := x.le
  ag := x.ag
  lv := x.lv
  fr := x.fr
  kp := fun a o' e z n => by
    have q : a ≠ p := fun q => z (by rw [q]; exact hz)
    rw [upd_ne q]; exact x.kp a o' e z n
  tp := fun a us' e => by
    have q : a ≠ p := fun q => by rw [q, hp] at e; cases e
    rw [upd_ne q]; exact x.tp a us' e
  fz := fun a o' u e => by
    have q : a ≠ p := fun q => by rw [q, hp] at e; cases e
    rw [upd_ne q]; exact x.fz a o' u e
  dm := fun a e => by
    by_cases q : a = p
    · subst q; rw [upd_same] at e; cases e
    · rw [upd_ne q] at e; exact x.dm a e
  zo := x.zo
end

/-! ### what is walked -/
/-- J walks the items, whatever else goes on -/
def Serves (K : PySem.W.Frag) (J : It) (items : List D) (rho : Rh) (h : Hd) (H : Hp) : Prop :=
  ∀ (rho' : Rh) (h' : Hd) (H' : Hp), ExtZ K rho h H rho' h' H' → Rel K rho' h' H' → ∀ i : Nat,
    (∀ d, items[i]? = some d → J.go i H' ∧ ∀ x H2, J.yld i H' x H2 → Ext K rho' h' H' rho' h' H2 ∧ Rel K rho' h' H2 ∧ RelV' K rho' h' H2 d x) ∧ (items.length ≤ i → J.stop i H')
theorem Serves.ext {K : PySem.W.Frag} {J : It} {items : List D} {rho rho1 : Rh} {h h1 : Hd} {H H1 : Hp} (s : Serves K J items rho h H) (x : Ext K rho h H rho1 h1 H1) : Serves K J items rho1 h1 H1 := fun rho' h' H' e R => s rho' h' H' (x.z.trans e) R
abbrev pI (K : PySem.W.Frag) (Q : It → Hp → Prop) : PG' (List D) := fun items rho h H => ∀ J, Serves K J items rho h H → Q J H
abbrev tI (K : PySem.W.Frag) (mg : Str → Option Value) (W : WX) (f : AF) : TI := tG K mg W f (pI K)
abbrev SI (X : Cx) (W : WX) (tg e : Expr) (f : AF) : Prop := PI X tg e (tI X.K X.mg W f)
theorem PI.imp {X : Cx} {tg e : Expr} {t t' : TI} (p : PI X tg e t) (i : ∀ σ H Q, t' σ H Q → t σ H Q) : PI X tg e t' := ⟨fun pins s σ H R I q => p.run pins s σ H R I (i σ H R q)⟩
theorem PI.or {X : Cx} {tg e : Expr} {t u t' : TI} (p : PI X tg e t) (q : PI X tg e u) (i : ∀ σ H Q, t' σ H Q → t σ H Q ∨ u σ H Q) : PI X tg e t' := ⟨fun pins s σ H R I z => (i σ H R z).elim (p.run pins s σ H R I) (q.run pins s σ H R I)⟩
/-- a list by value or a tuple -/
def i_seq (f : EF) : AF := fun s h => (f s h).bind fun d h1 => match d with
  | .lv xs => .ok xs h1
  | .tup xs => .ok xs h1
  | _ => .fail
theorem RelDs.idx {K : PySem.W.Frag} {rho : Rh} {h : Hd} {H : Hp} {B : Nat} {ds : List D} {us : List V} (r : RelDs K rho h B H ds us) {i : Nat} {d : D} (e : ds[i]? = some d) : ∃ v, us[i]? = some v ∧ RelD K rho h B H d v := RelDs.get r e
theorem serves_lv {K : PySem.W.Frag} {rho : Rh} {h : Hd} {H : Hp} {xs : List D} {a : Addr} (r : RelV' K rho h H (.lv xs) (.ref a)) : Serves K (Itl K a) xs rho h H := by
  intro rho' h' H' e R i
  have r' := e.v r
  obtain ⟨a', us, e1, e2, e3⟩ := asL_ok R r' (xs := xs) rfl
  cases e1
  refine ⟨fun d hd => ?_, fun hl => ⟨us, e2, by rw [← RelDs.length e3]; exact hl⟩⟩
  obtain ⟨v, e4, e5⟩ := RelDs.get e3 hd
  exact ⟨⟨us, v, e2, e4⟩, fun x H2 ⟨q1, q2⟩ => by
    subst q1
    have := q2 us e2
    rw [e4] at this
    cases this
    exact ⟨Ext.refl, R, e5⟩⟩
theorem serves_tup {K : PySem.W.Frag} {rho : Rh} {h : Hd} {H : Hp} {xs : List D} {a : Addr} (r : RelV' K rho h H (.tup xs) (.ref a)) : Serves K (Itt K a) xs rho h H := by
  intro rho' h' H' e R i
  obtain ⟨a', us, e1, e2, e3⟩ := (e.v r).tup
  cases e1
  refine ⟨fun d hd => ?_, fun hl => ⟨us, e2, by rw [← RelDs.length e3]; exact hl⟩⟩
  obtain ⟨v, e4, e5⟩ := RelDs.get e3 hd
  exact ⟨⟨us, v, e2, e4⟩, fun x H2 ⟨q1, q2⟩ => by
    subst q1
    have := q2 us e2
    rw [e4] at this
    cases this
    exact ⟨Ext.refl, R, e5⟩⟩
theorem ri_seq {X : Cx} {W : WX} {tg e : Expr} {fe : EF} (he : SE X W e fe) : SI X W tg e (i_seq fe) := by
  refine PI.or (pi_list he) (pi_tup he) fun σ H Q q => ?_
  obtain ⟨rho, h, s, R, S, po⟩ := q
  have po2 := po
  cases q : fe s h with
  | fail => simp only [i_seq, q] at po2; exact po2.elim
  | exc x h1 =>
    simp only [i_seq, q] at po2
    exact .inl ⟨rho, h, s, R, S, by rw [q]; exact po2⟩
  | ok d h1 =>
    simp only [i_seq, q] at po2
    cases d with
    | lv xs =>
      refine .inl ⟨rho, h, s, R, S, ?_⟩
      rw [q]
      intro rho1 H1 e1 R1 v r
      have r0 := r
      obtain ⟨a, us, e2, e3, e4⟩ := asL_ok R1 r (xs := xs) rfl
      subst e2
      exact ⟨a, rfl, ⟨us, e3⟩, po2 rho1 H1 e1 R1 _ (serves_lv r0)⟩
    | tup xs =>
      refine .inr ⟨rho, h, s, R, S, ?_⟩
      rw [q]
      intro rho1 H1 e1 R1 v r
      have r0 := r
      obtain ⟨a, us, e2, e3, e4⟩ := r.tup
      subst e2
      exact ⟨a, rfl, ⟨us, e3⟩, po2 rho1 H1 e1 R1 _ (serves_tup r0)⟩
    | _ => exact po2.elim

/-! ### ranges -/
def rangeL (lo : Int) : Nat → List D
  | 0 => []
  | n + 1 => .int lo :: rangeL (lo + 1) n
theorem rangeL_length : ∀ (n : Nat) (lo : Int), (rangeL lo n).length = n
  | 0, _ => rfl
  | n + 1, lo => by simp [rangeL, rangeL_length n]
theorem rangeL_get : ∀ (n i : Nat) (lo : Int) (d : D), (rangeL lo n)[i]? = some d → d = .int (lo + i) ∧ i < n
  | 0, i, lo, d, e => by simp [rangeL] at e
  | n + 1, 0, lo, d, e => by simp [rangeL] at e; subst e; simp
  | n + 1, i + 1, lo, d, e => by
    simp only [rangeL, List.getElem?_cons_succ] at e
    obtain ⟨a, b⟩ := rangeL_get n i (lo + 1) d e
    exact ⟨by rw [a]; congr 1; omega, by omega⟩
theorem serves_range {K : PySem.W.Frag} {rho : Rh} {h : Hd} {H : Hp} (lo : Int) (n : Nat) : Serves K (Itr lo n) (rangeL lo n) rho h H := by
  intro rho' h' H' e R i
  refine ⟨fun d hd => ?_, fun hl => by rw [rangeL_length] at hl; exact hl⟩
  obtain ⟨a, b⟩ := rangeL_get n i lo d hd
  subst a
  exact ⟨b, fun x H2 ⟨q1, q2⟩ => by subst q1 q2; exact ⟨Ext.refl, R, relInt _⟩⟩
def in62 (i : Int) : Bool := decide (-(2 ^ 62) ≤ i) && decide (i < 2 ^ 62)
theorem in62_ok {i : Int} (e : in62 i = true) : -(2 ^ 62) ≤ i ∧ i < 2 ^ 62 := by
  unfold in62 at e
  rw [Bool.and_eq_true] at e
  exact ⟨of_decide_eq_true e.1, of_decide_eq_true e.2⟩
def i_rng1 (a : AF) : AF := fun s h => (a s h).bind fun ds h1 => match ds with
  | [.int j] => if in62 j then .ok (rangeL 0 j.toNat) h1 else .fail
  | _ => .fail
def i_rng2 (a : AF) : AF := fun s h => (a s h).bind fun ds h1 => match ds with
  | [.int i, .int j] => if in62 i && in62 j then .ok (rangeL i (j - i).toNat) h1 else .fail
  | _ => .fail
section
variable {X : Cx} {W : WX} {tg a b : Expr} {p pos : Pos} {fa : AF}
theorem ri_range1 (hm : X.mg "range" = none) (ha : SA X W [a] fa) (hg : Gl X "range" := by rfl) (hs : starEach [a] X.env = [(false, eval a X.env)] := by rfl) : SI X W tg (.Call (.Name "range" p) [a] [] pos) (i_rng1 fa) := PI.imp (pi_range1 hg hm ha hs) fun σ H Q q => by
  obtain ⟨rho, h, s, R, S, po⟩ := q
  refine step R S po fun rho1 h1 H1 ds e1 R1 S1 po1 vs r => ?_
  match ds, po1, r with
  | [.int j], po1, r =>
    by_cases q : in62 j = true
    · simp only [q, if_true] at po1
      simp only [RelVs', RelDs, RelD] at r
      obtain ⟨v, rr, e2, e3, e4⟩ := r
      subst e4 e3
      exact ⟨j, e2, (in62_ok q).1, (in62_ok q).2, PostG.ok po1 R1 _ (serves_range 0 _)⟩
    · simp only [q] at po1; exact po1.elim
  | [], po1, r => exact po1.elim
  | [.non], po1, r => exact po1.elim
  | [.bl _], po1, r => exact po1.elim
  | [.str _], po1, r => exact po1.elim
  | [.tup _], po1, r => exact po1.elim
  | [.lv _], po1, r => exact po1.elim
  | [.fl _], po1, r => exact po1.elim
  | [.ref _], po1, r => exact po1.elim
  | _ :: _ :: _, po1, r => simp only at po1; exact po1.elim
theorem ri_range2 (hm : X.mg "range" = none) (ha : SA X W [a, b] fa) (hg : Gl X "range" := by rfl) (hs : starEach [a, b] X.env = [(false, eval a X.env), (false, eval b X.env)] := by rfl) (hs2 : starEach [b] X.env = [(false, eval b X.env)] := by rfl) :
    SI X W tg (.Call (.Name "range" p) [a, b] [] pos) (i_rng2 fa) := PI.imp (pi_range2 hg hm ha hs hs2) fun σ H Q q => by
  obtain ⟨rho, h, s, R, S, po⟩ := q
  refine step R S po fun rho1 h1 H1 ds e1 R1 S1 po1 vs r => ?_
  split at po1
  · rename_i i j
    by_cases q : (in62 i && in62 j) = true
    · simp only [q, if_true] at po1
      rw [Bool.and_eq_true] at q
      simp only [RelVs', RelDs, RelD] at r
      obtain ⟨v, rr, e2, e3, v2, rr2, e4, e5, e6⟩ := r
      subst e6 e5 e4 e3
      exact ⟨i, j, e2, ⟨(in62_ok q.1).1, (in62_ok q.1).2, (in62_ok q.2).1, (in62_ok q.2).2⟩, PostG.ok po1 R1 _ (serves_range i _)⟩
    · simp only [q] at po1; exact po1.elim
  · exact po1.elim
end

/-! ### for -/
def forM (p : Pat) (b : SF) : List D → SF
  | [] => fun s h => .ok (.nx s) h
  | d :: r => fun s h => match patD p d s with
    | some s1 => (match b s1 h with
      | .ok (.nx s2) h2 => forM p b r s2 h2
      | .ok (.ct s2) h2 => forM p b r s2 h2
      | .ok (.bk s2) h2 => .ok (.nx s2) h2
      | r => r)
    | none => .fail
def s_for (i : AF) (p : Pat) (b : SF) : SF := fun s h => bindE (i s h) s fun items h1 => forM p b items s h1
theorem r_for {X : Cx} {W : WX} {tg iter : Expr} {body : List Stmt} {pos : Pos} {fi : AF} {p : Pat} {b : SF} (hp : PassesOwn (model X.prog X.w) X.A X.env X.xe) (hc : X.calm = true) (hi : SI X W tg iter fi) (hg : SG X tg p) (hb : SSs X W body b)
    (hs : ∀ x, foldedSetIterable iter X.env x = pure x := by intro _; rfl) : SS X W (.For tg iter body [] pos) (s_for fi p b) :=
  PS.imp (ps_for hp hc hi hg hb hs) fun E σ H q => by
    obtain ⟨rho, h, s, R, S, po⟩ := q
    refine stepS R S po fun rho0 h0 H0 items e0 R0 S0 po0 J sv => ?_
    refine ⟨fun i m σ H => i + m = items.length ∧ ∃ rho h s, Ext X.K rho0 h0 H0 rho h H ∧ Rel X.K rho h H ∧ RelS X.K rho h H s σ ∧ PostG X.K X.mg (fun _ _ _ => False) rho h H (forM p b (items.drop i) s h) (pS X.K W X.mg E),
      ⟨items.length, by simp, rho0, h0, s, Ext.refl, R0, S0, by simpa using po0⟩, fun i m σ H q => ?_⟩
    obtain ⟨hm, rho, h, s, e1, R1, S1, po1⟩ := q
    obtain ⟨s1, s2⟩ := sv rho h H e1.z R1 i
    cases hi : items[i]? with
    | none =>
      have hl : items.length ≤ i := List.getElem?_eq_none_iff.mp hi
      rw [List.drop_eq_nil_of_le hl] at po1
      exact .inl ⟨s2 hl, PostG.ok po1 R1 σ S1⟩
    | some d =>
      have hl : i < items.length := (List.getElem?_eq_some_iff.mp hi).1
      have ed : items.drop i = d :: items.drop (i + 1) := by
        rw [List.drop_eq_getElem_cons hl]
        congr 1
        exact (List.getElem?_eq_some_iff.mp hi).2
      rw [ed] at po1
      obtain ⟨go, yl⟩ := s1 d hi
      refine .inr ⟨go, fun σ' H' => ∃ rho h s, Ext X.K rho0 h0 H0 rho h H' ∧ Rel X.K rho h H' ∧ RelS X.K rho h H' s σ' ∧ PostG X.K X.mg (fun _ _ _ => False) rho h H' (forM p b (items.drop (i + 1)) s h) (pS X.K W X.mg E),
        fun σ' H' z => ⟨m - 1, by omega, by omega, z⟩, fun x H2 y => ?_⟩
      obtain ⟨e2, R2, r⟩ := yl x H2 y
      simp only [forM] at po1
      cases q : patD p d s with
      | none => rw [q] at po1; exact po1.elim
      | some s1' =>
        rw [q] at po1
        obtain ⟨σ', S', z, _⟩ := patG_ok p d x s s1' σ r (e2.s S1) q
        refine z _ ⟨rho, h, s1', R2, S', ?_⟩
        have po2 := PostG.ext e2 po1
        cases qb : b s1' h with
        | ok fl h2 =>
          simp only [qb] at po2
          cases fl with
          | nx s2 => exact fun rho' H' e R' σ' S' => ⟨rho', h2, s2, (e1.trans e2).trans e, R', S', PostG.ext e po2⟩
          | ct s2 => exact fun rho' H' e R' σ' S' => ⟨rho', h2, s2, (e1.trans e2).trans e, R', S', PostG.ext e po2⟩
          | bk s2 => exact po2
          | rt d => exact po2
          | ex x s2 => exact po2
        | exc x h2 => simp only [qb] at po2; exact po2
        | fail => simp only [qb] at po2; exact po2

/-! ### list comprehensions: one clause -/
def wipeD (s : Ev) : List Nat → Ev
  | [] => s
  | v :: vs => (wipeD s vs).set v none
theorem wipeD_get (s : Ev) (j : Nat) : ∀ vs : List Nat, (wipeD s vs)[j]? = if j ∈ vs then (if j < s.length then some none else none) else s[j]?
  | [] => by simp [wipeD]
  | v :: vs => by
    have hw : ∀ vs, (wipeD s vs).length = s.length := by
      intro vs
      induction vs with
      | nil => rfl
      | cons v vs ih => simp [wipeD, ih]
    unfold wipeD
    by_cases hv : v = j
    · subst hv
      by_cases hl : v < s.length
      · rw [List.getElem?_set_self (by rw [hw]; exact hl)]
        simp [hl]
      · rw [List.getElem?_eq_none (by simp [hw]; omega)]
        simp [hl]
    · rw [List.getElem?_set_ne hv, wipeD_get s j vs]
      have : ¬ j = v := fun e => hv e.symm
      simp [this]
theorem RelS.wipe {K : PySem.W.Frag} {rho : Rh} {h : Hd} {H : Hp} {s : Ev} {σ : St} (S : RelS K rho h H s σ) (vs : List Nat) : RelS K rho h H (wipeD s vs) (L2.wipe σ vs) := by
  have hw : ∀ vs, (wipeD s vs).length = s.length := by
    intro vs
    induction vs with
    | nil => rfl
    | cons v vs ih => simp [wipeD, ih]
  refine ⟨by rw [hw, wipe_length]; exact S.1, fun i d e => ?_⟩
  rw [wipeD_get] at e
  split at e
  · split at e <;> cases e
  · rename_i hn
    obtain ⟨v, a, b⟩ := S.2 i d e
    exact ⟨v, by rw [wipe_get]; simp [hn, a], b⟩
/-- ok: no exception leaves a comprehension -/
def lcM (p : Pat) (tt : TF) (te : EF) (s0 : Ev) : List D → List D → Hd → Option (List D × Hd)
  | [], acc, h => some (acc, h)
  | d :: r, acc, h => match patD p d s0 with
    | some s1 => (match tt s1 h with
      | .ok true h1 => (match te s1 h1 with
        | .ok y h2 => if acc.length < sizeLine then lcM p tt te s0 r (acc ++ [y]) h2 else none
        | _ => none)
      | .ok false h1 => lcM p tt te s0 r acc h1
      | _ => none)
    | none => none
def e_lc (own : List Nat) (i : AF) (p : Pat) (tt : TF) (te : EF) : EF := fun s h => (i s h).bind fun items h1 => match lcM p tt te (wipeD s own) items [] h1 with
  | some (ys, h2) => .ok (.lv ys) h2
  | none => .fail
def t_yes : TF := fun _ h => .ok true h
abbrev W0 : WX := fun _ _ _ _ => False
theorem wipe_wipe (σ : St) (vs : List Nat) : wipe (wipe σ vs) vs = wipe σ vs := by
  apply List.ext_getElem?
  intro j
  rw [wipe_get, wipe_get, wipe_length]
  by_cases hj : j ∈ vs <;> simp [hj]
def zAdd (rho : Rh) (a : Addr) : Rh := ⟨rho.f, fun b => rho.Z b ∨ b = a⟩
def zDel (rho : Rh) (a : Addr) : Rh := ⟨rho.f, fun b => rho.Z b ∧ b ≠ a⟩
section
variable {K : PySem.W.Frag} {rho rho1 : Rh} {h h1 : Hd} {H H1 : Hp} {p : Addr} {o : HO}
/-- a new object is laid, its address reserved -/
theorem Ext.zin (R : Rel K rho h H) (np : H p = none) : Ext K rho h H (zAdd rho p) h (L2.upd H p o) :=
  { Ext.upd R np o with zi := fun a e => .inl e, zo := fun a e => e.elim .inl fun q => .inr (by rw [q]; exact np) }
theorem Rel.zin (R : Rel K rho h H) (np : H p = none) : Rel K (zAdd rho p) h (L2.upd H p o) := by
  refine ⟨R.inj, fun m ob e => ?_, fun a z => ?_, fun m hm z => ?_⟩
  · have c := R.cell m ob e
    cases ob with
    | dead => trivial
    | lst xs =>
      obtain ⟨us, a, b⟩ := c
      have hm := (List.getElem?_eq_some_iff.mp e).1
      exact ⟨us, by show L2.upd H p o (rho m) = _; rw [upd_ne (ne_of_none a np)]; exact a, RelDs.mono (Ext.zin R np) (Nat.le_refl _) (Nat.le_of_lt hm) _ _ b⟩
  · rcases z with z | z
    · exact (R.upd np o).zd a z
    · rw [z, upd_same]; simp
  · rcases z with z | z
    · exact R.zc m hm z
    · obtain ⟨us, q⟩ := R.at hm
      rw [show (zAdd rho p) m = rho m from rfl] at z
      rw [z, np] at q; cases q
/-- what stands at an address that was free is changed -/
theorem Ext.over (x : Ext K rho h H rho1 h1 H1) (np : H p = none) : Ext K rho h H rho1 h1 (L2.upd H1 p o) where
  le := x.le
  ag := x.ag
  lv := x.lv
  fr := x.fr
  kp := fun a o e n => by rw [upd_ne (ne_of_none e np)]; exact x.kp a o e n
  tp := fun a us e => by rw [upd_ne (ne_of_none e np)]; exact x.tp a us e
  fz := fun a o u e => by rw [upd_ne (ne_of_none e np)]; exact x.fz a o u e
  dm := fun a e => by
    by_cases q : a = p
    · subst q; exact np
    · rw [upd_ne q] at e; exact x.dm a e
  zi := x.zi
  zo := x.zo
theorem RelD.grow {us us' : List V} (hp : H p = some (.lst us)) (hz : rho.Z p) (d : D) : ∀ (v : V) (B : Nat), RelD K rho h B H d v → RelD K rho h B (L2.upd H p (.lst us')) d v := by
  refine D.rec (motive_1 := fun d => ∀ (v : V) (B : Nat), RelD K rho h B H d v → RelD K rho h B (L2.upd H p (.lst us')) d v)
    (motive_2 := fun ds => ∀ (vs : List V) (B : Nat), RelDs K rho h B H ds vs → RelDs K rho h B (L2.upd H p (.lst us')) ds vs) ?_ ?_ ?_ ?_ ?_ ?_ ?_ ?_ ?_ ?_ d
  · intro v B e; simp only [RelD] at e ⊢; exact e
  · intro b v B e; simp only [RelD] at e ⊢; exact e
  · intro b v B e; simp only [RelD] at e ⊢; exact e
  · intro b v B e; simp only [RelD] at e ⊢; exact e
  · intro xs ih v B e
    simp only [RelD] at e ⊢
    obtain ⟨a, ws, e1, e2, e3⟩ := e
    refine ⟨a, ws, e1, ?_, ih ws B e3⟩
    rcases e2 with (e2 | ⟨o, e2⟩) | e2
    · exact .inl (.inl (by rw [upd_ne (ne_of e2 hp (by intro z; cases z))]; exact e2))
    · exact .inl (.inr ⟨o, by rw [upd_ne (ne_of e2 hp (by intro z; cases z))]; exact e2⟩)
    · exact .inr e2
  · intro xs ih v B e
    simp only [RelD] at e ⊢
    obtain ⟨a, ws, e1, e2, e3⟩ := e
    refine ⟨a, ws, e1, ?_, ih ws B e3⟩
    obtain ⟨e2, z, n⟩ := e2
    have ne : a ≠ p := fun q => z (q ▸ hz)
    exact ⟨by rw [upd_ne ne]; exact e2, z, n⟩
  · intro xs ih v B e
    simp only [RelD] at e ⊢
    obtain ⟨a, ws, e1, e2, e3⟩ := e
    refine ⟨a, ws, e1, ?_, ih ws B e3⟩
    rcases e2 with ⟨o, e2⟩ | e2
    · exact .inl ⟨o, by rw [upd_ne (ne_of e2 hp (by intro z; cases z))]; exact e2⟩
    · exact .inr e2
  · intro n v B e; simp only [RelD] at e ⊢; exact e
  · intro vs B e; simp only [RelDs] at e ⊢; exact e
  · intro d ds i1 i2 vs B e
    simp only [RelDs] at e ⊢
    obtain ⟨v, r, e1, e2, e3⟩ := e
    exact ⟨v, r, e1, i1 v B e2, i2 r B e3⟩
theorem RelDs.grow {us us' : List V} (hp : H p = some (.lst us)) (hz : rho.Z p) : ∀ (ds : List D) (vs : List V) (B : Nat), RelDs K rho h B H ds vs → RelDs K rho h B (L2.upd H p (.lst us')) ds vs
  | [], vs, B, e => by simp only [RelDs] at e ⊢; exact e
  | d :: ds, vs, B, e => by
    simp only [RelDs] at e ⊢
    obtain ⟨v, r, e1, e2, e3⟩ := e
    exact ⟨v, r, e1, RelD.grow hp hz d v B e2, RelDs.grow hp hz ds r B e3⟩
theorem Rel.grow (R : Rel K rho h H) {us us' : List V} (hp : H p = some (.lst us)) (hz : rho.Z p) : Rel K rho h (L2.upd H p (.lst us')) := by
  refine ⟨R.inj, fun m ob e => ?_, fun a z => ?_, R.zc⟩
  · have c := R.cell m ob e
    cases ob with
    | dead => trivial
    | lst xs =>
      obtain ⟨ws, a, b⟩ := c
      have ne : rho m ≠ p := fun q => R.zc m (by unfold live; rw [e]) (q ▸ hz)
      exact ⟨ws, by rw [upd_ne ne]; exact a, RelDs.grow hp hz _ _ m b⟩
  · by_cases q : a = p
    · rw [q, upd_same]; simp
    · rw [upd_ne q]; exact R.zd a z
/-- the reserved address is let go -/
theorem RelD.zdel (d : D) : ∀ (v : V) (B : Nat), RelD K rho h B H d v → RelD K (zDel rho p) h B H d v := by
  refine D.rec (motive_1 := fun d => ∀ (v : V) (B : Nat), RelD K rho h B H d v → RelD K (zDel rho p) h B H d v)
    (motive_2 := fun ds => ∀ (vs : List V) (B : Nat), RelDs K rho h B H ds vs → RelDs K (zDel rho p) h B H ds vs) ?_ ?_ ?_ ?_ ?_ ?_ ?_ ?_ ?_ ?_ d
  · intro v B e; simp only [RelD] at e ⊢; exact e
  · intro b v B e; simp only [RelD] at e ⊢; exact e
  · intro b v B e; simp only [RelD] at e ⊢; exact e
  · intro b v B e; simp only [RelD] at e ⊢; exact e
  · intro xs ih v B e
    simp only [RelD] at e ⊢
    obtain ⟨a, ws, e1, e2, e3⟩ := e
    exact ⟨a, ws, e1, e2, ih ws B e3⟩
  · intro xs ih v B e
    simp only [RelD] at e ⊢
    obtain ⟨a, ws, e1, e2, e3⟩ := e
    refine ⟨a, ws, e1, ?_, ih ws B e3⟩
    obtain ⟨e2, z, n⟩ := e2
    exact ⟨e2, fun q => z q.1, n⟩
  · intro xs ih v B e
    simp only [RelD] at e ⊢
    obtain ⟨a, ws, e1, e2, e3⟩ := e
    exact ⟨a, ws, e1, e2, ih ws B e3⟩
  · intro n v B e; simp only [RelD] at e ⊢; exact e
  · intro vs B e; simp only [RelDs] at e ⊢; exact e
  · intro d ds i1 i2 vs B e
    simp only [RelDs] at e ⊢
    obtain ⟨v, r, e1, e2, e3⟩ := e
    exact ⟨v, r, e1, i1 v B e2, i2 r B e3⟩
theorem RelDs.zdel : ∀ (ds : List D) (vs : List V) (B : Nat), RelDs K rho h B H ds vs → RelDs K (zDel rho p) h B H ds vs
  | [], vs, B, e => by simp only [RelDs] at e ⊢; exact e
  | d :: ds, vs, B, e => by
    simp only [RelDs] at e ⊢
    obtain ⟨v, r, e1, e2, e3⟩ := e
    exact ⟨v, r, e1, RelD.zdel d v B e2, RelDs.zdel ds r B e3⟩
theorem Rel.zdel (R : Rel K rho h H) : Rel K (zDel rho p) h H := by
  refine ⟨R.inj, fun m ob e => ?_, fun a z => R.zd a z.1, fun m hm z => R.zc m hm z.1⟩
  have c := R.cell m ob e
  cases ob with
  | dead => trivial
  | lst xs =>
    obtain ⟨ws, a, b⟩ := c
    exact ⟨ws, a, RelDs.zdel _ _ m b⟩
theorem Ext.zdel (R : Rel K rho h H) (x : Ext K rho h H rho1 h1 H1) (np : H p = none) : Ext K rho h H (zDel rho1 p) h1 H1 :=
  { x with zi := fun a z => ⟨x.zi a z, fun q => R.zd a z (by rw [q]; exact np)⟩, zo := fun a z => x.zo a z.1 }
end
theorem tE.lc {K : PySem.W.Frag} {mg : Str → Option Value} {W : WX} {own : List Nat} {fi : AF} {p : Pat} {tt : TF} {te : EF} (hp : ∀ i ∈ patI p, i ∈ own) {σ : St} {H : Hp} {Q : VK} (q : tE K mg W (e_lc own fi p tt te) σ H Q) :
    tLc (tI K mg W fi) (patG K p) (tT K mg W0 tt) (tE K mg W0 te) own σ H Q := by
  obtain ⟨rho, h, s, R, S, po⟩ := q
  refine step R S po fun rho0 h0 H0 items e0 R0 S0 po0 J sv => fun Dl np => ?_
  refine ⟨fun i k H => i + k = items.length ∧ ∃ rho h acc us, Ext K rho0 h0 H0 rho h H ∧ rho.Z Dl ∧ Rel K rho h H ∧ H Dl = some (.lst us) ∧ RelVs' K rho h H acc us ∧
      PostG K mg (fun c d H' => W c d σ H') rho0 h0 H0 (match lcM p tt te (wipeD s own) (items.drop i) acc h with
        | some (ys, h2) => Res.ok (.lv ys) h2
        | none => Res.fail) (pE K Q), ?_, fun i k H q => ?_⟩
  · exact ⟨items.length, by simp, zAdd rho0 Dl, h0, [], [], Ext.zin R0 np, .inr rfl, R0.zin np, upd_same, by simp only [RelVs', RelDs], by simpa using po0⟩
  · obtain ⟨hk, rho1, h1, acc, us, x1, hz, R1, hD, ra, po1⟩ := q
    have nD : ∀ m, live h1 m = true → rho1 m ≠ Dl := fun m hm q => R1.zc m hm (q ▸ hz)
    obtain ⟨s1, s2⟩ := sv rho1 h1 H x1.z R1 i
    cases hi : items[i]? with
    | none =>
      have hl : items.length ≤ i := List.getElem?_eq_none_iff.mp hi
      rw [List.drop_eq_nil_of_le hl] at po1
      refine .inl ⟨s2 hl, po1 (zDel rho1 Dl) H (Ext.zdel R0 x1 np) R1.zdel _ ?_⟩
      simp only [RelV', RelD]
      exact ⟨Dl, us, rfl, ⟨hD, fun z => z.2 rfl, nD⟩, RelDs.zdel _ _ _ ra⟩
    | some d =>
      have hl : i < items.length := (List.getElem?_eq_some_iff.mp hi).1
      have ed : items.drop i = d :: items.drop (i + 1) := by
        rw [List.drop_eq_getElem_cons hl]
        congr 1
        exact (List.getElem?_eq_some_iff.mp hi).2
      rw [ed] at po1
      obtain ⟨go, yl⟩ := s1 d hi
      refine .inr ⟨go, fun H' => ∃ rho h acc us, Ext K rho0 h0 H0 rho h H' ∧ rho.Z Dl ∧ Rel K rho h H' ∧ H' Dl = some (.lst us) ∧ RelVs' K rho h H' acc us ∧
          PostG K mg (fun c d H' => W c d σ H') rho0 h0 H0 (match lcM p tt te (wipeD s own) (items.drop (i + 1)) acc h with
            | some (ys, h2) => Res.ok (.lv ys) h2
            | none => Res.fail) (pE K Q),
        fun H' z => ⟨k - 1, by omega, by omega, z⟩, fun x H2 y => ?_⟩
      obtain ⟨e2, R2, r⟩ := yl x H2 y
      have hD2 := e2.kp _ _ hD nD
      simp only [lcM] at po1
      cases q : patD p d (wipeD s own) with
      | none => simp only [q] at po1; exact po1.elim
      | some s1' =>
        simp only [q] at po1
        have x2 := x1.trans e2
        obtain ⟨σ', S', z, wp⟩ := patG_ok p d x (wipeD s own) s1' (wipe σ own) r (RelS.wipe (x2.s S0) own) q
        refine z _ ⟨by rw [wp own hp, wipe_wipe], rho1, h1, s1', R2, S', ?_⟩
        cases qt : tt s1' h1 with
        | fail => simp only [qt] at po1; exact po1.elim
        | exc _ _ => simp only [qt] at po1; exact po1.elim
        | ok c h2 =>
          simp only [qt] at po1
          intro rho3 H3 e3 R3
          have hz3 : rho3.Z Dl := e3.zi _ hz
          have hD3 := e3.kp _ _ hD2 nD
          cases c with
          | false => exact iteF ⟨rho3, h2, acc, us, x2.trans e3, hz3, R3, hD3, (e2.trans e3).vs ra, po1⟩
          | true =>
            refine iteT ⟨rho3, h2, s1', R3, e3.s S', ?_⟩
            cases qe : te s1' h2 with
            | fail => simp only [qe] at po1; exact po1.elim
            | exc _ _ => simp only [qe] at po1; exact po1.elim
            | ok yv h3 =>
              simp only [qe] at po1
              intro rho4 H4 e4 R4 v rv
              have nD3 : ∀ m, live h2 m = true → rho3 m ≠ Dl := fun m hm q => R3.zc m hm (q ▸ hz3)
              have hD4 := e4.kp _ _ hD3 nD3
              have hz4 : rho4.Z Dl := e4.zi _ hz3
              have ra4 := (e2.trans (e3.trans e4)).vs ra
              by_cases hlen : acc.length < sizeLine
              · simp only [hlen, if_true] at po1
                refine ⟨us, hD4, by rw [← RelDs.length ra]; exact hlen, rho4, h3, acc ++ [yv], us ++ [v], (x2.trans (e3.trans e4)).over np, hz4, R4.grow hD4 hz4, upd_same, ?_, po1⟩
                refine RelDs.append (RelDs.grow hD4 hz4 _ _ _ ra4) ?_
                simp only [RelDs]
                exact ⟨v, [], rfl, RelD.grow hD4 hz4 _ _ _ rv, rfl⟩
              · simp only [hlen, if_false] at po1; exact po1.elim
section
variable {X : Cx} {W : WX} {elt tg iter : Expr} {ifs : List Expr} {scope : Scope} {own : List (Str × Nat)} {pos : Pos} {fi : AF} {p : Pat} {tt : TF} {te : EF}
theorem rts_nil : PTs X [] (tT X.K X.mg W t_yes) := ⟨fun pins s σ H Q I q => pts_nil.run pins s σ H Q I (by
  obtain ⟨rho, h, s, R, S, po⟩ := q
  exact PostG.ok po R)⟩
theorem rts_one {c : Expr} (h : ST X W c tt) : PTs X [c] (tT X.K X.mg W tt) := pts_one h
/-- what a comprehension's block asks of its parts -/
structure Blk (X : Cx) (scope : Scope) (tg : Expr) (ifs : List Expr) (elt : Expr) (p : Pat) (tt : TF) (te : EF) : Prop where
  hg : ∀ (s : Shared) (H : Hp) (C : Addr) (cl : List (Str × Addr)) (fp : List Addr), SG (X.blk s H scope (compEnvC scope cl C X.env) fp) tg p
  ht : ∀ (s : Shared) (H : Hp) (C : Addr) (cl : List (Str × Addr)) (fp : List Addr), PTs (X.blk s H scope (compEnvC scope cl C X.env) fp) ifs (tT X.K X.mg W0 tt)
  he : ∀ (s : Shared) (H : Hp) (C : Addr) (cl : List (Str × Addr)) (fp : List Addr), SE (X.blk s H scope (compEnvC scope cl C X.env) fp) W0 elt te
theorem r_lc {oi : List Nat} (hN : X.N.Nodup) (hc : X.calm = true) (hi : SI X W tg iter fi) (ok : BlkOk X.N X.env.scope scope own) (b : Blk X scope tg ifs elt p tt te) (hp : ∀ i ∈ patI p, i ∈ oi) (ho : own.map (·.2) = oi := by rfl) (hs : ∀ x, foldedSetIterable iter X.env x = pure x := by intro _; rfl) :
    SE X W (.ListComp elt [⟨tg, iter, ifs, 0⟩] scope pos) (e_lc oi fi p tt te) := PE.imp (pe_lc hc hN hi ok b.hg b.ht b.he hs) fun _ _ _ h => by subst ho; exact tE.lc hp h
theorem r_setLc {oi : List Nat} {i : Nat} {y : Str} {py spos : Pos} (hN : X.N.Nodup) (hc : X.calm = true) (hi : SI X W tg iter fi) (ok : BlkOk X.N X.env.scope scope own) (b : Blk X scope tg ifs elt p tt te) (hp : ∀ i ∈ patI p, i ∈ oi)
    (hsw : swapsWith (.ListComp elt [⟨tg, iter, ifs, 0⟩] scope pos) (some (.Name y py)) spos.line X.env = pure true) (ho : own.map (·.2) = oi := by rfl) (hy : X.N[i]? = some y := by rfl) (hyl : X.env.scope.names.lookup y = some .local := by rfl) (hs : ∀ x, foldedSetIterable iter X.env x = pure x := by intro _; rfl) :
    SS X W (.Assign [.Name y py] (.ListComp elt [⟨tg, iter, ifs, 0⟩] scope pos) spos) (s_set i (e_lc oi fi p tt te)) := PS.imp (ps_setLc hc hN hy hyl hsw hi ok b.hg b.ht b.he hs) fun E σ H h => by
  subst ho
  obtain ⟨rho, h, s, R, S, po⟩ := h
  exact tE.lc (W := W) hp (stepS R S po fun rho1 h1 H1 x e1 R1 S1 po1 v r => PostG.ok po1 R1 _ (S1.set r i))
end
end Mini
namespace Mini
open PySem PySem.Spec PyProof.Rows L2

/-! ### defs: their mirrors, promises and calls -/
abbrev MF := List D → Hd → Res D
mutual
def noRef : D → Bool
  | .tup xs => noRefs xs
  | .lv xs => noRefs xs
  | .fl xs => noRefs xs
  | .ref _ => false
  | _ => true
def noRefs : List D → Bool
  | [] => true
  | d :: ds => noRef d && noRefs ds
end
theorem noRefs_iff : ∀ ds : List D, noRefs ds = true ↔ ∀ d ∈ ds, noRef d = true
  | [] => by simp [noRefs]
  | d :: ds => by simp [noRefs, noRefs_iff ds]
section
variable {K : PySem.W.Frag} {rho : Rh} {h h' : Hd} {H : Hp}
theorem RelD.noref (hl : ∀ m, live h' m = true → live h m = true) (d : D) : ∀ (v : V) (B B' : Nat), noRef d = true → RelD K rho h B H d v → RelD K rho h' B' H d v := by
  refine D.rec (motive_1 := fun d => ∀ (v : V) (B B' : Nat), noRef d = true → RelD K rho h B H d v → RelD K rho h' B' H d v)
    (motive_2 := fun ds => ∀ (vs : List V) (B B' : Nat), noRefs ds = true → RelDs K rho h B H ds vs → RelDs K rho h' B' H ds vs) ?_ ?_ ?_ ?_ ?_ ?_ ?_ ?_ ?_ ?_ d
  · intro v B B' n e; simp only [RelD] at e ⊢; exact e
  · intro b v B B' n e; simp only [RelD] at e ⊢; exact e
  · intro b v B B' n e; simp only [RelD] at e ⊢; exact e
  · intro b v B B' n e; simp only [RelD] at e ⊢; exact e
  · intro xs ih v B B' n e
    simp only [RelD] at e ⊢
    obtain ⟨a, ws, e1, e2, e3⟩ := e
    exact ⟨a, ws, e1, e2, ih ws B B' (by simpa [noRef] using n) e3⟩
  · intro xs ih v B B' n e
    simp only [RelD] at e ⊢
    obtain ⟨a, ws, e1, e2, e3⟩ := e
    refine ⟨a, ws, e1, ?_, ih ws B B' (by simpa [noRef] using n) e3⟩
    obtain ⟨e2, z, k⟩ := e2
    exact ⟨e2, z, fun m hm => k m (hl m hm)⟩
  · intro xs ih v B B' n e
    simp only [RelD] at e ⊢
    obtain ⟨a, ws, e1, e2, e3⟩ := e
    exact ⟨a, ws, e1, e2, ih ws B B' (by simpa [noRef] using n) e3⟩
  · intro n v B B' q e; simp [noRef] at q
  · intro vs B B' n e; simp only [RelDs] at e ⊢; exact e
  · intro d ds i1 i2 vs B B' n e
    simp only [noRefs, Bool.and_eq_true] at n
    simp only [RelDs] at e ⊢
    obtain ⟨v, r, e1, e2, e3⟩ := e
    exact ⟨v, r, e1, i1 v B B' n.1 e2, i2 r B B' n.2 e3⟩
theorem RelDs.noref (hl : ∀ m, live h' m = true → live h m = true) : ∀ (ds : List D) (vs : List V) (B B' : Nat), noRefs ds = true → RelDs K rho h B H ds vs → RelDs K rho h' B' H ds vs
  | [], vs, B, B', n, e => by simp only [RelDs] at e ⊢; exact e
  | d :: ds, vs, B, B', n, e => by
    simp only [noRefs, Bool.and_eq_true] at n
    simp only [RelDs] at e ⊢
    obtain ⟨v, r, e1, e2, e3⟩ := e
    exact ⟨v, r, e1, RelD.noref hl d v B B' n.1 e2, RelDs.noref hl ds r B B' n.2 e3⟩
/-- fewer live cells: all values stay -/
theorem RelD.less (hl : ∀ m, live h' m = true → live h m = true) (d : D) : ∀ (v : V) (B : Nat), RelD K rho h B H d v → RelD K rho h' B H d v := by
  refine D.rec (motive_1 := fun d => ∀ (v : V) (B : Nat), RelD K rho h B H d v → RelD K rho h' B H d v)
    (motive_2 := fun ds => ∀ (vs : List V) (B : Nat), RelDs K rho h B H ds vs → RelDs K rho h' B H ds vs) ?_ ?_ ?_ ?_ ?_ ?_ ?_ ?_ ?_ ?_ d
  · intro v B e; simp only [RelD] at e ⊢; exact e
  · intro b v B e; simp only [RelD] at e ⊢; exact e
  · intro b v B e; simp only [RelD] at e ⊢; exact e
  · intro b v B e; simp only [RelD] at e ⊢; exact e
  · intro xs ih v B e
    simp only [RelD] at e ⊢
    obtain ⟨a, ws, e1, e2, e3⟩ := e
    exact ⟨a, ws, e1, e2, ih ws B e3⟩
  · intro xs ih v B e
    simp only [RelD] at e ⊢
    obtain ⟨a, ws, e1, e2, e3⟩ := e
    refine ⟨a, ws, e1, ?_, ih ws B e3⟩
    obtain ⟨e2, z, k⟩ := e2
    exact ⟨e2, z, fun m hm => k m (hl m hm)⟩
  · intro xs ih v B e
    simp only [RelD] at e ⊢
    obtain ⟨a, ws, e1, e2, e3⟩ := e
    exact ⟨a, ws, e1, e2, ih ws B e3⟩
  · intro n v B e; simp only [RelD] at e ⊢; exact e
  · intro vs B e; simp only [RelDs] at e ⊢; exact e
  · intro d ds i1 i2 vs B e
    simp only [RelDs] at e ⊢
    obtain ⟨v, r, e1, e2, e3⟩ := e
    exact ⟨v, r, e1, i1 v B e2, i2 r B e3⟩
theorem RelDs.less (hl : ∀ m, live h' m = true → live h m = true) : ∀ (ds : List D) (vs : List V) (B : Nat), RelDs K rho h B H ds vs → RelDs K rho h' B H ds vs
  | [], vs, B, e => by simp only [RelDs] at e ⊢; exact e
  | d :: ds, vs, B, e => by
    simp only [RelDs] at e ⊢
    obtain ⟨v, r, e1, e2, e3⟩ := e
    exact ⟨v, r, e1, RelD.less hl d v B e2, RelDs.less hl ds r B e3⟩
theorem live_take {n m : Nat} (e : live (h.take n) m = true) : live h m = true ∧ m < n := by
  have hl := live_lt e
  have hn : m < n := by rw [List.length_take] at hl; omega
  unfold live at e ⊢
  rw [List.getElem?_take_of_lt hn] at e
  exact ⟨e, hn⟩
theorem Rel.take (R : Rel K rho h H) (n : Nat) : Rel K rho (h.take n) H := by
  refine ⟨fun m k hm hk e => R.inj m k (live_take hm).1 (live_take hk).1 e, fun m o e => ?_, R.zd, fun m hm => R.zc m (live_take hm).1⟩
  have hl := (List.getElem?_eq_some_iff.mp e).1
  have hn : m < n := by rw [List.length_take] at hl; omega
  rw [List.getElem?_take_of_lt hn] at e
  have c := R.cell m o e
  cases o with
  | dead => trivial
  | lst xs =>
    obtain ⟨us, a, b⟩ := c
    exact ⟨us, a, RelDs.less (fun m hm => (live_take hm).1) _ _ _ b⟩
theorem Ext.take {rho' : Rh} {H' : Hp} (x : Ext K rho h H rho' h' H') : Ext K rho h H rho' (h'.take h.length) H' :=
  { x with
    le := by rw [List.length_take, Nat.min_eq_left x.le]; exact Nat.le_refl _
    lv := fun m hm e => x.lv m hm (live_take e).1
    fr := fun m hm e => absurd (live_take e).2 (Nat.not_lt.mpr hm) }
end
/-- what a def hands out: its own cells are dropped; one of them that is handed out becomes a value -/
def sealD (n : Nat) (d : D) (h : Hd) : Option D := match d with
  | .ref k => if k < n then some (.ref k) else match h[k]? with
    | some (.lst xs) => if noRefs xs then some (.lv xs) else none
    | _ => none
  | d => if noRef d then some d else none
theorem sealD_ok {K : PySem.W.Frag} {rho : Rh} {h : Hd} {H : Hp} {n : Nat} {d d' : D} {v : V} (R : Rel K rho h H) (hn : n ≤ h.length) (r : RelV' K rho h H d v) (e : sealD n d h = some d') : RelV' K rho (h.take n) H d' v := by
  have len : (h.take n).length = n := by rw [List.length_take, Nat.min_eq_left hn]
  have other : noRef d = true → d' = d → RelV' K rho (h.take n) H d' v := fun q1 q2 => by rw [q2]; exact RelD.noref (fun m hm => (live_take hm).1) d v _ _ q1 r
  cases d with
  | ref k =>
    simp only [sealD] at e
    by_cases hk : k < n
    · simp only [hk, if_true, Option.some.injEq] at e
      subst e
      simp only [RelV', RelD] at r ⊢
      exact ⟨by rw [len]; exact hk, r.2⟩
    · simp only [hk, if_false] at e
      cases q : h[k]? with
      | none => rw [q] at e; cases e
      | some o =>
        cases o with
        | dead => rw [q] at e; cases e
        | lst xs =>
          rw [q] at e
          simp only at e
          by_cases hx : noRefs xs = true
          · simp only [hx, if_true, Option.some.injEq] at e
            subst e
            obtain ⟨us, a, b⟩ := R.cellL q
            have lk : live h k = true := by unfold live; rw [q]
            simp only [RelV', RelD] at r ⊢
            refine ⟨rho k, us, r.2, ⟨a, R.zc k lk, fun m hm z => ?_⟩, RelDs.noref (fun m hm => (live_take hm).1) _ _ _ _ hx b⟩
            have := R.inj m k (live_take hm).1 lk z
            exact hk (this ▸ (live_take hm).2)
          · simp only [hx] at e; cases e
  | _ =>
    all_goals
      simp only [sealD] at e
      split at e
      · rename_i q; cases e; exact other q rfl
      · cases e
def sealX (x : Ex) : Bool := noRefs (x.fs.map (·.2))
/-- the body's run: a def of np parameters and n names -/
def runB (np n : Nat) (b : SF) : MF := fun ds h => if ds.length = np then (match b (ds.map some ++ List.replicate (n - ds.length) none) h with
  | .ok (.nx _) h' => .ok .non h'
  | .ok (.rt d) h' => .ok d h'
  | .ok (.ex x _) h' => .exc x h'
  | _ => .fail) else .fail
def sealR (n : Nat) : Res D → Res D
  | .ok d h => match sealD n d h with
    | some d' => .ok d' (h.take n)
    | none => .fail
  | .exc x h => if sealX x then .exc x (h.take n) else .fail
  | .fail => .fail
def fnM (np n : Nat) (b : SF) : MF := fun ds h => sealR h.length (runB np n b ds h)
def spM (K : PySem.W.Frag) (mg : Str → Option Value) (m : MF) : Sp := fun vs H Q E => ∃ rho h ds, Rel K rho h H ∧ RelVs' K rho h H ds vs ∧ PostG K mg E rho h H (m ds h) (pE K Q)
theorem RelS.start {K : PySem.W.Frag} {rho : Rh} {h : Hd} {H : Hp} {N : List Str} {ds : List D} {vs : List V} (r : RelVs' K rho h H ds vs) : RelS K rho h H (ds.map some ++ List.replicate (N.length - ds.length) none) (L2.start N vs) := by
  have hl := RelDs.length r
  refine ⟨by unfold L2.start; simp [hl], fun i d e => ?_⟩
  unfold L2.start
  by_cases hi : i < ds.length
  · rw [List.getElem?_append_left (by simpa using hi)] at e
    rw [List.getElem?_map] at e
    cases q : ds[i]? with
    | none => rw [q] at e; simp at e
    | some d' =>
      rw [q] at e
      simp at e
      subst e
      obtain ⟨v, a, b⟩ := RelDs.get r q
      exact ⟨v, by rw [List.getElem?_append_left (by simp; omega), List.getElem?_map, a]; rfl, b⟩
  · rw [List.getElem?_append_right (by simpa using hi)] at e
    have := List.mem_of_getElem? e
    simp [List.mem_replicate] at this
section
variable {P : Program} {w : World} {K : PySem.W.Frag} {mg : Str → Option Value} {base : Heap}
/-- a def's mirror, kept by the def -/
theorem fn_zero {k : Nat} {f : Addr} {fd : FuncData} {ps : List Str} : FnOk P w K mg base (L2.CX P w) k f fd ps (spM K mg fun _ _ => .fail) where
  len := fun vs H Q E h => by obtain ⟨_, _, _, _, _, h⟩ := h; exact h.elim
  run := fun A outer s H args us vs Q E _ _ _ _ h => by obtain ⟨_, _, _, _, _, h⟩ := h; exact h.elim
theorem spM.len {np n : Nat} {b : SF} {vs : List V} {H : Hp} {Q : VK} {E : XK} (h : spM K mg (fnM np n b) vs H Q E) : vs.length = np := by
  obtain ⟨rho, h, ds, R, r, po⟩ := h
  by_cases q : ds.length = np
  · rw [← RelDs.length r]; exact q
  · unfold fnM runB at po; simp only [q, if_false] at po; exact po.elim
theorem fn_ok {x qual : Str} {st : Stmt} {f : Addr} {fd : FuncData} {N ps : List Str} {k : Nat} {b : SF} (F : Fun K x qual st f fd) (S : FnScope N ps (defScope st))
    (hb : ∀ (cdv : Value) (A : Around) (outer : List Env) (s : Shared) (H : Hp) (E : XK), Room k (A.deeper (envOfC qual (defScope st) s.heap.objs.size f cdv)) →
      SSs (cxOf (L2.CX P w) P w K mg base N qual (defScope st) f cdv A outer s H E) (fun cls d _ H => E cls d H) (defBody st) b) : FnOk P w K mg base (L2.CX P w) (k + 1) f fd ps (spM K mg (fnM ps.length N.length b)) := by
  refine F.okX S (fun vs H Q E h => spM.len h) fun cdv A outer s H vs Q E hr h => ⟨_, hb cdv A outer s H E hr, ?_⟩
  obtain ⟨rho, h, ds, R, r, po⟩ := h
  refine ⟨rho, h, ds.map some ++ List.replicate (N.length - ds.length) none, R, RelS.start r, ?_⟩
  unfold fnM runB at po
  by_cases q : ds.length = ps.length
  · simp only [q, if_true] at po
    rw [← q] at po
    cases qb : b (ds.map some ++ List.replicate (N.length - ds.length) none) h with
    | fail => rw [qb] at po; exact po
    | exc x h' => rw [qb] at po; exact po.elim
    | ok fl h' =>
      rw [qb] at po
      cases fl with
      | nx s1 => exact fun rho' H' e R' σ' S' => po rho' H' e.take (R'.take _) _ relNon
      | rt d =>
        intro rho' H' e R' v r'
        simp only [sealR] at po
        cases qs : sealD h.length d h' with
        | none => rw [qs] at po; exact po.elim
        | some d' => rw [qs] at po; exact po rho' H' e.take (R'.take _) v (sealD_ok R' e.le r' qs)
      | bk s1 => exact po.elim
      | ct s1 => exact po.elim
      | ex x s1 =>
        intro rho' H' e R' σ' cls dd S' rx
        simp only [sealR] at po
        by_cases qx : sealX x = true
        · simp only [qx, if_true] at po
          refine po rho' H' cls dd e.take (R'.take _) ?_
          obtain ⟨C, a1, a2, a3⟩ := rx
          refine ⟨C, a1, a2, ?_⟩
          rcases a3 with a3 | ⟨d, us, b1, b2, b3, b4⟩
          · exact .inl a3
          · exact .inr ⟨d, us, b1, b2, b3, RelDs.noref (fun m hm => (live_take hm).1) _ _ _ _ qx b4⟩
        · simp only [qx] at po; exact po.elim
  · simp only [q, if_false] at po; exact po.elim
/-- a def as its callers see it -/
structure Df (P : Program) (w : World) (K : PySem.W.Frag) (mg : Str → Option Value) (base : Heap) (k : Nat) (x : Str) (ps : List Str) (f : Addr) (fd : FuncData) (m : MF) : Prop where
  ok : FnOk P w K mg base (L2.CX P w) k f fd ps (spM K mg m)
  gl : mg x = some (.ref f)
  kp : PySem.W.keepIn K (.ref f) = true
  bd : Binds K fd ps []
end
/-- the arguments given by name put in the parameters' order -/
def permL {α : Type} (np nk : Nat) (perm : List Nat) (us ws : List α) : List α := if us.length = np ∧ ws.length = nk then perm.filterMap fun i => (us ++ ws)[i]? else []
def e_own (m : MF) (a : AF) : EF := fun s h => (a s h).bind fun xs h1 => m xs h1
def e_ownK (m : MF) (np nk : Nat) (perm : List Nat) (a k : AF) : EF := fun s h => (a s h).bind fun xs h1 => (k s h1).bind fun ys h2 => m (permL np nk perm xs ys) h2
theorem RelDs.perm {K : PySem.W.Frag} {rho : Rh} {h : Hd} {H : Hp} {B : Nat} {ds es : List D} {us ws : List V} (r1 : RelDs K rho h B H ds us) (r2 : RelDs K rho h B H es ws) (np nk : Nat) (perm : List Nat) : RelDs K rho h B H (permL np nk perm ds es) (permL np nk perm us ws) := by
  unfold permL
  rw [RelDs.length r1, RelDs.length r2]
  split
  · have r := RelDs.append r1 r2
    have hl := RelDs.length r
    induction perm with
    | nil => simp [RelDs]
    | cons i perm ih =>
      rw [List.filterMap_cons, List.filterMap_cons]
      cases q : (ds ++ es)[i]? with
      | none =>
        have : (us ++ ws)[i]? = none := by
          rw [List.getElem?_eq_none_iff] at q ⊢
          omega
        rw [this]; exact ih
      | some d =>
        obtain ⟨v, a, b⟩ := RelDs.get r q
        rw [a]
        simp only [RelDs]
        exact ⟨v, _, rfl, b, ih⟩
  · simp [RelDs]
theorem vals_perm {us : List V} {ws : List Value} {us2 : List V} {ws2 : List Value} (r1 : Vals us ws) (r2 : Vals us2 ws2) (np nk : Nat) (perm : List Nat) : Vals (permL np nk perm us us2) (permL np nk perm ws ws2) := by
  unfold permL
  rw [r1.length, r2.length]
  split
  · have r := r1.append r2
    have hl := r.length
    induction perm with
    | nil => exact .nil
    | cons i perm ih =>
      rw [List.filterMap_cons, List.filterMap_cons]
      cases q : (us ++ us2)[i]? with
      | none => rw [r.none_of q]; exact ih
      | some d =>
        obtain ⟨v, a, b⟩ := r.get q
        rw [a]
        exact .cons b ih
  · exact .nil
section
variable {X : Cx} {W : WX} {k j : Nat} {f : Addr} {fd : FuncData} {x : Str} {ps ks : List Str} {m : MF} {p pos : Pos} {e : Expr} {es : List Expr} {kws : List Keyword} {fa fk : AF}
theorem r_own (F : Df X.prog X.w X.K X.mg X.base k x ps f fd m) (hr : Room j X.A) (tk : Takes X W) (ha : SA X W (e :: es) fa) (hj : k ≤ j := by decide) (hg : Gl X x := by rfl) (hdb : (x == ("__debug__" : Str)) = false := by decide)
    (he : starEach (e :: es) X.env = (false, eval e X.env) :: starEach es X.env := by rfl) (hpl : (backTo pos (starEach es X.env)).any (·.1) = false := by rfl) : SE X W (.Call (.Name x p) (e :: es) [] pos) (e_own m fa) :=
  PE.imp (pe_callS F.ok (hr.mono hj) hg F.gl F.kp F.bd (E := WE W) (fun σ => passAt tk σ) ha hdb he hpl) fun σ H Q h => by
    obtain ⟨rho, h, s, R, S, po⟩ := h
    exact step R S po fun rho1 h1 H1 ds e1 R1 S1 po1 vs r => ⟨rho1, h1, ds, R1, r, po1⟩
theorem r_own0 (F : Df X.prog X.w X.K X.mg X.base k x ps f fd m) (hr : Room j X.A) (tk : Takes X W) (hj : k ≤ j := by decide) (hg : Gl X x := by rfl) (hdb : (x == ("__debug__" : Str)) = false := by decide) : SE X W (.Call (.Name x p) [] [] pos) (e_own m a_nil) :=
  ⟨fun pins s σ H Q I h => by
    refine wpAny_Call_Name_kw (ld_glob I hg F.gl ?_ hdb)
    refine PySem.W.callWith_K0 I.kIn F.kp (run_fnS (us := []) (vs := []) (E := WE W) F.ok (hr.mono hj) F.bd (passAt tk σ) I .nil ?_)
    obtain ⟨rho, h, s, R, S, po⟩ := h
    exact ⟨rho, h, [], R, by simp only [RelVs', RelDs], po⟩⟩
/-- how a call binds its keywords -/
def KwB (K : PySem.W.Frag) (fd : FuncData) (ps ks : List Str) (np nk : Nat) (perm : List Nat) : Prop := ∀ (s : Shared) (us ws : List Value), K.In s.heap → us.length = np → ws.length = nk → BindsTo s fd ⟨us, ks.zip ws⟩ (ps.zip (permL np nk perm us ws))
theorem run_kw {pins : List (Addr × Obj)} {σ : L2.St} {H : Hp} {s : Shared} {Q : VK} {us ws : List Value} {vs zs : List V} {np nk : Nat} {perm : List Nat} (F : Df X.prog X.w X.K X.mg X.base k x ps f fd m) (hr : Room k X.A) (tk : Takes X W) (hb : KwB X.K fd ps ks np nk perm)
    (I : Inv X pins σ H s) (r : Vals vs us) (rz : Vals zs ws) (hn : us.length = np) (hk : ws.length = nk) (h : spM X.K X.mg m (permL np nk perm vs zs) H Q (WE W σ)) : wpAny (model X.prog X.w) X.A (call (.ref f) us (ks.zip ws)) (EP X pins σ Q) X.xe s := by
  have r2 := vals_perm r rz np nk perm
  refine wpAny_call (codeAny_mono (F.ok.run X.A X.stack s H ⟨us, ks.zip ws⟩ (permL np nk perm us ws) (permL np nk perm vs zs) Q (WE W σ) hr I.env0 (hb s us ws I.kIn hn hk) r2 h) fun r s' hq => ?_)
  cases r with
  | error e => exact passAt tk σ pins H s e s' I hq
  | ok fl =>
    cases fl with
    | ret u => exact I.after hq
    | next => exact False.elim hq
    | brk => exact False.elim hq
    | cont => exact False.elim hq
theorem r_ownK0 {nk : Nat} {perm : List Nat} (F : Df X.prog X.w X.K X.mg X.base k x ps f fd m) (hr : Room j X.A) (tk : Takes X W) (hb : KwB X.K fd ps ks 0 nk perm) (hkw : SK X W kws fk) (hlen : kws.length = nk := by rfl) (hj : k ≤ j := by decide) (hg : Gl X x := by rfl)
    (hall : (backToKw pos (keywordEach kws X.env)).all (·.1.isSome) = true := by rfl) (hks : (backToKw pos (keywordEach kws X.env)).filterMap (·.1) = ks := by rfl) (hdb : (x == ("__debug__" : Str)) = false := by decide)
    (hpl : ((backTo pos (starEach [] X.env)).any (·.1) || (backToKw pos (keywordEach kws X.env)).any (·.1.isNone)) = false := by rfl) (hnk : ∀ ds : List D, ∀ s h h', fk s h = .ok ds h' → ds.length = nk) :
    SE X W (.Call (.Name x p) [] kws pos) (e_ownK m 0 nk perm a_nil fk) := ⟨fun pins s σ H Q I h => by
  refine wpAny_Call_Name_kw (ld_glob I hg F.gl ?_ hdb)
  refine PySem.W.callWith_KW0 (h₀ := X.base) I.ok.mod.kin F.kp hall ?_ hpl
  obtain ⟨rho, h, sd, R, S, po⟩ := h
  have po' : PostG X.K X.mg (fun c d H' => W c d σ H') rho h H ((fk sd h).bind fun ys h2 => m (permL 0 nk perm [] ys) h2) (pE X.K Q) := po
  have z : tA X.K X.mg W fk σ H fun zs H2 => zs.length = nk ∧ spM X.K X.mg m (permL 0 nk perm [] zs) H2 Q (WE W σ) := by
    refine ⟨rho, h, sd, R, S, ?_⟩
    cases q : fk sd h with
    | fail => rw [q] at po'; exact po'
    | exc x h1 => rw [q] at po'; exact po'
    | ok ys h1 =>
      rw [q] at po'
      exact fun rho1 H1 e1 R1 vs r => ⟨by rw [← RelDs.length r]; exact hnk ys _ _ _ q, rho1, h1, permL 0 nk perm [] ys, R1, RelDs.perm (by simp [RelDs]) r 0 nk perm, PostG.ext e1 po'⟩
  refine thn (hkw.run pos pins s σ H _ I z) fun ws s2 ⟨zs, H2, I2, rz, hn, q2⟩ => ⟨I2.kIn, ?_⟩
  rw [hks]
  exact run_kw F (hr.mono hj) tk hb I2 .nil rz rfl (by rw [← rz.length]; exact hn) q2⟩
theorem r_ownK {np nk : Nat} {perm : List Nat} (F : Df X.prog X.w X.K X.mg X.base k x ps f fd m) (hr : Room j X.A) (tk : Takes X W) (hb : KwB X.K fd ps ks np nk perm) (ha : SA X W (e :: es) fa) (hkw : SK X W kws fk) (hj : k ≤ j := by decide) (hg : Gl X x := by rfl)
    (hall : (backToKw pos (keywordEach kws X.env)).all (·.1.isSome) = true := by rfl) (hks : (backToKw pos (keywordEach kws X.env)).filterMap (·.1) = ks := by rfl) (hdb : (x == ("__debug__" : Str)) = false := by decide)
    (he : starEach (e :: es) X.env = (false, eval e X.env) :: starEach es X.env := by rfl)
    (hpl : ((backTo pos (starEach (e :: es) X.env)).any (·.1) || (backToKw pos (keywordEach kws X.env)).any (·.1.isNone)) = false := by rfl)
    (hnp : ∀ ds : List D, ∀ s h h', fa s h = .ok ds h' → ds.length = np) (hnk : ∀ ds : List D, ∀ s h h', fk s h = .ok ds h' → ds.length = nk) :
    SE X W (.Call (.Name x p) (e :: es) kws pos) (e_ownK m np nk perm fa fk) := ⟨fun pins s σ H Q I h => by
  refine wpAny_Call_Name_kw (ld_glob I hg F.gl ?_ hdb)
  obtain ⟨rho, h, sd, R, S, po⟩ := h
  have z : tA X.K X.mg W fa σ H fun vs H1 => vs.length = np ∧ tA X.K X.mg W fk σ H1 fun zs H2 => zs.length = nk ∧ spM X.K X.mg m (permL np nk perm vs zs) H2 Q (WE W σ) := by
    refine ⟨rho, h, sd, R, S, ?_⟩
    cases q0 : fa sd h with
    | fail => simp only [e_ownK, q0] at po; exact po
    | exc x h1 => simp only [e_ownK, q0] at po; exact po
    | ok xs h0 =>
      simp only [e_ownK, q0] at po
      intro rho0 H0 e0 R0 vs r0
      refine ⟨by rw [← RelDs.length r0]; exact hnp xs _ _ _ q0, rho0, h0, sd, R0, e0.s S, ?_⟩
      have po' : PostG X.K X.mg (fun c d H' => W c d σ H') rho0 h0 H0 ((fk sd h0).bind fun ys h2 => m (permL np nk perm xs ys) h2) (pE X.K Q) := PostG.ext e0 po
      cases q : fk sd h0 with
      | fail => rw [q] at po'; exact po'
      | exc x h1 => rw [q] at po'; exact po'
      | ok ys h1 =>
        rw [q] at po'
        exact fun rho1 H1 e1 R1 vs r => ⟨by rw [← RelDs.length r]; exact hnk ys _ _ _ q, rho1, h1, permL np nk perm xs ys, R1, RelDs.perm (e1.vs r0) r np nk perm, PostG.ext e1 po'⟩
  refine PySem.W.callWith_KW (h₀ := X.base) I.ok.mod.kin F.kp hall (thn (ha.run pos pins s σ H _ I z) fun us s1 ⟨vs, H1, I1, r, hn, q⟩ => ?_) hpl he
  refine thn (hkw.run pos pins s1 σ H1 _ I1 q) fun ws s2 ⟨zs, H2, I2, rz, hk, q2⟩ => ⟨I2.kIn, ?_⟩
  rw [hks]
  exact run_kw F (hr.mono hj) tk hb I2 r rz (by show us.length = np; rw [← r.length]; exact hn) (by rw [← rz.length]; exact hk) q2⟩
end
theorem a_len0 : ∀ ds : List D, ∀ s h h', a_nil s h = .ok ds h' → ds.length = 0 := fun ds s h h' e => by cases e; rfl
theorem a_lenS {fa : EF} {fr : AF} {n : Nat} (hr : ∀ ds : List D, ∀ s h h', fr s h = .ok ds h' → ds.length = n) : ∀ ds : List D, ∀ s h h', a_cons fa fr s h = .ok ds h' → ds.length = n + 1 := fun ds s h h' e => by
  unfold a_cons at e
  cases q : fa s h with
  | fail => rw [q] at e; cases e
  | exc _ _ => rw [q] at e; cases e
  | ok x h1 =>
    rw [q] at e
    simp only [Res.bind] at e
    cases q2 : fr s h1 with
    | fail => rw [q2] at e; cases e
    | exc _ _ => rw [q2] at e; cases e
    | ok xs h2 => rw [q2] at e; cases e; simp [hr xs _ _ _ q2]
end Mini
namespace PySem
open AutoSeq1 (wpAny_loadPart')
theorem meets_enumerate_newT (l : Addr) (items : Array Value) (n : Nat) (dct : Option Addr) (sl : Array (Option Value)) :
    Meets (Builtin.«enumerate.__new__» ⟨[.type "enumerate", .ref l], []⟩) (fun _ R s => s.heap.get? l = some { cls := .type "tuple", dict := dct, data := .seq items n, slots := sl } ∧
      R (.ok (.ret (.ref (s.heap.push { cls := .type "tuple_iterator", data := .fields #[.ref l, .int 0 0] }).objs.size)))
        { s with heap := (s.heap.push { cls := .type "tuple_iterator", data := .fields #[.ref l, .int 0 0] }).push { cls := .type "enumerate", data := .fields #[.none, .bool false, .ref s.heap.objs.size, rawInt 0, .none, .none] } }) :=
  .of_wp fun prog w A R s h => by
    obtain ⟨hp, g, d, tk, os⟩ := s; obtain ⟨hl, h⟩ := h
    have hsub := sub_enumerate
    have hL : Heap.IsTuple (Shared.heap ⟨hp, g, d, tk, os⟩) l items := ⟨_, hl, rfl, n, rfl⟩
    wp_walk using wpAny_loadPart' hl
    refine wpAny_stack_any fun st => wpAny_pure ?_
    split
    · rename_i c _ _ _ _ _
      cases (c == Value.type "enumerate")
      · wp_walk using wpAny_loadPart' hl, wpAny_pyIter_tuple hL
        exact ⟨_, rfl, h⟩
      · wp_walk using wpAny_loadPart' hl, wpAny_pyIter_tuple hL
        exact ⟨_, rfl, h⟩
    · wp_walk using wpAny_loadPart' hl, wpAny_pyIter_tuple hL
      exact ⟨_, rfl, h⟩
theorem call_enumerate_tup {prog : Program} {w : World} {A : Around} {E : Value → Shared → Prop} {s : Shared} {l : Addr} {items : Array Value} {Q : Value → Shared → Prop} (hL : s.heap.IsTuple l items)
    (h : ∀ h', IsEnum h' (s.heap.objs.size + 1) s.heap.objs.size 0 .none → h'.IsTupleIter s.heap.objs.size l 0 → h'.objs.size = s.heap.objs.size + 2 →
      (∀ b o, s.heap.get? b = some o → h'.get? b = some o) → Q (.ref (s.heap.objs.size + 1)) { s with heap := h' }) :
    wpAny (model prog w) A (call (.type "enumerate") [.ref l]) Q E s := by
  obtain ⟨⟨c, dct, dt, sl⟩, hl, hc, n, hd⟩ := hL
  replace hc : c = .type "tuple" := hc
  replace hd : dt = .seq items n := hd
  subst hc hd
  refine callType_new F.called_enumerate (by decide) (F.typeCall_enumerate_1 _) (F.newCall_enumerate_1 _) (fun obj => F.args_object_init_2 obj _) F.entry_enumerate_new
    (meets_enumerate_newT l items n dct sl) ⟨hl, ?_⟩
  have hz : (s.heap.push { cls := .type "tuple_iterator", data := .fields #[.ref l, .int 0 0] }).objs.size = s.heap.objs.size + 1 := Heap.size_push ..
  show _ ∧ _
  rw [hz]
  have he : IsEnum ((s.heap.push { cls := .type "tuple_iterator", data := .fields #[.ref l, .int 0 0] }).push
      { cls := .type "enumerate", data := .fields #[.none, .bool false, .ref s.heap.objs.size, rawInt 0, .none, .none] }) (s.heap.objs.size + 1) s.heap.objs.size 0 .none := by
    have := Heap.get?_push_size (s.heap.push { cls := .type "tuple_iterator", data := .fields #[.ref l, .int 0 0] })
      (o := { cls := .type "enumerate", data := .fields #[.none, .bool false, .ref s.heap.objs.size, rawInt 0, .none, .none] }) rfl
    rw [hz] at this; exact this
  refine ⟨⟨_, he, rfl⟩, h _ he ⟨_, Heap.get?_push_of_some _ (Heap.get?_push_size _ rfl), rfl, rfl⟩ (by rw [Heap.size_push, hz]) fun b o x => Heap.get?_push_of_some _ (Heap.get?_push_of_some _ x)⟩
end PySem
namespace Mini
open PySem PySem.Spec PyProof.Rows L2
/-- the tuple at a, each item in a new pair -/
def IteT (K : PySem.W.Frag) (a : Addr) : It :=
  ⟨fun i H => ∃ (xs : List V) (x : V), SqT K H a xs ∧ xs[i]? = some x, fun i H v H' => ∃ T x, v = .ref T ∧ H T = none ∧ H' = upd H T (.tup [.int (i : Nat), x]) ∧ ∀ xs, SqT K H a xs → xs[i]? = some x, fun i H => ∃ xs : List V, SqT K H a xs ∧ xs.length ≤ i⟩
theorem turn_enumT {P : Program} {w : World} {K : PySem.W.Frag} {elts : List Expr} {kk : Nat} {tpos : Pos} (a e it : Addr) (hai : a ≠ it) (hae : a ≠ e) :
    Turn P w K (.Tuple elts kk tpos) (IteT K a) [e, it] e (fun i h => (∃ old, IsEnum h e it ((i : Nat) : Int) old) ∧ h.IsTupleIter it a i ∧ e ≠ it) where
  mem := by simp
  obj := fun i h st b hb => by
    obtain ⟨⟨old, he⟩, ⟨o, ho, hc, hd⟩, _⟩ := st
    have e' : b = e ∨ b = it := by simpa using hb
    rcases e' with z | z
    · rw [z]; exact ⟨_, he, fun v q => nomatch q⟩
    · rw [z]; exact ⟨o, ho, fun v q => by rw [hd] at q; cases q⟩
  keep := fun i h h' st k => let ⟨⟨old, he⟩, hi, hne⟩ := st; ⟨⟨old, k e (by simp) _ he⟩, hi.at fun o q => k it (by simp) o q, hne⟩
  item := by
    intro X hP hw hK hc i pins s σ H E I hf st hg
    subst hP hw hK
    obtain ⟨⟨old, he⟩, hit, hne⟩ := st
    obtain ⟨xs, x, hq, hx⟩ := hg
    obtain ⟨its, rv, p, hz⟩ := I.tuple hq
    obtain ⟨u, hu, ru⟩ := rv.get hx
    have hel : e < s.heap.objs.size := Heap.lt_size he
    have hil : it < s.heap.objs.size := by obtain ⟨_, q, _⟩ := hit; exact Heap.lt_size q
    have hlt : i < its.toArray.size := by have := (List.getElem?_eq_some_iff.mp hu).1; simpa using this
    have hef : e ∉ [it, a] := by
      intro z
      rcases List.mem_cons.mp z with z | z
      · exact hne z
      · exact hae ((List.mem_singleton.mp z).symm)
    refine wpAny_pyNext_enum_itemC (Draws.tuple (A := X.A.in1) (by rw [show X.A.in1.handled = X.A.handled from rfl]; exact I.ok.hd hc) it a hai its.toArray) he ⟨hit, p⟩ hlt hne hef fun x' h' tk hP ho hst' hT hsz hk => ?_
    have ex : x' = u := by
      have : its.toArray[i]? = some x' := hP
      have e2 : its.toArray[i]? = some u := by simpa using hu
      rw [e2] at this; exact (Option.some.inj this).symm
    subst ex
    obtain ⟨hit', _⟩ := hst'
    refine ⟨_, rfl, wpAny_letOwnedTupleGo_enum (s := { s with heap := h', toks := tk + 1 }) ho fun h'' he' sb => ?_⟩
    have hT2 : h''.get? s.heap.objs.size = some { cls := .type "tuple", data := .seq #[.int i tk, x'] } := (sb.2 _ (Nat.ne_of_gt hel)).trans hT
    have new : ObjOk X.prog X.w (upd H s.heap.objs.size (.tup [.int (i : Nat), x])) h'' s.heap.objs.size (.tup [.int (i : Nat), x]) :=
      ⟨by show 2 ≤ sizeLine; decide, [.int i tk, x'], .cons ⟨_, rfl⟩ (.cons ru .nil), ⟨_, hT2, rfl, _, rfl⟩⟩
    have I1 : Inv X pins σ (upd H s.heap.objs.size (.tup [.int (i : Nat), x])) { s with heap := h'', toks := tk + 1 } :=
      I.turnedNew (ch := [e, it]) (fun b ob hb q => (sb.2 b (fun z => hb (by simp [z]))).trans (hk b ob (fun z => hb (by simp [z])) (fun z => hb (by simp [z])) q)) hf (Nat.le_refl _) new
    refine ⟨.ref s.heap.objs.size, _, I1, rfl, ⟨_, x, rfl, I.hok.fresh (Nat.le_refl _), rfl, fun ys hy => by rw [I.tuple_inj hy hq]; exact hx⟩, ⟨⟨x', ?_⟩, hit'.at fun o q => (sb.2 it (Ne.symm hne)).trans q, hne⟩, fun b hb => ?_⟩
    · have e1 : ((i + 1 : Nat) : Int) = (i : Int) + 1 := by omega
      rw [e1]; exact he'
    · have hb' : b < s.heap.objs.size := by
        have e' : b = e ∨ b = it := by simpa using hb
        rcases e' with z | z
        · rw [z]; exact hel
        · rw [z]; exact hil
      rw [upd_ne (Nat.ne_of_lt hb')]
      exact (hf b hb).1
  done := by
    intro X hP hw hK hc i pins s σ H E I hf st hg
    subst hP hw hK
    obtain ⟨⟨old, he⟩, hit, hne⟩ := st
    obtain ⟨xs, hq, hx⟩ := hg
    obtain ⟨its, rv, p, hz⟩ := I.tuple hq
    obtain ⟨f0, f1, f2, f3, f4, f5⟩ := hf it (by simp)
    have hl := rv.length
    have D : Draws X.prog X.w X.A.in1 it [it, a] i (fun j v => its.toArray[j]? = some v) (fun j h => j = i ∧ h.IsTupleIter it a j ∧ h.IsTuple a its.toArray) := by
      refine ⟨fun _ _ st => let ⟨o, ho, _⟩ := st.2.1; ⟨o, ho⟩, fun _ _ _ st hk => ⟨st.1, st.2.1.at fun o e => hk it (by simp) o e, st.2.2.at fun o e => hk a (by simp) o e⟩, fun j s Q E hj st hQ => ?_, fun s Q E st hE => ?_⟩
      · exact absurd hj (by rw [st.1]; exact Nat.lt_irrefl _)
      · exact wpAny_nextOf_tuple_end (by rw [show X.A.in1.handled = X.A.handled from rfl]; exact I.ok.hd hc) st.2.1 st.2.2 (by simp; omega) hE
    exact wpAny_pyNext_enum_endD D he ⟨rfl, hit, p⟩ fun h' eb => ⟨rfl, I.turned (t' := s.toks) (fun b o hb q => eb b o hb q) f0 f1 f3 f4 f5⟩
  self := fun A i s Q E st h => let ⟨⟨_, he⟩, _⟩ := st; wpAny_pyIter_enum he h
def iEnumT (K : PySem.W.Frag) (ta : TA) : TI := fun σ H R => ta σ H fun vs H1 => ∃ a xs, vs = [.ref a] ∧ SqT K H1 a xs ∧ R (IteT K a) H1
theorem pi_enumT {X : Cx} {e : Expr} {ta : TA} {p pos tpos : Pos} {elts : List Expr} {kk : Nat} (hg : Gl X "enumerate") (hm : X.mg "enumerate" = none) (ha : PA X [e] ta) (hs : starEach [e] X.env = [(false, eval e X.env)] := by rfl) :
    PI X (.Tuple elts kk tpos) (.Call (.Name "enumerate" p) [e] [] pos) (iEnumT X.K ta) := by
  refine ⟨fun pins s σ H R I h => ?_⟩
  refine Call_ (ld_blt I hg hm boot_enumerate (PyProof.Rows.callWith_type1 (thn (ha.run pos pins s σ H _ I h) fun us s1 ⟨vs, H1, I1, r1, q1⟩ => ?_) hs rfl))
  obtain ⟨a, xs, ex, hq, q⟩ := q1
  subst ex
  cases r1 with
  | cons r rr =>
    cases rr
    cases r
    obtain ⟨its, rv, p', hz⟩ := I1.tuple hq
    obtain ⟨oa, hoa, _⟩ := id p'
    have la : a < s1.heap.objs.size := Heap.lt_size hoa
    refine call_enumerate_tup (show s1.heap.IsTuple a its.toArray from p') fun h' he hit hsz hk => wpAny_pyIter_enum he ?_
    have I2 : Inv X pins σ H1 { s1 with heap := h' } := I1.kept (t' := s1.toks) hk
    refine ⟨s1.heap.objs.size + 1, [s1.heap.objs.size + 1, s1.heap.objs.size], _, _, H1, rfl, I2, turn_enumT a (s1.heap.objs.size + 1) s1.heap.objs.size (Nat.ne_of_lt la) (Nat.ne_of_lt (Nat.lt_succ_of_lt la)), ⟨⟨.none, he⟩, hit, Nat.succ_ne_self _⟩, fun b hb => ?_, q⟩
    have e' : b = s1.heap.objs.size + 1 ∨ b = s1.heap.objs.size := by simpa using hb
    have hle : s1.heap.objs.size ≤ b := by
      rcases e' with z | z
      · rw [z]; exact Nat.le_add_right _ _
      · rw [z]; exact Nat.le_refl _
    exact I1.fpOk hle (I1.hok.fresh hle)

/-! ### enumerate(xs), zip(xs, ys) by mirrors -/
def enumL (i : Nat) : List D → List D
  | [] => []
  | d :: ds => .tup [.int (i : Nat), d] :: enumL (i + 1) ds
theorem enumL_length : ∀ (ds : List D) (i : Nat), (enumL i ds).length = ds.length
  | [], _ => rfl
  | d :: ds, i => by simp [enumL, enumL_length ds]
theorem enumL_get : ∀ (ds : List D) (k i : Nat) (d : D), (enumL k ds)[i]? = some d → ∃ x, ds[i]? = some x ∧ d = .tup [.int ((k + i : Nat) : Int), x]
  | [], k, i, d, e => by simp [enumL] at e
  | x :: ds, k, 0, d, e => by simp [enumL] at e; exact ⟨x, rfl, by rw [← e]; simp⟩
  | x :: ds, k, i + 1, d, e => by
    simp only [enumL, List.getElem?_cons_succ] at e
    obtain ⟨y, a, b⟩ := enumL_get ds (k + 1) i d e
    refine ⟨y, by simpa using a, ?_⟩
    rw [b]
    have : k + 1 + i = k + (i + 1) := by omega
    rw [this]
def zipL : List D → List D → List D
  | x :: xs, y :: ys => .tup [x, y] :: zipL xs ys
  | _, _ => []
theorem zipL_length : ∀ (xs ys : List D), (zipL xs ys).length = min xs.length ys.length
  | [], _ => by simp [zipL]
  | _ :: _, [] => by simp [zipL]
  | x :: xs, y :: ys => by simp [zipL, zipL_length xs ys]
theorem zipL_get : ∀ (xs ys : List D) (i : Nat) (d : D), (zipL xs ys)[i]? = some d → ∃ x y, xs[i]? = some x ∧ ys[i]? = some y ∧ d = .tup [x, y]
  | [], _, i, d, e => by simp [zipL] at e
  | _ :: _, [], i, d, e => by simp [zipL] at e
  | x :: xs, y :: ys, 0, d, e => by simp [zipL] at e; exact ⟨x, y, rfl, rfl, e.symm⟩
  | x :: xs, y :: ys, i + 1, d, e => by
    simp only [zipL, List.getElem?_cons_succ] at e
    obtain ⟨a, b, c, d, e⟩ := zipL_get xs ys i d e
    exact ⟨a, b, by simpa using c, by simpa using d, e⟩
section
variable {K : PySem.W.Frag} {rho : Rh} {h : Hd} {H : Hp}
/-- a new pair -/
theorem pair_new (R : Rel K rho h H) {T : Addr} (nT : H T = none) {d1 d2 : D} {v1 v2 : V} (r1 : RelV' K rho h H d1 v1) (r2 : RelV' K rho h H d2 v2) :
    Ext K rho h H rho h (L2.upd H T (.tup [v1, v2])) ∧ Rel K rho h (L2.upd H T (.tup [v1, v2])) ∧ RelV' K rho h (L2.upd H T (.tup [v1, v2])) (.tup [d1, d2]) (.ref T) :=
  ⟨Ext.upd R nT _, R.upd nT _, R.newT nT (by simp only [RelVs', RelDs]; exact ⟨v1, _, rfl, r1, v2, [], rfl, r2, rfl⟩)⟩
/-- what a list or a tuple holds, whatever goes on -/
def Holds (K : PySem.W.Frag) (rho : Rh) (h : Hd) (H : Hp) (a : Addr) (l : Bool) (xs : List D) : Prop :=
  ∀ (rho' : Rh) (h' : Hd) (H' : Hp), ExtZ K rho h H rho' h' H' → Rel K rho' h' H' → ∃ us, (if l then SqL K H' a us else SqT K H' a us) ∧ RelVs' K rho' h' H' xs us
def asV (d : D) : Option (Bool × List D) := match d with
  | .lv xs => some (true, xs)
  | .fl xs => some (true, xs)
  | .tup xs => some (false, xs)
  | _ => none
theorem asV_ok {d : D} {v : V} {l : Bool} {xs : List D} (r : RelV' K rho h H d v) (e : asV d = some (l, xs)) : ∃ a, v = .ref a ∧ Holds K rho h H a l xs := by
  cases d with
  | lv ys =>
    simp only [asV, Option.some.injEq, Prod.mk.injEq] at e
    obtain ⟨e1, e2⟩ := e
    subst e1 e2
    obtain ⟨a, us, e1, _⟩ : ∃ a us, v = .ref a ∧ True := by simp only [RelV', RelD] at r; obtain ⟨a, us, e, _⟩ := r; exact ⟨a, us, e, trivial⟩
    subst e1
    refine ⟨a, rfl, fun rho' h' H' x R => ?_⟩
    obtain ⟨a', us, q1, q2, q3⟩ := asL_ok R (x.v r) (xs := ys) rfl
    cases q1
    exact ⟨us, by simpa using q2, q3⟩
  | fl ys =>
    simp only [asV, Option.some.injEq, Prod.mk.injEq] at e
    obtain ⟨e1, e2⟩ := e
    subst e1 e2
    obtain ⟨a, us, e1, _⟩ : ∃ a us, v = .ref a ∧ True := by simp only [RelV', RelD] at r; obtain ⟨a, us, e, _⟩ := r; exact ⟨a, us, e, trivial⟩
    subst e1
    refine ⟨a, rfl, fun rho' h' H' x R => ?_⟩
    obtain ⟨a', us, q1, q2, q3⟩ := asL_ok R (x.v r) (xs := ys) rfl
    cases q1
    exact ⟨us, by simpa using q2, q3⟩
  | tup ys =>
    simp only [asV, Option.some.injEq, Prod.mk.injEq] at e
    obtain ⟨e1, e2⟩ := e
    subst e1 e2
    obtain ⟨a, us, e1, _, _⟩ := r.tup
    subst e1
    refine ⟨a, rfl, fun rho' h' H' x R => ?_⟩
    obtain ⟨a', us, q1, q2, q3⟩ := (x.v r).tup
    cases q1
    exact ⟨us, by simpa using q2, q3⟩
  | _ => simp [asV] at e
theorem serves_enumL {a : Addr} {xs : List D} (q : Holds K rho h H a true xs) : Serves K (Ite K a) (enumL 0 xs) rho h H := by
  intro rho' h' H' x R i
  obtain ⟨us, q1, q2⟩ := q rho' h' H' x R
  simp only [if_true] at q1
  refine ⟨fun d hd => ?_, fun hl => ⟨us, q1, by rw [enumL_length] at hl; rw [← RelDs.length q2]; exact hl⟩⟩
  obtain ⟨y, e1, e2⟩ := enumL_get xs 0 i d hd
  obtain ⟨v, e3, e4⟩ := RelDs.get q2 e1
  refine ⟨⟨us, v, q1, e3⟩, fun w H2 ⟨T, z, w1, w2, w3, w4⟩ => ?_⟩
  have := w4 us q1
  rw [e3] at this
  cases this
  subst w1 w3 e2
  have := pair_new R w2 (relInt (i : Nat)) e4
  simpa using this
theorem serves_enumT {a : Addr} {xs : List D} (q : Holds K rho h H a false xs) : Serves K (IteT K a) (enumL 0 xs) rho h H := by
  intro rho' h' H' x R i
  obtain ⟨us, q1, q2⟩ := q rho' h' H' x R
  simp only [Bool.false_eq_true, if_false] at q1
  refine ⟨fun d hd => ?_, fun hl => ⟨us, q1, by rw [enumL_length] at hl; rw [← RelDs.length q2]; exact hl⟩⟩
  obtain ⟨y, e1, e2⟩ := enumL_get xs 0 i d hd
  obtain ⟨v, e3, e4⟩ := RelDs.get q2 e1
  refine ⟨⟨us, v, q1, e3⟩, fun w H2 ⟨T, z, w1, w2, w3, w4⟩ => ?_⟩
  have := w4 us q1
  rw [e3] at this
  cases this
  subst w1 w3 e2
  have := pair_new R w2 (relInt (i : Nat)) e4
  simpa using this
theorem serves_zipL {a b : Addr} {xs ys : List D} (p : Holds K rho h H a true xs) (q : Holds K rho h H b true ys) : Serves K (Itz K a b) (zipL xs ys) rho h H := by
  intro rho' h' H' x R i
  obtain ⟨us, p1, p2⟩ := p rho' h' H' x R
  obtain ⟨ws, q1, q2⟩ := q rho' h' H' x R
  simp only [if_true] at p1 q1
  refine ⟨fun d hd => ?_, fun hl => ⟨us, ws, p1, q1, by rw [zipL_length] at hl; rw [← RelDs.length q2, ← RelDs.length p2]; omega⟩⟩
  obtain ⟨y, z, e1, e2, e3⟩ := zipL_get xs ys i d hd
  obtain ⟨v, v1, v2⟩ := RelDs.get p2 e1
  obtain ⟨w, w1, w2⟩ := RelDs.get q2 e2
  refine ⟨⟨us, ws, v, w, p1, q1, v1, w1⟩, fun t H2 ⟨T, t1, t2, t3, t4, t5, t6, t7⟩ => ?_⟩
  have z1 := t6 us p1
  have z2 := t7 ws q1
  rw [v1] at z1
  rw [w1] at z2
  cases z1
  cases z2
  subst t3 t5 e3
  exact pair_new R t4 v2 w2
theorem serves_zipT {a b : Addr} {xs ys : List D} (p : Holds K rho h H a false xs) (q : Holds K rho h H b false ys) : Serves K (RZ.ItzT K a b) (zipL xs ys) rho h H := by
  intro rho' h' H' x R i
  obtain ⟨us, p1, p2⟩ := p rho' h' H' x R
  obtain ⟨ws, q1, q2⟩ := q rho' h' H' x R
  simp only [Bool.false_eq_true, if_false] at p1 q1
  refine ⟨fun d hd => ?_, fun hl => ⟨us, ws, p1, q1, by rw [zipL_length] at hl; rw [← RelDs.length q2, ← RelDs.length p2]; omega⟩⟩
  obtain ⟨y, z, e1, e2, e3⟩ := zipL_get xs ys i d hd
  obtain ⟨v, v1, v2⟩ := RelDs.get p2 e1
  obtain ⟨w, w1, w2⟩ := RelDs.get q2 e2
  refine ⟨⟨us, ws, v, w, p1, q1, v1, w1⟩, fun t H2 ⟨T, t1, t2, t3, t4, t5, t6, t7⟩ => ?_⟩
  have z1 := t6 us p1
  have z2 := t7 ws q1
  rw [v1] at z1
  rw [w1] at z2
  cases z1
  cases z2
  subst t3 t5 e3
  exact pair_new R t4 v2 w2
end
def i_enum (a : AF) : AF := fun s h => (a s h).bind fun ds h1 => match ds with
  | [d] => (match asV d with
    | some (_, xs) => .ok (enumL 0 xs) h1
    | none => .fail)
  | _ => .fail
def i_zip (a : AF) : AF := fun s h => (a s h).bind fun ds h1 => match ds with
  | [d, e] => (match asV d, asV e with
    | some (l, xs), some (m, ys) => if l = m then .ok (zipL xs ys) h1 else .fail
    | _, _ => .fail)
  | _ => .fail
section
variable {X : Cx} {W : WX} {e e2 : Expr} {p pos tpos : Pos} {elts : List Expr} {kk : Nat} {fa : AF}
theorem ri_enum (hm : X.mg "enumerate" = none) (ha : SA X W [e] fa) (hg : Gl X "enumerate" := by rfl) (hs : starEach [e] X.env = [(false, eval e X.env)] := by rfl) :
    SI X W (.Tuple elts kk tpos) (.Call (.Name "enumerate" p) [e] [] pos) (i_enum fa) := by
  refine PI.or (pi_enum hg hm ha hs) (pi_enumT hg hm ha hs) fun σ H Q q => ?_
  obtain ⟨rho, h, s, R, S, po⟩ := q
  unfold i_enum at po
  cases qf : fa s h with
  | fail => rw [qf] at po; exact po.elim
  | exc x h1 => rw [qf] at po; exact .inl ⟨rho, h, s, R, S, by rw [qf]; exact po⟩
  | ok ds h1 =>
    rw [qf] at po
    simp only [Res.bind] at po
    match ds, po, qf with
    | [], po, _ => exact po.elim
    | _ :: _ :: _, po, _ => exact po.elim
    | [d], po, qf =>
      simp only at po
      cases qa : asV d with
      | none => rw [qa] at po; exact po.elim
      | some lx =>
        obtain ⟨l, xs⟩ := lx
        rw [qa] at po
        simp only at po
        cases l with
        | true =>
          refine .inl ⟨rho, h, s, R, S, ?_⟩
          rw [qf]
          intro rho1 H1 e1 R1 vs r
          simp only [RelVs', RelDs] at r
          obtain ⟨v, rr, e2, r1, e3⟩ := r
          subst e3 e2
          obtain ⟨a, e4, hh⟩ := asV_ok r1 qa
          subst e4
          obtain ⟨us, q1, _⟩ := hh rho1 h1 H1 Ext.refl.z R1
          exact ⟨a, us, rfl, by simpa using q1, po rho1 H1 e1 R1 _ (serves_enumL hh)⟩
        | false =>
          refine .inr ⟨rho, h, s, R, S, ?_⟩
          rw [qf]
          intro rho1 H1 e1 R1 vs r
          simp only [RelVs', RelDs] at r
          obtain ⟨v, rr, e2, r1, e3⟩ := r
          subst e3 e2
          obtain ⟨a, e4, hh⟩ := asV_ok r1 qa
          subst e4
          obtain ⟨us, q1, _⟩ := hh rho1 h1 H1 Ext.refl.z R1
          exact ⟨a, us, rfl, by simpa using q1, po rho1 H1 e1 R1 _ (serves_enumT hh)⟩
theorem ri_zip (hm : X.mg "zip" = none) (ha : SA X W [e, e2] fa) (hg : Gl X "zip" := by rfl) (hs : starEach [e, e2] X.env = (false, eval e X.env) :: starEach [e2] X.env := by rfl) (hpl : (backTo pos (starEach [e2] X.env)).any (·.1) = false := by rfl) :
    SI X W (.Tuple elts kk tpos) (.Call (.Name "zip" p) [e, e2] [] pos) (i_zip fa) := PI.imp (RZ.pi_zipA hg hm ha hs hpl) fun σ H Q q => by
  obtain ⟨rho, h, s, R, S, po⟩ := q
  refine step R S po fun rho1 h1 H1 ds e1 R1 S1 po1 vs r => ?_
  match ds, po1, r with
  | [], po, _ => exact po.elim
  | [_], po, _ => exact po.elim
  | _ :: _ :: _ :: _, po, _ => exact po.elim
  | [d, d'], po, r =>
    simp only at po
    cases qa : asV d with
    | none => rw [qa] at po; exact po.elim
    | some lx =>
      obtain ⟨l, xs⟩ := lx
      cases qb : asV d' with
      | none => rw [qa, qb] at po; exact po.elim
      | some my =>
        obtain ⟨m, ys⟩ := my
        rw [qa, qb] at po
        simp only at po
        by_cases hlm : l = m
        · simp only [hlm, if_true] at po
          simp only [RelVs', RelDs] at r
          obtain ⟨v, rr, e2, r1, v2, rr2, e3, r2, e4⟩ := r
          subst e4 e3 e2 hlm
          obtain ⟨a, a1, ah⟩ := asV_ok r1 qa
          obtain ⟨b, b1, bh⟩ := asV_ok r2 qb
          subst a1 b1
          obtain ⟨us, q1, _⟩ := ah rho1 h1 H1 Ext.refl.z R1
          obtain ⟨ws, q2, _⟩ := bh rho1 h1 H1 Ext.refl.z R1
          refine ⟨a, b, us, ws, rfl, ?_⟩
          cases l with
          | true => exact .inl ⟨by simpa using q1, by simpa using q2, PostG.ok po R1 _ (serves_zipL ah bh)⟩
          | false => exact .inr ⟨by simpa using q1, by simpa using q2, PostG.ok po R1 _ (serves_zipT ah bh)⟩
        · simp only [hlm, if_false] at po; exact po.elim
end
end Mini
namespace Mini
open PySem PySem.Spec PyProof.Rows L2 HT
theorem places_rev (n : Nat) : Builtin.Slice.slicePlaces ((n : Int) - 1) (-1) (-1) = n := by
  unfold Builtin.Slice.slicePlaces
  rw [if_neg (by decide)]
  by_cases hn : n = 0
  · subst hn; decide
  · rw [if_pos (by omega)]
    have : ((n : Int) - 1 - -1 - 1) / (- -1) + 1 = n := by
      rw [show (- -1 : Int) = 1 from rfl, Int.ediv_one]; omega
    rw [this]; simp
theorem filterMap_some {α β : Type} {f : α → Option β} {g : α → β} : ∀ {l : List α}, (∀ m ∈ l, f m = some (g m)) → l.filterMap f = l.map g
  | [], _ => rfl
  | m :: l, h => by rw [List.filterMap_cons, h m (by simp), List.map_cons, filterMap_some fun k hk => h k (by simp [hk])]
theorem pick_rev (xs : Array Value) : ((List.range xs.size).filterMap fun (m : Nat) => xs[(((xs.size : Int) - 1) + (m : Int) * (-1)).toNat]?).toArray = xs.toList.reverse.toArray := by
  congr 1
  have key : (List.range xs.size).filterMap (fun (m : Nat) => xs[(((xs.size : Int) - 1) + (m : Int) * (-1)).toNat]?) = (List.range xs.size).map fun m => xs.toList.reverse.getD m default := by
    apply filterMap_some
    intro m hm
    have hm := List.mem_range.mp hm
    have e : (((xs.size : Int) - 1) + (m : Int) * (-1)).toNat = xs.size - 1 - m := by omega
    rw [e]
    have hl : xs.size - 1 - m < xs.size := by omega
    simp [List.getD_eq_getElem?_getD, List.getElem?_reverse, hm, hl]
  rw [key]
  apply List.ext_getElem?
  intro i
  by_cases hi : i < xs.size
  · rw [List.getElem?_map, List.getElem?_range hi]
    have : xs.size - 1 - i < xs.size := by omega
    simp [List.getD_eq_getElem?_getD, List.getElem?_reverse, hi, this]
  · rw [List.getElem?_eq_none (by simpa using hi), List.getElem?_eq_none (by simpa using hi)]
section
variable {prog : Program} {w : World} {A : Around} {E : Value → Shared → Prop} {s : Shared}
theorem sliceApplied_rev {sl : Addr} {vl vu vk : Value} {n : Nat} {Q : Int × Int × Nat → Shared → Prop} (hs : s.heap.IsSliceOf sl vl vu vk) (pl : IsPart vl none) (pu : IsPart vu none) (pk : IsPart vk (some (-1)))
    (h : Q ((n : Int) - 1, -1, n) s) : wpAny (model prog w) A (Builtin.Slice.sliceApplied (.ref sl) (pure (n : Int))) Q E s := by
  obtain ⟨os, hos, hcs, hds⟩ := id hs
  unfold Builtin.Slice.sliceApplied Builtin.Slice.sliceFields
  refine wpAny_bind (wpAny_bind (wpAny_field hos hds (x := vl) rfl (wpAny_bind (wpAny_field hos hds (x := vu) rfl (wpAny_bind (wpAny_field hos hds (x := vk) rfl (wpAny_pure ?_)))))))
  refine wpAny_bind (slicePart_ pk ?_)
  show wpAny _ _ (if ((-1 : Int) == 0) = true then _ else _) _ _ s
  rw [if_neg (by decide)]
  refine wpAny_bind (slicePart_ pl (wpAny_bind (slicePart_ pu (wpAny_bind (wpAny_pure ?_)))))
  show wpAny _ _ (pure ((n : Int) - 1, (-1 : Int), Builtin.Slice.slicePlaces ((n : Int) - 1) (-1) (-1))) _ _ s
  rw [places_rev]
  exact wpAny_pure h
theorem getItem_tuple_rev {t sl : Addr} {items : Array Value} {vl vu vk : Value} {Q : Value → Shared → Prop} (ht : IsTup s.heap t items) (hs : s.heap.IsSliceOf sl vl vu vk) (pl : IsPart vl none) (pu : IsPart vu none) (pk : IsPart vk (some (-1)))
    (h : Q (.ref s.heap.objs.size) { s with heap := s.heap.push { cls := .type "tuple", data := .seq items.toList.reverse.toArray } })
    (hsz : items.size ≤ sizeLine) : wpAny (model prog w) A (getItem (.ref t) (.ref sl)) Q E s := by
  have htake : sizeOk (.seq items.toList.reverse.toArray) := by
    show items.toList.reverse.toArray.size ≤ sizeLine
    rw [List.size_toArray, List.length_reverse, Array.length_toList]
    exact hsz
  obtain ⟨os, hos, hcs, hds⟩ := id hs
  have hTs : s.TypeIs (.ref sl) "slice" := ⟨os, hos, hcs⟩
  unfold getItem
  try with_reducible refine wpAny_holding ?_
  first | refine wpAny_bind (wpAny_pure ?_) | skip
  refine wpAny_bind (wpAny_sequenceKey ht.typeIs (by decide) ?_)
  refine wpAny_bind (wpAny_callSpecial?_slot (name := Str.ofString "__getitem__") ht.typeIs PyProof.Rows.slot_tuple_getitem
    (wpAny_call_entry PyProof.Rows.slot_tuple_getitem ht.typeIs entry_tuple_getitem ?_ (args_tuple_getitem _ _)))
  show wpAny _ _ (Builtin.Tuple.tupleItemsOf (.ref t) >>= _) _ _ s
  refine wpAny_bind (tupleItemsOf_ ht ?_)
  refine wpAny_bind (wpAny_typeOf hTs ?_)
  rw [if_pos (by decide)]
  refine wpAny_bind (sliceApplied_rev hs pl pu pk ?_)
  have hno : ¬ ((((items.size : Int) - 1) == 0 && (-1 : Int) == 1 && items.size == items.size) = true) := by
    intro q
    rw [Bool.and_eq_true, Bool.and_eq_true] at q
    exact absurd q.1.2 (by decide)
  show wpAny _ _ (if (((items.size : Int) - 1) == 0 && (-1 : Int) == 1 && items.size == items.size) = true then _ else _) _ _ s
  rw [if_neg hno, pick_rev]
  first
    | exact wpAny_bind (m := Builtin.Tuple.tupleExact _) (wpAny_newObj_type (wpAny_pure ⟨_, rfl, wpAny_pure h⟩) htake)
    | exact wpAny_bind (m := Builtin.Tuple.tupleExact _) (wpAny_newObj_type (wpAny_bind (wpAny_pure (wpAny_pure ⟨_, rfl, wpAny_pure h⟩))) htake)
    | exact wpAny_bind (wpAny_bind (m := Builtin.Tuple.tupleExact _) (wpAny_newObj_type (wpAny_pure (wpAny_pure ⟨_, rfl, wpAny_pure h⟩)) htake))
    | exact wpAny_bind (wpAny_bind (m := Builtin.Tuple.tupleExact _) (wpAny_newObj_type (wpAny_pure ⟨_, rfl, wpAny_pure h⟩) htake))
end
def tRevT (K : PySem.W.Frag) (te : TE) : TE := fun σ H Q => te σ H fun x H1 => ∃ a xs, x = .ref a ∧ SqT K H1 a xs ∧ ∀ p, H1 p = none → Q (.ref p) (upd H1 p (.tup xs.reverse))
theorem pe_revT {X : Cx} {e : Expr} {te : TE} {k : Nat} {p1 p2 p3 pos : Pos} (he : PE X e te) : PE X (.Subscript e (.Slice none none (some (.UnaryOp .USub (.Constant (.int 1) k p1) p2)) p3) pos) (tRevT X.K te) := by
  refine ⟨fun pins s σ H Q I h => ?_⟩
  refine Subscript_ (thn (he.run pins s σ H _ I h) fun v s1 ⟨x, H1, I1, r1, q1⟩ => ?_)
  obtain ⟨a, xs, ex, hx, q⟩ := q1
  subst ex
  cases r1
  have hst : PO X (some (.UnaryOp .USub (.Constant (.int 1) k p1) p2)) (tPart (tUn (rU fun i => .int (-i)) (tC (.int 1)))) := po_some (pe_un un_neg pe_int)
  refine wpAny_Slice (thn (po_none.run pins s1 σ H1 (fun o H2 => o = none ∧ H2 = H1) I1 ⟨rfl, rfl⟩) fun vl s2 ⟨l, H2, I2, pl, el, e2⟩ => ?_)
  subst el e2
  refine thn (po_none.run pins s2 σ H2 (fun o H3 => o = none ∧ H3 = H2) I2 ⟨rfl, rfl⟩) fun vu s3 ⟨u, H3, I3, pu, eu, e3⟩ => ?_
  subst eu e3
  refine thn (hst.run pins s3 σ H3 (fun o H4 => o = some (-1) ∧ H4 = H3) I3 ⟨1, rfl, -1, rfl, rfl, rfl⟩) fun vs s4 ⟨o, H4, I4, ps, eo, e4⟩ => ?_
  subst eo e4
  have I5 : Inv X pins σ H4 { s4 with heap := s4.heap.push { cls := .type "slice", data := .fields #[vl, vu, vs] } } := I4.kept (t' := s4.toks) fun b ob q => Heap.get?_push_of_some _ q
  obtain ⟨its, r, ht, hz⟩ := I5.tuple hx
  have hlen := r.length
  show wpAny (model X.prog X.w) X.A (subscriptTail e (.Slice none none (some (.UnaryOp .USub (.Constant (.int 1) k p1) p2)) p3) (.ref a) (.ref s4.heap.objs.size)) (EP X pins σ Q) X.xe { s4 with heap := s4.heap.push { cls := .type "slice", data := .fields #[vl, vu, vs] } }
  refine tail_any (ops := [.ref a, .ref s4.heap.objs.size]) ht.typeIs (PyProof.Rows.slot_tuple_getitem.lookup) ?_ (by with_unfolding_all rfl)
  refine getItem_tuple_rev ht (Heap.IsSliceOf.new _ vl vu vs) pl pu ps ?_ (by rw [List.size_toArray]; omega)
  refine ⟨.ref _, _, I5.laid (t' := s4.toks) (o := .tup xs.reverse) (fun b ob q => Heap.get?_push_of_some _ q) (Nat.le_refl _) ?_, rfl, q _ (I5.hok.fresh (Nat.le_refl _))⟩
  exact ⟨by rw [List.length_reverse]; exact hz, _, r.reverse, ⟨_, Heap.get?_push_size _ rfl, rfl, _, rfl⟩⟩
end Mini
namespace Mini
open PySem PySem.Spec PyProof.Rows L2

/-! ### helpers -/
section
variable {K : PySem.W.Frag} {rho : Rh} {h : Hd} {H : Hp}
/-- a list that may be joined or repeated: by value or a cell -/
def lstOf (d : D) (h : Hd) : Option (List D) := match d with
  | .lv xs => some xs
  | .ref n => match h[n]? with
    | some (.lst xs) => some xs
    | _ => none
  | _ => none
theorem lstOf_ok (R : Rel K rho h H) {d : D} {v : V} {xs : List D} (r : RelV' K rho h H d v) (e : lstOf d h = some xs) : ∃ a us, v = .ref a ∧ H a = some (.lst us) ∧ RelVs' K rho h H xs us := by
  cases d with
  | lv ys =>
    simp only [lstOf, Option.some.injEq] at e
    subst e
    simp only [RelV', RelD] at r
    obtain ⟨a, us, e1, e2, e3⟩ := r
    exact ⟨a, us, e1, e2.1, e3⟩
  | ref n =>
    simp only [lstOf] at e
    cases q : h[n]? with
    | none => rw [q] at e; cases e
    | some o =>
      cases o with
      | dead => rw [q] at e; cases e
      | lst ys =>
        rw [q] at e
        cases e
        obtain ⟨us, a, b⟩ := R.cellL q
        simp only [RelV', RelD] at r
        exact ⟨_, us, r.2, a, b⟩
  | _ => simp [lstOf] at e
/-- a cell is written -/
theorem setCell (R : Rel K rho h H) {n : Nat} {xs ys : List D} {us ws : List V} (e : h[n]? = some (.lst xs)) (a : H (rho n) = some (.lst us)) (r : RelDs K rho h n H ys ws) :
    Ext K rho h H rho (h.set n (.lst ys)) (L2.upd H (rho n) (.lst ws)) ∧ Rel K rho (h.set n (.lst ys)) (L2.upd H (rho n) (.lst ws)) := by
  have hn : n < h.length := (List.getElem?_eq_some_iff.mp e).1
  have ln : live h n = true := by unfold live; rw [e]
  have lv : ∀ m, live (h.set n (.lst ys)) m = true → live h m = true := fun m hm => by
    by_cases q : n = m
    · subst q; exact ln
    · unfold live at hm ⊢
      rw [List.getElem?_set_ne q] at hm
      exact hm
  have x : Ext K rho h H rho (h.set n (.lst ys)) (L2.upd H (rho n) (.lst ws)) :=
    { le := by simp
      ag := fun _ _ => rfl
      lv := fun m _ hm => lv m hm
      fr := fun m hm q => absurd (live_lt q) (by simpa using hm)
      kp := fun b o q k => by rw [upd_ne (fun z => k n ln z.symm)]; exact q
      tp := fun b vs q => by rw [upd_ne (ne_of q a (by intro z; cases z))]; exact q
      fz := fun b o u q => by rw [upd_ne (ne_of q a (by intro z; cases z))]; exact q
      dm := fun b q => by
        by_cases z : b = rho n
        · rw [z, upd_same] at q; cases q
        · rw [upd_ne z] at q; exact q
      zi := fun _ q => q
      zo := fun _ q => .inl q }
  refine ⟨x, fun m k hm hk q => R.inj m k (lv m hm) (lv k hk) q, fun m o q => ?_, fun b z => ?_, fun m hm => R.zc m (lv m hm)⟩
  · by_cases z : n = m
    · subst z
      rw [List.getElem?_set_self hn] at q
      cases q
      exact ⟨ws, upd_same, RelDs.mono x (Nat.le_refl _) (Nat.le_of_lt hn) _ _ r⟩
    · rw [List.getElem?_set_ne z] at q
      have c := R.cell m o q
      cases o with
      | dead => trivial
      | lst zs =>
        obtain ⟨vs, b1, b2⟩ := c
        have lm : live h m = true := by unfold live; rw [q]
        have ne : rho m ≠ rho n := fun w => z (R.inj n m ln lm w.symm)
        exact ⟨vs, by rw [upd_ne ne]; exact b1, RelDs.mono x (Nat.le_refl _) (Nat.le_of_lt (List.getElem?_eq_some_iff.mp q).1) _ _ b2⟩
  · by_cases q : b = rho n
    · rw [q, upd_same]; simp
    · rw [upd_ne q]; exact R.zd b z
end

/-! ### ints, texts, lists: + - * // % ** -/
def addP (m : Bool) : P2 := fun x y h => match x, y with
  | .int i, .int j => some (.int (i + j), h)
  | .str i, .str j => if i.length + j.length ≤ sizeLine then some (.str (i ++ j), h) else none
  | .tup xs, .tup ys => if xs.length + ys.length ≤ sizeLine then some (.tup (xs ++ ys), h) else none
  | x, y => match lstOf x h, lstOf y h with
    | some xs, some ys => if xs.length + ys.length ≤ sizeLine then mkL m (xs ++ ys) h else none
    | _, _ => none
def subP : P2 := fun x y h => match x, y with
  | .int i, .int j => some (.int (i - j), h)
  | _, _ => none
def in64 (i : Int) : Bool := decide (-(2 ^ 64) < i) && decide (i < 2 ^ 64)
def in63 (i : Int) : Bool := decide (-(2 ^ 63) ≤ i) && decide (i < 2 ^ 63)
def mulP (m : Bool) : P2 := fun x y h => match x, y with
  | .int i, .int j => if in64 i || in64 j then some (.int (i * j), h) else none
  | x, .int k => match lstOf x h with
    | some xs => if in63 k && decide (xs.length * k.toNat ≤ sizeLine) then mkL m (List.replicate k.toNat xs).flatten h else none
    | none => none
  | _, _ => none
def fdivP : P2 := fun x y h => match x, y with
  | .int i, .int j => if 0 < j ∧ j.natAbs.log2 < 9000 then some (.int (i / j), h) else none
  | _, _ => none
def modP : P2 := fun x y h => match x, y with
  | .int i, .int j => if 0 < j then some (.int (i % j), h) else none
  | _, _ => none
def powP : P2 := fun x y h => match x, y with
  | .int i, .int j => if 0 ≤ j ∧ j ≤ 1000000 ∧ i.natAbs < 2 ^ 64 then some (.int (i ^ j.toNat), h) else none
  | _, _ => none
def negP : P1 := fun x h => match x with
  | .int i => some (.int (-i), h)
  | _ => none
section
variable {X : Cx}
theorem p_add (m : Bool) : OpR X (binaryOp .Add) (rO X.K (addP m)) := by
  refine OpR.imp' (op_add.or (op_add_str.or (op_catA.or op_cat))) fun x y H Q q => ?_
  obtain ⟨rho, h, dx, dy, R, rx, ry, po⟩ := q
  have lists : ∀ xs ys, lstOf dx h = some xs → lstOf dy h = some ys → PostP X.K rho h H (if xs.length + ys.length ≤ sizeLine then mkL m (xs ++ ys) h else none) Q → rCat x y H Q := fun xs ys ex ey po => by
    obtain ⟨a, us, e1, e2, e3⟩ := lstOf_ok R rx ex
    obtain ⟨b, ws, f1, f2, f3⟩ := lstOf_ok R ry ey
    by_cases hl : xs.length + ys.length ≤ sizeLine
    · simp only [hl, if_true] at po
      exact ⟨a, b, us, ws, e1, f1, e2, f2, by rw [← RelDs.length e3, ← RelDs.length f3]; exact hl, fun p np => post_mkL R (RelDs.append e3 f3) po np⟩
    · simp only [hl, if_false] at po; exact po.elim
  unfold addP at po
  split at po
  · exact .inl ⟨_, _, rx.int, ry.int, PostP.here po R (relInt _)⟩
  · split at po
    · rename_i hl
      exact .inr (.inl ⟨_, _, rx.str, ry.str, hl, PostP.here po R (relStr _)⟩)
    · exact po.elim
  · rename_i xs ys
    split at po
    · rename_i hl
      obtain ⟨a, us, e1, e2, e3⟩ := rx.tup
      obtain ⟨b, ws, f1, f2, f3⟩ := ry.tup
      subst e1 f1
      refine .inr (.inr (.inl ⟨a, b, us, ws, rfl, rfl, e2, f2, by rw [← RelDs.length e3, ← RelDs.length f3]; exact hl, fun z => ?_, fun z1 z2 => ?_, fun z1 z2 p np => post_tup R (RelDs.append e3 f3) po np⟩))
      · have : xs = [] := (RelDs.nil_iff e3).mpr z
        subst this
        exact PostP.here po R (by simpa using ry)
      · have : ys = [] := (RelDs.nil_iff f3).mpr z2
        subst this
        exact PostP.here po R (by simpa using rx)
    · exact po.elim
  · cases ex : lstOf dx h with
    | none => rw [ex] at po; exact po.elim
    | some xs =>
      cases ey : lstOf dy h with
      | none => rw [ex, ey] at po; exact po.elim
      | some ys => rw [ex, ey] at po; exact .inr (.inr (.inr (lists xs ys ex ey po)))
theorem int2 {K : PySem.W.Frag} {rho : Rh} {h : Hd} {H : Hp} {r : R2} {g : P2} {x y : V} {Q : VK} (q : rO K g x y H Q) (hg : ∀ dx dy h r, g dx dy h = some r → ∃ i j, dx = .int i ∧ dy = .int j)
    (k : ∀ i j rho h, Rel K rho h H → PostP K rho h H (g (.int i) (.int j) h) Q → r (.int i) (.int j) H Q) : r x y H Q := by
  obtain ⟨rho, h, dx, dy, R, rx, ry, po⟩ := q
  cases qg : g dx dy h with
  | none => rw [qg] at po; exact po.elim
  | some w =>
    obtain ⟨i, j, e1, e2⟩ := hg dx dy h w qg
    subst e1 e2
    rw [rx.int, ry.int]
    exact k i j rho h R po
theorem p_sub : OpR X (binaryOp .Sub) (rO X.K subP) := OpR.imp' op_sub fun x y H Q q => by
  obtain ⟨rho, h, dx, dy, R, rx, ry, po⟩ := q
  unfold subP at po
  split at po
  · exact ⟨_, _, rx.int, ry.int, PostP.here po R (relInt _)⟩
  · exact po.elim
theorem p_isub : OpR X (inplaceOp .Sub) (rO X.K subP) := OpR.imp' iop_sub fun x y H Q q => by
  obtain ⟨rho, h, dx, dy, R, rx, ry, po⟩ := q
  unfold subP at po
  split at po
  · exact ⟨_, _, rx.int, ry.int, PostP.here po R (relInt _)⟩
  · exact po.elim
def iaddP : P2 := fun x y h => match x, y with
  | .int i, .int j => some (.int (i + j), h)
  | _, _ => none
theorem p_iadd : OpR X (inplaceOp .Add) (rO X.K iaddP) := OpR.imp' iop_add fun x y H Q q => by
  obtain ⟨rho, h, dx, dy, R, rx, ry, po⟩ := q
  unfold iaddP at po
  split at po
  · exact ⟨_, _, rx.int, ry.int, PostP.here po R (relInt _)⟩
  · exact po.elim
theorem in64_ok {i j : Int} (e : (in64 i || in64 j) = true) : CMul i j := by
  rw [Bool.or_eq_true] at e
  rcases e with e | e <;> (unfold in64 at e; rw [Bool.and_eq_true] at e)
  · exact .inl ⟨of_decide_eq_true e.1, of_decide_eq_true e.2⟩
  · exact .inr ⟨of_decide_eq_true e.1, of_decide_eq_true e.2⟩
theorem p_mul (m : Bool) : OpR X (binaryOp .Mult) (rO X.K (mulP m)) := by
  refine OpR.imp' (op_mul.or op_rep) fun x y H Q q => ?_
  obtain ⟨rho, h, dx, dy, R, rx, ry, po⟩ := q
  unfold mulP at po
  split at po
  · split at po
    · rename_i hl
      exact .inl ⟨_, _, rx.int, ry.int, in64_ok hl, PostP.here po R (relInt _)⟩
    · exact po.elim
  · rename_i k hne
    cases ex : lstOf dx h with
    | none => rw [ex] at po; exact po.elim
    | some xs =>
      rw [ex] at po
      simp only at po
      by_cases hl : (in63 k && decide (xs.length * k.toNat ≤ sizeLine)) = true
      · simp only [hl, if_true] at po
        rw [Bool.and_eq_true] at hl
        obtain ⟨h1, h2⟩ := hl
        unfold in63 at h1
        rw [Bool.and_eq_true] at h1
        obtain ⟨a, us, e1, e2, e3⟩ := lstOf_ok R rx ex
        refine .inr ⟨a, k, us, e1, ry.int, e2, of_decide_eq_true h1.1, of_decide_eq_true h1.2, by rw [← RelDs.length e3]; exact of_decide_eq_true h2, fun p np => post_mkL R ?_ po np⟩
        generalize k.toNat = n
        induction n with
        | zero => simp only [List.replicate_zero, List.flatten_nil, RelVs', RelDs]
        | succ n ih => simp only [List.replicate_succ, List.flatten_cons]; exact RelDs.append e3 ih
      · simp only [hl] at po; exact po.elim
  · exact po.elim
def imulP : P2 := fun x y h => match x, y with
  | .int i, .int j => if in64 i || in64 j then some (.int (i * j), h) else none
  | _, _ => none
theorem p_imul : OpR X (inplaceOp .Mult) (rO X.K imulP) := OpR.imp' iop_mul fun x y H Q q => by
  obtain ⟨rho, h, dx, dy, R, rx, ry, po⟩ := q
  unfold imulP at po
  split at po
  · split at po
    · rename_i hl
      exact ⟨_, _, rx.int, ry.int, in64_ok hl, PostP.here po R (relInt _)⟩
    · exact po.elim
  · exact po.elim
theorem p_fdiv : OpR X (binaryOp .FloorDiv) (rO X.K fdivP) := OpR.imp' op_fdivW fun x y H Q q => by
  obtain ⟨rho, h, dx, dy, R, rx, ry, po⟩ := q
  unfold fdivP at po
  split at po
  · split at po
    · rename_i hl
      exact ⟨_, _, rx.int, ry.int, hl, PostP.here po R (relInt _)⟩
    · exact po.elim
  · exact po.elim
theorem p_mod : OpR X (binaryOp .Mod) (rO X.K modP) := OpR.imp' op_mod fun x y H Q q => by
  obtain ⟨rho, h, dx, dy, R, rx, ry, po⟩ := q
  unfold modP at po
  split at po
  · split at po
    · rename_i hl
      exact ⟨_, _, rx.int, ry.int, hl, PostP.here po R (relInt _)⟩
    · exact po.elim
  · exact po.elim
theorem p_pow : OpR X (binaryOp .Pow) (rO X.K powP) := OpR.imp' op_pow fun x y H Q q => by
  obtain ⟨rho, h, dx, dy, R, rx, ry, po⟩ := q
  unfold powP at po
  split at po
  · split at po
    · rename_i hl
      exact ⟨_, _, rx.int, ry.int, hl, PostP.here po R (relInt _)⟩
    · exact po.elim
  · exact po.elim
theorem p_neg : UnR X (unaryOp .USub) (rU' X.K negP) := fun pins s σ H x v Q I rx q => un_neg pins s σ H x v Q I rx (by
  obtain ⟨rho, h, dx, R, r, po⟩ := q
  unfold negP at po
  split at po
  · exact ⟨_, r.int, PostP.here po R (relInt _)⟩
  · exact po.elim)

/-! ### comparisons of ints -/
def cmpP (p : Int → Int → Bool) : P2 := fun x y h => match x, y with
  | .int i, .int j => some (.bl (p i j), h)
  | _, _ => none
def ltP : P2 := cmpP fun i j => decide (i < j)
def leP : P2 := cmpP fun i j => decide (i ≤ j)
def gtP : P2 := cmpP fun i j => decide (j < i)
def geP : P2 := cmpP fun i j => decide (j ≤ i)
theorem cmp_ok {K : PySem.W.Frag} {p : Int → Int → Bool} {x y : V} {H : Hp} {Q : VK} (q : rO K (cmpP p) x y H Q) : rI0 (fun i j => .bl (p i j)) x y H Q := by
  obtain ⟨rho, h, dx, dy, R, rx, ry, po⟩ := q
  unfold cmpP at po
  split at po
  · exact ⟨_, _, rx.int, ry.int, PostP.here po R (relBl _)⟩
  · exact po.elim
theorem p_lt : OpR X (compareOp .Lt) (rO X.K ltP) := OpR.imp' op_lt fun _ _ _ _ q => cmp_ok q
theorem p_le : OpR X (compareOp .LtE) (rO X.K leP) := OpR.imp' op_le fun _ _ _ _ q => cmp_ok q
theorem p_gt : OpR X (compareOp .Gt) (rO X.K gtP) := OpR.imp' op_gt fun _ _ _ _ q => cmp_ok q
theorem p_ge : OpR X (compareOp .GtE) (rO X.K geP) := OpR.imp' op_ge fun _ _ _ _ q => cmp_ok q
def isNP : P2 := fun x y h => match y with
  | .non => (match x with
    | .non => some (.bl true, h)
    | _ => some (.bl false, h))
  | _ => none
def notNP : P2 := fun x y h => match y with
  | .non => (match x with
    | .non => some (.bl false, h)
    | _ => some (.bl true, h))
  | _ => none
theorem RelV'.isNon {K : PySem.W.Frag} {rho : Rh} {h : Hd} {H : Hp} {d : D} {v : V} (r : RelV' K rho h H d v) : v = .non ↔ d = .non := by
  cases d with
  | non => rw [r.non]; simp
  | bl b => rw [r.bl]; simp
  | int b => rw [r.int]; simp
  | str b => rw [r.str]; simp
  | tup xs => obtain ⟨a, us, e, _⟩ := r.tup; rw [e]; simp
  | lv xs => simp only [RelV', RelD] at r; obtain ⟨a, us, e, _⟩ := r; rw [e]; simp
  | fl xs => simp only [RelV', RelD] at r; obtain ⟨a, us, e, _⟩ := r; rw [e]; simp
  | ref n => simp only [RelV', RelD] at r; rw [r.2]; simp
theorem p_isN : OpR X (compareOp .Is) (rO X.K isNP) := OpR.imp' op_isN fun x y H Q q => by
  obtain ⟨rho, h, dx, dy, R, rx, ry, po⟩ := q
  unfold isNP at po
  split at po
  · refine ⟨ry.non, ?_⟩
    split at po
    · rw [rx.non]; exact PostP.here po R (relBl _)
    · rename_i hn
      rw [decide_eq_false (fun z => hn (rx.isNon.mp z))]; exact PostP.here po R (relBl _)
  · exact po.elim
theorem p_notN : OpR X (compareOp .IsNot) (rO X.K notNP) := OpR.imp' op_notN fun x y H Q q => by
  obtain ⟨rho, h, dx, dy, R, rx, ry, po⟩ := q
  unfold notNP at po
  split at po
  · refine ⟨ry.non, ?_⟩
    split at po
    · rw [rx.non]; exact PostP.here po R (relBl _)
    · rename_i hn
      rw [decide_eq_false (fun z => hn (rx.isNon.mp z))]; exact PostP.here po R (relBl _)
  · exact po.elim
end

/-! ### == of data -/
mutual
def pyD : D → Option PyData
  | .non => some .none
  | .bl b => some (.bool b)
  | .int i => some (.int i)
  | .str x => some (.str x)
  | .tup xs => match pyDs xs with
    | some ds => some (.tuple ds)
    | none => none
  | .lv xs => match pyDs xs with
    | some ds => some (.list ds)
    | none => none
  | .fl xs => match pyDs xs with
    | some ds => some (.list ds)
    | none => none
  | .ref _ => none
def pyDs : List D → Option (List PyData)
  | [] => some []
  | d :: ds => match pyD d, pyDs ds with
    | some p, some ps => some (p :: ps)
    | _, _ => none
end
section
variable {K : PySem.W.Frag} {rho : Rh} {h : Hd} {H : Hp}
mutual
theorem pyD_ok : ∀ (d : D) (v : V) (B : Nat) (p : PyData), RelD K rho h B H d v → pyD d = some p → Dp K H v p
  | .non, v, B, p, r, e => by simp only [RelD] at r; simp only [pyD, Option.some.injEq] at e; subst r e; exact .non
  | .bl b, v, B, p, r, e => by simp only [RelD] at r; simp only [pyD, Option.some.injEq] at e; subst r e; exact .bl b
  | .int b, v, B, p, r, e => by simp only [RelD] at r; simp only [pyD, Option.some.injEq] at e; subst r e; exact .int b
  | .str b, v, B, p, r, e => by simp only [RelD] at r; simp only [pyD, Option.some.injEq] at e; subst r e; exact .str b
  | .tup xs, v, B, p, r, e => by
    simp only [RelD] at r
    obtain ⟨a, us, e1, e2, e3⟩ := r
    simp only [pyD] at e
    cases q : pyDs xs with
    | none => rw [q] at e; cases e
    | some ds => rw [q] at e; cases e; subst e1; exact .tup e2 (pyDs_ok xs us B ds e3 q)
  | .lv xs, v, B, p, r, e => by
    simp only [RelD] at r
    obtain ⟨a, us, e1, e2, e3⟩ := r
    simp only [pyD] at e
    cases q : pyDs xs with
    | none => rw [q] at e; cases e
    | some ds => rw [q] at e; cases e; subst e1; exact .lst (.inl (.inl e2.1)) (pyDs_ok xs us B ds e3 q)
  | .fl xs, v, B, p, r, e => by
    simp only [RelD] at r
    obtain ⟨a, us, e1, e2, e3⟩ := r
    simp only [pyD] at e
    cases q : pyDs xs with
    | none => rw [q] at e; cases e
    | some ds =>
      rw [q] at e; cases e; subst e1
      refine .lst ?_ (pyDs_ok xs us B ds e3 q)
      rcases e2 with e2 | e2
      · exact .inl (.inr e2)
      · exact .inr e2
  | .ref n, v, B, p, r, e => by simp [pyD] at e
theorem pyDs_ok : ∀ (ds : List D) (vs : List V) (B : Nat) (ps : List PyData), RelDs K rho h B H ds vs → pyDs ds = some ps → DpAll K H vs ps
  | [], vs, B, ps, r, e => by simp only [RelDs] at r; simp only [pyDs, Option.some.injEq] at e; subst r e; exact .nil
  | d :: ds, vs, B, ps, r, e => by
    simp only [RelDs] at r
    obtain ⟨v, rr, e1, e2, e3⟩ := r
    simp only [pyDs] at e
    cases q1 : pyD d with
    | none => rw [q1] at e; simp at e
    | some p =>
      cases q2 : pyDs ds with
      | none => rw [q1, q2] at e; simp at e
      | some ps' => rw [q1, q2] at e; cases e; subst e1; exact .cons (pyD_ok d v B p e2 q1) (pyDs_ok ds rr B ps' e3 q2)
end
/-- data as it stands: a cell is read -/
def pyR (d : D) (h : Hd) : Option PyData := match d with
  | .ref n => match h[n]? with
    | some (.lst xs) => (pyDs xs).map .list
    | _ => none
  | d => pyD d
theorem pyR_ok (R : Rel K rho h H) {d : D} {v : V} {p : PyData} (r : RelV' K rho h H d v) (e : pyR d h = some p) : Dp K H v p := by
  have other : pyD d = some p → Dp K H v p := fun q => pyD_ok d v _ p r q
  cases d with
  | ref n =>
    simp only [pyR] at e
    cases q : h[n]? with
    | none => rw [q] at e; cases e
    | some o =>
      cases o with
      | dead => rw [q] at e; cases e
      | lst xs =>
        rw [q] at e
        simp only at e
        cases q2 : pyDs xs with
        | none => rw [q2] at e; cases e
        | some ds =>
          rw [q2] at e
          cases e
          obtain ⟨us, a, b⟩ := R.cellL q
          simp only [RelV', RelD] at r
          rw [r.2]
          exact .lst (.inl (.inl a)) (pyDs_ok xs us _ ds b q2)
  | _ => exact other e
end
def eqP (neg : Bool) : P2 := fun x y h => match pyR x h, pyR y h with
  | some a, some b => if SeqAt.shaped a && SeqAt.shaped b then some (.bl (if neg then !PyData.eqv a b else PyData.eqv a b), h) else none
  | _, _ => none
section
variable {X : Cx}
theorem p_eq (hu : X.A.units + 64 < cLine) : OpR X (compareOp .Eq) (rO X.K (eqP false)) := OpR.imp' (op_eqD hu) fun x y H Q q => by
  obtain ⟨rho, h, dx, dy, R, rx, ry, po⟩ := q
  unfold eqP at po
  split at po
  · rename_i a b qa qb
    by_cases hs : (SeqAt.shaped a && SeqAt.shaped b) = true
    · simp only [hs, if_true] at po
      rw [Bool.and_eq_true] at hs
      exact ⟨a, b, pyR_ok R rx qa, pyR_ok R ry qb, hs.1, hs.2, PostP.here po R (relBl _)⟩
    · simp only [hs] at po; exact po.elim
  · exact po.elim
theorem p_ne (hu : X.A.units + 64 < cLine) : OpR X (compareOp .NotEq) (rO X.K (eqP true)) := OpR.imp' (op_neD hu) fun x y H Q q => by
  obtain ⟨rho, h, dx, dy, R, rx, ry, po⟩ := q
  unfold eqP at po
  split at po
  · rename_i a b qa qb
    by_cases hs : (SeqAt.shaped a && SeqAt.shaped b) = true
    · simp only [hs, if_true] at po
      rw [Bool.and_eq_true] at hs
      exact ⟨a, b, pyR_ok R rx qa, pyR_ok R ry qb, hs.1, hs.2, PostP.here po R (relBl _)⟩
    · simp only [hs] at po; exact po.elim
  · exact po.elim
end

/-! ### calls -/
def lenP : PL := fun ds h => match ds with
  | [.str z] => if z.length ≤ sizeLine then some (.int z.length, h) else none
  | [d] => match asS d h with
    | some xs => some (.int xs.length, h)
    | none => none
  | _ => none
def absP : PL := fun ds h => match ds with
  | [.int i] => some (.int (if i < 0 then -i else i), h)
  | _ => none
def intP : PL := fun ds h => match ds with
  | [.int i] => some (.int i, h)
  | [.bl k] => some (.int (if k then 1 else 0), h)
  | _ => none
def min2P : PL := fun ds h => match ds with
  | [.int i, .int j] => some (.int (if j < i then j else i), h)
  | _ => none
def max2P : PL := fun ds h => match ds with
  | [.int i, .int j] => some (.int (if j > i then j else i), h)
  | _ => none
def listP (m : Bool) : PL := fun ds h => match ds with
  | [d] => match asS d h with
    | some xs => mkL m xs h
    | none => none
  | _ => none
def tupleP : PL := fun ds h => match ds with
  | [.tup xs] => some (.tup xs, h)
  | [d] => match asL d h with
    | some xs => some (.tup xs, h)
    | none => none
  | _ => none
def intsOf : List D → Option (List Int)
  | [] => some []
  | .int i :: ds => (intsOf ds).map (i :: ·)
  | _ :: _ => none
def blsOf : List D → Option (List Bool)
  | [] => some []
  | .bl i :: ds => (blsOf ds).map (i :: ·)
  | _ :: _ => none
def sumP : PL := fun ds h => match ds with
  | [d] => match (asL d h).bind intsOf with
    | some ns => some (.int ns.sum, h)
    | none => none
  | _ => none
def allP : PL := fun ds h => match ds with
  | [d] => match (asL d h).bind blsOf with
    | some ns => some (.bl (ns.all id), h)
    | none => none
  | _ => none
def anyP : PL := fun ds h => match ds with
  | [d] => match (asL d h).bind blsOf with
    | some ns => some (.bl (ns.any id), h)
    | none => none
  | _ => none
section
variable {K : PySem.W.Frag} {rho : Rh} {h : Hd} {H : Hp}
theorem rel1 {d : D} {xs : List V} (r : RelVs' K rho h H [d] xs) : ∃ v, xs = [v] ∧ RelV' K rho h H d v := by
  simp only [RelVs', RelDs] at r
  obtain ⟨v, rr, e1, r1, e2⟩ := r
  subst e2
  exact ⟨v, e1, r1⟩
theorem rel2 {d e : D} {xs : List V} (r : RelVs' K rho h H [d, e] xs) : ∃ v w, xs = [v, w] ∧ RelV' K rho h H d v ∧ RelV' K rho h H e w := by
  simp only [RelVs', RelDs] at r
  obtain ⟨v, rr, e1, r1, w, rr2, e2, r2, e3⟩ := r
  subst e3 e2
  exact ⟨v, w, e1, r1, r2⟩
theorem intsOf_ok : ∀ {ds : List D} {us : List V} {ns : List Int} {B : Nat}, RelDs K rho h B H ds us → intsOf ds = some ns → us = ns.map V.int
  | [], us, ns, B, r, e => by simp only [RelDs] at r; simp only [intsOf, Option.some.injEq] at e; subst r e; rfl
  | .int i :: ds, us, ns, B, r, e => by
    simp only [RelDs, RelD] at r
    obtain ⟨v, rr, e1, e2, e3⟩ := r
    simp only [intsOf] at e
    cases q : intsOf ds with
    | none => rw [q] at e; cases e
    | some ms => rw [q] at e; cases e; rw [e1, e2, intsOf_ok e3 q]; rfl
  | .non :: ds, us, ns, B, r, e => by simp [intsOf] at e
  | .bl _ :: ds, us, ns, B, r, e => by simp [intsOf] at e
  | .str _ :: ds, us, ns, B, r, e => by simp [intsOf] at e
  | .tup _ :: ds, us, ns, B, r, e => by simp [intsOf] at e
  | .lv _ :: ds, us, ns, B, r, e => by simp [intsOf] at e
  | .fl _ :: ds, us, ns, B, r, e => by simp [intsOf] at e
  | .ref _ :: ds, us, ns, B, r, e => by simp [intsOf] at e
theorem blsOf_ok : ∀ {ds : List D} {us : List V} {ns : List Bool} {B : Nat}, RelDs K rho h B H ds us → blsOf ds = some ns → us = ns.map V.bl
  | [], us, ns, B, r, e => by simp only [RelDs] at r; simp only [blsOf, Option.some.injEq] at e; subst r e; rfl
  | .bl i :: ds, us, ns, B, r, e => by
    simp only [RelDs, RelD] at r
    obtain ⟨v, rr, e1, e2, e3⟩ := r
    simp only [blsOf] at e
    cases q : blsOf ds with
    | none => rw [q] at e; cases e
    | some ms => rw [q] at e; cases e; rw [e1, e2, blsOf_ok e3 q]; rfl
  | .non :: ds, us, ns, B, r, e => by simp [blsOf] at e
  | .int _ :: ds, us, ns, B, r, e => by simp [blsOf] at e
  | .str _ :: ds, us, ns, B, r, e => by simp [blsOf] at e
  | .tup _ :: ds, us, ns, B, r, e => by simp [blsOf] at e
  | .lv _ :: ds, us, ns, B, r, e => by simp [blsOf] at e
  | .fl _ :: ds, us, ns, B, r, e => by simp [blsOf] at e
  | .ref _ :: ds, us, ns, B, r, e => by simp [blsOf] at e
end
section
variable {X : Cx}
theorem c_len : CallR X (.builtin "len") (rC X.K lenP) := CallR.imp' (call_len_str.or call_len_seq) fun xs H Q q => by
  obtain ⟨rho, h, ds, R, r, po⟩ := q
  unfold lenP at po
  split at po
  · split at po
    · rename_i hl
      obtain ⟨v, e, r⟩ := rel1 r
      exact .inl ⟨_, by rw [e, r.str], hl, PostP.here po R (relInt _)⟩
    · exact po.elim
  · rename_i d hne
    cases qa : asS d h with
    | none => rw [qa] at po; exact po.elim
    | some ys =>
      rw [qa] at po
      obtain ⟨v, e, r⟩ := rel1 r
      obtain ⟨a, us, e1, e2, e3⟩ := asS_ok R r qa
      subst e1
      exact .inr ⟨a, us, e, e2, by rw [← RelDs.length e3]; exact PostP.here po R (relInt _)⟩
  · exact po.elim
theorem c_abs : CallR X (.builtin "abs") (rC X.K absP) := CallR.imp' call_abs fun xs H Q q => by
  obtain ⟨rho, h, ds, R, r, po⟩ := q
  unfold absP at po
  split at po
  · obtain ⟨v, e, r⟩ := rel1 r
    exact ⟨_, by rw [e, r.int], PostP.here po R (relInt _)⟩
  · exact po.elim
theorem c_int : CallR X (.type "int") (rC X.K intP) := CallR.imp' call_int1 fun xs H Q q => by
  obtain ⟨rho, h, ds, R, r, po⟩ := q
  unfold intP at po
  split at po
  · obtain ⟨v, e, r⟩ := rel1 r
    exact .inl ⟨_, by rw [e, r.int], PostP.here po R (relInt _)⟩
  · obtain ⟨v, e, r⟩ := rel1 r
    exact .inr ⟨_, by rw [e, r.bl], PostP.here po R (relInt _)⟩
  · exact po.elim
theorem c_min2 (hc : X.calm = true) : CallR X (.builtin "min") (rC X.K min2P) := CallR.imp' (call_min2 hc) fun xs H Q q => by
  obtain ⟨rho, h, ds, R, r, po⟩ := q
  unfold min2P at po
  split at po
  · obtain ⟨v, w, e, r1, r2⟩ := rel2 r
    exact ⟨_, _, by rw [e, r1.int, r2.int], PostP.here po R (relInt _)⟩
  · exact po.elim
theorem c_max2 (hc : X.calm = true) : CallR X (.builtin "max") (rC X.K max2P) := CallR.imp' (call_max2 hc) fun xs H Q q => by
  obtain ⟨rho, h, ds, R, r, po⟩ := q
  unfold max2P at po
  split at po
  · obtain ⟨v, w, e, r1, r2⟩ := rel2 r
    exact ⟨_, _, by rw [e, r1.int, r2.int], PostP.here po R (relInt _)⟩
  · exact po.elim
theorem c_list (m : Bool) : CallR X (.type "list") (rC X.K (listP m)) := CallR.imp' call_list_of fun xs H Q q => by
  obtain ⟨rho, h, ds, R, r, po⟩ := q
  unfold listP at po
  split at po
  · rename_i d
    cases qa : asS d h with
    | none => rw [qa] at po; exact po.elim
    | some ys =>
      rw [qa] at po
      obtain ⟨v, e, r⟩ := rel1 r
      obtain ⟨a, us, e1, e2, e3⟩ := asS_ok R r qa
      subst e1
      exact ⟨a, us, e, e2, fun l nl => post_mkL R e3 po nl⟩
  · exact po.elim
theorem c_tuple : CallR X (.type "tuple") (rC X.K tupleP) := CallR.imp' call_tuple_of fun xs H Q q => by
  obtain ⟨rho, h, ds, R, r, po⟩ := q
  unfold tupleP at po
  split at po
  · obtain ⟨v, e, r⟩ := rel1 r
    have r0 := r
    obtain ⟨a, us, e1, e2, e3⟩ := r.tup
    subst e1
    exact ⟨a, us, e, .inr ⟨e2, PostP.here po R r0⟩⟩
  · rename_i d hne
    cases qa : asL d h with
    | none => rw [qa] at po; exact po.elim
    | some ys =>
      rw [qa] at po
      obtain ⟨v, e, r⟩ := rel1 r
      obtain ⟨a, us, e1, e2, e3⟩ := asL_ok R r qa
      subst e1
      exact ⟨a, us, e, .inl ⟨e2, fun l nl => post_tup R e3 po nl⟩⟩
  · exact po.elim
theorem c_sum (hc : X.calm = true) : CallR X (.builtin "sum") (rC X.K sumP) := CallR.imp' (cr_sum hc) fun xs H Q q => by
  obtain ⟨rho, h, ds, R, r, po⟩ := q
  unfold sumP at po
  split at po
  · rename_i d
    cases qa : asL d h with
    | none => rw [qa] at po; exact po.elim
    | some ys =>
      rw [qa] at po
      simp only [Option.bind_some] at po
      cases qi : intsOf ys with
      | none => rw [qi] at po; exact po.elim
      | some ns =>
        rw [qi] at po
        obtain ⟨v, e, r⟩ := rel1 r
        obtain ⟨a, us, e1, e2, e3⟩ := asL_ok R r qa
        subst e1
        exact ⟨a, ns, e, by rw [← intsOf_ok e3 qi]; exact e2, PostP.here po R (relInt _)⟩
  · exact po.elim
theorem c_all (hc : X.calm = true) : CallR X (.builtin "all") (rC X.K allP) := CallR.imp' (cr_all hc) fun xs H Q q => by
  obtain ⟨rho, h, ds, R, r, po⟩ := q
  unfold allP at po
  split at po
  · rename_i d
    cases qa : asL d h with
    | none => rw [qa] at po; exact po.elim
    | some ys =>
      rw [qa] at po
      simp only [Option.bind_some] at po
      cases qi : blsOf ys with
      | none => rw [qi] at po; exact po.elim
      | some ns =>
        rw [qi] at po
        obtain ⟨v, e, r⟩ := rel1 r
        obtain ⟨a, us, e1, e2, e3⟩ := asL_ok R r qa
        subst e1
        exact ⟨a, ns, e, by rw [← blsOf_ok e3 qi]; exact e2, PostP.here po R (relBl _)⟩
  · exact po.elim
theorem c_any (hc : X.calm = true) : CallR X (.builtin "any") (rC X.K anyP) := CallR.imp' (cr_any hc) fun xs H Q q => by
  obtain ⟨rho, h, ds, R, r, po⟩ := q
  unfold anyP at po
  split at po
  · rename_i d
    cases qa : asL d h with
    | none => rw [qa] at po; exact po.elim
    | some ys =>
      rw [qa] at po
      simp only [Option.bind_some] at po
      cases qi : blsOf ys with
      | none => rw [qi] at po; exact po.elim
      | some ns =>
        rw [qi] at po
        obtain ⟨v, e, r⟩ := rel1 r
        obtain ⟨a, us, e1, e2, e3⟩ := asL_ok R r qa
        subst e1
        exact ⟨a, ns, e, by rw [← blsOf_ok e3 qi]; exact e2, PostP.here po R (relBl _)⟩
  · exact po.elim
end

/-! ### list(range(..)), tuple(range(..)) -/
theorem rgV_rel {K : PySem.W.Frag} {rho : Rh} {h : Hd} {H : Hp} {B : Nat} : ∀ (n : Nat) (a : Int), RelDs K rho h B H (rangeL a n) ((List.range n).map fun i => V.int (a + (i : Nat)))
  | 0, a => by simp [rangeL, RelDs]
  | n + 1, a => by
    rw [List.range_succ_eq_map]
    simp only [rangeL, RelDs, RelD, List.map_cons, List.map_map]
    refine ⟨.int a, _, by simp; rfl, rfl, ?_⟩
    have := rgV_rel (K := K) (rho := rho) (h := h) (H := H) (B := B) n (a + 1)
    have e : ((fun i : Nat => V.int (a + (i : Nat))) ∘ Nat.succ) = fun i : Nat => V.int (a + 1 + (i : Nat)) := by
      funext i; simp only [Function.comp]; congr 1; omega
    rw [e]; exact this
def rgOkB (a b : Int) : Bool := in62 a && in62 b && decide ((b - a).toNat ≤ 2 ^ 24)
theorem rgOkB_ok {a b : Int} (e : rgOkB a b = true) : RgOk a b := by
  unfold rgOkB at e
  rw [Bool.and_eq_true, Bool.and_eq_true] at e
  exact ⟨(in62_ok e.1.1).1, (in62_ok e.1.1).2, (in62_ok e.1.2).1, (in62_ok e.1.2).2, of_decide_eq_true e.2⟩
/-- the two ends of a range -/
abbrev RF := Ev → Hd → Res (Int × Int)
abbrev pR (Q : Int → Int → Hp → Prop) : PG' (Int × Int) := fun p _ _ H => Q p.1 p.2 H
def tR (K : PySem.W.Frag) (mg : Str → Option Value) (W : WX) (f : RF) : L2.St → Hp → (Int → Int → Hp → Prop) → Prop := tG K mg W f pR
def rg1 (f : EF) : RF := fun s h => (f s h).bind fun d h1 => match d with
  | .int n => .ok (0, n) h1
  | _ => .fail
def rg2 (f g : EF) : RF := fun s h => (f s h).bind fun d h1 => (g s h1).bind fun e h2 => match d, e with
  | .int n, .int m => .ok (n, m) h2
  | _, _ => .fail
def e_lrg (m : Bool) (f : RF) : EF := fun s h => (f s h).bind fun p h1 => if rgOkB p.1 p.2 then lift (mkL m (rangeL p.1 (p.2 - p.1).toNat) h1) else .fail
def e_trg (f : RF) : EF := fun s h => (f s h).bind fun p h1 => if rgOkB p.1 p.2 then .ok (.tup (rangeL p.1 (p.2 - p.1).toNat)) h1 else .fail
section
variable {X : Cx} {W : WX} {a b e : Expr} {fa fb : EF} {p pos : Pos} {f : RF}
theorem PRg.imp {t t' : L2.St → Hp → (Int → Int → Hp → Prop) → Prop} (p : PRg X e t) (i : ∀ σ H Q, t' σ H Q → t σ H Q) : PRg X e t' := fun pins s σ H Q I q => p pins s σ H Q I (i σ H Q q)
theorem rg_1 (hm : X.mg "range" = none) (ha : SE X W a fa) (hg : Gl X "range" := by rfl) (na : starEach [a] X.env = (false, eval a X.env) :: starEach [] X.env := by rfl) : PRg X (.Call (.Name "range" p) [a] [] pos) (tR X.K X.mg W (rg1 fa)) :=
  PRg.imp (prg_1 hg hm ha na) fun σ H Q q => by
    obtain ⟨rho, h, s, R, S, po⟩ := q
    refine step R S po fun rho1 h1 H1 d e1 R1 S1 po1 v r => ?_
    cases d with
    | int n => exact ⟨n, r.int, PostG.ok po1 R1⟩
    | _ => exact po1.elim
theorem rg_2 (hm : X.mg "range" = none) (ha : SE X W a fa) (hb : SE X W b fb) (hg : Gl X "range" := by rfl) (na : starEach [a, b] X.env = (false, eval a X.env) :: starEach [b] X.env := by rfl)
    (nb : starEach [b] X.env = (false, eval b X.env) :: starEach [] X.env := by rfl) (hp : (backTo pos (starEach [b] X.env)).any (·.1) = false := by rfl) : PRg X (.Call (.Name "range" p) [a, b] [] pos) (tR X.K X.mg W (rg2 fa fb)) :=
  PRg.imp (prg_2 hg hm ha hb na nb hp) fun σ H Q q => by
    obtain ⟨rho, h, s, R, S, po⟩ := q
    refine step R S po fun rho1 h1 H1 d e1 R1 S1 po1 v r => step R1 S1 po1 fun rho2 h2 H2 d2 e2 R2 S2 po2 v2 r2 => ?_
    cases d with
    | int n =>
      cases d2 with
      | int m => exact ⟨n, m, r.int, r2.int, PostG.ok po2 R2⟩
      | _ => exact po2.elim
    | _ => exact po2.elim
theorem r_lrg (m : Bool) (hc : X.calm = true) (hm : X.mg "list" = none) (he : PRg X e (tR X.K X.mg W f)) (hg : Gl X "list" := by rfl) (na : starEach [e] X.env = (false, eval e X.env) :: starEach [] X.env := by rfl) : SE X W (.Call (.Name "list" p) [e] [] pos) (e_lrg m f) :=
  PE.imp (pe_listRg hc hg hm he na) fun σ H Q q => by
    obtain ⟨rho, h, s, R, S, po⟩ := q
    refine step R S po fun rho1 h1 H1 pr e1 R1 S1 po1 => ?_
    by_cases hs : rgOkB pr.1 pr.2 = true
    · simp only [hs, if_true] at po1
      exact ⟨rgOkB_ok hs, fun q nq => post_mkL R1 (rgV_rel _ _) (PostP.of po1) nq⟩
    · simp only [hs] at po1; exact po1.elim
theorem r_trg (hc : X.calm = true) (hm : X.mg "tuple" = none) (he : PRg X e (tR X.K X.mg W f)) (hg : Gl X "tuple" := by rfl) (na : starEach [e] X.env = (false, eval e X.env) :: starEach [] X.env := by rfl) : SE X W (.Call (.Name "tuple" p) [e] [] pos) (e_trg f) :=
  PE.imp (pe_tupRg hc hg hm he na) fun σ H Q q => by
    obtain ⟨rho, h, s, R, S, po⟩ := q
    refine step R S po fun rho1 h1 H1 pr e1 R1 S1 po1 => ?_
    by_cases hs : rgOkB pr.1 pr.2 = true
    · simp only [hs, if_true] at po1
      refine ⟨rgOkB_ok hs, fun q nq => ?_⟩
      exact post_tup R1 (rgV_rel _ _) (fun rho' H' v e R' rr => po1 rho' H' e R' v rr) nq
    · simp only [hs] at po1; exact po1.elim
end

/-! ### subscripts, slices -/
def ixP : P2 := fun x y h => match y with
  | .int i => (match x with
    | .str z => if z.length ≤ sizeLine then (match atI z.cps.toList i with
      | some c => some (.str ⟨#[c]⟩, h)
      | none => none) else none
    | x => match asS x h with
      | some xs => (match atI xs i with
        | some d => some (d, h)
        | none => none)
      | none => none)
  | _ => none
def cutD (xs : List D) (lo hi : Option Int) : List D := (xs.drop (HT.sIx xs.length 0 lo)).take (HT.sIx xs.length xs.length hi - HT.sIx xs.length 0 lo)
theorem atI_rel {K : PySem.W.Frag} {rho : Rh} {h : Hd} {H : Hp} {ds : List D} {us : List V} {i : Int} {d : D} (r : RelVs' K rho h H ds us) (e : atI ds i = some d) : ∃ v, atI us i = some v ∧ RelV' K rho h H d v := by
  unfold atI at e ⊢
  rw [← RelDs.length r]
  cases q : ixN ds.length i with
  | none => rw [q] at e; cases e
  | some j => rw [q] at e; exact RelDs.get r e
section
variable {X : Cx}
theorem p_ix : IxR X (rO X.K ixP) := fun value slice pins s σ H x y v u Q I rx ry q hs => ix_seq value slice pins s σ H x y v u Q I rx ry (by
  obtain ⟨rho, h, dx, dy, R, rx, ry, po⟩ := q
  unfold ixP at po
  split at po
  · rename_i i
    split at po
    · rename_i z
      split at po
      · rename_i hl
        split at po
        · rename_i c hc
          exact .inr (.inr ⟨z, i, c, rx.str, ry.int, hl, hc, PostP.here po R (relStr _)⟩)
        · exact po.elim
      · exact po.elim
    · rename_i hne
      cases qa : asS dx h with
      | none => rw [qa] at po; exact po.elim
      | some xs =>
        rw [qa] at po
        simp only at po
        cases qi : atI xs i with
        | none => rw [qi] at po; exact po.elim
        | some d =>
          rw [qi] at po
          obtain ⟨a, us, e1, e2, e3⟩ := asS_ok R rx qa
          obtain ⟨w, w1, w2⟩ := atI_rel e3 qi
          rcases e2 with e2 | e2
          · exact .inl ⟨a, us, i, w, e1, ry.int, e2, w1, PostP.here po R w2⟩
          · exact .inr (.inl ⟨a, us, i, w, e1, ry.int, e2, w1, PostP.here po R w2⟩)
  · exact po.elim) hs
end
/-- a part of a slice -/
abbrev OF := Ev → Hd → Res (Option Int)
abbrev pO (Q : Option Int → Hp → Prop) : PG' (Option Int) := fun o _ _ H => Q o H
def o_none : OF := fun _ h => .ok none h
def o_some (f : EF) : OF := fun s h => (f s h).bind fun d h1 => match d with
  | .int i => .ok (some i) h1
  | _ => .fail
def slP (m : Bool) (d : D) (lo hi : Option Int) (h : Hd) : PR := match d with
  | .tup xs => some (.tup (cutD xs lo hi), h)
  | d => match asL d h with
    | some xs => mkL m (cutD xs lo hi) h
    | none => none
def e_slice (m : Bool) (f : EF) (lo hi : OF) : EF := fun s h => (f s h).bind fun d h1 => (lo s h1).bind fun l h2 => (hi s h2).bind fun u h3 => lift (slP m d l u h3)
def e_rev (m : Bool) (f : EF) : EF := fun s h => (f s h).bind fun d h1 => match d with
  | .tup xs => .ok (.tup xs.reverse) h1
  | d => match asL d h1 with
    | some xs => lift (mkL m xs.reverse h1)
    | none => .fail
section
variable {X : Cx} {W : WX} {e : Expr} {lo hi : Option Expr} {fe : EF} {fl fh : OF} {p2 pos : Pos}
theorem PO.imp {e : Option Expr} {t t' : TO} (p : PO X e t) (i : ∀ σ H Q, t' σ H Q → t σ H Q) : PO X e t' := ⟨fun pins s σ H Q I q => p.run pins s σ H Q I (i σ H Q q)⟩
theorem ro_none : PO X none (tG X.K X.mg W o_none pO) := PO.imp po_none fun σ H Q q => by
  obtain ⟨rho, h, s, R, S, po⟩ := q
  exact PostG.ok po R
theorem ro_some (he : SE X W e fe) : PO X (some e) (tG X.K X.mg W (o_some fe) pO) := PO.imp (po_some he) fun σ H Q q => by
  obtain ⟨rho, h, s, R, S, po⟩ := q
  refine step R S po fun rho1 h1 H1 d e1 R1 S1 po1 v r => ?_
  cases d with
  | int i => exact ⟨i, r.int, PostG.ok po1 R1⟩
  | _ => exact po1.elim
theorem sl_D (m : Bool) : SlR X (fun x lo hi H Q => ∃ rho h d, Rel X.K rho h H ∧ RelV' X.K rho h H d x ∧ PostP X.K rho h H (slP m d lo hi h) Q) := by
  have key := (sl_tupA (X := X)).or sl_list
  intro pins s σ H x v vl vu lo hi sl Q I rx hs pl pu q
  refine key pins s σ H x v vl vu lo hi sl Q I rx hs pl pu ?_
  obtain ⟨rho, h, d, R, r, po⟩ := q
  unfold slP at po
  split at po
  · rename_i xs
    have r0 := r
    obtain ⟨a, us, e1, e2, e3⟩ := r.tup
    have hl := RelDs.length e3
    refine .inl ⟨a, us, e1, e2, fun z => ?_, fun z p np => ?_⟩
    · have : cutD xs lo hi = xs := by unfold cutD; rw [hl, z.1, z.2, ← hl]; simp
      rw [this] at po
      rw [← e1]; exact PostP.here po R r0
    · refine post_tup R (us := cutV us lo hi) ?_ po np
      unfold cutD cutV
      rw [hl]
      exact RelDs.take _ (RelDs.drop _ e3)
  · rename_i hne
    cases qa : asL d h with
    | none => rw [qa] at po; exact po.elim
    | some xs =>
      rw [qa] at po
      obtain ⟨a, us, e1, e2, e3⟩ := asL_ok R r qa
      refine .inr ⟨a, us, e1, e2, fun p np => post_mkL R ?_ po np⟩
      unfold cutD cutV
      rw [RelDs.length e3]
      exact RelDs.take _ (RelDs.drop _ e3)
theorem r_slice (m : Bool) (he : SE X W e fe) (hl : PO X lo (tG X.K X.mg W fl pO)) (hh : PO X hi (tG X.K X.mg W fh pO)) : SE X W (.Subscript e (.Slice lo hi none p2) pos) (e_slice m fe fl fh) := PE.imp (pe_slice (sl_D m) he hl hh) fun σ H Q q => by
  obtain ⟨rho, h, s, R, S, po⟩ := q
  exact step R S po fun rho1 h1 H1 d e1 R1 S1 po1 v r => step R1 S1 po1 fun rho2 h2 H2 l e2 R2 S2 po2 => step R2 S2 po2 fun rho3 h3 H3 u e3 R3 S3 po3 => ⟨rho3, h3, d, R3, (e2.trans e3).v r, PostP.of po3⟩
theorem PE.or' {t u t' : TE} (p : PE X e t) (q : PE X e u) (i : ∀ σ H Q, t' σ H Q → t σ H Q ∨ u σ H Q) : PE X e t' := ⟨fun pins s σ H R I z => (i σ H R z).elim (p.run pins s σ H R I) (q.run pins s σ H R I)⟩
theorem r_rev (m : Bool) {k : Nat} {p1 p2 p3 : Pos} (he : SE X W e fe) : SE X W (.Subscript e (.Slice none none (some (.UnaryOp .USub (.Constant (.int 1) k p1) p2)) p3) pos) (e_rev m fe) := by
  refine PE.or' (pe_revL he) (pe_revT he) fun σ H Q q => ?_
  obtain ⟨rho, h, s, R, S, po⟩ := q
  unfold e_rev at po
  cases qf : fe s h with
  | fail => rw [qf] at po; exact po.elim
  | exc x h1 => rw [qf] at po; exact .inl ⟨rho, h, s, R, S, by rw [qf]; exact po⟩
  | ok d h1 =>
    rw [qf] at po
    simp only [Res.bind] at po
    split at po
    · refine .inr ⟨rho, h, s, R, S, ?_⟩
      rw [qf]
      intro rho1 H1 e1 R1 v r
      obtain ⟨a, us, w1, w2, w3⟩ := r.tup
      exact ⟨a, us, w1, w2, fun p np => post_tup R1 (RelDs.reverse w3) (fun rho' H' v e R' rr => po rho' H' (e1.trans e) R' v rr) np⟩
    · refine .inl ⟨rho, h, s, R, S, ?_⟩
      rw [qf]
      intro rho1 H1 e1 R1 v r
      cases qa : asL d h1 with
      | none => rw [qa] at po; exact po.elim
      | some xs =>
        rw [qa] at po
        obtain ⟨a, us, w1, w2, w3⟩ := asL_ok R1 r qa
        exact ⟨a, us, w1, w2, fun p np => post_mkL R1 (RelDs.reverse w3) (PostP.of (PostG.ext e1 po)) np⟩
end

/-! ### stores and methods of lists -/
def setP (o i v : D) (h : Hd) : Option Hd := match o, i with
  | .ref n, .int k => match h[n]? with
    | some (.lst xs) => (match ixN xs.length k with
      | some j => if noRef v then some (h.set n (.lst (xs.set j v))) else none
      | none => none)
    | _ => none
  | _, _ => none
theorem RelC.cell {K : PySem.W.Frag} {rho : Rh} {h : Hd} {H : Hp} {n : Nat} {xs : List D} (R : Rel K rho h H) (e : h[n]? = some (.lst xs)) : ∃ us, H (rho n) = some (.lst us) ∧ RelDs K rho h n H xs us := R.cell n _ e
theorem noref_at {K : PySem.W.Frag} {rho : Rh} {h : Hd} {H : Hp} {d : D} {v : V} {B : Nat} (n : noRef d = true) (r : RelV' K rho h H d v) : RelD K rho h B H d v := RelD.noref (fun _ q => q) d v _ _ n r
section
variable {X : Cx}
theorem p_set : PSet X (rS X.K setP) := fun pins s σ H o i v ov iv u Q I ro ri rv q => set_list pins s σ H o i v ov iv u Q I ro ri rv (by
  obtain ⟨rho, h, d0, d1, d2, R, r0, r1, r2, h', e, k⟩ := q
  unfold setP at e
  split at e
  · rename_i n kk
    split at e
    · rename_i xs qx
      split at e
      · rename_i j qj
        split at e
        · rename_i nr
          cases e
          obtain ⟨us, a, b⟩ := RelC.cell R qx
          simp only [RelV', RelD] at r0
          obtain ⟨x, R'⟩ := setCell R qx a (RelDs.set (noref_at nr r2) j b)
          exact ⟨rho n, us, kk, j, r0.2, r1.int, a, by rw [← RelDs.length b]; exact qj, k _ _ x R'⟩
        · cases e
      · cases e
    · cases e
  · cases e)
end
def appendP : PM := fun x ds h => match x, ds with
  | .ref n, [d] => (match h[n]? with
    | some (.lst xs) => if noRef d && decide (xs.length < sizeLine) then some (.non, h.set n (.lst (xs ++ [d]))) else none
    | _ => none)
  | _, _ => none
def extendP : PM := fun x ds h => match x, ds with
  | .ref n, [.lv ys] => (match h[n]? with
    | some (.lst xs) => if noRefs ys && decide (xs.length + ys.length ≤ sizeLine) then some (.non, h.set n (.lst (xs ++ ys))) else none
    | _ => none)
  | _, _ => none
def popP : PM := fun x ds h => match x, ds with
  | .ref n, [] => (match h[n]? with
    | some (.lst xs) => (match xs[xs.length - 1]? with
      | some d => some (d, h.set n (.lst xs.dropLast))
      | none => none)
    | _ => none)
  | .ref n, [.int i] => (match h[n]? with
    | some (.lst xs) => (match ixN xs.length i with
      | some k => (match xs[k]? with
        | some d => if in63 i then some (d, h.set n (.lst (xs.eraseIdx k))) else none
        | none => none)
      | none => none)
    | _ => none)
  | _, _ => none
theorem RelDs.dropLast {K : PySem.W.Frag} {rho : Rh} {h : Hd} {H : Hp} {B : Nat} {ds : List D} {us : List V} (r : RelDs K rho h B H ds us) : RelDs K rho h B H ds.dropLast us.dropLast := by
  rw [List.dropLast_eq_take, List.dropLast_eq_take, RelDs.length r]
  exact RelDs.take _ r
theorem RelDs.eraseIdx {K : PySem.W.Frag} {rho : Rh} {h : Hd} {H : Hp} {B : Nat} {ds : List D} {us : List V} (k : Nat) (r : RelDs K rho h B H ds us) : RelDs K rho h B H (ds.eraseIdx k) (us.eraseIdx k) := by
  rw [List.eraseIdx_eq_take_drop_succ, List.eraseIdx_eq_take_drop_succ]
  exact RelDs.append (RelDs.take _ r) (RelDs.drop _ r)
section
variable {X : Cx} {W : WX} {o e : Expr} {es : List Expr} {fo : EF} {fa : AF} {name : Str} {id T : String} {apos cpos : Pos} {g : PM}
theorem MtR.imp' {r r' : V → List V → Hp → VK → Prop} (p : MtR X id r) (i : ∀ x xs H Q, r' x xs H Q → r x xs H Q) : MtR X id r' := fun pins s σ H x xs v us Q I rx rv q => p pins s σ H x xs v us Q I rx rv (i x xs H Q q)
/-- the receiver is a list -/
def lstTy (d : D) (h : Hd) : Bool := (asL d h).isSome
theorem lstTy_ok {K : PySem.W.Frag} {rho : Rh} {h : Hd} {H : Hp} (R : Rel K rho h H) {d : D} {v : V} (r : RelV' K rho h H d v) (e : lstTy d h = true) : tyV K "list" v H := by
  unfold lstTy at e
  cases q : asL d h with
  | none => rw [q] at e; cases e
  | some xs =>
    obtain ⟨a, us, e1, e2, e3⟩ := asL_ok R r q
    subst e1
    exact .inl ⟨rfl, us, e2⟩
def e_lm (g : PM) (o : EF) (a : AF) : EF := fun s h => (o s h).bind fun x h1 => if lstTy x h1 then (a s h1).bind fun xs h2 => lift (g x xs h2) else .fail
theorem r_lm (slot : Slot "list" name id) (hty : typeOf (.builtin id) = pure (.type "method_descriptor")) (hm : MtR X id (rM X.K g)) (ho : SE X W o fo) (ha : SA X W (e :: es) fa)
    (hbase : attributeBase o name X.env (eval o X.env) = eval o X.env := by rfl)
    (hfew : ((backTo cpos (starEach (e :: es) X.env)).all (fun x => !x.1) && (backToKw cpos (keywordEach [] X.env)).all (fun x => x.1.isSome)
      && decide ((e :: es).length + ([] : List Keyword).length + (if ([] : List Keyword).isEmpty then 0 else 1) < 30)) = true := by rfl)
    (hline : (apos.endLine == cpos.line) = true := by rfl) (hs : starEach (e :: es) X.env = (false, eval e X.env) :: starEach es X.env := by rfl) (hplain : (backTo cpos (starEach es X.env)).any (·.1) = false := by rfl) :
    SE X W (.Call (.Attribute o name apos) (e :: es) [] cpos) (e_lm g fo fa) := PE.imp (pe_bm PySem.F.plainAttrs_list slot hty hm ho ha hbase hfew hline hs hplain) fun σ H Q q => by
  obtain ⟨rho, h, s, R, S, po⟩ := q
  refine step R S po fun rho1 h1 H1 d e1 R1 S1 po1 v r => ?_
  by_cases hl : lstTy d h1 = true
  · simp only [hl, if_true] at po1
    exact ⟨lstTy_ok R1 r hl, step R1 S1 po1 fun rho2 h2 H2 ds e2 R2 S2 po2 vs rs => ⟨rho2, h2, d, ds, R2, e2.v r, rs, PostP.of po2⟩⟩
  · simp only [hl] at po1; exact po1.elim
theorem r_lm0 (slot : Slot "list" name id) (hty : typeOf (.builtin id) = pure (.type "method_descriptor")) (hm : MtR X id (rM X.K g)) (ho : SE X W o fo)
    (hbase : attributeBase o name X.env (eval o X.env) = eval o X.env := by rfl) (hline : (apos.endLine == cpos.line) = true := by rfl) :
    SE X W (.Call (.Attribute o name apos) [] [] cpos) (e_lm g fo a_nil) := PE.imp (pe_bm0 PySem.F.plainAttrs_list slot hty hm ho hbase hline) fun σ H Q q => by
  obtain ⟨rho, h, s, R, S, po⟩ := q
  refine step R S po fun rho1 h1 H1 d e1 R1 S1 po1 v r => ?_
  by_cases hl : lstTy d h1 = true
  · simp only [hl, if_true] at po1
    exact ⟨lstTy_ok R1 r hl, rho1, h1, d, [], R1, r, by simp only [RelVs', RelDs], PostP.of po1⟩
  · simp only [hl] at po1; exact po1.elim
theorem m_append : MtR X "list.append" (rM X.K appendP) := MtR.imp' mt_append fun x xs H Q q => by
  obtain ⟨rho, h, d, ds, R, r, rs, po⟩ := q
  unfold appendP at po
  split at po
  · rename_i n d'
    split at po
    · rename_i ys qx
      by_cases hl : (noRef d' && decide (ys.length < sizeLine)) = true
      · simp only [hl, if_true] at po
        rw [Bool.and_eq_true] at hl
        obtain ⟨us, a, b⟩ := RelC.cell R qx
        simp only [RelV', RelD] at r
        obtain ⟨v, e, rv⟩ := rel1 rs
        have one : RelDs X.K rho h n H [d'] [v] := by simp only [RelDs]; exact ⟨v, [], rfl, noref_at hl.1 rv, rfl⟩
        obtain ⟨x', R'⟩ := setCell R qx a (RelDs.append b one)
        exact ⟨rho n, us, v, r.2, e, a, by rw [← RelDs.length b]; exact of_decide_eq_true hl.2, po rho _ _ x' R' relNon⟩
      · simp only [hl] at po; exact po.elim
    · exact po.elim
  · exact po.elim
theorem m_extend : MtR X "list.extend" (rM X.K extendP) := MtR.imp' mt_extend fun x xs H Q q => by
  obtain ⟨rho, h, d, ds, R, r, rs, po⟩ := q
  unfold extendP at po
  split at po
  · rename_i n ws
    split at po
    · rename_i ys qx
      by_cases hl : (noRefs ws && decide (ys.length + ws.length ≤ sizeLine)) = true
      · simp only [hl, if_true] at po
        rw [Bool.and_eq_true] at hl
        obtain ⟨us, a, b⟩ := RelC.cell R qx
        simp only [RelV', RelD] at r
        obtain ⟨v, e, rv⟩ := rel1 rs
        simp only [RelV', RelD] at rv
        obtain ⟨c, zs, f1, f2, f3⟩ := rv
        subst f1
        obtain ⟨x', R'⟩ := setCell R qx a (RelDs.append b (RelDs.noref (fun _ q => q) _ _ _ _ hl.1 f3))
        exact ⟨rho n, c, us, zs, r.2, e, a, f2.1, by rw [← RelDs.length b, ← RelDs.length f3]; exact of_decide_eq_true hl.2, po rho _ _ x' R' relNon⟩
      · simp only [hl] at po; exact po.elim
    · exact po.elim
  · exact po.elim
theorem m_pop : MtR X "list.pop" (rM X.K popP) := by
  have key : MtR X "list.pop" (fun x xs H Q => rPop x xs H Q ∨ rPopAt x xs H Q) := MtR.or mt_pop mt_popAt
  refine MtR.imp' key fun x xs H Q q => ?_
  obtain ⟨rho, h, d, ds, R, r, rs, po⟩ := q
  unfold popP at po
  split at po
  · rename_i n
    split at po
    · rename_i ys qx
      split at po
      · rename_i dl ql
        obtain ⟨us, a, b⟩ := RelC.cell R qx
        have hn : n < h.length := (List.getElem?_eq_some_iff.mp qx).1
        simp only [RelV', RelD] at r
        simp only [RelVs', RelDs] at rs
        obtain ⟨x', R'⟩ := setCell R qx a (RelDs.dropLast b)
        obtain ⟨v, w1, w2⟩ := RelDs.get b ql
        refine .inl ⟨rho n, us, v, r.2, rs, a, by rw [← RelDs.length b]; exact w1, po rho _ _ x' R' ?_⟩
        exact RelD.mono x' (by simp; omega) (Nat.le_of_lt hn) _ _ w2
      · exact po.elim
    · exact po.elim
  · rename_i n i
    split at po
    · rename_i ys qx
      split at po
      · rename_i k qk
        split at po
        · rename_i dl ql
          have hi63 : in63 i = true := by
            cases q : in63 i with
            | true => rfl
            | false => simp only [q] at po; exact po.elim
          simp only [hi63, if_true] at po
          unfold in63 at hi63
          rw [Bool.and_eq_true] at hi63
          obtain ⟨us, a, b⟩ := RelC.cell R qx
          have hn : n < h.length := (List.getElem?_eq_some_iff.mp qx).1
          simp only [RelV', RelD] at r
          obtain ⟨v0, e0, rv⟩ := rel1 rs
          obtain ⟨x', R'⟩ := setCell R qx a (RelDs.eraseIdx k b)
          obtain ⟨v, w1, w2⟩ := RelDs.get b ql
          obtain ⟨z1, z2, z3, z4⟩ := ixN_seq qk
          refine .inr ⟨rho n, us, i, k, v, r.2, by rw [e0, rv.int], a, ?_, ?_, by rw [← RelDs.length b]; exact z1, w1, po rho _ _ x' R' ?_⟩
          · exact of_decide_eq_true hi63.1
          · exact of_decide_eq_true hi63.2
          · exact RelD.mono x' (by simp; omega) (Nat.le_of_lt hn) _ _ w2
        · exact po.elim
      · exact po.elim
    · exact po.elim
  · exact po.elim
end
end Mini
namespace Mini
open PySem PySem.Spec PyProof.Rows L2

/-! ### isinstance -/
def tyS (d : D) : String := match d with
  | .non => "NoneType"
  | .bl _ => "bool"
  | .int _ => "int"
  | .str _ => "str"
  | .tup _ => "tuple"
  | .lv _ => "list"
  | .fl _ => "list"
  | .ref _ => "list"
def tyOk (d : D) (h : Hd) : Bool := match d with
  | .ref n => live h n
  | _ => true
def isTy (T : String) (t : String) : Bool := t == T || (T == "int" && t == "bool")
def KitOk (T : String) : Prop := ∀ t ∈ ["NoneType", "bool", "int", "str", "tuple", "list"], kitB t T = some (isTy T t)
theorem tyS_mem (d : D) : tyS d ∈ ["NoneType", "bool", "int", "str", "tuple", "list"] := by cases d <;> simp [tyS]
theorem tyX_ok {K : PySem.W.Frag} {rho : Rh} {h : Hd} {H : Hp} (R : Rel K rho h H) {d : D} {v : V} (r : RelV' K rho h H d v) (e : tyOk d h = true) : TyX K H v (.type (tyS d)) := by
  cases d with
  | non => rw [r.non]; exact .base .non
  | bl b => rw [r.bl]; exact .base (.bl b)
  | int b => rw [r.int]; exact .base (.int b)
  | str b => rw [r.str]; exact .base (.str b)
  | tup xs =>
    obtain ⟨a, us, e1, e2, e3⟩ := r.tup
    subst e1
    rcases e2 with (e2 | ⟨o, e2⟩) | ⟨o, its, n, e2, c, _⟩
    · exact .base (.tup e2)
    · exact .fTuple e2
    · exact .kTuple e2 c
  | lv xs =>
    simp only [RelV', RelD] at r
    obtain ⟨a, us, e1, e2, e3⟩ := r
    subst e1
    exact .base (.lst e2.1)
  | fl xs =>
    simp only [RelV', RelD] at r
    obtain ⟨a, us, e1, e2, e3⟩ := r
    subst e1
    rcases e2 with ⟨o, e2⟩ | ⟨o, its, n, e2, c, _⟩
    · exact .base (.frz e2)
    · exact .kList e2 c
  | ref n =>
    obtain ⟨us, q⟩ := R.at e
    simp only [RelV', RelD] at r
    rw [r.2]
    exact .base (.lst q)
def e_isi (ts : List String) (f : EF) : EF := fun s h => (f s h).bind fun d h1 => if tyOk d h1 then .ok (.bl (ts.any fun T => isTy T (tyS d))) h1 else .fail
theorem kitAny_ok {K : PySem.W.Frag} {t : String} (ht : t ∈ ["NoneType", "bool", "int", "str", "tuple", "list"]) : ∀ ts : List String, (∀ T ∈ ts, KitOk T) → PySem.W.kitAny K (.type t) (ts.map Value.type) = some (ts.any fun T => isTy T t)
  | [], _ => kitAny_nil
  | T :: ts, h => by
    have h1 : PySem.W.kitOne K (.type t) (.type T) = some (isTy T t) := kit_ty (h T (by simp) t ht)
    have ih := kitAny_ok (K := K) ht ts fun U hU => h U (by simp [hU])
    rw [List.map_cons]
    refine kitAny_cons h1 (fun q => ?_) (fun q => ?_)
    · rw [List.any_cons, q, Bool.false_or]; exact ih
    · rw [List.any_cons, q, Bool.true_or]
section
variable {X : Cx} {W : WX} {e : Expr} {fe : EF} {p q pos : Pos}
theorem r_isi {T : Str} {Ts : String} (hm : X.mg "isinstance" = none) (he : SE X W e fe) (hT : X.mg T = none) (hv : bootBuiltins T = some (.type Ts)) (hk : KitOk Ts) (hg : Gl X "isinstance" := by rfl) (hgT : Gl X T := by rfl) (hn : T ≠ "__name__" := by decide) (hdb : (T == ("__debug__" : Str)) = false := by decide)
    (hs : starEach [e, .Name T q] X.env = (false, eval e X.env) :: starEach [.Name T q] X.env := by rfl) (hs2 : starEach [.Name T q] X.env = (false, eval (.Name T q) X.env) :: starEach [] X.env := by rfl) (hpl : (backTo pos (starEach [.Name T q] X.env)).any (·.1) = false := by rfl) :
    SE X W (.Call (.Name "isinstance" p) [e, .Name T q] [] pos) (e_isi [Ts] fe) :=
  PE.imp (pe_callB call_isi hg hm PyProof.Rows.boot_isinstance (pa_cons he (pa_cons (pe_bltn (v := .ty Ts) hgT hT hv rfl hn hdb) pa_nil hs2) hs) (by decide) (by decide) hs hpl) fun σ H Q z => by
    obtain ⟨rho, h, s, R, S, po⟩ := z
    refine step R S po fun rho1 h1 H1 d e1 R1 S1 po1 v r => ?_
    by_cases ht : tyOk d h1 = true
    · simp only [ht, if_true] at po1
      refine ⟨v, .ty Ts, .type (tyS d), .type Ts, isTy Ts (tyS d), rfl, .ty Ts, tyX_ok R1 r ht, kit_ty (hk _ (tyS_mem d)), ?_⟩
      have := PostG.ok po1 R1 _ (relBl _)
      simpa using this
    · simp only [ht] at po1; exact po1.elim
theorem r_isi2 {T U : Str} {Ts Us : String} {q1 q2 : Pos} {k : Nat} (hm : X.mg "isinstance" = none) (he : SE X W e fe) (hT : X.mg T = none) (hv : bootBuiltins T = some (.type Ts)) (hk : KitOk Ts) (hU : X.mg U = none) (hvU : bootBuiltins U = some (.type Us)) (hkU : KitOk Us)
    (hg : Gl X "isinstance" := by rfl) (hgT : Gl X T := by rfl) (hgU : Gl X U := by rfl) (hn : T ≠ "__name__" := by decide) (hdb : (T == ("__debug__" : Str)) = false := by decide) (hnU : U ≠ "__name__" := by decide) (hdbU : (U == ("__debug__" : Str)) = false := by decide)
    (hs : starEach [e, .Tuple [.Name T q1, .Name U q2] k q] X.env = (false, eval e X.env) :: starEach [.Tuple [.Name T q1, .Name U q2] k q] X.env := by rfl)
    (hs2 : starEach [.Tuple [.Name T q1, .Name U q2] k q] X.env = (false, eval (.Tuple [.Name T q1, .Name U q2] k q) X.env) :: starEach [] X.env := by rfl)
    (hs3 : starEach [.Name T q1, .Name U q2] X.env = (false, eval (.Name T q1) X.env) :: starEach [.Name U q2] X.env := by rfl) (hs4 : starEach [.Name U q2] X.env = (false, eval (.Name U q2) X.env) :: starEach [] X.env := by rfl)
    (hpl : (backTo pos (starEach [.Tuple [.Name T q1, .Name U q2] k q] X.env)).any (·.1) = false := by rfl) :
    SE X W (.Call (.Name "isinstance" p) [e, .Tuple [.Name T q1, .Name U q2] k q] [] pos) (e_isi [Ts, Us] fe) :=
  PE.imp (pe_callB call_isiT hg hm PyProof.Rows.boot_isinstance (pa_cons he (pa_cons (pe_tup (pa_cons (pe_bltn (v := .ty Ts) hgT hT hv rfl hn hdb) (pa_cons (pe_bltn (v := .ty Us) hgU hU hvU rfl hnU hdbU) pa_nil hs4) hs3)) pa_nil hs2) hs) (by decide) (by decide) hs hpl) fun σ H Q z => by
    obtain ⟨rho, h, s, R, S, po⟩ := z
    refine step R S po fun rho1 h1 H1 d e1 R1 S1 po1 v r => ?_
    by_cases ht : tyOk d h1 = true
    · simp only [ht, if_true] at po1
      refine ⟨by show 2 ≤ sizeLine; decide, fun p np => ?_⟩
      have x := Ext.upd R1 np (.tup [.ty Ts, .ty Us])
      have R2 := R1.upd np (.tup [.ty Ts, .ty Us])
      refine ⟨v, p, [.ty Ts, .ty Us], .type (tyS d), [.type Ts, .type Us], _, rfl, upd_same, .cons (.ty Ts) (.cons (.ty Us) .nil), tyX_ok R2 (x.v r) ht, kitAny_ok (tyS_mem d) [Ts, Us] (fun V hV => ?_), ?_⟩
      · simp at hV
        rcases hV with hV | hV <;> subst hV
        · exact hk
        · exact hkU
      · exact po1 rho1 _ x R2 _ (relBl _)
    · simp only [ht] at po1; exact po1.elim
end
theorem kit_int : KitOk "int" := by unfold KitOk; decide +kernel
theorem kit_bool : KitOk "bool" := by unfold KitOk; decide +kernel
theorem kit_str : KitOk "str" := by unfold KitOk; decide +kernel
theorem kit_list : KitOk "list" := by unfold KitOk; decide +kernel
theorem kit_tuple : KitOk "tuple" := by unfold KitOk; decide +kernel

/-! ### in, not in -/
def flatD (d : D) : Bool := match d with
  | .non | .bl _ | .int _ | .str _ => true
  | _ => false
def eqFD : D → D → Bool
  | .non, .non => true
  | .bl a, .bl b => a == b
  | .bl a, .int b => (if a then 1 else 0) == b
  | .int a, .bl b => a == (if b then 1 else 0)
  | .int a, .int b => a == b
  | .str a, .str b => a == b
  | _, _ => false
theorem flat_ok {K : PySem.W.Frag} {rho : Rh} {h : Hd} {H : Hp} {B : Nat} {d : D} {v : V} (r : RelD K rho h B H d v) (f : flatD d = true) : flatV v = true := by
  cases d <;> simp only [RelD] at r <;> first | (subst r; rfl) | (simp [flatD] at f)
theorem eqFD_ok {K : PySem.W.Frag} {rho : Rh} {h : Hd} {H : Hp} {B C : Nat} {d e : D} {v w : V} (r : RelD K rho h B H d v) (q : RelD K rho h C H e w) (f : flatD d = true) (g : flatD e = true) : eqV v w = eqFD d e := by
  cases d <;> simp only [RelD] at r <;> first | (simp [flatD] at f; done) | (subst r; cases e <;> simp only [RelD] at q <;> first | (simp [flatD] at g; done) | (subst q; rfl))
theorem flats_ok {K : PySem.W.Frag} {rho : Rh} {h : Hd} {H : Hp} {B : Nat} : ∀ {ds : List D} {us : List V}, RelDs K rho h B H ds us → ds.all flatD = true → us.all flatV = true
  | [], us, r, f => by simp only [RelDs] at r; subst r; rfl
  | d :: ds, us, r, f => by
    simp only [RelDs] at r
    obtain ⟨v, rr, e1, e2, e3⟩ := r
    simp only [List.all_cons, Bool.and_eq_true] at f
    subst e1
    simp only [List.all_cons, Bool.and_eq_true]
    exact ⟨flat_ok e2 f.1, flats_ok e3 f.2⟩
theorem inV_ok {K : PySem.W.Frag} {rho : Rh} {h : Hd} {H : Hp} {B C : Nat} {x : D} {v : V} (rx : RelD K rho h C H x v) (fx : flatD x = true) : ∀ {ds : List D} {us : List V}, RelDs K rho h B H ds us → ds.all flatD = true → inV v us = ds.any fun y => eqFD y x
  | [], us, r, f => by simp only [RelDs] at r; subst r; rfl
  | d :: ds, us, r, f => by
    simp only [RelDs] at r
    obtain ⟨w, rr, e1, e2, e3⟩ := r
    simp only [List.all_cons, Bool.and_eq_true] at f
    subst e1
    have ih := inV_ok rx fx e3 f.2
    unfold inV at ih ⊢
    rw [List.any_cons, List.any_cons, ih, eqFD_ok e2 rx f.1 fx]
def inP (neg : Bool) : P2 := fun x y h => match asS y h with
  | some ys => if flatD x && ys.all flatD then some (.bl (if neg then !(ys.any fun z => eqFD z x) else ys.any fun z => eqFD z x), h) else
      match pyR x h, pyR y h with
      | some d, some (.list ds) => if SeqAt.shaped d && SeqAt.shaped (.list ds) then some (.bl (if neg then !(ds.any fun z => PyData.eqv z d) else ds.any fun z => PyData.eqv z d), h) else none
      | _, _ => none
  | none => none
theorem in_ok {K : PySem.W.Frag} {neg : Bool} {x y : V} {H : Hp} {Q : VK} (q : rO K (inP neg) x y H Q) : rIn K neg x y H Q ∨ (∃ d ds, Dp K H x d ∧ Dp K H y (.list ds) ∧ SeqAt.shaped d = true ∧ SeqAt.shaped (.list ds) = true ∧ Q (.bl (if neg then !(ds.any fun z => PyData.eqv z d) else ds.any fun z => PyData.eqv z d)) H) := by
  obtain ⟨rho, h, dx, dy, R, rx, ry, po⟩ := q
  unfold inP at po
  split at po
  · rename_i ys qy
    by_cases hf : (flatD dx && ys.all flatD) = true
    · simp only [hf, if_true] at po
      rw [Bool.and_eq_true] at hf
      obtain ⟨a, us, e1, e2, e3⟩ := asS_ok R ry qy
      refine .inl ⟨a, us, e1, e2, flat_ok rx hf.1, flats_ok e3 hf.2, ?_⟩
      rw [inV_ok rx hf.1 e3 hf.2]
      exact PostP.here po R (relBl _)
    · simp only [hf] at po
      split at po
      · exact absurd (by assumption) Bool.false_ne_true
      · split at po
        · rename_i d ds qd qds
          by_cases hs : (SeqAt.shaped d && SeqAt.shaped (.list ds)) = true
          · simp only [hs, if_true] at po
            rw [Bool.and_eq_true] at hs
            exact .inr ⟨d, ds, pyR_ok R rx qd, pyR_ok R ry qds, hs.1, hs.2, PostP.here po R (relBl _)⟩
          · simp only [hs] at po; exact po.elim
        · exact po.elim
  · exact po.elim
section
variable {X : Cx}
theorem p_in (hu : X.A.units + 65 < cLine) : OpR X (compareOp .In) (rO X.K (inP false)) := OpR.imp' (op_in_seq.or (op_inD hu)) fun x y H Q q => (in_ok q).imp id fun ⟨d, ds, a, b, c, e, f⟩ => ⟨d, ds, a, b, c, e, by simpa using f⟩
theorem p_notIn (hu : X.A.units + 65 < cLine) : OpR X (compareOp .NotIn) (rO X.K (inP true)) := OpR.imp' (op_notIn_seq.or (op_notInD hu)) fun x y H Q q => (in_ok q).imp id fun ⟨d, ds, a, b, c, e, f⟩ => ⟨d, ds, a, b, c, e, by simpa using f⟩
end
end Mini
namespace Mini
open PySem PySem.Spec PyProof.Rows L2
theorem room65 {k : Nat} {A : Around} (r : Room k A) : A.units + 65 < cLine := by have := r.un; omega
section
variable {P : Program} {w : World} {K : PySem.W.Frag} {mg : Str → Option Value} {base : Heap}
/-- a def that hands out cells of its own -/
theorem fn_okR {x qual : Str} {st : Stmt} {f : Addr} {fd : FuncData} {N ps : List Str} {k : Nat} {b : SF} (F : Fun K x qual st f fd) (S : FnScope N ps (defScope st))
    (hb : ∀ (cdv : Value) (A : Around) (outer : List Env) (s : Shared) (H : Hp) (E : XK), Room k (A.deeper (envOfC qual (defScope st) s.heap.objs.size f cdv)) →
      SSs (cxOf (L2.CX P w) P w K mg base N qual (defScope st) f cdv A outer s H E) (fun cls d _ H => E cls d H) (defBody st) b) : FnOk P w K mg base (L2.CX P w) (k + 1) f fd ps (spM K mg (runB ps.length N.length b)) := by
  refine F.okX S (fun vs H Q E h => ?_) fun cdv A outer s H vs Q E hr h => ⟨_, hb cdv A outer s H E hr, ?_⟩
  · obtain ⟨rho, h, ds, R, r, po⟩ := h
    by_cases q : ds.length = ps.length
    · rw [← RelDs.length r]; exact q
    · unfold runB at po; simp only [q, if_false] at po; exact po.elim
  obtain ⟨rho, h, ds, R, r, po⟩ := h
  refine ⟨rho, h, ds.map some ++ List.replicate (N.length - ds.length) none, R, RelS.start r, ?_⟩
  unfold runB at po
  by_cases q : ds.length = ps.length
  · simp only [q, if_true] at po
    rw [← q] at po
    cases qb : b (ds.map some ++ List.replicate (N.length - ds.length) none) h with
    | fail => rw [qb] at po; exact po
    | exc x h' => rw [qb] at po; exact po.elim
    | ok fl h' =>
      rw [qb] at po
      cases fl with
      | nx s1 => exact fun rho' H' e R' σ' S' => po rho' H' e R' _ relNon
      | rt d => exact fun rho' H' e R' v r' => po rho' H' e R' v r'
      | bk s1 => exact po.elim
      | ct s1 => exact po.elim
      | ex x s1 => exact fun rho' H' e R' σ' cls dd S' rx => po rho' H' cls dd e R' rx
  · simp only [q, if_false] at po; exact po.elim
end
/-- the law's promise: a list of at most 63 ints is handed in, True comes out -/
def spLaw (K : PySem.W.Frag) : Sp := fun vs H Q _ => ∃ (a : Addr) (ns : List Int), vs = [.ref a] ∧ ns.length ≤ 63 ∧ Only H ∧ SqL K H a (ns.map V.int) ∧ ∀ v H', v = V.bl true → Q v H'
theorem relInts {K : PySem.W.Frag} {rho : Rh} {h : Hd} {H : Hp} {B : Nat} : ∀ ns : List Int, RelDs K rho h B H (ns.map D.int) (ns.map V.int)
  | [] => by simp [RelDs]
  | n :: ns => by
    simp only [List.map_cons, RelDs, RelD]
    exact ⟨_, _, rfl, rfl, relInts ns⟩
theorem spLaw_ok {K : PySem.W.Frag} {mg : Str → Option Value} {m : MF} {vs : List V} {H : Hp} {Q : VK} {E : XK} (spec : ∀ ns : List Int, ns.length ≤ 63 → ∃ h, m [.fl (ns.map D.int)] [] = .ok (.bl true) h) (z : spLaw K vs H Q E) : spM K mg m vs H Q E := by
  obtain ⟨a, ns, e, hl, hO, hS, k⟩ := z
  obtain ⟨h', e'⟩ := spec ns hl
  have nl : ∀ m, live ([] : Hd) m = true → False := fun m q => by simp [live] at q
  refine ⟨⟨fun _ => a, fun _ => False⟩, [], [.fl (ns.map D.int)], ⟨fun m n q => (nl m q).elim, fun m o q => by simp at q, fun a z => z.elim, fun m q => (nl m q).elim⟩, ?_, ?_⟩
  · subst e
    simp only [RelVs', RelDs, RelD]
    refine ⟨.ref a, [], rfl, ⟨a, ns.map V.int, rfl, ?_, relInts ns⟩, rfl⟩
    rcases hS with (q | q) | q
    · rcases hO a with o | ⟨ob, xs, o⟩
      · rw [q] at o; cases o
      · rw [q] at o; cases o
    · exact .inl q
    · exact .inr q
  · rw [e']
    intro rho' H' x R' v r
    exact k v H' r.bl
end Mini
namespace Mini
open PySem PySem.Spec PyProof.Rows L2
/-! ### comprehensions of two clauses -/
def lcM2 (p : Pat) (tt : TF) (i1 : AF) (own1 : List Nat) (p1 : Pat) (tt1 : TF) (te : EF) (s0 : Ev) : List D → List D → Hd → Option (List D × Hd)
  | [], acc, h => some (acc, h)
  | d :: r, acc, h => match patD p d s0 with
    | some s1 => (match tt s1 h with
      | .ok true h1 => (match i1 s1 h1 with
        | .ok items h2 => (match lcM p1 tt1 te (wipeD s1 own1) items acc h2 with
          | some (acc', h3) => lcM2 p tt i1 own1 p1 tt1 te s0 r acc' h3
          | none => none)
        | _ => none)
      | .ok false h1 => lcM2 p tt i1 own1 p1 tt1 te s0 r acc h1
      | _ => none)
    | none => none
def endL (r : Option (List D × Hd)) : Res D := match r with
  | some (ys, h2) => Res.ok (.lv ys) h2
  | none => Res.fail
def e_lc2 (own : List Nat) (i : AF) (p : Pat) (tt : TF) (i1 : AF) (own1 : List Nat) (p1 : Pat) (tt1 : TF) (te : EF) : EF := fun s h => (i s h).bind fun items h1 => endL (lcM2 p tt i1 own1 p1 tt1 te (wipeD s own) items [] h1)
theorem drop_cons {l : List D} {i : Nat} {d : D} (h : l[i]? = some d) : l.drop i = d :: l.drop (i + 1) := by
  have hl := (List.getElem?_eq_some_iff.mp h).1
  rw [List.drop_eq_getElem_cons hl]
  congr 1
  exact (List.getElem?_eq_some_iff.mp h).2
theorem tE.lc2 {K : PySem.W.Frag} {mg : Str → Option Value} {W : WX} {own own1 : List Nat} {fi fi1 : AF} {p p1 : Pat} {tt tt1 : TF} {te : EF} (hp : ∀ i ∈ patI p, i ∈ own) (hp1 : ∀ i ∈ patI p1, i ∈ own1) {σ : L2.St} {H : Hp} {Q : VK} (q : tE K mg W (e_lc2 own fi p tt fi1 own1 p1 tt1 te) σ H Q) :
    tLc2 (tI K mg W fi) (patG K p) (tT K mg W0 tt) (tI K mg W0 fi1) (patG K p1) (tT K mg W0 tt1) (tE K mg W0 te) own own1 σ H Q := by
  obtain ⟨rho, h, s, R, S, po⟩ := q
  refine step R S po fun rho0 h0 H0 items e0 R0 S0 po0 J sv => fun Dl np => ?_
  refine ⟨fun i k H => i + k = items.length ∧ ∃ rho h acc us, Ext K rho0 h0 H0 rho h H ∧ rho.Z Dl ∧ Rel K rho h H ∧ H Dl = some (.lst us) ∧ RelVs' K rho h H acc us ∧
      PostG K mg (fun c d H' => W c d σ H') rho0 h0 H0 (endL (lcM2 p tt fi1 own1 p1 tt1 te (wipeD s own) (items.drop i) acc h)) (pE K Q), ?_, fun i k H q => ?_⟩
  · exact ⟨items.length, by simp, zAdd rho0 Dl, h0, [], [], Ext.zin R0 np, .inr rfl, R0.zin np, upd_same, by simp only [RelVs', RelDs], by simpa using po0⟩
  · obtain ⟨hk, rho1, h1, acc, us, x1, hz, R1, hD, ra, po1⟩ := q
    have nD : ∀ m, live h1 m = true → rho1 m ≠ Dl := fun m hm q => R1.zc m hm (q ▸ hz)
    obtain ⟨s1, s2⟩ := sv rho1 h1 H x1.z R1 i
    cases hi : items[i]? with
    | none =>
      have hl : items.length ≤ i := List.getElem?_eq_none_iff.mp hi
      rw [List.drop_eq_nil_of_le hl] at po1
      refine .inl ⟨s2 hl, po1 (zDel rho1 Dl) H (Ext.zdel R0 x1 np) R1.zdel _ ?_⟩
      simp only [RelV', RelD]
      exact ⟨Dl, us, rfl, ⟨hD, fun z => z.2 rfl, nD⟩, RelDs.zdel _ _ _ ra⟩
    | some d =>
      have hl : i < items.length := (List.getElem?_eq_some_iff.mp hi).1
      rw [drop_cons hi] at po1
      obtain ⟨go, yl⟩ := s1 d hi
      refine .inr ⟨go, fun H' => ∃ rho h acc us, Ext K rho0 h0 H0 rho h H' ∧ rho.Z Dl ∧ Rel K rho h H' ∧ H' Dl = some (.lst us) ∧ RelVs' K rho h H' acc us ∧
          PostG K mg (fun c d H' => W c d σ H') rho0 h0 H0 (endL (lcM2 p tt fi1 own1 p1 tt1 te (wipeD s own) (items.drop (i + 1)) acc h)) (pE K Q),
        fun H' z => ⟨k - 1, by omega, by omega, z⟩, fun x H2 y => ?_⟩
      obtain ⟨e2, R2, r⟩ := yl x H2 y
      have hD2 := e2.kp _ _ hD nD
      simp only [lcM2] at po1
      cases q : patD p d (wipeD s own) with
      | none => simp only [q] at po1; exact po1.elim
      | some s1' =>
        simp only [q] at po1
        have x2 := x1.trans e2
        obtain ⟨σ', S', z, wp⟩ := patG_ok p d x (wipeD s own) s1' (wipe σ own) r (RelS.wipe (x2.s S0) own) q
        refine z _ ⟨by rw [wp own hp, wipe_wipe], rho1, h1, s1', R2, S', ?_⟩
        cases qt : tt s1' h1 with
        | fail => simp only [qt] at po1; exact po1.elim
        | exc _ _ => simp only [qt] at po1; exact po1.elim
        | ok c h2 =>
          simp only [qt] at po1
          intro rho3 H3 e3 R3
          have hz3 : rho3.Z Dl := e3.zi _ hz
          have hD3 := e3.kp _ _ hD2 nD
          have nD3 : ∀ m, live h2 m = true → rho3 m ≠ Dl := fun m hm q => R3.zc m hm (q ▸ hz3)
          cases c with
          | false => exact iteF ⟨rho3, h2, acc, us, x2.trans e3, hz3, R3, hD3, (e2.trans e3).vs ra, po1⟩
          | true =>
            refine iteT ⟨rho3, h2, s1', R3, e3.s S', ?_⟩
            cases qi : fi1 s1' h2 with
            | fail => simp only [qi] at po1; exact po1.elim
            | exc _ _ => simp only [qi] at po1; exact po1.elim
            | ok its h3 =>
              simp only [qi] at po1
              intro rho4 H4 e4 R4 J1 sv1
              have S4 := e4.s (e3.s S')
              have hD4 := e4.kp _ _ hD3 nD3
              have hz4 : rho4.Z Dl := e4.zi _ hz3
              have ra4 := (e2.trans (e3.trans e4)).vs ra
              have x4 := x2.trans (e3.trans e4)
              refine ⟨fun j k H => j + k = its.length ∧ ∃ rho h acc us, ExtZ K rho4 h3 H4 rho h H ∧ rho.Z Dl ∧ Ext K rho0 h0 H0 rho h H ∧ Rel K rho h H ∧ H Dl = some (.lst us) ∧ RelVs' K rho h H acc us ∧
                  PostG K mg (fun c d H' => W c d σ H') rho0 h0 H0 (endL (match lcM p1 tt1 te (wipeD s1' own1) (its.drop j) acc h with
                    | some (acc', h3) => lcM2 p tt fi1 own1 p1 tt1 te (wipeD s own) (items.drop (i + 1)) acc' h3
                    | none => none)) (pE K Q), ⟨its.length, by simp, rho4, h3, acc, us, Ext.refl.z, hz4, x4, R4, hD4, ra4, by simpa using po1⟩, fun j k H q => ?_⟩
              obtain ⟨hk1, rho5, h5, acc5, us5, x5, hz5, X5, R5, hD5, ra5, po5⟩ := q
              have nD5 : ∀ m, live h5 m = true → rho5 m ≠ Dl := fun m hm q => R5.zc m hm (q ▸ hz5)
              obtain ⟨t1, t2⟩ := sv1 rho5 h5 H x5 R5 j
              cases hj : its[j]? with
              | none =>
                have hl : its.length ≤ j := List.getElem?_eq_none_iff.mp hj
                rw [List.drop_eq_nil_of_le hl] at po5
                exact .inl ⟨t2 hl, rho5, h5, acc5, us5, X5, hz5, R5, hD5, ra5, po5⟩
              | some d1 =>
                have hl : j < its.length := (List.getElem?_eq_some_iff.mp hj).1
                rw [drop_cons hj] at po5
                obtain ⟨go1, yl1⟩ := t1 d1 hj
                refine .inr ⟨go1, fun H' => ∃ rho h acc us, ExtZ K rho4 h3 H4 rho h H' ∧ rho.Z Dl ∧ Ext K rho0 h0 H0 rho h H' ∧ Rel K rho h H' ∧ H' Dl = some (.lst us) ∧ RelVs' K rho h H' acc us ∧
                    PostG K mg (fun c d H' => W c d σ H') rho0 h0 H0 (endL (match lcM p1 tt1 te (wipeD s1' own1) (its.drop (j + 1)) acc h with
                      | some (acc', h3) => lcM2 p tt fi1 own1 p1 tt1 te (wipeD s own) (items.drop (i + 1)) acc' h3
                      | none => none)) (pE K Q),
                  fun H' z => ⟨k - 1, by omega, by omega, z⟩, fun x H6 y => ?_⟩
                obtain ⟨e6, R6, r1⟩ := yl1 x H6 y
                have hD6 := e6.kp _ _ hD5 nD5
                simp only [lcM] at po5
                cases q1 : patD p1 d1 (wipeD s1' own1) with
                | none => simp only [q1] at po5; exact po5.elim
                | some s2' =>
                  simp only [q1] at po5
                  obtain ⟨σ2, S2, z2, wp2⟩ := patG_ok p1 d1 x (wipeD s1' own1) s2' (wipe σ' own1) r1 (RelS.wipe ((x5.trans e6.z).s S4) own1) q1
                  refine z2 _ ⟨by rw [wp2 own1 hp1, wipe_wipe], rho5, h5, s2', R6, S2, ?_⟩
                  cases qt1 : tt1 s2' h5 with
                  | fail => simp only [qt1] at po5; exact po5.elim
                  | exc _ _ => simp only [qt1] at po5; exact po5.elim
                  | ok c1 h6 =>
                    simp only [qt1] at po5
                    intro rho7 H7 e7 R7
                    have hz7 : rho7.Z Dl := e7.zi _ hz5
                    have hD7 := e7.kp _ _ hD6 nD5
                    cases c1 with
                    | false => exact iteF ⟨rho7, h6, acc5, us5, x5.trans (e6.trans e7).z, hz7, X5.trans (e6.trans e7), R7, hD7, (e6.trans e7).vs ra5, po5⟩
                    | true =>
                      refine iteT ⟨rho7, h6, s2', R7, e7.s S2, ?_⟩
                      cases qe : te s2' h6 with
                      | fail => simp only [qe] at po5; exact po5.elim
                      | exc _ _ => simp only [qe] at po5; exact po5.elim
                      | ok yv h8 =>
                        simp only [qe] at po5
                        intro rho8 H8 e8 R8 v rv
                        have nD7 : ∀ m, live h6 m = true → rho7 m ≠ Dl := fun m hm q => R7.zc m hm (q ▸ hz7)
                        have hD8 := e8.kp _ _ hD7 nD7
                        have hz8 : rho8.Z Dl := e8.zi _ hz7
                        have ra8 := (e6.trans (e7.trans e8)).vs ra5
                        by_cases hlen : acc5.length < sizeLine
                        · simp only [hlen, if_true] at po5
                          refine ⟨us5, hD8, by rw [← RelDs.length ra5]; exact hlen, rho8, h8, acc5 ++ [yv], us5 ++ [v], ?_, hz8, (X5.trans (e6.trans (e7.trans e8))).over np, R8.grow hD8 hz8, upd_same, ?_, po5⟩
                          · exact (x5.trans (e6.trans (e7.trans e8)).z).grow hD4 hz4
                          · refine RelDs.append (RelDs.grow hD8 hz8 _ _ _ ra8) ?_
                            simp only [RelDs]
                            exact ⟨v, [], rfl, RelD.grow hD8 hz8 _ _ _ rv, rfl⟩
                        · simp only [hlen, if_false] at po5; exact po5.elim
section
variable {X : Cx} {W : WX} {elt tg iter tg1 iter1 : Expr} {ifs ifs1 : List Expr} {scope : Scope} {own : List (Str × Nat)} {pos : Pos} {fi fi1 : AF} {p p1 : Pat} {tt tt1 : TF} {te : EF}
/-- what the second clause asks of its parts -/
structure Blk2 (X : Cx) (scope : Scope) (tg iter : Expr) (ifs : List Expr) (fi : AF) (p : Pat) (tt : TF) : Prop where
  hi : ∀ (s : Shared) (H : Hp) (C : Addr) (cl : List (Str × Addr)) (fp : List Addr), SI (X.blk s H scope (compEnvC scope cl C X.env) fp) W0 tg iter fi
  hg : ∀ (s : Shared) (H : Hp) (C : Addr) (cl : List (Str × Addr)) (fp : List Addr), SG (X.blk s H scope (compEnvC scope cl C X.env) fp) tg p
  ht : ∀ (s : Shared) (H : Hp) (C : Addr) (cl : List (Str × Addr)) (fp : List Addr), PTs (X.blk s H scope (compEnvC scope cl C X.env) fp) ifs (tT X.K X.mg W0 tt)
theorem r_lc2 {oi oi1 : List Nat} (hN : X.N.Nodup) (hc : X.calm = true) (hi : SI X W tg iter fi) (ok : BlkOk X.N X.env.scope scope own) (b : Blk X scope tg ifs elt p tt te) (b1 : Blk2 X scope tg1 iter1 ifs1 fi1 p1 tt1) (hp : ∀ i ∈ patI p, i ∈ oi) (hp1 : ∀ i ∈ patI p1, i ∈ oi1) (hv : ∀ i ∈ oi1, i ∈ oi)
    (ho : own.map (·.2) = oi := by rfl) (hs : ∀ x, foldedSetIterable iter X.env x = pure x := by intro _; rfl) (hs1 : ∀ env x, foldedSetIterable iter1 env x = pure x := by intro _ _; rfl) :
    SE X W (.ListComp elt [⟨tg, iter, ifs, 0⟩, ⟨tg1, iter1, ifs1, 0⟩] scope pos) (e_lc2 oi fi p tt fi1 oi1 p1 tt1 te) := by
  subst ho
  exact PE.imp (pe_lc2 hc hN hi ok hv b.hg b.ht b1.hi b1.hg b1.ht b.he hs hs1) fun _ _ _ h => tE.lc2 hp hp1 h
theorem r_setLc2 {oi oi1 : List Nat} {i : Nat} {y : Str} {py spos : Pos} (hN : X.N.Nodup) (hc : X.calm = true) (hi : SI X W tg iter fi) (ok : BlkOk X.N X.env.scope scope own) (b : Blk X scope tg ifs elt p tt te) (b1 : Blk2 X scope tg1 iter1 ifs1 fi1 p1 tt1) (hp : ∀ i ∈ patI p, i ∈ oi) (hp1 : ∀ i ∈ patI p1, i ∈ oi1) (hv : ∀ i ∈ oi1, i ∈ oi)
    (hsw : swapsWith (.ListComp elt [⟨tg, iter, ifs, 0⟩, ⟨tg1, iter1, ifs1, 0⟩] scope pos) (some (.Name y py)) spos.line X.env = pure true) (ho : own.map (·.2) = oi := by rfl) (hy : X.N[i]? = some y := by rfl) (hyl : X.env.scope.names.lookup y = some .local := by rfl) (hs : ∀ x, foldedSetIterable iter X.env x = pure x := by intro _; rfl) (hs1 : ∀ env x, foldedSetIterable iter1 env x = pure x := by intro _ _; rfl) :
    SS X W (.Assign [.Name y py] (.ListComp elt [⟨tg, iter, ifs, 0⟩, ⟨tg1, iter1, ifs1, 0⟩] scope pos) spos) (s_set i (e_lc2 oi fi p tt fi1 oi1 p1 tt1 te)) := by
  subst ho
  exact PS.imp (ps_setLc2 hc hN hy hyl hsw hi ok hv b.hg b.ht b1.hi b1.hg b1.ht b.he hs hs1) fun E σ H h => by
    obtain ⟨rho, h, s, R, S, po⟩ := h
    exact tE.lc2 (W := W) hp hp1 (stepS R S po fun rho1 h1 H1 x e1 R1 S1 po1 v r => PostG.ok po1 R1 _ (S1.set r i))
end
/-! ### ranges with a step -/
def rangeC (lo c : Int) : Nat → List D
  | 0 => []
  | n + 1 => .int lo :: rangeC (lo + c) c n
theorem rangeC_length : ∀ (n : Nat) (lo c : Int), (rangeC lo c n).length = n
  | 0, _, _ => rfl
  | n + 1, lo, c => by simp [rangeC, rangeC_length n]
theorem rangeC_get : ∀ (n i : Nat) (lo c : Int) (d : D), (rangeC lo c n)[i]? = some d → d = .int (lo + i * c) ∧ i < n
  | 0, i, lo, c, d, e => by simp [rangeC] at e
  | n + 1, 0, lo, c, d, e => by simp [rangeC] at e; subst e; simp
  | n + 1, i + 1, lo, c, d, e => by
    simp only [rangeC, List.getElem?_cons_succ] at e
    obtain ⟨a, b⟩ := rangeC_get n i (lo + c) c d e
    refine ⟨?_, by omega⟩
    rw [a]; congr 1
    rw [show (((i + 1 : Nat) : Int)) = (i : Int) + 1 by omega, Int.add_mul, Int.one_mul]; omega
theorem serves_rangeC {K : PySem.W.Frag} {rho : Rh} {h : Hd} {H : Hp} (lo c : Int) (n : Nat) : Serves K (Itc lo c n) (rangeC lo c n) rho h H := by
  intro rho' h' H' e R i
  refine ⟨fun d hd => ?_, fun hl => by rw [rangeC_length] at hl; exact hl⟩
  obtain ⟨a, b⟩ := rangeC_get n i lo c d hd
  subst a
  exact ⟨b, fun x H2 ⟨q1, q2⟩ => by subst q1 q2; exact ⟨Ext.refl, R, relInt _⟩⟩
def i_rng3 (a : AF) : AF := fun s h => (a s h).bind fun ds h1 => match ds with
  | [.int i, .int j, .int c] => if c ≠ 0 ∧ c.natAbs < 1073741824 ∧ Builtin.Range.small i j c = true then .ok (rangeC i c (Builtin.Range.rangeSize i j c).toNat) h1 else .fail
  | _ => .fail
theorem rangeSize_nn {i j c : Int} (hc : c ≠ 0) : 0 ≤ Builtin.Range.rangeSize i j c := by
  unfold Builtin.Range.rangeSize
  split
  · split
    · have := Int.ediv_nonneg (a := j - i - 1) (b := c) (by omega) (by omega); omega
    · omega
  · split
    · have := Int.ediv_nonneg (a := i - j - 1) (b := -c) (by omega) (by omega); omega
    · omega
section
variable {X : Cx} {W : WX} {tg a b c : Expr} {p pos : Pos} {fa : AF}
theorem ri_range3 (hm : X.mg "range" = none) (ha : SA X W [a, b, c] fa) (hg : Gl X "range" := by rfl) (hs : starEach [a, b, c] X.env = (false, eval a X.env) :: starEach [b, c] X.env := by rfl) (hpl : (backTo pos (starEach [b, c] X.env)).any (·.1) = false := by rfl) :
    SI X W tg (.Call (.Name "range" p) [a, b, c] [] pos) (i_rng3 fa) := PI.imp (pi_range3 hg hm ha hs hpl) fun σ H Q q => by
  obtain ⟨rho, h, s, R, S, po⟩ := q
  refine step R S po fun rho1 h1 H1 ds e1 R1 S1 po1 vs r => ?_
  split at po1
  · rename_i i j c
    by_cases q : c ≠ 0 ∧ c.natAbs < 1073741824 ∧ Builtin.Range.small i j c = true
    · rw [if_pos q] at po1
      simp only [RelVs', RelDs, RelD] at r
      obtain ⟨v, rr, e2, e3, v2, rr2, e4, e5, v3, rr3, e6, e7, e8⟩ := r
      subst e8 e7 e6 e5 e4 e3
      exact ⟨i, j, c, _, e2, ⟨q.1, q.2.1, q.2.2, (Int.toNat_of_nonneg (rangeSize_nn q.1)).symm⟩, PostG.ok po1 R1 _ (serves_rangeC i c _)⟩
    · rw [if_neg q] at po1; exact po1.elim
  · exact po1.elim
end
/-! ### sorted -/
def insK (k : D → Int) (d : D) : List D → List D
  | [] => [d]
  | e :: r => if k d ≤ k e then d :: e :: r else e :: insK k d r
def sortK (k : D → Int) : List D → List D
  | [] => []
  | d :: r => insK k d (sortK k r)
theorem insK_perm (k : D → Int) (d : D) : ∀ l, (insK k d l).Perm (d :: l)
  | [] => .refl _
  | e :: r => by
    unfold insK
    split
    · exact .refl _
    · exact ((insK_perm k d r).cons e).trans (.swap d e r)
theorem sortK_perm (k : D → Int) : ∀ l, (sortK k l).Perm l
  | [] => .refl _
  | d :: r => (insK_perm k d _).trans ((sortK_perm k r).cons d)
theorem insK_sorted (k : D → Int) (d : D) : ∀ l, l.Pairwise (fun a b => k a ≤ k b) → (insK k d l).Pairwise (fun a b => k a ≤ k b)
  | [], _ => by simp [insK]
  | e :: r, h => by
    rw [List.pairwise_cons] at h
    unfold insK
    split
    · rename_i q
      rw [List.pairwise_cons]
      refine ⟨fun b hb => ?_, List.pairwise_cons.mpr h⟩
      rcases List.mem_cons.mp hb with rfl | hb
      · exact q
      · exact Int.le_trans q (h.1 b hb)
    · rename_i q
      rw [List.pairwise_cons]
      refine ⟨fun b hb => ?_, insK_sorted k d r h.2⟩
      rcases List.mem_cons.mp ((insK_perm k d r).mem_iff.mp hb) with rfl | hb
      · omega
      · exact h.1 b hb
theorem sortK_sorted (k : D → Int) : ∀ l, (sortK k l).Pairwise (fun a b => k a ≤ k b)
  | [] => by simp [sortK]
  | d :: r => insK_sorted k d _ (sortK_sorted k r)
theorem sortK_uniq {k : D → Int} {ds es : List D} (p : es.Perm ds) (s : es.Pairwise (fun a b => k a ≤ k b)) (inj : ∀ a ∈ ds, ∀ b ∈ ds, k a = k b → a = b) : es = sortK k ds :=
  List.Perm.eq_of_pairwise (le := fun a b => k a ≤ k b) (fun a b ha hb h1 h2 => inj a (p.mem_iff.mp ha) b ((sortK_perm k ds).mem_iff.mp hb) (Int.le_antisymm h1 h2)) s (sortK_sorted k ds) (p.trans (sortK_perm k ds).symm)
section
variable {K : PySem.W.Frag} {rho : Rh} {h : Hd} {H : Hp} {B : Nat}
theorem RelDs.lift {us us' : List V} (p : us'.Perm us) : ∀ {ds : List D}, RelDs K rho h B H ds us → ∃ es, es.Perm ds ∧ RelDs K rho h B H es us' := by
  induction p with
  | nil => intro ds r; exact ⟨ds, .refl _, r⟩
  | cons x p ih =>
    intro ds r
    cases ds with
    | nil => simp only [RelDs] at r; cases r
    | cons d ds =>
      simp only [RelDs] at r
      obtain ⟨v, rr, e1, e2, e3⟩ := r
      cases e1
      obtain ⟨es, p1, p2⟩ := ih e3
      exact ⟨d :: es, p1.cons d, by simp only [RelDs]; exact ⟨_, _, rfl, e2, p2⟩⟩
  | swap x y l =>
    intro ds r
    match ds, r with
    | [], r => simp only [RelDs] at r; cases r
    | [d], r => simp only [RelDs] at r; obtain ⟨v, rr, e1, e2, e3⟩ := r; cases e1; cases e3
    | d :: e :: ds, r =>
      simp only [RelDs] at r
      obtain ⟨v, rr, e1, e2, v', rr', e3, e4, e5⟩ := r
      cases e1
      cases e3
      exact ⟨e :: d :: ds, .swap d e ds, by simp only [RelDs]; exact ⟨_, _, rfl, e4, _, _, rfl, e2, e5⟩⟩
  | trans p q ih1 ih2 =>
    intro ds r
    obtain ⟨es, a, b⟩ := ih2 r
    obtain ⟨fs, c, d⟩ := ih1 b
    exact ⟨fs, c.trans a, d⟩
end
def keyI (d : D) : Int := match d with
  | .int i => i
  | _ => 0
def tupI (d : D) : Option (List Int) := match d with
  | .tup xs => intsOf xs
  | _ => none
def bdB (ns : List Int) : Bool := ns.all fun m => decide (0 ≤ m) && decide (m < 1000000)
def tupOk (n : Nat) (x : D) : Bool := match tupI x with
  | some ns => ns.length == n && bdB ns
  | none => false
def keyT (x : D) : Int := TS.code 1000000 ((tupI x).getD [])
def sortedP (m : Bool) : PL := fun ds h => match ds with
  | [d] => match asL d h with
    | some xs => (match intsOf xs with
      | some _ => mkL m (sortK keyI xs) h
      | none => (match xs with
        | x :: _ => if 1 ≤ ((tupI x).getD []).length ∧ xs.length < 64 ∧ xs.all (tupOk ((tupI x).getD []).length) = true then mkL m (sortK keyT xs) h else none
        | [] => none))
    | none => none
  | _ => none
theorem bdB_ok {ns : List Int} (e : bdB ns = true) : TS.Bd 1000000 ns := by
  unfold bdB at e
  rw [List.all_eq_true] at e
  intro m hm
  have := e m hm
  rw [Bool.and_eq_true] at this
  exact ⟨of_decide_eq_true this.1, of_decide_eq_true this.2⟩
theorem code_inj {B : Int} : ∀ (a b : List Int), a.length = b.length → TS.Bd B a → TS.Bd B b → TS.code B a = TS.code B b → a = b
  | [], [], _, _, _, _ => rfl
  | [], _ :: _, h, _, _, _ => by simp at h
  | _ :: _, [], h, _, _, _ => by simp at h
  | x :: a, y :: b, hl, ha, hb, e => by
    have hl' : a.length = b.length := by simpa using hl
    have hxy : x = y := by
      rcases Int.lt_trichotomy x y with q | q | q
      · have := TS.code_lt hl' ha.tail hb.tail q; omega
      · exact q
      · have := TS.code_lt hl'.symm hb.tail ha.tail q; omega
    subst hxy
    have e2 : TS.code B a = TS.code B b := by
      simp only [TS.code, hl'] at e
      omega
    rw [code_inj a b hl' ha.tail hb.tail e2]
theorem intsOf_mem : ∀ {xs : List D} {ns : List Int}, intsOf xs = some ns → ∀ x ∈ xs, ∃ i, x = .int i
  | [], ns, e, x, hx => by simp at hx
  | .int i :: xs, ns, e, x, hx => by
    simp only [intsOf] at e
    cases q : intsOf xs with
    | none => rw [q] at e; cases e
    | some ms =>
      rcases List.mem_cons.mp hx with rfl | hx
      · exact ⟨i, rfl⟩
      · exact intsOf_mem q x hx
  | .non :: xs, ns, e, x, hx => by simp [intsOf] at e
  | .bl _ :: xs, ns, e, x, hx => by simp [intsOf] at e
  | .str _ :: xs, ns, e, x, hx => by simp [intsOf] at e
  | .tup _ :: xs, ns, e, x, hx => by simp [intsOf] at e
  | .lv _ :: xs, ns, e, x, hx => by simp [intsOf] at e
  | .fl _ :: xs, ns, e, x, hx => by simp [intsOf] at e
  | .ref _ :: xs, ns, e, x, hx => by simp [intsOf] at e
theorem intsOf_map : ∀ {xs : List D} {ns : List Int}, intsOf xs = some ns → xs = ns.map D.int
  | [], ns, e => by simp only [intsOf, Option.some.injEq] at e; subst e; rfl
  | .int i :: xs, ns, e => by
    simp only [intsOf] at e
    cases q : intsOf xs with
    | none => rw [q] at e; cases e
    | some ms => rw [q] at e; cases e; rw [intsOf_map q]; rfl
  | .non :: xs, ns, e => by simp [intsOf] at e
  | .bl _ :: xs, ns, e => by simp [intsOf] at e
  | .str _ :: xs, ns, e => by simp [intsOf] at e
  | .tup _ :: xs, ns, e => by simp [intsOf] at e
  | .lv _ :: xs, ns, e => by simp [intsOf] at e
  | .fl _ :: xs, ns, e => by simp [intsOf] at e
  | .ref _ :: xs, ns, e => by simp [intsOf] at e
theorem tupOk_inj {n : Nat} {a b : D} (ha : tupOk n a = true) (hb : tupOk n b = true) (e : keyT a = keyT b) : a = b := by
  unfold tupOk at ha hb
  unfold keyT at e
  cases qa : tupI a with
  | none => rw [qa] at ha; cases ha
  | some x =>
    cases qb : tupI b with
    | none => rw [qb] at hb; cases hb
    | some y =>
      rw [qa] at ha e
      rw [qb] at hb e
      simp only [Bool.and_eq_true, beq_iff_eq] at ha hb
      have := code_inj x y (ha.1.trans hb.1.symm) (bdB_ok ha.2) (bdB_ok hb.2) e
      subst this
      unfold tupI at qa qb
      split at qa
      · split at qb
        · rw [intsOf_map qa, intsOf_map qb]
        · cases qb
      · cases qa
section
variable {X : Cx}
theorem c_sorted (m : Bool) : CallR X (.builtin "sorted") (rC X.K (sortedP m)) := by
  intro pins s σ H xs us Q I rx q
  obtain ⟨rho, h, ds, R, r, po⟩ := q
  unfold sortedP at po
  split at po
  · rename_i d
    cases qa : asL d h with
    | none => rw [qa] at po; exact po.elim
    | some ys =>
      rw [qa] at po
      simp only at po
      obtain ⟨v, e, r⟩ := rel1 r
      obtain ⟨a, ws, e1, e2, e3⟩ := asL_ok R r qa
      subst e1
      cases qi : intsOf ys with
      | some ns =>
        rw [qi] at po
        simp only at po
        refine cr_sortedI pins s σ H xs us Q I rx ⟨a, ns, e, by rw [← intsOf_ok e3 qi]; exact e2, fun ns' p hp hs hn => ?_⟩
        rw [intsOf_ok e3 qi] at e3
        obtain ⟨es, p1, p2⟩ := RelDs.lift (hp.map V.int) e3
        refine post_mkL R (xs := sortK keyI ys) ?_ po hn
        have ee : es = ns'.map D.int := by
          have : intsOf es = some ns' := by
            have al : ∀ x ∈ es, ∃ i, x = .int i := fun x hx => intsOf_mem qi x (p1.mem_iff.mp hx)
            clear p1 po hs hp
            induction es generalizing ns' with
            | nil =>
              simp only [RelDs] at p2
              cases ns' with
              | nil => rfl
              | cons _ _ => cases p2
            | cons x es ih =>
              obtain ⟨i, rfl⟩ := al x (by simp)
              simp only [RelDs, RelD] at p2
              obtain ⟨v, rr, e1, e2, e3⟩ := p2
              cases ns' with
              | nil => cases e1
              | cons n ns' =>
                simp only [List.map_cons, List.cons.injEq] at e1
                obtain ⟨e4, e5⟩ := e1
                subst e5
                rw [← e4] at e2
                cases e2
                simp only [intsOf, ih _ e3 fun x hx => al x (by simp [hx])]
                rfl
          exact intsOf_map this
        have so : es.Pairwise (fun a b => keyI a ≤ keyI b) := by
          rw [ee, List.pairwise_map]
          exact hs
        rw [← sortK_uniq p1 so fun a ha b hb e => by
          obtain ⟨i, rfl⟩ := intsOf_mem qi a ha
          obtain ⟨j, rfl⟩ := intsOf_mem qi b hb
          simp only [keyI] at e
          rw [e]]
        exact p2
      | none =>
        rw [qi] at po
        simp only at po
        cases ys with
        | nil => exact po.elim
        | cons x ys =>
          simp only at po
          by_cases c : 1 ≤ ((tupI x).getD []).length ∧ (x :: ys).length < 64 ∧ (x :: ys).all (tupOk ((tupI x).getD []).length) = true
          · rw [if_pos c] at po
            generalize ((tupI x).getD []).length = n at c
            obtain ⟨c1, c2, c3⟩ := c
            rw [List.all_eq_true] at c3
            have tv : ∀ (z : D) (v : V), tupOk n z = true → RelV' X.K rho h H z v → ∃ ns, TupI X.K H v ns ∧ ns.length = n ∧ TS.Bd 1000000 ns ∧ TS.code 1000000 ns = keyT z := by
              intro z v hz rz
              unfold tupOk at hz
              cases qz : tupI z with
              | none => rw [qz] at hz; cases hz
              | some ns =>
                rw [qz] at hz
                simp only [Bool.and_eq_true, beq_iff_eq] at hz
                refine ⟨ns, ?_, hz.1, bdB_ok hz.2, by unfold keyT; rw [qz]; rfl⟩
                unfold tupI at qz
                split at qz
                · obtain ⟨t, ts, q1, q2, q3⟩ := rz.tup
                  exact ⟨t, q1, by rw [← intsOf_ok q3 qz]; exact q2⟩
                · cases qz
            have mem : ∀ (l : List D) (vs : List V), RelVs' X.K rho h H l vs → ∀ v ∈ vs, ∃ z ∈ l, RelV' X.K rho h H z v := by
              intro l
              induction l with
              | nil => intro vs r v hv; simp only [RelVs', RelDs] at r; subst r; simp at hv
              | cons z l ih =>
                intro vs r v hv
                simp only [RelVs', RelDs] at r
                obtain ⟨w, rr, e1, e2, e3⟩ := r
                subst e1
                rcases List.mem_cons.mp hv with rfl | hv
                · exact ⟨z, by simp, e2⟩
                · obtain ⟨y, a, b⟩ := ih rr e3 v hv
                  exact ⟨y, by simp [a], b⟩
            refine cr_sortT (d := n) (B := 1000000) c1 pins s σ H xs us Q I rx ⟨a, ws, e, e2, by rw [← RelDs.length e3]; exact c2, fun v hv => ?_, fun vs p hp hs hn => ?_⟩
            · obtain ⟨z, hz, rz⟩ := mem _ _ e3 v hv
              obtain ⟨ns, t1, t2, t3, _⟩ := tv z v (c3 z hz) rz
              exact ⟨ns, t1, t2, t3⟩
            · obtain ⟨es, p1, p2⟩ := RelDs.lift hp e3
              refine post_mkL R (xs := sortK keyT (x :: ys)) ?_ po hn
              have so : es.Pairwise (fun a b => keyT a ≤ keyT b) := by
                have al : ∀ z ∈ es, tupOk n z = true := fun z hz => c3 z (p1.mem_iff.mp hz)
                clear p1 hp po
                induction es generalizing vs with
                | nil => exact .nil
                | cons z es ih =>
                  simp only [RelDs] at p2
                  obtain ⟨w, rr, f1, f2, f3⟩ := p2
                  subst f1
                  rw [List.pairwise_cons] at hs
                  rw [List.pairwise_cons]
                  refine ⟨fun y hy => ?_, ih rr hs.2 f3 fun z hz => al z (by simp [hz])⟩
                  obtain ⟨k, hk⟩ := List.mem_iff_getElem?.mp hy
                  obtain ⟨u, u1, u2⟩ := RelDs.get f3 hk
                  obtain ⟨n1, t1, _, _, t2⟩ := tv z w (al z (by simp)) f2
                  obtain ⟨n2, t3, _, _, t4⟩ := tv y u (al y (by simp [hy])) u2
                  rw [← t2, ← t4]
                  exact hs.1 u (List.mem_of_getElem? u1) n1 n2 t1 t3
              rw [← sortK_uniq p1 so fun a ha b hb e => tupOk_inj (c3 a ha) (c3 b hb) e]
              exact p2
          · rw [if_neg c] at po; exact po.elim
  · exact po.elim
end
/-- a comprehension within a comprehension -/
theorem blkOk_in {X : Cx} {s : Shared} {H : Hp} {scope0 : Scope} {cl : List (Str × Addr)} {C : Addr} {fp : List Addr} {N : List Str} {sc scope : Scope} {own : List (Str × Nat)} (h : blkC N (relS scope0 sc) scope own = true) (hN : X.N = N := by rfl) (hsc : X.env.scope = sc := by rfl) :
    BlkOk (X.blk s H scope0 (compEnvC scope0 cl C X.env) fp).N (X.blk s H scope0 (compEnvC scope0 cl C X.env) fp).env.scope scope own := by
  subst hN hsc
  exact blkOk_by h
end Mini
namespace Mini
open PySem L2
/-! ### running mirrors -/
@[simp] theorem bind_ok {α β : Type} (a : α) (h : Hd) (k : α → Hd → Res β) : (Res.ok a h).bind k = k a h := id rfl
@[simp] theorem bindE_ok {α : Type} (a : α) (h : Hd) (s : Ev) (k : α → Hd → Res Fl) : bindE (.ok a h) s k = k a h := id rfl
@[simp] theorem lift_some {α : Type} (d : α) (h : Hd) : lift (some (d, h)) = .ok d h := id rfl
theorem whileM_succ (t : TF) (b : SF) (n : Nat) (s : Ev) (h : Hd) : whileM t b (n + 1) s h = bindE (t s h) s fun c h1 => if c then (match b s h1 with
    | .ok (.nx s2) h2 => whileM t b n s2 h2
    | .ok (.ct s2) h2 => whileM t b n s2 h2
    | .ok (.bk s2) h2 => .ok (.nx s2) h2
    | r => r) else .ok (.nx s) h1 := rfl
/-- a for loop: an invariant by the turn; a turn goes on, or leaves the loop with what is wanted -/
theorem for_wp {p : Pat} {b : SF} {Q : Res Fl → Prop} (I : Nat → Ev → Hd → Prop) (items : List D) (s : Ev) (h : Hd) (h0 : I 0 s h)
    (hs : ∀ (i : Nat) (d : D) (s : Ev) (h : Hd), items[i]? = some d → I i s h → ∃ s1, patD p d s = some s1 ∧
      ((∃ s2 h2, b s1 h = .ok (.nx s2) h2 ∧ I (i + 1) s2 h2) ∨ (∃ s2 h2, b s1 h = .ok (.ct s2) h2 ∧ I (i + 1) s2 h2) ∨ (∃ s2 h2, b s1 h = .ok (.bk s2) h2 ∧ Q (.ok (.nx s2) h2)) ∨ (∃ d h2, b s1 h = .ok (.rt d) h2 ∧ Q (.ok (.rt d) h2))))
    (hd : ∀ s h, I items.length s h → Q (.ok (.nx s) h)) : Q (forM p b items s h) := by
  suffices H : ∀ (l : List D) (i : Nat) (s : Ev) (h : Hd), items.drop i = l → i ≤ items.length → I i s h → Q (forM p b l s h) from H items 0 s h rfl (Nat.zero_le _) h0
  intro l
  induction l with
  | nil =>
    intro i s h e hi q
    have : i = items.length := by
      have := congrArg List.length e
      simp at this; omega
    subst this
    exact hd s h q
  | cons d r ih =>
    intro i s h e hi q
    have hd' : items[i]? = some d := by
      have := congrArg (fun l => l[0]?) e
      simpa using this
    have hl : i < items.length := (List.getElem?_eq_some_iff.mp hd').1
    have er : items.drop (i + 1) = r := by
      have := congrArg List.tail e
      simpa using this
    obtain ⟨s1, e1, c⟩ := hs i d s h hd' q
    simp only [forM, e1]
    rcases c with ⟨s2, h2, e2, q2⟩ | ⟨s2, h2, e2, q2⟩ | ⟨s2, h2, e2, q2⟩ | ⟨d', h2, e2, q2⟩
    · rw [e2]; exact ih (i + 1) s2 h2 er hl q2
    · rw [e2]; exact ih (i + 1) s2 h2 er hl q2
    · rw [e2]; exact q2
    · rw [e2]; exact q2
/-- a while loop: I with a number that falls at each turn -/
theorem while_wp {t : TF} {b : SF} {Q : Res Fl → Prop} (I : Nat → Ev → Hd → Prop)
    (hs : ∀ (k : Nat) (s : Ev) (h : Hd), I k s h → (∃ h1, t s h = .ok false h1 ∧ Q (.ok (.nx s) h1)) ∨ (∃ h1, t s h = .ok true h1 ∧
      ((∃ s2 h2 k', b s h1 = .ok (.nx s2) h2 ∧ k' < k ∧ I k' s2 h2) ∨ (∃ s2 h2 k', b s h1 = .ok (.ct s2) h2 ∧ k' < k ∧ I k' s2 h2) ∨ (∃ s2 h2, b s h1 = .ok (.bk s2) h2 ∧ Q (.ok (.nx s2) h2)) ∨ (∃ d h2, b s h1 = .ok (.rt d) h2 ∧ Q (.ok (.rt d) h2))))) :
    ∀ (n k : Nat) (s : Ev) (h : Hd), k < n → I k s h → Q (whileM t b n s h)
  | 0, k, s, h, hk, q => by omega
  | n + 1, k, s, h, hk, q => by
    rw [whileM_succ]
    rcases hs k s h q with ⟨h1, e1, q1⟩ | ⟨h1, e1, c⟩
    · rw [e1]; exact q1
    · rw [e1]
      simp only [bindE_ok, if_true]
      rcases c with ⟨s2, h2, k', e2, lk, q2⟩ | ⟨s2, h2, k', e2, lk, q2⟩ | ⟨s2, h2, e2, q2⟩ | ⟨d', h2, e2, q2⟩
      · rw [e2]; exact while_wp I hs n k' s2 h2 (by omega) q2
      · rw [e2]; exact while_wp I hs n k' s2 h2 (by omega) q2
      · rw [e2]; exact q2
      · rw [e2]; exact q2
/-- a comprehension whose parts leave the heap: filter and map -/
theorem lc_pure {p : Pat} {tt : TF} {te : EF} {s0 : Ev} {h : Hd} (g : D → Bool) (f : D → D) : ∀ (items acc : List D), (∀ d ∈ items, ∃ s1, patD p d s0 = some s1 ∧ tt s1 h = .ok (g d) h ∧ (g d = true → te s1 h = .ok (f d) h)) →
    acc.length + items.length ≤ sizeLine → lcM p tt te s0 items acc h = some (acc ++ (items.filter g).map f, h)
  | [], acc, _, _ => by simp [lcM]
  | d :: r, acc, hp, hl => by
    obtain ⟨s1, e1, e2, e3⟩ := hp d (by simp)
    have ih := fun acc hl => lc_pure g f r acc (fun d hd => hp d (by simp [hd])) hl
    simp only [List.length_cons] at hl
    simp only [lcM, e1, e2]
    cases q : g d with
    | false => simp only; rw [ih acc (by omega)]; simp [q]
    | true =>
      simp only [e3 q]
      rw [if_pos (by omega), ih _ (by simp; omega)]
      simp [q]
/-- .. with an invariant of the heap (draws): what is made so far and what is left -/
theorem lc_wp {p : Pat} {tt : TF} {te : EF} {s0 : Ev} {Q : Option (List D × Hd) → Prop} (I : Nat → List D → Hd → Prop) (items : List D) (h : Hd) (h0 : I 0 [] h)
    (hs : ∀ (i : Nat) (d : D) (acc : List D) (h : Hd), items[i]? = some d → I i acc h → ∃ s1, patD p d s0 = some s1 ∧
      ((∃ h1, tt s1 h = .ok false h1 ∧ I (i + 1) acc h1) ∨ (∃ h1 y h2, tt s1 h = .ok true h1 ∧ te s1 h1 = .ok y h2 ∧ acc.length < sizeLine ∧ I (i + 1) (acc ++ [y]) h2)))
    (hd : ∀ acc h, I items.length acc h → Q (some (acc, h))) : Q (lcM p tt te s0 items [] h) := by
  suffices H : ∀ (l : List D) (i : Nat) (acc : List D) (h : Hd), items.drop i = l → i ≤ items.length → I i acc h → Q (lcM p tt te s0 l acc h) from H items 0 [] h rfl (Nat.zero_le _) h0
  intro l
  induction l with
  | nil =>
    intro i acc h e hi q
    have : i = items.length := by
      have := congrArg List.length e
      simp at this; omega
    subst this
    exact hd acc h q
  | cons d r ih =>
    intro i acc h e hi q
    have hd' : items[i]? = some d := by
      have := congrArg (fun l => l[0]?) e
      simpa using this
    have hl : i < items.length := (List.getElem?_eq_some_iff.mp hd').1
    have er : items.drop (i + 1) = r := by
      have := congrArg List.tail e
      simpa using this
    obtain ⟨s1, e1, c⟩ := hs i d acc h hd' q
    simp only [lcM, e1]
    rcases c with ⟨h1, e2, q2⟩ | ⟨h1, y, h2, e2, e3, hl2, q2⟩
    · rw [e2]; exact ih (i + 1) acc h1 er hl q2
    · rw [e2]; simp only [e3, if_pos hl2]; exact ih (i + 1) _ h2 er hl q2

@[simp] theorem addP_int (m : Bool) (i j : Int) (h : Hd) : addP m (.int i) (.int j) h = some (.int (i + j), h) := id rfl
@[simp] theorem subP_int (i j : Int) (h : Hd) : subP (.int i) (.int j) h = some (.int (i - j), h) := id rfl
@[simp] theorem negP_int (i : Int) (h : Hd) : negP (.int i) h = some (.int (-i), h) := id rfl
@[simp] theorem iaddP_int (i j : Int) (h : Hd) : iaddP (.int i) (.int j) h = some (.int (i + j), h) := id rfl
@[simp] theorem ltP_int (i j : Int) (h : Hd) : ltP (.int i) (.int j) h = some (.bl (decide (i < j)), h) := id rfl
@[simp] theorem leP_int (i j : Int) (h : Hd) : leP (.int i) (.int j) h = some (.bl (decide (i ≤ j)), h) := id rfl
@[simp] theorem gtP_int (i j : Int) (h : Hd) : gtP (.int i) (.int j) h = some (.bl (decide (j < i)), h) := id rfl
@[simp] theorem geP_int (i j : Int) (h : Hd) : geP (.int i) (.int j) h = some (.bl (decide (j ≤ i)), h) := id rfl
theorem modP_int {i j : Int} (hj : 0 < j) (h : Hd) : modP (.int i) (.int j) h = some (.int (i % j), h) := by simp [modP, hj]
theorem seq_nx {a b : SF} {s s1 : Ev} {h h1 : Hd} (e : a s h = .ok (.nx s1) h1) : s_seq a b s h = b s1 h1 := by simp [s_seq, e]
theorem seq_rt {a b : SF} {s : Ev} {h h1 : Hd} {d : D} (e : a s h = .ok (.rt d) h1) : s_seq a b s h = .ok (.rt d) h1 := by simp [s_seq, e]
/-- a def whose body returns -/
theorem fn_rt {np n : Nat} {b : SF} {ds : List D} {h h' : Hd} {d : D} (s0 : Ev) (d' : D) (e : b s0 h = .ok (.rt d) h') (hs : sealD h.length d h' = some d') (h0 : ds.map some ++ List.replicate (n - ds.length) none = s0 := by rfl) (hl : ds.length = np := by rfl) : fnM np n b ds h = .ok d' (h'.take h.length) := by
  unfold fnM runB
  rw [if_pos hl, h0, e]
  simp only [sealR, hs]
/-! ### the box of draws -/
def BoxAt (h : Hd) (b n : Nat) : Prop := ∃ x y z : Int, h[b]? = some (.lst [.int x, .int y, .int z]) ∧ 0 ≤ x ∧ 0 ≤ y ∧ y < 2 ^ 63 ∧ 0 ≤ z ∧ z ≤ n
/-- from h to h' only draws were made: at most k -/
structure Drawn (b : Nat) (h h' : Hd) (n k : Nat) : Prop where
  len : h'.length = h.length
  oth : ∀ m, m ≠ b → h'[m]? = h[m]?
  box : BoxAt h' b (n + k)
theorem Drawn.trans {b : Nat} {h h1 h2 : Hd} {n k j : Nat} (x : Drawn b h h1 n k) (y : Drawn b h1 h2 (n + k) j) : Drawn b h h2 n (k + j) :=
  ⟨y.len.trans x.len, fun m hm => (y.oth m hm).trans (x.oth m hm), by rw [← Nat.add_assoc]; exact y.box⟩
theorem BoxAt.mono {h : Hd} {b n m : Nat} (x : BoxAt h b n) (hm : n ≤ m) : BoxAt h b m := by
  obtain ⟨a, c, d, e, f, g, i, j, k⟩ := x
  exact ⟨a, c, d, e, f, g, i, j, by omega⟩
theorem Drawn.mono {b : Nat} {h h' : Hd} {n k j : Nat} (x : Drawn b h h' n k) (hk : k ≤ j) : Drawn b h h' n j := ⟨x.len, x.oth, x.box.mono (by omega)⟩
theorem Drawn.refl {b : Nat} {h : Hd} {n : Nat} (x : BoxAt h b n) : Drawn b h h n 0 := ⟨rfl, fun _ _ => rfl, x⟩
theorem BoxAt.lt {h : Hd} {b n : Nat} (x : BoxAt h b n) : b < h.length := by
  obtain ⟨_, _, _, e, _⟩ := x
  exact (List.getElem?_eq_some_iff.mp e).1
theorem in64_of {i : Int} (h1 : -(2 ^ 64) < i) (h2 : i < 2 ^ 64) : in64 i = true := by unfold in64; rw [decide_eq_true h1, decide_eq_true h2]; rfl
end Mini
namespace Mini
open PySem L2
/-! ### one step at a time -/
section
variable {s s1 : Ev} {h h1 h2 h3 : Hd} {d d1 d2 d3 : D} {f f1 f2 f3 : EF} {a k : AF} {t t2 : TF} {b1 b2 : SF}
theorem op_ok {g : P2} (e1 : f1 s h = .ok d1 h1) (e2 : f2 s h1 = .ok d2 h2) (e3 : g d1 d2 h2 = some (d, h3)) : e_op g f1 f2 s h = .ok d h3 := by simp only [e_op, e1, e2, bind_ok, e3, lift_some]
theorem un_ok {g : P1} (e1 : f1 s h = .ok d1 h1) (e3 : g d1 h1 = some (d, h3)) : e_un g f1 s h = .ok d h3 := by simp only [e_un, e1, bind_ok, e3, lift_some]
theorem a1_ok (e1 : f1 s h = .ok d1 h1) : a_cons f1 a_nil s h = .ok [d1] h1 := by simp only [a_cons, a_nil, e1, bind_ok]
theorem a2_ok (e1 : f1 s h = .ok d1 h1) (e2 : f2 s h1 = .ok d2 h2) : a_cons f1 (a_cons f2 a_nil) s h = .ok [d1, d2] h2 := by simp only [a_cons, a_nil, e1, e2, bind_ok]
theorem a3_ok (e1 : f1 s h = .ok d1 h1) (e2 : f2 s h1 = .ok d2 h2) (e3 : f3 s h2 = .ok d3 h3) : a_cons f1 (a_cons f2 (a_cons f3 a_nil)) s h = .ok [d1, d2, d3] h3 := by simp only [a_cons, a_nil, e1, e2, e3, bind_ok]
theorem call_ok {g : PL} {ds : List D} (e1 : a s h = .ok ds h1) (e3 : g ds h1 = some (d, h2)) : e_call g a s h = .ok d h2 := by simp only [e_call, e1, bind_ok, e3, lift_some]
theorem own_ok {m : MF} {ds : List D} (e1 : a s h = .ok ds h1) (e3 : m ds h1 = .ok d h2) : e_own m a s h = .ok d h2 := by simp only [e_own, e1, bind_ok, e3]
theorem ownK_ok {m : MF} {np nk : Nat} {perm : List Nat} {ds es fs : List D} (e1 : a s h = .ok ds h1) (e2 : k s h1 = .ok es h2) (e3 : m fs h2 = .ok d h3) (hp : permL np nk perm ds es = fs := by rfl) : e_ownK m np nk perm a k s h = .ok d h3 := by simp only [e_ownK, e1, e2, bind_ok, hp, e3]
theorem lst_ok {ds : List D} (e1 : a s h = .ok ds h1) (hl : ds.length ≤ sizeLine) : e_lst false a s h = .ok (.lv ds) h1 := by simp only [e_lst, e1, bind_ok, if_pos hl, mkL, Bool.false_eq_true, if_false, lift_some]
theorem lstM_ok {ds : List D} (e1 : a s h = .ok ds h1) (hl : ds.length ≤ sizeLine) : e_lst true a s h = .ok (.ref h1.length) (h1 ++ [.lst ds]) := by simp only [e_lst, e1, bind_ok, if_pos hl, mkL, if_true, lift_some]
theorem tup_ok {ds : List D} (e1 : a s h = .ok ds h1) (hl : ds.length ≤ sizeLine) : e_tup a s h = .ok (.tup ds) h1 := by simp only [e_tup, e1, bind_ok, if_pos hl]
theorem var_ok {i : Nat} (e : s[i]? = some (some d) := by rfl) : e_var i s h = .ok d h := by simp only [e_var, e]
theorem b_ok {c : Bool} (e1 : f s h = .ok (.bl c) h1) : t_b f s h = .ok c h1 := by simp only [t_b, e1, bind_ok]
theorem tru_ok {c : Bool} (e1 : f s h = .ok (.bl c) h1) : t_tru f s h = .ok c h1 := by simp only [t_tru, e1, bind_ok, truD]
theorem not_ok {c : Bool} (e1 : t s h = .ok c h1) : t_not t s h = .ok (!c) h1 := by simp only [t_not, e1, bind_ok]
theorem or_f (e1 : t s h = .ok false h1) : t_or t t2 s h = t2 s h1 := by simp only [t_or, e1, bind_ok, Bool.false_eq_true, if_false]
theorem or_t (e1 : t s h = .ok true h1) : t_or t t2 s h = .ok true h1 := by simp only [t_or, e1, bind_ok, if_true]
theorem and_f (e1 : t s h = .ok false h1) : t_and t t2 s h = .ok false h1 := by simp [t_and, e1]
theorem and_t (e1 : t s h = .ok true h1) : t_and t t2 s h = t2 s h1 := by simp [t_and, e1]
theorem eand_t (e1 : f1 s h = .ok (.bl true) h1) : e_and f1 f2 s h = f2 s h1 := by simp only [e_and, e1, bind_ok]
theorem eand_f (e1 : f1 s h = .ok (.bl false) h1) : e_and f1 f2 s h = .ok (.bl false) h1 := by simp only [e_and, e1, bind_ok]
theorem set_ok {i : Nat} (e1 : f s h = .ok d h1) : s_set i f s h = .ok (.nx (s.set i (some d))) h1 := by simp only [s_set, e1, bindE_ok]
theorem ret_ok (e1 : f s h = .ok d h1) : s_ret f s h = .ok (.rt d) h1 := by simp only [s_ret, e1, bindE_ok]
theorem if_f (e1 : t s h = .ok false h1) : s_if t b1 b2 s h = b2 s h1 := by simp only [s_if, e1, bindE_ok, Bool.false_eq_true, if_false]
theorem if_t (e1 : t s h = .ok true h1) : s_if t b1 b2 s h = b1 s h1 := by simp only [s_if, e1, bindE_ok, if_true]
theorem for_ok {i : AF} {p : Pat} {items : List D} (e1 : i s h = .ok items h1) : s_for i p b1 s h = forM p b1 items s h1 := by simp only [s_for, e1, bindE_ok]
theorem par_ok {i j : Nat} (e1 : a s h = .ok [d1, d2] h1) : s_par i j a s h = .ok (.nx ((s.set i (some d1)).set j (some d2))) h1 := by simp only [s_par, e1, bindE_ok]
theorem seq_then {r : Res Fl} (e1 : b1 s h = .ok (.nx s1) h1) (e2 : b2 s1 h1 = r) : s_seq b1 b2 s h = r := (seq_nx e1).trans e2
theorem take_self {h : Hd} : h.take h.length = h := List.take_of_length_le (Nat.le_refl _)
theorem fn_rt' {np n : Nat} {b : SF} {ds : List D} {h : Hd} {d : D} (s0 : Ev) (e : b s0 h = .ok (.rt d) h) (hs : noRef d = true) (h0 : ds.map some ++ List.replicate (n - ds.length) none = s0 := by rfl) (hl : ds.length = np := by rfl) : fnM np n b ds h = .ok d h := by
  have hd : sealD h.length d h = some d := by
    cases d with
    | ref k => simp [noRef] at hs
    | _ => simp only [sealD, hs, if_true]
  have r := fn_rt (np := np) (n := n) (b := b) (ds := ds) (h := h) (h' := h) s0 d e hd h0 hl
  rw [take_self] at r
  exact r
theorem eif_t (e1 : t s h = .ok true h1) : e_if t f1 f2 s h = f1 s h1 := by simp only [e_if, e1, bind_ok, if_true]
theorem eif_f (e1 : t s h = .ok false h1) : e_if t f1 f2 s h = f2 s h1 := by simp only [e_if, e1, bind_ok, Bool.false_eq_true, if_false]
theorem c_ok : e_c d s h = .ok d h := rfl
theorem nil_ok : s_nil s h = .ok (.nx s) h := rfl
end
end Mini
namespace Mini
open PySem PySem.Spec PyProof.Rows L2
/-! ### the mirrors -/
abbrev n_catalan : List Str := ["pairs", "found", "number"]
def x_catalan_f0 : SF :=
  (s_set 1 (e_op fdivP (e_op (mulP false) (e_op (mulP false) (e_var 1) (e_c (D.int 2))) (e_op (addP false) (e_op (mulP false) (e_c (D.int 2)) (e_var 2)) (e_c (D.int 1)))) (e_op (addP false) (e_var 2) (e_c (D.int 2)))))
def b_catalan : SF :=
  (s_seq (s_set 1 (e_c (D.int 1)))
    (s_seq (s_for (i_rng1 (a_cons (e_var 0) a_nil)) (.nm 2)
      x_catalan_f0)
    (s_ret (e_var 1))))
def m_catalan : MF := fnM 1 3 b_catalan
abbrev n_gcd : List Str := ["one", "other"]
def x_gcd_w0 : SF :=
  (s_par 0 1 (a_cons (e_var 1) (a_cons (e_op modP (e_var 0) (e_var 1)) a_nil)))
def x_gcd_t0 : TF :=
  (t_b (e_op gtP (e_var 1) (e_c (D.int 0))))
def b_gcd : SF :=
  (s_seq (whileM x_gcd_t0
      x_gcd_w0 1000)
    (s_ret (e_var 0)))
def m_gcd : MF := fnM 2 2 b_gcd
abbrev n_turned : List Str := ["arrangement", "seats", "found", "people", "person", "partner"]
def x_turned_f0 : SF :=
  (s_asgT (g_sub setP (e_var 2) (e_op modP (e_op (addP false) (e_var 4) (e_var 1)) (e_var 3))) (e_op modP (e_op (addP false) (e_var 5) (e_var 1)) (e_var 3)))
def b_turned : SF :=
  (s_seq (s_par 2 3 (a_cons (e_call (listP true) (a_cons (e_var 0) a_nil)) (a_cons (e_call lenP (a_cons (e_var 0) a_nil)) a_nil)))
    (s_seq (s_for (i_enum (a_cons (e_var 0) a_nil)) (.tp [(.nm 4), (.nm 5)])
      x_turned_f0)
    (s_ret (e_call tupleP (a_cons (e_var 2) a_nil)))))
def m_turned : MF := fnM 2 6 b_turned
abbrev n_period : List Str := ["arrangement", "seats"]
def x_period_w0 : SF :=
  (s_aug 1 iaddP (e_c (D.int 1)))
def x_period_t0 : TF :=
  (t_b (e_op (eqP true) (e_own m_turned (a_cons (e_var 0) (a_cons (e_var 1) a_nil))) (e_call tupleP (a_cons (e_var 0) a_nil))))
def b_period : SF :=
  (s_seq (s_set 1 (e_c (D.int 1)))
    (s_seq (whileM x_period_t0
      x_period_w0 1000)
    (s_ret (e_var 1))))
def m_period : MF := fnM 1 2 b_period
abbrev n_choose : List Str := ["things", "some", "found", "number"]
def x_choose_f0 : SF :=
  (s_set 2 (e_op fdivP (e_op (mulP false) (e_var 2) (e_op subP (e_var 0) (e_var 3))) (e_op (addP false) (e_var 3) (e_c (D.int 1)))))
def b_choose : SF :=
  (s_seq (s_set 2 (e_c (D.int 1)))
    (s_seq (s_for (i_rng1 (a_cons (e_var 1) a_nil)) (.nm 3)
      x_choose_f0)
    (s_ret (e_var 2))))
def m_choose : MF := fnM 2 4 b_choose
abbrev n_alike_many : List Str := ["people", "seats", "order"]
def b_alike_many : SF :=
  (s_seq (s_if (t_b (e_op (eqP false) (e_var 0) (e_c (D.int 0))))
      (s_ret (e_c (D.int 1)))
      s_nil)
    (s_seq (s_set 2 (e_op fdivP (e_var 0) (e_own m_gcd (a_cons (e_var 0) (a_cons (e_op modP (e_var 1) (e_var 0)) a_nil)))))
    (s_seq (s_if (t_b (e_op (eqP false) (e_var 2) (e_c (D.int 1))))
      (s_ret (e_own m_catalan (a_cons (e_op fdivP (e_var 0) (e_c (D.int 2))) a_nil)))
      s_nil)
    (s_seq (s_if (t_b (e_op (eqP false) (e_var 2) (e_c (D.int 2))))
      (s_ret (e_own m_choose (a_cons (e_op fdivP (e_var 0) (e_c (D.int 2))) (a_cons (e_op fdivP (e_var 0) (e_c (D.int 4))) a_nil))))
      s_nil)
    (s_ret (e_if (t_b (e_op (eqP false) (e_op modP (e_op fdivP (e_var 0) (e_c (D.int 2))) (e_var 2)) (e_c (D.int 0)))) (e_own m_choose (a_cons (e_op fdivP (e_var 0) (e_var 2)) (a_cons (e_op fdivP (e_var 0) (e_op (mulP false) (e_c (D.int 2)) (e_var 2))) a_nil))) (e_c (D.int 0))))))))
def m_alike_many : MF := fnM 2 3 b_alike_many
abbrev n_law_cell_at : List Str := ["_law_script", "_law_k"]
def b_law_cell_at : SF :=
  (s_seq (s_if (t_b (e_op ltP (e_var 1) (e_call lenP (a_cons (e_var 0) a_nil))))
      (s_ret (e_op ixP (e_var 0) (e_var 1)))
      s_nil)
    (s_ret (e_c (D.int 0))))
def m_law_cell_at : MF := fnM 2 2 b_law_cell_at
abbrev n_law_box : List Str := ["_law_script", "_law_k", "_law_core"]
def b_law_box : SF :=
  (s_seq (s_set 2 (e_own m_law_cell_at (a_cons (e_var 0) (a_cons (e_var 1) a_nil))))
    (s_ret (e_lst true (a_cons (e_op (mulP false) (e_call absP (a_cons (e_var 2) a_nil)) (e_call intP (a_cons (e_op geP (e_call absP (a_cons (e_var 2) a_nil)) (e_op powP (e_c (D.int 10)) (e_c (D.int 18)))) a_nil))) (a_cons (e_op (addP false) (e_op (addP false) (e_op modP (e_var 2) (e_c (D.int 2305843009213693951))) (e_op (mulP false) (e_c (D.int 39373)) (e_var 1))) (e_c (D.int 29))) (a_cons (e_c (D.int 0)) a_nil))))))
def m_law_box : MF := runB 2 3 b_law_box
abbrev n_law_take : List Str := ["_law_box_here", "_law_below", "_law_found", "_law_once", "_law_twice"]
def b_law_take (self : MF) : SF :=
  (s_seq (s_if (t_b (e_op gtP (e_op ixP (e_var 0) (e_c (D.int 0))) (e_c (D.int 0))))
      (s_seq (s_set 2 (e_op modP (e_op ixP (e_var 0) (e_c (D.int 0))) (e_var 1)))
    (s_seq (s_asgT (g_sub setP (e_var 0) (e_c (D.int 0))) (e_op fdivP (e_op ixP (e_var 0) (e_c (D.int 0))) (e_var 1)))
    (s_ret (e_var 2))))
      s_nil)
    (s_seq (s_if (t_b (e_op gtP (e_var 1) (e_op powP (e_c (D.int 10)) (e_c (D.int 7)))))
      (s_ret (e_op modP (e_op (addP false) (e_own self (a_cons (e_var 0) (a_cons (e_op powP (e_c (D.int 10)) (e_c (D.int 7))) a_nil))) (e_op (mulP false) (e_op powP (e_c (D.int 10)) (e_c (D.int 7))) (e_own self (a_cons (e_var 0) (a_cons (e_op (addP false) (e_op fdivP (e_var 1) (e_op powP (e_c (D.int 10)) (e_c (D.int 7)))) (e_c (D.int 1))) a_nil))))) (e_var 1)))
      s_nil)
    (s_seq (s_asgT (g_sub setP (e_var 0) (e_c (D.int 2))) (e_op (addP false) (e_op ixP (e_var 0) (e_c (D.int 2))) (e_c (D.int 1))))
    (s_seq (s_set 3 (e_op modP (e_op (mulP false) (e_op (addP false) (e_op ixP (e_var 0) (e_c (D.int 1))) (e_op (mulP false) (e_c (D.int 48271)) (e_op ixP (e_var 0) (e_c (D.int 2))))) (e_op (addP false) (e_c (D.int 39373)) (e_op ixP (e_var 0) (e_c (D.int 2))))) (e_c (D.int 2147483647))))
    (s_seq (s_set 4 (e_op modP (e_op (mulP false) (e_op (addP false) (e_op (addP false) (e_var 3) (e_op ixP (e_var 0) (e_c (D.int 2)))) (e_op fdivP (e_op ixP (e_var 0) (e_c (D.int 1))) (e_c (D.int 1000003)))) (e_op (addP false) (e_op modP (e_var 3) (e_c (D.int 40009))) (e_c (D.int 7)))) (e_c (D.int 2147483629))))
    (s_ret (e_op modP (e_op fdivP (e_op modP (e_op (addP false) (e_op (mulP false) (e_var 4) (e_c (D.int 48271))) (e_var 3)) (e_c (D.int 2147483587))) (e_c (D.int 64))) (e_var 1))))))))
def r_law_take : Nat → MF
  | 0 => fun _ _ => .fail
  | n + 1 => fnM 2 5 (b_law_take (r_law_take n))
def m_law_take : MF := r_law_take 4
abbrev n_law_of : List Str := ["_law_box_here", "_law_pool"]
def b_law_of : SF :=
  (s_ret (e_op ixP (e_var 1) (e_own m_law_take (a_cons (e_var 0) (a_cons (e_call lenP (a_cons (e_var 1) a_nil)) a_nil)))))
def m_law_of : MF := fnM 2 2 b_law_of
abbrev n_law_same : List Str := ["_law_found", "_law_due", "_law_a", "_law_b"]
def b_law_same (self : MF) : SF :=
  (s_seq (s_if (t_tru (e_isi ["list", "tuple"] (e_var 1)))
      (s_seq (s_if (t_or (t_b (e_op (eqP true) (e_isi ["list"] (e_var 0)) (e_isi ["list"] (e_var 1)))) (t_b (e_op (eqP true) (e_isi ["tuple"] (e_var 0)) (e_isi ["tuple"] (e_var 1)))))
      (s_ret (e_c (D.bl false)))
      s_nil)
    (s_ret (e_and (e_op (eqP false) (e_call lenP (a_cons (e_var 0) a_nil)) (e_call lenP (a_cons (e_var 1) a_nil))) (e_call allP (a_cons (e_lc [2, 3] (i_zip (a_cons (e_var 0) (a_cons (e_var 1) a_nil))) (.tp [(.nm 2), (.nm 3)]) t_yes (e_own self (a_cons (e_var 2) (a_cons (e_var 3) a_nil)))) a_nil)))))
      s_nil)
    (s_seq (s_if (t_or (t_b (e_op isNP (e_var 1) (e_c D.non))) (t_tru (e_isi ["bool", "str"] (e_var 1))))
      (s_ret (e_and (e_op (eqP false) (e_var 0) (e_var 1)) (e_and (e_op (eqP false) (e_isi ["bool"] (e_var 0)) (e_isi ["bool"] (e_var 1))) (e_op (eqP false) (e_op isNP (e_var 0) (e_c D.non)) (e_op isNP (e_var 1) (e_c D.non))))))
      s_nil)
    (s_ret (e_and (e_isi ["int"] (e_var 0)) (e_and (e_not (e_isi ["bool"] (e_var 0))) (e_op (eqP false) (e_var 0) (e_var 1)))))))
def r_law_same : Nat → MF
  | 0 => fun _ _ => .fail
  | n + 1 => fnM 2 4 (b_law_same (r_law_same n))
def m_law_same : MF := r_law_same 4
abbrev n_law_every : List Str := ["_law_size", "_law_found", "_law_mate", "_law_inner", "_law_head", "_law_its", "_law_tail"]
def x_law_every_f0 (self : MF) : SF :=
  (s_seq (s_set 4 (e_op (addP false) (e_op (addP false) (e_tup (a_cons (e_var 2) a_nil)) (e_call tupleP (a_cons (e_lc [5] (i_seq (e_var 3)) (.nm 5) t_yes (e_op (addP false) (e_var 5) (e_c (D.int 1)))) a_nil))) (e_tup (a_cons (e_c (D.int 0)) a_nil))))
    (s_expr (e_lm extendP (e_var 1) (a_cons (e_lc [6] (i_seq (e_own self (a_cons (e_op subP (e_op subP (e_var 0) (e_var 2)) (e_c (D.int 1))) a_nil))) (.nm 6) t_yes (e_op (addP false) (e_var 4) (e_call tupleP (a_cons (e_lc [5] (i_seq (e_var 6)) (.nm 5) t_yes (e_op (addP false) (e_op (addP false) (e_var 5) (e_var 2)) (e_c (D.int 1)))) a_nil)))) a_nil))))
def x_law_every_f1 (self : MF) : SF :=
  (s_for (i_seq (e_own self (a_cons (e_op subP (e_var 2) (e_c (D.int 1))) a_nil))) (.nm 3)
      (x_law_every_f0 self))
def b_law_every (self : MF) : SF :=
  (s_seq (s_if (t_b (e_op (eqP false) (e_var 0) (e_c (D.int 0))))
      (s_ret (e_lst false (a_cons (e_tup a_nil) a_nil)))
      s_nil)
    (s_seq (s_set 1 (e_lst true a_nil))
    (s_seq (s_for (i_rng3 (a_cons (e_c (D.int 1)) (a_cons (e_var 0) (a_cons (e_c (D.int 2)) a_nil)))) (.nm 2)
      (x_law_every_f1 self))
    (s_ret (e_call (sortedP false) (a_cons (e_var 1) a_nil))))))
def r_law_every : Nat → MF
  | 0 => fun _ _ => .fail
  | n + 1 => fnM 1 7 (b_law_every (r_law_every n))
def m_law_every : MF := r_law_every 6
abbrev n_law_moved : List Str := ["_law_hall", "_law_far", "_law_size", "_law_found", "_law_k"]
def x_law_moved_f0 : SF :=
  (s_asgT (g_sub setP (e_var 3) (e_op modP (e_op (addP false) (e_var 4) (e_var 1)) (e_var 2))) (e_op modP (e_op (addP false) (e_op ixP (e_var 0) (e_var 4)) (e_var 1)) (e_var 2)))
def b_law_moved : SF :=
  (s_seq (s_set 2 (e_call lenP (a_cons (e_var 0) a_nil)))
    (s_seq (s_set 3 (e_op (mulP true) (e_lst false (a_cons (e_c (D.int 0)) a_nil)) (e_var 2)))
    (s_seq (s_for (i_rng1 (a_cons (e_var 2) a_nil)) (.nm 4)
      x_law_moved_f0)
    (s_ret (e_call tupleP (a_cons (e_var 3) a_nil))))))
def m_law_moved : MF := fnM 2 5 b_law_moved
abbrev n_law_few_right : List Str := ["_law_box_here", "_law_size", "_law_every_here", "_law_far", "_law_alike", "_law_more", "_law_told", "_law_hall"]
def x_law_few_right_f0 : SF :=
  (s_seq (s_set 4 (e_lc [7] (i_seq (e_var 2)) (.nm 7) (t_or (t_b (e_op (eqP false) (e_var 1) (e_c (D.int 0)))) (t_b (e_op (eqP false) (e_own m_law_moved (a_cons (e_var 7) (a_cons (e_var 3) a_nil))) (e_var 7)))) (e_var 7)))
    (s_seq (s_set 5 (e_op (addP false) (e_var 3) (e_op (mulP false) (e_call max2P (a_cons (e_c (D.int 1)) (a_cons (e_var 1) a_nil))) (e_op subP (e_own m_law_take (a_cons (e_var 0) (a_cons (e_op powP (e_c (D.int 10)) (e_c (D.int 6))) a_nil))) (e_op (mulP false) (e_c (D.int 5)) (e_op powP (e_c (D.int 10)) (e_c (D.int 5))))))))
    (s_seq (s_set 6 (e_lst false (a_cons (e_own m_alike_many (a_cons (e_var 1) (a_cons (e_var 3) a_nil))) (a_cons (e_ownK m_alike_many 0 2 [1, 0] a_nil (a_cons (e_var 5) (a_cons (e_var 1) a_nil))) (a_cons (e_own m_alike_many (a_cons (e_var 1) (a_cons (e_un negP (e_var 3)) a_nil))) a_nil)))))
    (s_seq (s_if (t_not (t_tru (e_own m_law_same (a_cons (e_var 6) (a_cons (e_op (mulP false) (e_lst false (a_cons (e_call lenP (a_cons (e_var 4) a_nil)) a_nil)) (e_c (D.int 3))) a_nil)))))
      (s_ret (e_c (D.bl false)))
      s_nil)
    (s_seq (s_set 7 (e_own m_law_of (a_cons (e_var 0) (a_cons (e_var 2) a_nil))))
    (s_if (t_and (t_b (e_op gtP (e_var 3) (e_c (D.int 0)))) (t_b (e_op (eqP true) (e_op (inP false) (e_var 7) (e_var 4)) (e_op (eqP false) (e_op modP (e_var 3) (e_own m_period (a_cons (e_var 7) a_nil))) (e_c (D.int 0))))))
      (s_ret (e_c (D.bl false)))
      s_nil))))))
def b_law_few_right : SF :=
  (s_seq (s_set 2 (e_own m_law_every (a_cons (e_var 1) a_nil)))
    (s_seq (s_for (i_rng1 (a_cons (e_call max2P (a_cons (e_c (D.int 1)) (a_cons (e_var 1) a_nil))) a_nil)) (.nm 3)
      x_law_few_right_f0)
    (s_ret (e_c (D.bl true)))))
def m_law_few_right : MF := fnM 2 8 b_law_few_right
abbrev n_law_known_right : List Str := ["_law_told", "_law_flat", "_law_across", "_law_seats_so", "_law_k"]
def b_law_known_right : SF :=
  (s_seq (s_set 0 (e_lc [3] (i_seq (e_tup (a_cons (e_c (D.int 0)) (a_cons (e_c (D.int 12)) (a_cons (e_c (D.int 8)) (a_cons (e_c (D.int 6)) (a_cons (e_c (D.int 4)) (a_cons (e_c (D.int 2)) (a_cons (e_c (D.int 16)) (a_cons (e_c (D.int 18)) (a_cons (e_c (D.int 22)) (a_cons (e_c (D.int 1)) (a_cons (e_c (D.int 3)) (a_cons (e_c (D.int 23)) (a_cons (e_c (D.int 10)) a_nil))))))))))))))) (.nm 3) t_yes (e_own m_alike_many (a_cons (e_c (D.int 24)) (a_cons (e_var 3) a_nil)))))
    (s_seq (s_if (t_not (t_tru (e_own m_law_same (a_cons (e_var 0) (a_cons (e_lst false (a_cons (e_c (D.int 208012)) (a_cons (e_c (D.int 924)) (a_cons (e_c (D.int 70)) (a_cons (e_c (D.int 20)) (a_cons (e_c (D.int 6)) (a_cons (e_c (D.int 2)) (a_cons (e_c (D.int 70)) (a_cons (e_c (D.int 20)) (a_cons (e_c (D.int 2)) (a_cons (e_c (D.int 0)) (a_cons (e_c (D.int 0)) (a_cons (e_c (D.int 0)) (a_cons (e_c (D.int 2)) a_nil)))))))))))))) a_nil)))))
      (s_ret (e_c (D.bl false)))
      s_nil)
    (s_seq (s_set 0 (e_lst false (a_cons (e_own m_alike_many (a_cons (e_c (D.int 22)) (a_cons (e_c (D.int 11)) a_nil))) (a_cons (e_own m_alike_many (a_cons (e_c (D.int 22)) (a_cons (e_c (D.int 2)) a_nil))) (a_cons (e_own m_alike_many (a_cons (e_c (D.int 6)) (a_cons (e_c (D.int 3)) a_nil))) (a_cons (e_own m_alike_many (a_cons (e_c (D.int 2)) (a_cons (e_c (D.int 1)) a_nil))) (a_cons (e_own m_alike_many (a_cons (e_c (D.int 2)) (a_cons (e_c (D.int 7)) a_nil))) a_nil)))))))
    (s_seq (s_set 0 (e_op (addP false) (e_var 0) (e_lst false (a_cons (e_own m_alike_many (a_cons (e_c (D.int 4)) (a_cons (e_c (D.int 1)) a_nil))) a_nil))))
    (s_seq (s_if (t_not (t_tru (e_own m_law_same (a_cons (e_var 0) (a_cons (e_lst false (a_cons (e_c (D.int 462)) (a_cons (e_c (D.int 2)) (a_cons (e_c (D.int 3)) (a_cons (e_c (D.int 1)) (a_cons (e_c (D.int 1)) (a_cons (e_c (D.int 0)) a_nil))))))) a_nil)))))
      (s_ret (e_c (D.bl false)))
      s_nil)
    (s_seq (s_par 1 2 (a_cons (e_call tupleP (a_cons (e_lc [4] (i_rng1 (a_cons (e_c (D.int 24)) a_nil)) (.nm 4) t_yes (e_op subP (e_op (addP false) (e_var 4) (e_c (D.int 1))) (e_op (mulP false) (e_c (D.int 2)) (e_op modP (e_var 4) (e_c (D.int 2)))))) a_nil)) (a_cons (e_tup (a_cons (e_c (D.int 3)) (a_cons (e_c (D.int 2)) (a_cons (e_c (D.int 1)) (a_cons (e_c (D.int 0)) (a_cons (e_c (D.int 5)) (a_cons (e_c (D.int 4)) a_nil))))))) a_nil)))
    (s_ret (e_and (e_op (eqP false) (e_own m_turned (a_cons (e_var 1) (a_cons (e_c (D.int 2)) a_nil))) (e_var 1)) (e_op (eqP false) (e_lst false (a_cons (e_own m_period (a_cons (e_var 1) a_nil)) (a_cons (e_own m_period (a_cons (e_var 2) a_nil)) (a_cons (e_op (eqP false) (e_own m_turned (a_cons (e_var 2) (a_cons (e_c (D.int 3)) a_nil))) (e_var 2)) a_nil)))) (e_lst false (a_cons (e_c (D.int 2)) (a_cons (e_c (D.int 3)) (a_cons (e_c (D.bl true)) a_nil)))))))))))))
def m_law_known_right : MF := fnM 0 5 b_law_known_right
abbrev n_law_right : List Str := ["_law_box_here"]
def b_law_right : SF :=
  (s_ret (e_and (e_own m_law_few_right (a_cons (e_var 0) (a_cons (e_op (mulP false) (e_c (D.int 2)) (e_own m_law_take (a_cons (e_var 0) (a_cons (e_c (D.int 6)) a_nil)))) a_nil))) (e_own m_law_known_right a_nil)))
def m_law_right : MF := fnM 1 1 b_law_right
abbrev n_law : List Str := ["_law_script", "_law_k"]
def b_law : SF :=
  (s_ret (e_call allP (a_cons (e_lc [1] (i_rng1 (a_cons (e_op (addP false) (e_c (D.int 1)) (e_call min2P (a_cons (e_c (D.int 3)) (a_cons (e_call lenP (a_cons (e_var 0) a_nil)) a_nil)))) a_nil)) (.nm 1) t_yes (e_own m_law_right (a_cons (e_own m_law_box (a_cons (e_var 0) (a_cons (e_var 1) a_nil))) a_nil))) a_nil)))
def m_law : MF := fnM 1 2 b_law
end Mini
namespace Mini
open PySem L2
/-! ### data and draws: lemmas without mirrors -/
theorem take_set {h : Hd} {b : Nat} {o : O} : (h.set b o).take h.length = h.set b o := List.take_of_length_le (by simp)
theorem log2_small {n : Nat} (h : n ≤ 2 ^ 40) : n.log2 < 9000 := by
  by_cases h0 : n = 0
  · subst h0; decide
  · have h1 : n.log2 ≤ 40 := by
      have := Nat.log2_self_le h0
      have h2 : 2 ^ n.log2 ≤ 2 ^ 40 := Nat.le_trans this h
      exact (Nat.pow_le_pow_iff_right (by decide)).mp h2
    omega
theorem i48 : in64 48271 = true := by decide
def I (xs : List Int) : List D := xs.map D.int
theorem I_cons (x : Int) (xs : List Int) : I (x :: xs) = D.int x :: I xs := rfl
theorem I_def (xs : List Int) : xs.map D.int = I xs := rfl
@[simp] theorem I_len (xs : List Int) : (I xs).length = xs.length := by simp [I]
theorem I_get (xs : List Int) (i : Nat) : (I xs)[i]? = (xs[i]?).map D.int := by simp [I]
theorem mem_I {xs : List Int} {d : D} : d ∈ I xs ↔ ∃ x ∈ xs, D.int x = d := by simp [I]
theorem noRefs_I (xs : List Int) : noRefs (I xs) = true := by
  rw [noRefs_iff]; intro d hd; obtain ⟨a, _, rfl⟩ := mem_I.mp hd; rfl
theorem pyDs_I : ∀ xs : List Int, pyDs (I xs) = some (xs.map PyData.int)
  | [] => rfl
  | x :: xs => by simp only [I_cons, List.map_cons, pyDs, pyD]; rw [pyDs_I xs]
theorem canLay_I : ∀ xs : List Int, PyData.canLayAll0 (xs.map PyData.int) = true
  | [] => by simp [PyData.canLayAll0]
  | x :: xs => by simp only [List.map_cons, PyData.canLayAll0, PyData.canLay0, canLay_I xs, Bool.and_self]
theorem depth_I : ∀ xs : List Int, PyData.depthAll (xs.map PyData.int) = 0
  | [] => by simp [PyData.depthAll]
  | x :: xs => by simp only [List.map_cons, PyData.depthAll, PyData.depth, depth_I xs]; rfl
theorem shaped_tup_I (xs : List Int) : SeqAt.shaped (.tuple (xs.map PyData.int)) = true := by
  simp [SeqAt.shaped, PyData.canLay0, PyData.depth, canLay_I, depth_I]
theorem shaped_lst_I (xs : List Int) : SeqAt.shaped (.list (xs.map PyData.int)) = true := by
  simp [SeqAt.shaped, PyData.canLay0, PyData.depth, canLay_I, depth_I]
theorem shaped_int (i : Int) : SeqAt.shaped (.int i) = true := by simp [SeqAt.shaped, PyData.canLay0, PyData.depth]
theorem shaped_bool (i : Bool) : SeqAt.shaped (.bool i) = true := by simp [SeqAt.shaped, PyData.canLay0, PyData.depth]
theorem eqvAll_I : ∀ xs ys : List Int, PyData.eqvAll (xs.map PyData.int) (ys.map PyData.int) = decide (xs = ys)
  | [], [] => by simp [PyData.eqvAll]
  | [], y :: ys => by simp [PyData.eqvAll]
  | x :: xs, [] => by simp [PyData.eqvAll]
  | x :: xs, y :: ys => by
    simp only [List.map_cons, PyData.eqvAll, PyData.eqv, eqvAll_I xs ys, List.cons.injEq, Bool.decide_and]
    by_cases h : x = y <;> simp [h]
theorem eqP_tup (neg : Bool) (xs ys : List Int) (h : Hd) : eqP neg (.tup (I xs)) (.tup (I ys)) h = some (.bl (if neg then !decide (xs = ys) else decide (xs = ys)), h) := by
  simp only [eqP, pyR, pyD, pyDs_I, shaped_tup_I, Bool.and_self, if_true, PyData.eqv, eqvAll_I]
theorem eqP_lv (neg : Bool) (xs ys : List Int) (h : Hd) : eqP neg (.lv (I xs)) (.lv (I ys)) h = some (.bl (if neg then !decide (xs = ys) else decide (xs = ys)), h) := by
  simp only [eqP, pyR, pyD, pyDs_I, shaped_lst_I, Bool.and_self, if_true, PyData.eqv, eqvAll_I]
theorem eqP_int (neg : Bool) (i j : Int) (h : Hd) : eqP neg (.int i) (.int j) h = some (.bl (if neg then !decide (i = j) else decide (i = j)), h) := by
  simp only [eqP, pyR, pyD, shaped_int, Bool.and_self, if_true, PyData.eqv]
  have : (i == j) = decide (i = j) := by by_cases e : i = j <;> simp [e]
  rw [this]
theorem eqP_bl (neg : Bool) (i j : Bool) (h : Hd) : eqP neg (.bl i) (.bl j) h = some (.bl (if neg then !(i == j) else (i == j)), h) := by
  simp only [eqP, pyR, pyD, shaped_bool, Bool.and_self, if_true, PyData.eqv]
theorem sealD_tup_I (n : Nat) (xs : List Int) (h : Hd) : sealD n (.tup (I xs)) h = some (.tup (I xs)) := by simp [sealD, noRef, noRefs_I]
theorem sz63 {n : Nat} (h : n ≤ 1000) : n ≤ sizeLine := Nat.le_trans h (by decide)
theorem intsOf_I : ∀ xs : List Int, intsOf (I xs) = some xs
  | [] => rfl
  | x :: xs => by simp only [I_cons, intsOf]; rw [intsOf_I xs]; rfl
theorem blsOf_B : ∀ xs : List Bool, blsOf (xs.map D.bl) = some xs
  | [] => rfl
  | x :: xs => by simp only [List.map_cons, blsOf]; rw [blsOf_B xs]; rfl
theorem atI_I {xs : List Int} {i : Nat} {x : Int} (e : xs[i]? = some x) : atI (I xs) (i : Int) = some (.int x) := atI_nat (by rw [I_get, e]; rfl)
theorem ixN_nat {n : Nat} {i : Nat} (h : i < n) : ixN n (i : Int) = some i := by
  unfold ixN
  rw [if_pos (by omega), if_pos (by omega)]
  simp
theorem enumL_I : ∀ (xs : List Int) (k : Nat), enumL k (I xs) = (xs.zipIdx k).map fun p => D.tup [.int ((p.2 : Nat) : Int), .int p.1]
  | [], k => rfl
  | x :: xs, k => by simp only [I_cons, List.map_cons, enumL, List.zipIdx_cons]; rw [enumL_I xs (k + 1)]
theorem rangeL_eq : ∀ (n : Nat) (a : Int), rangeL a n = I ((List.range n).map fun i => a + ((i : Nat) : Int))
  | 0, a => rfl
  | n + 1, a => by
    rw [rangeL, rangeL_eq n (a + 1), List.range_succ_eq_map]
    simp only [I, List.map_cons, List.map_map]
    congr 1
    · simp
    · apply List.map_congr_left
      intro i _
      simp only [Function.comp]
      congr 1
      omega
def good : Nat → D → Prop
  | 0, .non => True
  | 0, .bl _ => True
  | 0, .int _ => True
  | 0, .str x => PyData.strOk x = true
  | 0, _ => False
  | _ + 1, .non => True
  | _ + 1, .bl _ => True
  | _ + 1, .int _ => True
  | _ + 1, .str x => PyData.strOk x = true
  | n + 1, .tup xs => xs.length ≤ 100000 ∧ ∀ x ∈ xs, good n x
  | n + 1, .lv xs => xs.length ≤ 100000 ∧ ∀ x ∈ xs, good n x
  | _ + 1, _ => False
theorem sz5 {n : Nat} (h : n ≤ 100000) : n ≤ sizeLine := Nat.le_trans h (by decide)
theorem zipL_self : ∀ xs : List D, zipL xs xs = xs.map fun x => D.tup [x, x]
  | [] => rfl
  | x :: xs => by simp [zipL, zipL_self xs]
theorem good_I (n : Nat) {xs : List Int} (h : xs.length ≤ 100000) : good (n + 1) (.tup (I xs)) := ⟨by simpa using h, fun x hx => by
  obtain ⟨a, _, rfl⟩ := mem_I.mp hx; cases n <;> exact trivial⟩
def NI (A : List Nat) : List D := A.map fun x => D.int ((x : Nat) : Int)
def PS (st : List (Nat × Nat)) : List D := st.map fun I => D.tup [.int ((I.1 : Nat) : Int), .int ((I.2 : Nat) : Int)]
@[simp] theorem NI_len (A : List Nat) : (NI A).length = A.length := by simp [NI]
@[simp] theorem PS_len (A : List (Nat × Nat)) : (PS A).length = A.length := by simp [PS]
theorem NI_I (A : List Nat) : NI A = I (A.map fun x => ((x : Nat) : Int)) := by simp [NI, I]
theorem pyDs_PS : ∀ st : List (Nat × Nat), pyDs (PS st) = some (st.map fun I => PyData.tuple [.int ((I.1 : Nat) : Int), .int ((I.2 : Nat) : Int)])
  | [] => rfl
  | x :: xs => by rw [show PS (x :: xs) = D.tup [.int ((x.1 : Nat) : Int), .int ((x.2 : Nat) : Int)] :: PS xs from rfl]; simp only [List.map_cons, pyDs, pyD]; rw [pyDs_PS xs]
theorem canLay_PS : ∀ st : List (Nat × Nat), PyData.canLayAll0 (st.map fun I => PyData.tuple [.int ((I.1 : Nat) : Int), .int ((I.2 : Nat) : Int)]) = true
  | [] => by simp [PyData.canLayAll0]
  | x :: xs => by simp [PyData.canLayAll0, PyData.canLay0, canLay_PS xs]
theorem depth_PS : ∀ st : List (Nat × Nat), PyData.depthAll (st.map fun I => PyData.tuple [.int ((I.1 : Nat) : Int), .int ((I.2 : Nat) : Int)]) ≤ 1
  | [] => by simp [PyData.depthAll]
  | x :: xs => by have := depth_PS xs; simp [PyData.depthAll, PyData.depth]; omega
theorem eqP_nil_PS {H : Hd} {q : Nat} {st : List (Nat × Nat)} (e : H[q]? = some (.lst (PS st))) : eqP true (.ref q) (.lv []) H = some (.bl (!st.isEmpty), H) := by
  have hs : SeqAt.shaped (.list (st.map fun I => PyData.tuple [.int ((I.1 : Nat) : Int), .int ((I.2 : Nat) : Int)])) = true := by
    have := depth_PS st
    simp [SeqAt.shaped, PyData.canLay0, PyData.depth, canLay_PS]
    omega
  have hs2 : SeqAt.shaped (.list []) = true := by simp [SeqAt.shaped, PyData.canLay0, PyData.depth, PyData.canLayAll0, PyData.depthAll]
  simp only [eqP, pyR, e, pyDs_PS, Option.map_some, pyD, pyDs, hs, hs2, Bool.and_self, if_true, PyData.eqv]
  cases st with
  | nil => simp [PyData.eqvAll]
  | cons x xs => simp [PyData.eqvAll]
theorem i2 : in64 2 = true := by decide
theorem l2log : Nat.log2 2 < 9000 := by decide
theorem patD_two (i j : Nat) (a b : D) (s : Ev) : patD (.tp [.nm i, .nm j]) (.tup [a, b]) s = some ((s.set i (some a)).set j (some b)) := by simp [patD, patDs, patN]
theorem mul2_int (j : Int) (h : Hd) : mulP false (.int 2) (.int j) h = some (.int (2 * j), h) := by simp [mulP, i2]
theorem div2_int (j : Int) (h : Hd) : fdivP (.int j) (.int 2) h = some (.int (j / 2), h) := by simp [fdivP, l2log]
theorem I_set (xs : List Int) (i : Nat) (v : Int) : (I xs).set i (D.int v) = I (xs.set i v) := by simp [I, List.map_set]
theorem setP_I {H : Hd} {q : Nat} {xs : List Int} {i : Nat} {v : Int} (e : H[q]? = some (.lst (I xs))) (hi : i < xs.length) : setP (.ref q) (.int (i : Nat)) (.int v) H = some (H.set q (.lst (I (xs.set i v)))) := by
  simp only [setP, e]
  rw [ixN_nat (by simpa using hi)]
  simp [noRef, I_set]
theorem set_last {α : Type} (h : List α) (x y : α) : (h ++ [x]).set h.length y = h ++ [y] := by
  rw [List.set_append_right _ _ (Nat.le_refl _)]; simp
theorem last_get {α : Type} (h : List α) (x : α) : (h ++ [x])[h.length]? = some x := by simp
theorem getD_some {xs : List Int} {i : Nat} (h : i < xs.length) : xs[i]? = some (xs.getD i 0) := by simp [List.getD_eq_getElem?_getD, h]
/-- an arrangement as the program gets it -/
def seqOf (l : Bool) (xs : List Int) : D := if l then .lv (I xs) else .tup (I xs)
theorem asS_seqOf (l : Bool) (xs : List Int) (h : Hd) : asS (seqOf l xs) h = some (I xs) := by cases l <;> rfl
theorem asV_seqOf (l : Bool) (xs : List Int) : ∃ k, asV (seqOf l xs) = some (k, I xs) := by cases l <;> exact ⟨_, rfl⟩
theorem lenP_seqOf (l : Bool) (xs : List Int) (h : Hd) : lenP [seqOf l xs] h = some (.int xs.length, h) := by cases l <;> simp [seqOf, lenP, asS, asL]
theorem listP_seqOf (m : Bool) (l : Bool) (xs : List Int) (h : Hd) : listP m [seqOf l xs] h = mkL m (I xs) h := by cases l <;> simp [seqOf, listP, asS, asL]
theorem tupleP_seqOf (l : Bool) (xs : List Int) (h : Hd) : tupleP [seqOf l xs] h = some (.tup (I xs), h) := by cases l <;> simp [seqOf, tupleP, asL]
theorem ixP_seqOf {l : Bool} {xs : List Int} {i : Nat} (h : Hd) (hi : i < xs.length) : ixP (seqOf l xs) (.int (i : Nat)) h = some (.int (xs.getD i 0), h) := by
  have := atI_I (getD_some hi)
  cases l <;> simp [seqOf, ixP, asS, asL, this]
theorem zeros_I (n : Nat) : (List.replicate n [D.int 0]).flatten = I (List.replicate n 0) := by
  induction n with
  | zero => rfl
  | succ n ih => simp only [List.replicate_succ, List.flatten_cons, ih, I_cons]; rfl
theorem in63_nat {n : Nat} (h : n ≤ 100000) : in63 (n : Int) = true := by unfold in63; rw [decide_eq_true (by omega), decide_eq_true (by omega)]; rfl
theorem in62_nat {n : Nat} (h : n ≤ 100000) : in62 (n : Int) = true := by unfold in62; rw [decide_eq_true (by omega), decide_eq_true (by omega)]; rfl
theorem zeros_mul {n : Nat} (hn : n ≤ 100000) (h : Hd) : mulP true (.lv [.int 0]) (.int (n : Nat)) h = some (.ref h.length, h ++ [.lst (I (List.replicate n 0))]) := by
  simp only [mulP, lstOf, in63_nat hn]
  have : ([D.int 0] : List D).length * (n : Int).toNat ≤ sizeLine := by simp only [List.length_cons, List.length_nil, Int.toNat_natCast]; exact sz5 (by omega)
  rw [decide_eq_true this]
  simp only [Bool.and_self, if_true, Int.toNat_natCast, zeros_I, mkL]
theorem rangeL_at {n i : Nat} (d : D) (e : (rangeL 0 n)[i]? = some d) : i < n ∧ d = .int i := by
  rw [rangeL_eq, I_get] at e
  rcases Nat.lt_or_ge i n with q | q
  · simp [q] at e; exact ⟨q, e.symm⟩
  · simp [q] at e
theorem rangeL_len (n : Nat) (a : Int) : (rangeL a n).length = n := by rw [rangeL_eq]; simp
theorem zeros_e {n i : Nat} (hn : n ≤ 100000) {s : Ev} {h : Hd} (hs : s[i]? = some (some (.int (n : Nat)))) : e_op (mulP true) (e_lst false (a_cons (e_c (D.int 0)) a_nil)) (e_var i) s h = .ok (.ref h.length) (h ++ [.lst (I (List.replicate n 0))]) := by
  have one : (1 : Nat) ≤ sizeLine := by decide
  simp -implicitDefEqProofs [e_op, e_lst, a_cons, a_nil, e_c, e_var, hs, mkL, one, zeros_mul hn]
theorem lc_int {own : List Nat} {i : AF} {v : Nat} {tt : TF} {te : EF} {s : Ev} {h h1 : Hd} {xs : List Int} (g : Int → Bool) (f : Int → Int) (hi : i s h = .ok (I xs) h1) (hl : xs.length ≤ 100000)
    (hp : ∀ x ∈ xs, tt ((wipeD s own).set v (some (.int x))) h1 = .ok (g x) h1 ∧ te ((wipeD s own).set v (some (.int x))) h1 = .ok (.int (f x)) h1) : e_lc own i (.nm v) tt te s h = .ok (.lv (I ((xs.filter g).map f))) h1 := by
  have k := lc_pure (p := .nm v) (tt := tt) (te := te) (s0 := wipeD s own) (h := h1) (fun d => match d with | .int x => g x | _ => false) (fun d => match d with | .int x => .int (f x) | d => d) (I xs) [] (by
    intro d hd
    obtain ⟨x, hx, rfl⟩ := mem_I.mp hd
    obtain ⟨a, b⟩ := hp x hx
    exact ⟨_, by simp only [patD], a, fun _ => b⟩) (by simp; exact sz5 hl)
  have e : ((I xs).filter (fun d => match d with | .int x => g x | _ => false)).map (fun d => match d with | .int x => .int (f x) | d => d) = I ((xs.filter g).map f) := by
    clear hi k hp hl
    induction xs with
    | nil => rfl
    | cons x xs ih =>
      rw [I_cons, List.filter_cons, List.filter_cons]
      cases q : g x with
      | true => simp only [q, if_true, List.map_cons, ih, I_cons]
      | false => simp only [q, Bool.false_eq_true, if_false]; exact ih
  rw [List.nil_append, e] at k
  unfold e_lc
  rw [hi, bind_ok, k]
theorem two_sz : (2 : Nat) ≤ sizeLine := by decide
theorem eight_sz : (8 : Nat) ≤ sizeLine := by decide
theorem good_two {n : Nat} {d : D} (g : good n d) : good (n + 1) (.lv [d, d]) := ⟨by simp, fun x hx => by
  simp at hx; subst hx; exact g⟩
theorem catP_lv {xs ys : List D} {h : Hd} (hl : xs.length + ys.length ≤ sizeLine) : addP false (.lv xs) (.lv ys) h = some (.lv (xs ++ ys), h) := by
  simp only [addP, lstOf, if_pos hl, mkL, Bool.false_eq_true, if_false]
theorem ixP_lv0 {xs : List D} {d : D} {h : Hd} (e : xs[0]? = some d) : ixP (.lv xs) (.int 0) h = some (d, h) := by
  have k : atI xs (0 : Int) = some d := atI_nat (j := 0) e
  simp only [ixP, asS, asL, k]
theorem Drawn.to {b : Nat} {h h1 h2 : Hd} {n k m j J : Nat} (x : Drawn b h h1 n k) (y : Drawn b h1 h2 m j) (hm : m + j ≤ n + J) : Drawn b h h2 n J :=
  ⟨y.len.trans x.len, fun q hq => (y.oth q hq).trans (x.oth q hq), y.box.mono hm⟩
theorem lcM_gen {α : Type} {v : Nat} {tt : TF} {te : EF} {s0 : Ev} {h : Hd} (mk : α → D) (g : α → Bool) (f : α → D) : ∀ (L : List α) (acc : List D), acc.length + L.length ≤ sizeLine →
    (∀ x ∈ L, tt (s0.set v (some (mk x))) h = .ok (g x) h ∧ (g x = true → te (s0.set v (some (mk x))) h = .ok (f x) h)) → lcM (.nm v) tt te s0 (L.map mk) acc h = some (acc ++ (L.filter g).map f, h)
  | [], acc, _, _ => by simp [lcM]
  | x :: L, acc, hl, hp => by
    obtain ⟨e1, e2⟩ := hp x (by simp)
    have ih := fun acc hl => lcM_gen (v := v) (tt := tt) (te := te) (s0 := s0) (h := h) mk g f L acc hl (fun y hy => hp y (by simp [hy]))
    simp only [List.length_cons] at hl
    simp only [List.map_cons, lcM, patD, e1]
    cases q : g x with
    | false => simp only; rw [ih acc (by omega)]; simp [q]
    | true =>
      simp only [e2 q]
      rw [if_pos (by omega), ih _ (by simp; omega)]
      simp [q]
/-- a comprehension over one name whose parts leave the heap -/
theorem lc_gen {α : Type} {own : List Nat} {i : AF} {v : Nat} {tt : TF} {te : EF} {s : Ev} {h h1 : Hd} {L : List α} (mk : α → D) (g : α → Bool) (f : α → D) (hi : i s h = .ok (L.map mk) h1) (hl : L.length ≤ 100000)
    (hp : ∀ x ∈ L, tt ((wipeD s own).set v (some (mk x))) h1 = .ok (g x) h1 ∧ (g x = true → te ((wipeD s own).set v (some (mk x))) h1 = .ok (f x) h1)) : e_lc own i (.nm v) tt te s h = .ok (.lv ((L.filter g).map f)) h1 := by
  unfold e_lc
  rw [hi, bind_ok, lcM_gen mk g f L [] (by simp; exact sz5 hl) hp]
  simp
/-- .. without a test -/
theorem lc_map {α : Type} {own : List Nat} {i : AF} {v : Nat} {te : EF} {s : Ev} {h h1 : Hd} {L : List α} (mk : α → D) (f : α → D) (hi : i s h = .ok (L.map mk) h1) (hl : L.length ≤ 100000)
    (hp : ∀ x ∈ L, te ((wipeD s own).set v (some (mk x))) h1 = .ok (f x) h1) : e_lc own i (.nm v) t_yes te s h = .ok (.lv (L.map f)) h1 := by
  rw [lc_gen mk (fun _ => true) f hi hl (fun x hx => ⟨rfl, fun _ => hp x hx⟩), List.filter_eq_self.mpr (fun _ _ => rfl)]
/-- lists of tuples of ints -/
def T2 (xss : List (List Int)) : List D := xss.map fun xs => D.tup (I xs)
@[simp] theorem T2_len (xss : List (List Int)) : (T2 xss).length = xss.length := by simp [T2]
theorem T2_app (a b : List (List Int)) : T2 (a ++ b) = T2 a ++ T2 b := by simp [T2]
theorem noRefs_T2 (xss : List (List Int)) : noRefs (T2 xss) = true := by
  rw [noRefs_iff]; intro d hd
  simp only [T2, List.mem_map] at hd
  obtain ⟨xs, _, rfl⟩ := hd
  simp only [noRef, noRefs_I]
theorem seq_lv {f : EF} {s : Ev} {h h1 : Hd} {xs : List D} (e : f s h = .ok (.lv xs) h1) : i_seq f s h = .ok xs h1 := by simp only [i_seq, e, bind_ok]
theorem seq_tup {f : EF} {s : Ev} {h h1 : Hd} {xs : List D} (e : f s h = .ok (.tup xs) h1) : i_seq f s h = .ok xs h1 := by simp only [i_seq, e, bind_ok]
theorem catT {xs ys : List D} {h : Hd} (hl : xs.length + ys.length ≤ 100000) : addP false (.tup xs) (.tup ys) h = some (.tup (xs ++ ys), h) := by
  simp only [addP, if_pos (sz5 hl)]
theorem tupleP_lv {xs : List D} {h : Hd} : tupleP [.lv xs] h = some (.tup xs, h) := by simp only [tupleP, asL]
theorem I_app (a b : List Int) : I (a ++ b) = I a ++ I b := by simp [I]
theorem one_sz : (1 : Nat) ≤ sizeLine := by decide
theorem pyDs_T2 : ∀ L : List (List Int), pyDs (T2 L) = some (L.map fun xs => PyData.tuple (xs.map PyData.int))
  | [] => rfl
  | x :: xs => by rw [show T2 (x :: xs) = D.tup (I x) :: T2 xs from rfl]; simp only [List.map_cons, pyDs, pyD, pyDs_I, Option.map_some]; rw [pyDs_T2 xs]
theorem canLay_T2 : ∀ L : List (List Int), PyData.canLayAll0 (L.map fun xs => PyData.tuple (xs.map PyData.int)) = true
  | [] => by simp [PyData.canLayAll0]
  | x :: xs => by simp [PyData.canLayAll0, PyData.canLay0, canLay_I, canLay_T2 xs]
theorem depth_T2 : ∀ L : List (List Int), PyData.depthAll (L.map fun xs => PyData.tuple (xs.map PyData.int)) ≤ 1
  | [] => by simp [PyData.depthAll]
  | x :: xs => by have := depth_T2 xs; simp [PyData.depthAll, PyData.depth, depth_I]; omega
theorem shaped_T2 (L : List (List Int)) : SeqAt.shaped (.list (L.map fun xs => PyData.tuple (xs.map PyData.int))) = true := by
  have := depth_T2 L
  simp [SeqAt.shaped, PyData.canLay0, PyData.depth, canLay_T2]
  omega
theorem any_T2 (x : List Int) : ∀ L : List (List Int), ((L.map fun xs => PyData.tuple (xs.map PyData.int)).any fun z => PyData.eqv z (.tuple (x.map PyData.int))) = decide (x ∈ L)
  | [] => by simp
  | y :: L => by
    rw [List.map_cons, List.any_cons, any_T2 x L]
    simp only [PyData.eqv, eqvAll_I]
    by_cases e : y = x
    · subst e; simp
    · have : ¬ x = y := fun q => e q.symm
      simp [e, this]
theorem inP_T2 (neg : Bool) (x : List Int) (L : List (List Int)) (h : Hd) : inP neg (.tup (I x)) (.lv (T2 L)) h = some (.bl (if neg then !decide (x ∈ L) else decide (x ∈ L)), h) := by
  have ff : flatD (.tup (I x)) = false := rfl
  simp only [inP, asS, asL, ff, Bool.false_and, Bool.false_eq_true, if_false, pyR, pyD, pyDs_I, pyDs_T2, Option.map_some, shaped_tup_I, shaped_T2, Bool.and_self, if_true, any_T2]
end Mini
namespace Mini
open PySem L2
theorem law_take_ok (n : Nat) {k : Int} (hk : 0 < k) (hk7 : k ≤ 10000000) {h : Hd} {b N : Nat} (hb : BoxAt h b N) (hN : N < 2 ^ 40) :
    ∃ r h', r_law_take (n + 1) [.ref b, .int k] h = .ok (.int r) h' ∧ 0 ≤ r ∧ r < k ∧ Drawn b h h' N 1 := by
  obtain ⟨x, y, z, e, hx, hy, hy2, hz, hzN⟩ := hb
  have hlt : b < h.length := (List.getElem?_eq_some_iff.mp e).1
  have es : ∀ o, (h.set b o)[b]? = some o := fun o => List.getElem?_set_self hlt
  by_cases hx0 : 0 < x
  · refine ⟨x % k, h.set b (.lst [.int (x / k), .int y, .int z]), ?_, Int.emod_nonneg _ (by omega), Int.emod_lt_of_pos _ hk, by simp, fun m hm => List.getElem?_set_ne (Ne.symm hm), ⟨x / k, y, z, es _, Int.ediv_nonneg hx (by omega), hy, hy2, hz, by omega⟩⟩
    have hlog : k.natAbs.log2 < 9000 := log2_small (by omega)
    simp [r_law_take, fnM, runB, b_law_take, s_seq, s_if, t_b, e_op, e_var, e_c, ixP, asS, asL, e, atI, ixN, gtP, cmpP, hx0, s_set, modP, hk, s_asgT, g_sub, fdivP, hlog, setP, noRef, s_ret, sealR, sealD, take_set]
  · have hx1 : x = 0 := by omega
    subst hx1
    have c1 : in64 (39373 + (z + 1)) = true := in64_of (by omega) (by omega)
    have c2 : ∀ o : Int, in64 (o % 40009 + 7) = true := fun o => in64_of (by omega) (by omega)
    have l1 : Nat.log2 1000003 < 9000 := log2_small (by decide)
    have l2 : Nat.log2 64 < 9000 := log2_small (by decide)
    have nk : ¬ (10000000 : Int) < k := by omega
    let once : Int := (y + 48271 * (z + 1)) * (39373 + (z + 1)) % 2147483647
    let twice : Int := (once + (z + 1) + y / 1000003) * (once % 40009 + 7) % 2147483629
    refine ⟨(twice * 48271 + once) % 2147483587 / 64 % k, h.set b (.lst [.int 0, .int y, .int (z + 1)]), ?_, Int.emod_nonneg _ (by omega), Int.emod_lt_of_pos _ hk, by simp, fun m hm => List.getElem?_set_ne (Ne.symm hm), ⟨0, y, z + 1, es _, by omega, hy, hy2, by omega, by omega⟩⟩
    simp [r_law_take, fnM, runB, b_law_take, s_seq, s_if, t_b, e_op, e_var, e_c, ixP, asS, asL, e, es, atI, ixN, gtP, cmpP, s_set, modP, hk, s_asgT, g_sub, fdivP, l1, l2, setP, noRef, s_ret, sealR, sealD, take_set, powP, nk, s_nil, addP, mulP, i48, c1, c2, once, twice]
theorem m_take_ok {k : Int} (hk : 0 < k) (hk7 : k ≤ 10000000) {h : Hd} {b N : Nat} (hb : BoxAt h b N) (hN : N < 2 ^ 40) :
    ∃ r h', m_law_take [.ref b, .int k] h = .ok (.int r) h' ∧ 0 ≤ r ∧ r < k ∧ Drawn b h h' N 1 := law_take_ok 3 hk hk7 hb hN
end Mini
namespace Mini
open PySem L2
theorem law_cell_at_ok (ns : List Int) (k : Nat) (h : Hd) (hl : ns.length ≤ 1000) : m_law_cell_at [.fl (I ns), .int k] h = .ok (.int (ns.getD k 0)) h := by
  by_cases hk : k < ns.length
  · have e : ns[k]? = some (ns.getD k 0) := by simp [List.getD_eq_getElem?_getD, hk]
    have := atI_I e
    simp [m_law_cell_at, fnM, runB, b_law_cell_at, s_seq, s_if, t_b, e_op, e_var, e_c, e_call, a_cons, a_nil, lenP, asS, asL, ltP, cmpP, hk, s_ret, ixP, sealR, sealD, noRef]
    rw [this]
    simp [sealR, sealD, noRef, List.getD_eq_getElem?_getD, hk]
  · have : ns.getD k 0 = 0 := by simp [List.getD_eq_getElem?_getD, hk]
    rw [this]
    have hk' : ¬ (k : Int) < (ns.length : Int) := by omega
    simp [m_law_cell_at, fnM, runB, b_law_cell_at, s_seq, s_if, t_b, e_op, e_var, e_c, e_call, a_cons, a_nil, lenP, asS, asL, ltP, cmpP, hk', s_ret, s_nil, sealR, sealD, noRef]
theorem law_box_ok (ns : List Int) (k : Nat) (h : Hd) (hl : ns.length ≤ 1000) (hk : k ≤ 1000) : ∃ c, m_law_box [.fl (I ns), .int k] h = .ok (.ref h.length) (h ++ [.lst c]) ∧ BoxAt (h ++ [.lst c]) h.length 0 := by
  let core := ns.getD k 0
  let fl : Int := if (10 : Int) ^ 18 ≤ (if core < 0 then -core else core) then 1 else 0
  refine ⟨[.int ((if core < 0 then -core else core) * fl), .int (core % 2305843009213693951 + 39373 * k + 29), .int 0], ?_, ⟨_, _, _, by simp; exact ⟨rfl, rfl, rfl⟩, ?_, by omega, by omega, by omega, by omega⟩⟩
  · have hc := law_cell_at_ok ns k h hl
    have i393 : in64 39373 = true := by decide
    have hp : (10 : Int) ^ 18 = 1000000000000000000 := by decide
    have hfl2 : ∀ c : Int, in64 (if (1000000000000000000 : Int) ≤ c then 1 else 0) = true := fun c => by split <;> decide
    simp [m_law_box, runB, b_law_box, s_seq, s_set, e_own, a_cons, a_nil, e_var, hc, s_ret, e_lst, e_op, e_call, absP, intP, geP, cmpP, powP, e_c, modP, addP, mulP, i393, mkL, sizeLine, hfl2, fl, core]
  · show 0 ≤ (if core < 0 then -core else core) * fl
    apply Int.mul_nonneg
    · split <;> omega
    · simp only [fl]; split <;> split <;> omega
end Mini
namespace Mini
open PySem L2
theorem same_seq {self : MF} {d : D} {l : Bool} {xs : List D} {h : Hd} (ha : asV d = some (l, xs)) (hs : asS d h = some xs) (hn : d = .tup xs ∨ d = .lv xs) (hl : xs.length ≤ 100000) (ih : ∀ x ∈ xs, self [x, x] h = .ok (.bl true) h) :
    fnM 2 4 (b_law_same self) [d, d] h = .ok (.bl true) h := by
  have hlc : lcM (.tp [.nm 2, .nm 3]) t_yes (e_own self (a_cons (e_var 2) (a_cons (e_var 3) a_nil))) (wipeD [some d, some d, none, none] [2, 3]) (zipL xs xs) [] h = some ([] ++ ((zipL xs xs).filter fun _ => true).map fun _ => D.bl true, h) := by
    apply lc_pure (fun _ => true) (fun _ => D.bl true)
    · intro p hp
      rw [zipL_self] at hp
      obtain ⟨x, hx, rfl⟩ := List.mem_map.mp hp
      refine ⟨_, rfl, rfl, fun _ => ?_⟩
      simp [e_own, a_cons, a_nil, e_var, wipeD, ih x hx]
    · rw [zipL_length]; simp; exact sz5 hl
  have hall : blsOf (((zipL xs xs).filter fun _ => true).map fun _ => D.bl true) = some (((zipL xs xs).filter fun _ => true).map fun _ => true) := by
    rw [show (((zipL xs xs).filter fun _ => true).map fun _ => D.bl true) = ((((zipL xs xs).filter fun _ => true).map fun _ => true).map D.bl) from by simp]
    exact blsOf_B _
  have hall2 : (((zipL xs xs).filter fun _ => true).map fun _ => true).all id = true := by simp
  simp only [List.nil_append] at hlc
  have hlen : eqP false (.int (xs.length : Int)) (.int (xs.length : Int)) h = some (.bl true, h) := by rw [eqP_int]; simp
  have hty : (tyS d = "tuple" ∨ tyS d = "list") := by rcases hn with rfl | rfl <;> simp [tyS]
  have hok : tyOk d h = true := by rcases hn with rfl | rfl <;> rfl
  have hlenP : lenP [d] h = some (.int xs.length, h) := by rcases hn with rfl | rfl <;> simp [lenP, asS, asL]
  have e1 : eqP true (.bl (isTy "list" (tyS d))) (.bl (isTy "list" (tyS d))) h = some (.bl false, h) := by rw [eqP_bl]; simp
  have e2 : eqP true (.bl (isTy "tuple" (tyS d))) (.bl (isTy "tuple" (tyS d))) h = some (.bl false, h) := by rw [eqP_bl]; simp
  have e0 : (isTy "list" (tyS d) || isTy "tuple" (tyS d)) = true := by rcases hn with rfl | rfl <;> simp [tyS, isTy]
  simp [fnM, runB, b_law_same, s_seq, s_if, t_tru, truD, t_or, t_b, e_op, e_isi, e_var, hok, e0, e1, e2, s_nil, s_ret, e_and, e_call, a_cons, a_nil, hlenP, hlen, e_lc, i_zip, ha, hlc, allP, asL, hall, hall2, sealR, sealD, noRef]
theorem law_same_ok : ∀ (n : Nat) (d : D) (h : Hd), good n d → r_law_same (n + 1) [d, d] h = .ok (.bl true) h := by
  intro n
  have scal : ∀ (m : Nat) (d : D) (h : Hd), good 0 d → r_law_same (m + 1) [d, d] h = .ok (.bl true) h := by
    intro m d h g
    cases d with
    | non =>
      have e1 : eqP false D.non D.non h = some (.bl true, h) := by simp [eqP, pyR, pyD, SeqAt.shaped, PyData.canLay0, PyData.depth, PyData.eqv]
      simp [r_law_same, fnM, runB, b_law_same, s_seq, s_if, t_tru, truD, t_or, t_b, e_op, e_isi, e_var, tyOk, isTy, tyS, s_nil, s_ret, e_and, e_c, isNP, e1, eqP_bl, sealR, sealD, noRef]
    | bl b =>
      simp [r_law_same, fnM, runB, b_law_same, s_seq, s_if, t_tru, truD, t_or, t_b, e_op, e_isi, e_var, tyOk, isTy, tyS, s_nil, s_ret, e_and, e_c, isNP, eqP_bl, sealR, sealD, noRef]
    | int i =>
      simp [r_law_same, fnM, runB, b_law_same, s_seq, s_if, t_tru, truD, t_or, t_b, e_op, e_isi, e_var, tyOk, isTy, tyS, s_nil, s_ret, e_and, e_not, e_c, isNP, eqP_bl, eqP_int, sealR, sealD, noRef]
    | str x =>
      have hs : PyData.strOk x = true := g
      have e1 : eqP false (.str x) (.str x) h = some (.bl true, h) := by simp [eqP, pyR, pyD, SeqAt.shaped, PyData.canLay0, PyData.depth, PyData.eqv, hs]
      simp [r_law_same, fnM, runB, b_law_same, s_seq, s_if, t_tru, truD, t_or, t_b, e_op, e_isi, e_var, tyOk, isTy, tyS, s_nil, s_ret, e_and, e_c, isNP, e1, eqP_bl, sealR, sealD, noRef]
    | tup _ => exact g.elim
    | lv _ => exact g.elim
    | fl _ => exact g.elim
    | ref _ => exact g.elim
  induction n with
  | zero => exact fun d h g => scal 0 d h g
  | succ n ih =>
    intro d h g
    cases d with
    | tup xs => exact same_seq (l := false) rfl rfl (.inl rfl) g.1 fun x hx => ih x h (g.2 x hx)
    | lv xs => exact same_seq (l := true) rfl rfl (.inr rfl) g.1 fun x hx => ih x h (g.2 x hx)
    | non => exact scal _ _ _ trivial
    | bl _ => exact scal _ _ _ trivial
    | int _ => exact scal _ _ _ trivial
    | str _ => exact scal _ _ _ g
    | fl _ => exact g.elim
    | ref _ => exact g.elim
theorem m_same_ok {d : D} {h : Hd} (g : good 3 d) : m_law_same [d, d] h = .ok (.bl true) h := law_same_ok 3 d h g
end Mini
namespace Mini
/-! ### turned: plain mathematics -/
/-- the place from which place j is filled -/
def src (n : Nat) (s : Int) (j : Nat) : Nat := (((j : Int) - s) % (n : Int)).toNat
/-- the place that person i goes to -/
def dst (n : Nat) (s : Int) (i : Nat) : Nat := (((i : Int) + s) % (n : Int)).toNat
def rot (xs : List Int) (s : Int) : List Int := (List.range xs.length).map fun j => (xs.getD (src xs.length s j) 0 + s) % (xs.length : Int)
@[simp] theorem rot_length (xs : List Int) (s : Int) : (rot xs s).length = xs.length := by simp [rot]
theorem emod_lt' {a : Int} {n : Nat} (hn : 0 < n) : 0 ≤ a % (n : Int) ∧ a % (n : Int) < n := ⟨Int.emod_nonneg _ (by omega), Int.emod_lt_of_pos _ (by omega)⟩
theorem src_lt {n : Nat} (hn : 0 < n) (s : Int) (j : Nat) : src n s j < n := by
  unfold src; have := emod_lt' (a := (j : Int) - s) hn; omega
theorem dst_lt {n : Nat} (hn : 0 < n) (s : Int) (j : Nat) : dst n s j < n := by
  unfold dst; have := emod_lt' (a := (j : Int) + s) hn; omega
theorem src_cast {n : Nat} (hn : 0 < n) (s : Int) (j : Nat) : ((src n s j : Nat) : Int) = ((j : Int) - s) % (n : Int) := by
  unfold src; have := emod_lt' (a := (j : Int) - s) hn; omega
theorem dst_cast {n : Nat} (hn : 0 < n) (s : Int) (j : Nat) : ((dst n s j : Nat) : Int) = ((j : Int) + s) % (n : Int) := by
  unfold dst; have := emod_lt' (a := (j : Int) + s) hn; omega
theorem emod_add_cast (a b : Int) (n : Nat) : (a % (n : Int) + b) % (n : Int) = (a + b) % (n : Int) := by rw [Int.emod_add_emod]
theorem emod_sub_cast (a b : Int) (n : Nat) : (a % (n : Int) - b) % (n : Int) = (a - b) % (n : Int) := by rw [Int.sub_eq_add_neg, Int.emod_add_emod, ← Int.sub_eq_add_neg]
theorem emod_small {a : Int} {n : Nat} (h0 : 0 ≤ a) (h1 : a < n) : a % (n : Int) = a := Int.emod_eq_of_lt h0 h1
theorem dst_iff {n : Nat} (s : Int) {i j : Nat} (hi : i < n) (hj : j < n) : dst n s i = j ↔ src n s j = i := by
  have hn : 0 < n := by omega
  constructor
  · intro e
    have e1 := dst_cast hn s i
    rw [e] at e1
    have e2 := src_cast hn s j
    rw [e1, emod_sub_cast, Int.add_sub_cancel, emod_small (by omega) (by omega)] at e2
    omega
  · intro e
    have e1 := src_cast hn s j
    rw [e] at e1
    have e2 := dst_cast hn s i
    rw [e1, emod_add_cast, Int.sub_add_cancel, emod_small (by omega) (by omega)] at e2
    omega
theorem getD_setI (A : List Int) (i j : Nat) (v : Int) (hi : i < A.length) : (A.set i v).getD j 0 = if i = j then v else A.getD j 0 := by
  by_cases h : i = j
  · subst h; simp [List.getD_eq_getElem?_getD, hi]
  · simp [List.getD_eq_getElem?_getD, List.getElem?_set_ne h, h]
/-- the first m people have gone -/
def gone (xs : List Int) (s : Int) (acc : List Int) : Nat → List Int
  | 0 => acc
  | m + 1 => (gone xs s acc m).set (dst xs.length s m) ((xs.getD m 0 + s) % (xs.length : Int))
theorem gone_succ (xs : List Int) (s : Int) (acc : List Int) (m : Nat) : gone xs s acc (m + 1) = (gone xs s acc m).set (dst xs.length s m) ((xs.getD m 0 + s) % (xs.length : Int)) := rfl
theorem gone_length (xs : List Int) (s : Int) (acc : List Int) : ∀ m, (gone xs s acc m).length = acc.length
  | 0 => rfl
  | m + 1 => by simp [gone, gone_length xs s acc m]
theorem gone_get (xs : List Int) (s : Int) (acc : List Int) (ha : acc.length = xs.length) : ∀ (m : Nat), m ≤ xs.length → ∀ j, j < xs.length → (gone xs s acc m).getD j 0 = if src xs.length s j < m then (xs.getD (src xs.length s j) 0 + s) % (xs.length : Int) else acc.getD j 0
  | 0, _, j, hj => by simp [gone]
  | m + 1, hm, j, hj => by
    have hn : 0 < xs.length := by omega
    rw [gone, getD_setI _ _ _ _ (by rw [gone_length, ha]; exact dst_lt hn s m), gone_get xs s acc ha m (by omega) j hj]
    have k := dst_iff s (i := m) (j := j) (n := xs.length) (by omega) hj
    by_cases e : dst xs.length s m = j
    · have e2 := k.mp e
      rw [if_pos e, e2, if_pos (by omega)]
    · have e2 : src xs.length s j ≠ m := fun z => e (k.mpr z)
      rw [if_neg e]
      by_cases f : src xs.length s j < m
      · rw [if_pos f, if_pos (by omega)]
      · rw [if_neg f, if_neg (by omega)]
theorem list_ext_getD {A B : List Int} (h : A.length = B.length) (e : ∀ j, j < A.length → A.getD j 0 = B.getD j 0) : A = B := by
  apply List.ext_getElem h
  intro i h1 h2
  have := e i h1
  simpa [List.getD_eq_getElem?_getD, h1, h2] using this
theorem rot_get (xs : List Int) (s : Int) {j : Nat} (hj : j < xs.length) : (rot xs s).getD j 0 = (xs.getD (src xs.length s j) 0 + s) % (xs.length : Int) := by
  simp [rot, List.getD_eq_getElem?_getD, hj]
theorem gone_all (xs : List Int) (s : Int) (acc : List Int) (ha : acc.length = xs.length) : gone xs s acc xs.length = rot xs s := by
  apply list_ext_getD
  · rw [gone_length, rot_length, ha]
  · intro j hj
    rw [gone_length, ha] at hj
    rw [gone_get xs s acc ha _ (Nat.le_refl _) j hj, if_pos (src_lt (by omega) s j), rot_get xs s hj]
theorem rot_rot (xs : List Int) (a b : Int) : rot (rot xs a) b = rot xs (a + b) := by
  apply list_ext_getD (by simp)
  intro j hj
  have hj' : j < xs.length := by simpa using hj
  have hn : 0 < xs.length := by omega
  rw [rot_get _ _ (by simpa using hj'), rot_get _ _ hj']
  simp only [rot_length]
  have hs := src_lt hn b j
  rw [rot_get xs a hs, emod_add_cast]
  have : src xs.length a (src xs.length b j) = src xs.length (a + b) j := by
    have e1 := src_cast hn a (src xs.length b j)
    have e2 := src_cast hn (a + b) j
    rw [src_cast hn b j, emod_sub_cast] at e1
    have : (j : Int) - b - a = (j : Int) - (a + b) := by omega
    rw [this, ← e2] at e1
    omega
  rw [this, Int.add_assoc]
def InR (xs : List Int) : Prop := ∀ x ∈ xs, 0 ≤ x ∧ x < (xs.length : Int)
theorem InR.get {xs : List Int} (h : InR xs) {j : Nat} (hj : j < xs.length) : 0 ≤ xs.getD j 0 ∧ xs.getD j 0 < (xs.length : Int) := by
  have : xs.getD j 0 ∈ xs := by simp [List.getD_eq_getElem?_getD, hj]
  exact h _ this
theorem rot_inR (xs : List Int) (s : Int) : InR (rot xs s) := by
  intro x hx
  have hn : 0 < xs.length := by
    have := List.length_pos_of_mem hx
    simpa using this
  simp only [rot, List.mem_map] at hx
  obtain ⟨j, _, rfl⟩ := hx
  simpa using emod_lt' hn
theorem rot_zero {xs : List Int} (h : InR xs) : rot xs 0 = xs := by
  apply list_ext_getD (by simp)
  intro j hj
  have hj' : j < xs.length := by simpa using hj
  have hn : 0 < xs.length := by omega
  rw [rot_get _ _ hj', Int.add_zero]
  have : src xs.length 0 j = j := by
    have := src_cast hn 0 j
    rw [Int.sub_zero, emod_small (by omega) (by omega)] at this
    omega
  rw [this]
  exact emod_small (h.get hj').1 (h.get hj').2
theorem rot_back {xs : List Int} (h : InR xs) (s : Int) : rot (rot xs s) (-s) = xs := by
  rw [rot_rot, show s + -s = 0 by omega, rot_zero h]
theorem rot_full {xs : List Int} (h : InR xs) : rot xs xs.length = xs := by
  apply list_ext_getD (by simp)
  intro j hj
  have hj' : j < xs.length := by simpa using hj
  have hn : 0 < xs.length := by omega
  rw [rot_get _ _ hj']
  have : src xs.length xs.length j = j := by
    have := src_cast hn xs.length j
    rw [Int.sub_emod, Int.emod_self, Int.sub_zero, Int.emod_emod, emod_small (by omega) (by omega)] at this
    omega
  rw [this, Int.add_emod, Int.emod_self, Int.add_zero, Int.emod_emod]
  exact emod_small (h.get hj').1 (h.get hj').2
/-- by so many seats it is the same -/
abbrev Fix (xs : List Int) (s : Int) : Prop := rot xs s = xs
theorem Fix.add {xs : List Int} {a b : Int} (ha : Fix xs a) (hb : Fix xs b) : Fix xs (a + b) := by
  show rot xs (a + b) = xs
  rw [← rot_rot, ha, hb]
theorem Fix.neg {xs : List Int} {a : Int} (h : InR xs) (ha : Fix xs a) : Fix xs (-a) := by
  have := rot_back h a
  rw [ha] at this
  exact this
theorem Fix.mulN {xs : List Int} {a : Int} (h : InR xs) (ha : Fix xs a) : ∀ k : Nat, Fix xs ((k : Int) * a)
  | 0 => by simp [Fix, rot_zero h]
  | k + 1 => by
    have : ((k + 1 : Nat) : Int) * a = (k : Int) * a + a := by
      rw [show ((k + 1 : Nat) : Int) = (k : Int) + 1 by omega, Int.add_mul, Int.one_mul]
    rw [this]
    exact (Fix.mulN h ha k).add ha
/-- the least of the fixing seats divides every other -/
theorem Fix.mod {xs : List Int} (h : InR xs) {L f : Int} (hL : 0 < L) (hf : 0 ≤ f) (fL : Fix xs L) (ff : Fix xs f) : Fix xs (f % L) := by
  have q : 0 ≤ f / L := Int.ediv_nonneg hf (by omega)
  have e : f % L = f + -(((f / L).toNat : Int) * L) := by
    rw [Int.toNat_of_nonneg q]
    have := Int.mul_ediv_add_emod f L
    rw [Int.mul_comm] at this
    omega
  rw [e]
  exact ff.add ((Fix.mulN h fL _).neg h)
end Mini
namespace Mini
open PySem L2
theorem turned_ok (l : Bool) (xs : List Int) (s : Int) (h : Hd) : m_turned [seqOf l xs, .int s] h = .ok (.tup (I (rot xs s))) h := by
  obtain ⟨k, ek⟩ := asV_seqOf l xs
  have loop : ∃ v4 v5, forM (.tp [(.nm 4), (.nm 5)]) x_turned_f0 (enumL 0 (I xs)) [some (seqOf l xs), some (.int s), some (.ref h.length), some (.int xs.length), none, none] (h ++ [.lst (I xs)]) = .ok (.nx [some (seqOf l xs), some (.int s), some (.ref h.length), some (.int xs.length), v4, v5]) (h ++ [.lst (I (rot xs s))]) := by
    refine for_wp (Q := fun r => ∃ v4 v5, r = .ok (.nx [some (seqOf l xs), some (.int s), some (.ref h.length), some (.int xs.length), v4, v5]) (h ++ [.lst (I (rot xs s))]))
      (fun i s' H => ∃ v4 v5, s' = [some (seqOf l xs), some (.int s), some (.ref h.length), some (.int xs.length), v4, v5] ∧ H = h ++ [.lst (I (gone xs s xs i))]) _ _ _ ⟨none, none, rfl, rfl⟩ ?_ ?_
    · rintro i d s' H hd ⟨v4, v5, rfl, rfl⟩
      rw [enumL_I] at hd
      simp only [List.getElem?_map, List.getElem?_zipIdx] at hd
      have hi : i < xs.length := by
        rcases Nat.lt_or_ge i xs.length with q | q
        · exact q
        · rw [List.getElem?_eq_none q] at hd; simp at hd
      rw [getD_some hi] at hd
      simp only [Option.map_some, Option.some.injEq, Nat.zero_add] at hd
      subst hd
      have hn : 0 < xs.length := by omega
      refine ⟨[some (seqOf l xs), some (.int s), some (.ref h.length), some (.int xs.length), some (.int i), some (.int (xs.getD i 0))], patD_two _ _ _ _ _, .inl ⟨_, _, ?_, some (.int i), some (.int (xs.getD i 0)), rfl, rfl⟩⟩
      have hz : (0 : Int) < xs.length := by omega
      have hs := setP_I (q := h.length) (v := (xs.getD i 0 + s) % (xs.length : Int)) (last_get h (.lst (I (gone xs s xs i)))) (i := dst xs.length s i) (by rw [gone_length]; exact dst_lt hn s i)
      rw [dst_cast hn, set_last] at hs
      simp only [x_turned_f0, s_asgT, g_sub, e_op, e_var, List.getElem?_cons_zero, List.getElem?_cons_succ, bind_ok, bindE_ok, lift_some, addP_int, modP_int hz, hs, gone_succ]
    · rintro s' H ⟨v4, v5, rfl, rfl⟩
      have : (enumL 0 (I xs)).length = xs.length := by rw [enumL_I]; simp
      rw [this, gone_all xs s xs rfl]
      exact ⟨v4, v5, rfl⟩
  obtain ⟨v4, v5, ew⟩ := loop
  simp only [m_turned, fnM, runB, b_turned]
  simp [s_seq, s_par, a_cons, a_nil, e_call, e_var, listP_seqOf, mkL, lenP_seqOf, s_for, i_enum, ek]
  rw [ew]
  simp [s_ret, e_call, a_cons, a_nil, e_var, tupleP, asL, sealR, sealD_tup_I]
end Mini
namespace Mini
open PySem L2
theorem moved_ok (l : Bool) (xs : List Int) (s : Int) (h : Hd) (hl : xs.length ≤ 100000) : m_law_moved [seqOf l xs, .int s] h = .ok (.tup (I (rot xs s))) h := by
  have loop : ∃ v4, forM (.nm 4) x_law_moved_f0 (rangeL 0 xs.length) [some (seqOf l xs), some (.int s), some (.int xs.length), some (.ref h.length), none] (h ++ [.lst (I (List.replicate xs.length 0))]) = .ok (.nx [some (seqOf l xs), some (.int s), some (.int xs.length), some (.ref h.length), v4]) (h ++ [.lst (I (rot xs s))]) := by
    refine for_wp (Q := fun r => ∃ v4, r = .ok (.nx [some (seqOf l xs), some (.int s), some (.int xs.length), some (.ref h.length), v4]) (h ++ [.lst (I (rot xs s))]))
      (fun i s' H => ∃ v4, s' = [some (seqOf l xs), some (.int s), some (.int xs.length), some (.ref h.length), v4] ∧ H = h ++ [.lst (I (gone xs s (List.replicate xs.length 0) i))]) _ _ _ ⟨none, rfl, rfl⟩ ?_ ?_
    · rintro i d s' H hd ⟨v4, rfl, rfl⟩
      obtain ⟨hi, rfl⟩ := rangeL_at d hd
      have hn : 0 < xs.length := by omega
      refine ⟨[some (seqOf l xs), some (.int s), some (.int xs.length), some (.ref h.length), some (.int i)], by simp [patD], .inl ⟨_, _, ?_, some (.int i), rfl, rfl⟩⟩
      have hz : (0 : Int) < xs.length := by omega
      have hs := setP_I (q := h.length) (v := (xs.getD i 0 + s) % (xs.length : Int)) (last_get h (.lst (I (gone xs s (List.replicate xs.length 0) i)))) (i := dst xs.length s i) (by rw [gone_length, List.length_replicate]; exact dst_lt hn s i)
      rw [dst_cast hn, set_last] at hs
      simp only [x_law_moved_f0, s_asgT, g_sub, e_op, e_var, List.getElem?_cons_zero, List.getElem?_cons_succ, bind_ok, bindE_ok, lift_some, ixP_seqOf _ hi, addP_int, modP_int hz, hs, gone_succ]
    · rintro s' H ⟨v4, rfl, rfl⟩
      rw [rangeL_len, gone_all xs s _ (by simp)]
      exact ⟨v4, rfl⟩
  obtain ⟨v4, ew⟩ := loop
  have z := zeros_e hl (i := 2) (s := [some (seqOf l xs), some (.int s), some (.int xs.length), none, none]) (h := h) rfl
  have e1 : s_set 2 (e_call lenP (a_cons (e_var 0) a_nil)) [some (seqOf l xs), some (.int s), none, none, none] h = .ok (.nx [some (seqOf l xs), some (.int s), some (.int xs.length), none, none]) h := by
    simp [s_set, a_cons, a_nil, e_call, e_var, lenP_seqOf]
  have e2 : s_set 3 (e_op (mulP true) (e_lst false (a_cons (e_c (D.int 0)) a_nil)) (e_var 2)) [some (seqOf l xs), some (.int s), some (.int xs.length), none, none] h = .ok (.nx [some (seqOf l xs), some (.int s), some (.int xs.length), some (.ref h.length), none]) (h ++ [.lst (I (List.replicate xs.length 0))]) := by
    unfold s_set; rw [z]; rfl
  have e3 : s_for (i_rng1 (a_cons (e_var 2) a_nil)) (.nm 4) x_law_moved_f0 [some (seqOf l xs), some (.int s), some (.int xs.length), some (.ref h.length), none] (h ++ [.lst (I (List.replicate xs.length 0))]) = .ok (.nx [some (seqOf l xs), some (.int s), some (.int xs.length), some (.ref h.length), v4]) (h ++ [.lst (I (rot xs s))]) := by
    rw [← ew]
    simp [s_for, i_rng1, a_cons, a_nil, e_var, in62_nat hl]
  have r := fn_rt (np := 2) (n := 5) (b := b_law_moved) (ds := [seqOf l xs, .int s]) (h := h) (h' := h ++ [.lst (I (rot xs s))]) (d := .tup (I (rot xs s))) [some (seqOf l xs), some (.int s), none, none, none] (.tup (I (rot xs s))) (by
    show s_seq _ _ _ _ = _
    rw [seq_nx e1, seq_nx e2, seq_nx e3]
    simp [s_ret, e_call, a_cons, a_nil, e_var, tupleP, asL]) (sealD_tup_I _ _ _)
  rw [List.take_left' rfl] at r
  exact r
end Mini
namespace Mini
open PySem L2
theorem period_ok (l : Bool) (xs : List Int) (h : Hd) {P : Nat} (h1 : 1 ≤ P) (h9 : P < 1000) (hf : Fix xs P) (hm : ∀ j : Nat, 1 ≤ j → j < P → ¬ Fix xs j) : m_period [seqOf l xs] h = .ok (.int (P : Nat)) h := by
  have loop : whileM x_period_t0 x_period_w0 1000 [some (seqOf l xs), some (.int 1)] h = .ok (.nx [some (seqOf l xs), some (.int (P : Nat))]) h := by
    refine while_wp (Q := fun r => r = .ok (.nx [some (seqOf l xs), some (.int (P : Nat))]) h) (fun k s H => H = h ∧ ∃ j : Nat, 1 ≤ j ∧ j ≤ P ∧ k = P - j ∧ s = [some (seqOf l xs), some (.int (j : Nat))]) ?_ 1000 (P - 1) _ h (by omega) ⟨rfl, 1, by omega, by omega, rfl, rfl⟩
    rintro k s H ⟨rfl, j, j1, jP, rfl, rfl⟩
    have ht : x_period_t0 [some (seqOf l xs), some (.int (j : Nat))] H = .ok (!decide (rot xs j = xs)) H := by
      simp [x_period_t0, t_b, e_op, e_own, e_call, a_cons, a_nil, e_var, turned_ok, tupleP_seqOf, eqP_tup]
    by_cases q : j = P
    · left
      subst q
      exact ⟨H, by rw [ht, decide_eq_true hf]; rfl, rfl⟩
    · right
      have nf := hm j j1 (by omega)
      refine ⟨H, by rw [ht, decide_eq_false nf]; rfl, .inl ⟨[some (seqOf l xs), some (.int ((j + 1 : Nat) : Int))], H, P - (j + 1), ?_, by omega, rfl, j + 1, by omega, by omega, rfl, rfl⟩⟩
      simp [x_period_w0, s_aug, e_c]
  have r := fn_rt (np := 1) (n := 2) (b := b_period) (ds := [seqOf l xs]) (h := h) (h' := h) (d := .int (P : Nat)) [some (seqOf l xs), none] (.int (P : Nat)) (by
    show s_seq _ _ _ _ = _
    rw [seq_nx (s1 := [some (seqOf l xs), some (.int 1)]) (h1 := h) (by simp [s_set, e_c]), seq_nx loop]
    simp [s_ret, e_var]) rfl
  rw [List.take_of_length_le (Nat.le_refl _)] at r
  exact r
end Mini
namespace Mini
def alike (xs : List Int) : List Int := ((List.range xs.length).map fun i => 1 + ((i : Nat) : Int)).filter fun f => decide (rot xs f = xs)
def least (xs : List Int) : Int := (alike xs ++ [1]).headD 1
theorem rot_nil (s : Int) : rot [] s = [] := rfl
theorem mem_alike {xs : List Int} {f : Int} : f ∈ alike xs ↔ (1 ≤ f ∧ f ≤ xs.length) ∧ rot xs f = xs := by
  simp only [alike, List.mem_filter, List.mem_map, List.mem_range, decide_eq_true_eq]
  constructor
  · rintro ⟨⟨i, hi, rfl⟩, e⟩; exact ⟨by omega, e⟩
  · rintro ⟨⟨a, b⟩, e⟩; exact ⟨⟨(f - 1).toNat, by omega, by omega⟩, e⟩
theorem alike_len (xs : List Int) : (alike xs).length ≤ xs.length := by
  unfold alike
  refine Nat.le_trans (List.length_filter_le _ _) (by simp)
theorem sorted_head {p : Int → Bool} : ∀ (L : List Int), L.Pairwise (· < ·) → ∀ x r, L.filter p = x :: r → x ∈ L ∧ p x = true ∧ ∀ y ∈ L, p y = true → x ≤ y
  | [], _, x, r, e => by simp at e
  | a :: L, hp, x, r, e => by
    rw [List.pairwise_cons] at hp
    rw [List.filter_cons] at e
    cases q : p a with
    | true =>
      rw [q] at e
      simp only [if_true, List.cons.injEq] at e
      obtain ⟨rfl, _⟩ := e
      exact ⟨by simp, q, fun y hy _ => by
        rcases List.mem_cons.mp hy with rfl | hy
        · omega
        · exact Int.le_of_lt (hp.1 y hy)⟩
    | false =>
      rw [q] at e
      simp only [Bool.false_eq_true, if_false] at e
      obtain ⟨i1, i2, i3⟩ := sorted_head L hp.2 x r e
      exact ⟨by simp [i1], i2, fun y hy hpy => by
        rcases List.mem_cons.mp hy with rfl | hy
        · rw [q] at hpy; simp at hpy
        · exact i3 y hy hpy⟩
structure LP (xs : List Int) (P : Nat) : Prop where
  eq : least xs = (P : Nat)
  one : 1 ≤ P
  le : P ≤ max 1 xs.length
  fix : Fix xs P
  mn : ∀ j : Nat, 1 ≤ j → j < P → ¬ Fix xs j
theorem least_LP {xs : List Int} (h : InR xs) : ∃ P, LP xs P := by
  by_cases h0 : xs.length = 0
  · have : xs = [] := List.length_eq_zero_iff.mp h0
    subst this
    exact ⟨1, rfl, by omega, by simp, rfl, fun j a b => by omega⟩
  · have hs : ((List.range xs.length).map fun i => 1 + ((i : Nat) : Int)).Pairwise (· < ·) := by
      rw [List.pairwise_map]
      exact List.Pairwise.imp (fun q => by omega) List.pairwise_lt_range
    cases q : alike xs with
    | nil =>
      have : (xs.length : Int) ∈ alike xs := mem_alike.mpr ⟨by omega, rot_full h⟩
      rw [q] at this; simp at this
    | cons x r =>
      obtain ⟨a, b, c⟩ := sorted_head (p := fun f => decide (rot xs f = xs)) _ hs x r q
      have hx : x ∈ alike xs := by rw [q]; simp
      obtain ⟨⟨x1, x2⟩, x3⟩ := mem_alike.mp hx
      have ex : ((x.toNat : Nat) : Int) = x := by omega
      refine ⟨x.toNat, by rw [least, q, ex]; rfl, by omega, by omega, by rw [Fix, ex]; exact x3, fun j j1 jl hf => ?_⟩
      have := c (j : Int) (by
        simp only [List.mem_map, List.mem_range]
        exact ⟨j - 1, by omega, by omega⟩) (decide_eq_true hf)
      omega
theorem LP.div {xs : List Int} (h : InR xs) {P : Nat} (p : LP xs P) {f : Int} (hf : 0 ≤ f) (ff : Fix xs f) : f % (P : Int) = 0 := by
  have p1 := p.one
  have k := Fix.mod h (L := (P : Int)) (by omega) hf p.fix ff
  have n0 : 0 ≤ f % (P : Int) := Int.emod_nonneg _ (by omega)
  have n1 : f % (P : Int) < P := Int.emod_lt_of_pos _ (by omega)
  by_cases q : f % (P : Int) = 0
  · exact q
  · have e : (((f % (P : Int)).toNat : Nat) : Int) = f % (P : Int) := by omega
    have := p.mn (f % (P : Int)).toNat (by omega) (by omega)
    rw [e] at this
    exact absurd k this
end Mini
namespace Mini
open PySem L2
/-! ### of: one of a list -/
theorem of_ok {L : List D} (hL : 0 < L.length) (h7 : L.length ≤ 100000) (nr : noRefs L = true) {h : Hd} {b N : Nat} (hb : BoxAt h b N) (hN : N < 2 ^ 40) :
    ∃ (i : Nat) (hi : i < L.length) (h' : Hd), m_law_of [.ref b, .lv L] h = .ok L[i] h' ∧ Drawn b h h' N 1 := by
  obtain ⟨t, h', et, t0, t1, dr⟩ := m_take_ok (k := ((L.length : Nat) : Int)) (by omega) (by omega) hb hN
  obtain ⟨i, rfl⟩ : ∃ n : Nat, t = (n : Nat) := ⟨t.toNat, by omega⟩
  have hi : i < L.length := by omega
  refine ⟨i, hi, h', ?_, dr⟩
  have ix : ixP (.lv L) (.int (i : Nat)) h' = some (L[i], h') := by
    simp only [ixP, asS, asL, atI_nat (List.getElem?_eq_getElem hi)]
  have hr : noRef L[i] = true := (noRefs_iff L).mp nr _ (List.getElem_mem hi)
  have sd : sealD h.length L[i] h' = some L[i] := by
    cases q : L[i] with
    | ref k => rw [q] at hr; simp [noRef] at hr
    | _ => rw [q] at hr; simp only [sealD, hr, if_true]
  have r := fn_rt (np := 2) (n := 2) (b := b_law_of) (ds := [.ref b, .lv L]) (h := h) (h' := h') (d := L[i]) [some (.ref b), some (.lv L)] L[i] (ret_ok (op_ok var_ok (own_ok (a2_ok var_ok (call_ok (a1_ok var_ok) (by simp only [lenP, asS, asL]))) et) ix)) sd
  rw [← dr.len, take_self] at r
  exact r
end Mini
namespace Mini
open PySem L2
/-! ### law: all of law_right over the boxes -/
theorem law_of_right (right : ∀ (h : Hd) (b : Nat), BoxAt h b 0 → ∃ h', m_law_right [.ref b] h = .ok (.bl true) h') : ∀ ns : List Int, ns.length ≤ 63 → ∃ h, m_law [.fl (ns.map D.int)] [] = .ok (.bl true) h := by
  intro ns hl
  have lc : ∃ n H, e_lc [1] (i_rng1 (a_cons (e_op (addP false) (e_c (D.int 1)) (e_call min2P (a_cons (e_c (D.int 3)) (a_cons (e_call lenP (a_cons (e_var 0) a_nil)) a_nil)))) a_nil)) (.nm 1) t_yes (e_own m_law_right (a_cons (e_own m_law_box (a_cons (e_var 0) (a_cons (e_var 1) a_nil))) a_nil)) [some (.fl (I ns)), none] [] = .ok (.lv (List.replicate n (.bl true))) H := by
    obtain ⟨c, hc, ec⟩ : ∃ c : Nat, c ≤ 4 ∧ i_rng1 (a_cons (e_op (addP false) (e_c (D.int 1)) (e_call min2P (a_cons (e_c (D.int 3)) (a_cons (e_call lenP (a_cons (e_var 0) a_nil)) a_nil)))) a_nil) [some (.fl (I ns)), none] [] = .ok (rangeL 0 c) [] := by
      have ln : e_call lenP (a_cons (e_var 0) a_nil) [some (.fl (I ns)), none] [] = .ok (.int (ns.length : Nat)) [] := call_ok (a1_ok var_ok) (by simp [lenP, asS, asL])
      have mn : e_call min2P (a_cons (e_c (D.int 3)) (a_cons (e_call lenP (a_cons (e_var 0) a_nil)) a_nil)) [some (.fl (I ns)), none] [] = .ok (.int (if (ns.length : Int) < 3 then (ns.length : Int) else 3)) [] := call_ok (a2_ok c_ok ln) rfl
      have ad := op_ok c_ok mn (addP_int false 1 _ [])
      refine ⟨(1 + (if (ns.length : Int) < 3 then (ns.length : Int) else 3)).toNat, by split <;> omega, ?_⟩
      have i6 : in62 (1 + (if (ns.length : Int) < 3 then (ns.length : Int) else 3)) = true := by
        unfold in62; rw [decide_eq_true (by split <;> omega), decide_eq_true (by split <;> omega)]; rfl
      simp only [i_rng1, a1_ok ad, bind_ok, i6, if_true]
    have w := lc_wp (p := .nm 1) (tt := t_yes) (te := e_own m_law_right (a_cons (e_own m_law_box (a_cons (e_var 0) (a_cons (e_var 1) a_nil))) a_nil)) (s0 := wipeD [some (.fl (I ns)), none] [1]) (Q := fun r => ∃ n H, r = some (List.replicate n (.bl true), H))
      (fun i acc H => acc = List.replicate i (.bl true)) (rangeL 0 c) [] rfl (by
        rintro i d acc H hd rfl
        obtain ⟨hi, rfl⟩ := rangeL_at d hd
        obtain ⟨cc, e1, bx⟩ := law_box_ok ns i H (by omega) (by omega)
        obtain ⟨h', e2⟩ := right _ _ bx
        refine ⟨[some (.fl (I ns)), some (.int (i : Nat))], rfl, .inr ⟨H, .bl true, h', rfl, own_ok (a1_ok (own_ok (a2_ok var_ok var_ok) e1)) e2, ?_, ?_⟩⟩
        · simp; exact Nat.lt_of_lt_of_le (show i < 1000 by omega) (by decide)
        · rw [List.replicate_succ'])
      (fun acc H q => ⟨(rangeL 0 c).length, H, by rw [q]⟩)
    obtain ⟨n, H, e⟩ := w
    refine ⟨n, H, ?_⟩
    unfold e_lc
    rw [ec, bind_ok, e]
  obtain ⟨n, H, e⟩ := lc
  refine ⟨_, fn_rt (np := 1) (n := 2) (b := b_law) (ds := [.fl (I ns)]) (h := []) (h' := H) (d := .bl true) [some (.fl (I ns)), none] (.bl true) (ret_ok (call_ok (a1_ok e) ?_)) rfl⟩
  have eb : List.replicate n (D.bl true) = (List.replicate n true).map D.bl := by simp
  simp only [allP, asL, Option.bind_some, eb, blsOf_B]
  congr 2
  simp
end Mini
namespace Mini
open PySem L2
/-! ### k34: the numbers -/
def catL : Nat → Int
  | 0 => 1
  | n + 1 => catL n * 2 * (2 * (n : Int) + 1) / ((n : Int) + 2)
def chL (t : Int) : Nat → Int
  | 0 => 1
  | n + 1 => chL t n * (t - (n : Int)) / ((n : Int) + 1)
theorem mulP_r {i j : Int} {h : Hd} (hj : in64 j = true) : mulP false (.int i) (.int j) h = some (.int (i * j), h) := by simp only [mulP, hj, Bool.or_true, if_true]
theorem mulP_l {i j : Int} {h : Hd} (hi : in64 i = true) : mulP false (.int i) (.int j) h = some (.int (i * j), h) := by simp only [mulP, hi, Bool.true_or, if_true]
theorem fdivP_ok {i j : Int} {h : Hd} (hj : 0 < j) (hb : j ≤ 100000) : fdivP (.int i) (.int j) h = some (.int (i / j), h) := by
  have : j.natAbs.log2 < 9000 := log2_small (by omega)
  simp only [fdivP, hj, this, and_self, if_true]
theorem rng1_ok {i n : Nat} {s : Ev} {h : Hd} (e : s[i]? = some (some (.int (n : Nat)))) (hn : n ≤ 100000) : i_rng1 (a_cons (e_var i) a_nil) s h = .ok (rangeL 0 n) h := by
  simp only [i_rng1, a1_ok (var_ok e), bind_ok, in62_nat hn, if_true, Int.toNat_natCast]
theorem catalan_ok (n : Nat) (hn : n ≤ 1000) (h : Hd) : m_catalan [.int (n : Nat)] h = .ok (.int (catL n)) h := by
  have loop : ∃ v2, forM (.nm 2) x_catalan_f0 (rangeL 0 n) [some (.int (n : Nat)), some (.int 1), none] h = .ok (.nx [some (.int (n : Nat)), some (.int (catL n)), v2]) h := by
    refine for_wp (Q := fun r => ∃ v2, r = .ok (.nx [some (.int (n : Nat)), some (.int (catL n)), v2]) h) (fun i s H => H = h ∧ ∃ v2, s = [some (.int (n : Nat)), some (.int (catL i)), v2]) _ _ _ ⟨rfl, none, rfl⟩ ?_ ?_
    · rintro i d s H hd ⟨rfl, v2, rfl⟩
      obtain ⟨hi, rfl⟩ := rangeL_at d hd
      refine ⟨[some (.int (n : Nat)), some (.int (catL i)), some (.int (i : Nat))], by simp only [patD, List.set_cons_zero, List.set_cons_succ], .inl ⟨[some (.int (n : Nat)), some (.int (catL (i + 1))), some (.int (i : Nat))], H, ?_, rfl, _, rfl⟩⟩
      exact set_ok (op_ok (op_ok (op_ok var_ok c_ok (mulP_r (by decide))) (op_ok (op_ok c_ok var_ok (mulP_l (by decide))) c_ok (addP_int _ _ _ _)) (mulP_r (in64_of (by omega) (by omega)))) (op_ok var_ok c_ok (addP_int _ _ _ _)) (fdivP_ok (by omega) (by omega)))
    · rintro s H ⟨rfl, v2, rfl⟩
      rw [rangeL_len]
      exact ⟨v2, rfl⟩
  obtain ⟨v2, e⟩ := loop
  refine fn_rt' [some (.int (n : Nat)), none, none] ?_ rfl
  exact seq_then (set_ok c_ok) (seq_then ((for_ok (rng1_ok rfl (by omega))).trans e) (ret_ok var_ok))
theorem choose_ok (t : Int) (ht : 0 ≤ t) (ht2 : t ≤ 1000) (n : Nat) (hn : n ≤ 1000) (h : Hd) : m_choose [.int t, .int (n : Nat)] h = .ok (.int (chL t n)) h := by
  have loop : ∃ v3, forM (.nm 3) x_choose_f0 (rangeL 0 n) [some (.int t), some (.int (n : Nat)), some (.int 1), none] h = .ok (.nx [some (.int t), some (.int (n : Nat)), some (.int (chL t n)), v3]) h := by
    refine for_wp (Q := fun r => ∃ v3, r = .ok (.nx [some (.int t), some (.int (n : Nat)), some (.int (chL t n)), v3]) h) (fun i s H => H = h ∧ ∃ v3, s = [some (.int t), some (.int (n : Nat)), some (.int (chL t i)), v3]) _ _ _ ⟨rfl, none, rfl⟩ ?_ ?_
    · rintro i d s H hd ⟨rfl, v2, rfl⟩
      obtain ⟨hi, rfl⟩ := rangeL_at d hd
      refine ⟨[some (.int t), some (.int (n : Nat)), some (.int (chL t i)), some (.int (i : Nat))], by simp only [patD, List.set_cons_zero, List.set_cons_succ], .inl ⟨[some (.int t), some (.int (n : Nat)), some (.int (chL t (i + 1))), some (.int (i : Nat))], H, ?_, rfl, _, rfl⟩⟩
      exact set_ok (op_ok (op_ok var_ok (op_ok var_ok var_ok (subP_int _ _ _)) (mulP_r (in64_of (by omega) (by omega)))) (op_ok var_ok c_ok (addP_int _ _ _ _)) (fdivP_ok (by omega) (by omega)))
    · rintro s H ⟨rfl, v2, rfl⟩
      rw [rangeL_len]
      exact ⟨v2, rfl⟩
  obtain ⟨v2, e⟩ := loop
  refine fn_rt' [some (.int t), some (.int (n : Nat)), none, none] ?_ rfl
  exact seq_then (set_ok c_ok) (seq_then ((for_ok (rng1_ok rfl (by omega))).trans e) (ret_ok var_ok))
theorem gcd_ok (a b : Nat) (hb : b < 1000) (h : Hd) : m_gcd [.int (a : Nat), .int (b : Nat)] h = .ok (.int (Nat.gcd b a : Nat)) h := by
  have loop : ∃ v1, whileM x_gcd_t0 x_gcd_w0 1000 [some (.int (a : Nat)), some (.int (b : Nat))] h = .ok (.nx [some (.int (Nat.gcd b a : Nat)), v1]) h := by
    refine while_wp (Q := fun r => ∃ v1, r = .ok (.nx [some (.int (Nat.gcd b a : Nat)), v1]) h) (fun k s H => H = h ∧ ∃ x y : Nat, k = y ∧ Nat.gcd y x = Nat.gcd b a ∧ s = [some (.int (x : Nat)), some (.int (y : Nat))]) ?_ 1000 b _ h hb ⟨rfl, a, b, rfl, rfl, rfl⟩
    rintro k s H ⟨rfl, x, y, rfl, g, rfl⟩
    have ht : x_gcd_t0 [some (.int (x : Nat)), some (.int (k : Nat))] H = .ok (decide ((0 : Int) < (k : Nat))) H := b_ok (op_ok var_ok c_ok (gtP_int _ _ _))
    by_cases q : k = 0
    · left
      subst q
      refine ⟨H, by rw [ht]; rfl, some (.int ((0 : Nat) : Int)), ?_⟩
      rw [Nat.gcd_zero_left] at g
      rw [g]
    · right
      refine ⟨H, by rw [ht, decide_eq_true (by omega)], .inl ⟨[some (.int (k : Nat)), some (.int ((x % k : Nat) : Int))], H, x % k, ?_, Nat.mod_lt _ (by omega), rfl, k, x % k, rfl, ?_, rfl⟩⟩
      · have kp : (0 : Int) < (k : Int) := by omega
        exact par_ok (a2_ok var_ok (op_ok var_ok var_ok (modP_int kp _)))
      · rw [← g]; exact (Nat.gcd_rec k x).symm
  obtain ⟨v1, e⟩ := loop
  refine fn_rt' [some (.int (a : Nat)), some (.int (b : Nat))] ?_ rfl
  exact seq_then e (ret_ok var_ok)
/-- how many are the same after so many seats, as the program counts them -/
def ordN (p : Nat) (s : Int) : Nat := p / Nat.gcd (s % (p : Int)).toNat p
def almP (p : Nat) (s : Int) : Int :=
  if p = 0 then 1 else if ordN p s = 1 then catL (p / 2) else if ordN p s = 2 then chL ((p / 2 : Nat) : Int) (p / 4) else if p / 2 % ordN p s = 0 then chL ((p / ordN p s : Nat) : Int) (p / (2 * ordN p s)) else 0
theorem almP_mod (p : Nat) (s t : Int) : almP p (s + (p : Int) * t) = almP p s := by
  have : (s + (p : Int) * t) % (p : Int) = s % (p : Int) := Int.add_mul_emod_self_left s (p : Int) t
  unfold almP ordN
  rw [this]
theorem alike_many_ok (p : Nat) (s : Int) (hp : p ≤ 900) (h : Hd) : m_alike_many [.int (p : Nat), .int s] h = .ok (.int (almP p s)) h := by
  unfold almP
  by_cases p0 : p = 0
  · subst p0
    refine fn_rt' [some (.int ((0 : Nat) : Int)), some (.int s), none] ?_ rfl
    exact seq_rt ((if_t (b_ok (op_ok var_ok c_ok (by rw [eqP_int]; rfl)))).trans (ret_ok c_ok))
  · rw [if_neg p0]
    have ppos : (0 : Int) < (p : Int) := by omega
    have m0 : 0 ≤ s % (p : Int) := Int.emod_nonneg _ (by omega)
    have m1 : s % (p : Int) < p := Int.emod_lt_of_pos _ ppos
    have em : s % (p : Int) = ((s % (p : Int)).toNat : Nat) := by omega
    have gp : 0 < Nat.gcd (s % (p : Int)).toNat p := Nat.gcd_pos_of_pos_right _ (by omega)
    have gl : Nat.gcd (s % (p : Int)).toNat p ≤ p := Nat.le_of_dvd (by omega) (Nat.gcd_dvd_right _ _)
    have o1 : 0 < ordN p s := Nat.div_pos gl gp
    have o2 : ordN p s ≤ p := Nat.div_le_self _ _
    have st1 : s_if (t_b (e_op (eqP false) (e_var 0) (e_c (D.int 0)))) (s_ret (e_c (D.int 1))) s_nil [some (.int (p : Nat)), some (.int s), none] h = .ok (.nx [some (.int (p : Nat)), some (.int s), none]) h :=
      (if_f (b_ok (op_ok var_ok c_ok (by rw [eqP_int, decide_eq_false (by omega)]; rfl)))).trans nil_ok
    have st2 : s_set 2 (e_op fdivP (e_var 0) (e_own m_gcd (a_cons (e_var 0) (a_cons (e_op modP (e_var 1) (e_var 0)) a_nil)))) [some (.int (p : Nat)), some (.int s), none] h = .ok (.nx [some (.int (p : Nat)), some (.int s), some (.int (ordN p s : Nat))]) h := by
      have md : e_op modP (e_var 1) (e_var 0) [some (.int (p : Nat)), some (.int s), none] h = .ok (.int ((s % (p : Int)).toNat : Nat)) h := by
        rw [← em]; exact op_ok var_ok var_ok (modP_int ppos _)
      refine set_ok (op_ok var_ok (own_ok (a2_ok var_ok md) (gcd_ok p _ (by omega) h)) ?_)
      rw [fdivP_ok (by omega) (by omega)]
      rfl
    have pd : ∀ (f : EF) (k : Nat), 0 < k → k ≤ 10000 → f [some (.int (p : Nat)), some (.int s), some (.int (ordN p s : Nat))] h = .ok (.int (k : Nat)) h → e_op fdivP (e_var 0) f [some (.int (p : Nat)), some (.int s), some (.int (ordN p s : Nat))] h = .ok (.int ((p / k : Nat) : Int)) h := fun f k k0 k1 e =>
      op_ok var_ok e (by rw [fdivP_ok (by omega) (by omega)]; rfl)
    refine fn_rt' [some (.int (p : Nat)), some (.int s), none] (seq_then st1 (seq_then st2 ?_)) rfl
    have p2 : e_op fdivP (e_var 0) (e_c (D.int 2)) [some (.int (p : Nat)), some (.int s), some (.int (ordN p s : Nat))] h = .ok (.int ((p / 2 : Nat) : Int)) h := pd _ 2 (by omega) (by omega) c_ok
    have p4 : e_op fdivP (e_var 0) (e_c (D.int 4)) [some (.int (p : Nat)), some (.int s), some (.int (ordN p s : Nat))] h = .ok (.int ((p / 4 : Nat) : Int)) h := pd _ 4 (by omega) (by omega) c_ok
    have eqo : ∀ k : Int, e_op (eqP false) (e_var 2) (e_c (D.int k)) [some (.int (p : Nat)), some (.int s), some (.int (ordN p s : Nat))] h = .ok (.bl (decide ((ordN p s : Int) = k))) h := fun k => op_ok var_ok c_ok (by rw [eqP_int]; rfl)
    by_cases h1 : ordN p s = 1
    · rw [if_pos h1]
      exact seq_rt ((if_t (b_ok ((eqo 1).trans (by rw [decide_eq_true (by omega)])))).trans (ret_ok (own_ok (a1_ok p2) (catalan_ok _ (by omega) h))))
    · rw [if_neg h1]
      refine seq_then ((if_f (b_ok ((eqo 1).trans (by rw [decide_eq_false (by omega)])))).trans nil_ok) ?_
      by_cases h2 : ordN p s = 2
      · rw [if_pos h2]
        exact seq_rt ((if_t (b_ok ((eqo 2).trans (by rw [decide_eq_true (by omega)])))).trans (ret_ok (own_ok (a2_ok p2 p4) (choose_ok _ (by omega) (by omega) _ (by omega) h))))
      · rw [if_neg h2]
        refine seq_then ((if_f (b_ok ((eqo 2).trans (by rw [decide_eq_false (by omega)])))).trans nil_ok) ?_
        have opos : (0 : Int) < (ordN p s : Int) := by omega
        have md : e_op modP (e_op fdivP (e_var 0) (e_c (D.int 2))) (e_var 2) [some (.int (p : Nat)), some (.int s), some (.int (ordN p s : Nat))] h = .ok (.int ((p / 2 % ordN p s : Nat) : Int)) h :=
          op_ok p2 var_ok (modP_int opos _)
        have tq : t_b (e_op (eqP false) (e_op modP (e_op fdivP (e_var 0) (e_c (D.int 2))) (e_var 2)) (e_c (D.int 0))) [some (.int (p : Nat)), some (.int s), some (.int (ordN p s : Nat))] h = .ok (decide (((p / 2 % ordN p s : Nat) : Int) = 0)) h := b_ok (op_ok md c_ok (by rw [eqP_int]; rfl))
        have dl : p / ordN p s ≤ p := Nat.div_le_self _ _
        have dl2 : p / (2 * ordN p s) ≤ p := Nat.div_le_self _ _
        by_cases h3 : p / 2 % ordN p s = 0
        · rw [if_pos h3]
          rw [decide_eq_true (by omega)] at tq
          have po := pd (e_var 2) (ordN p s) o1 (by omega) var_ok
          have p2o := pd (e_op (mulP false) (e_c (D.int 2)) (e_var 2)) (2 * ordN p s) (by omega) (by omega) (op_ok c_ok var_ok (by rw [mul2_int]; rfl))
          exact ret_ok ((eif_t tq).trans (own_ok (a2_ok po p2o) (choose_ok _ (Int.natCast_nonneg _) (by omega) _ (by omega) h)))
        · rw [if_neg h3]
          rw [decide_eq_false (by omega)] at tq
          exact ret_ok ((eif_f tq).trans c_ok)
end Mini
namespace Mini
open PySem L2
/-! ### k34: all arrangements of few people -/
def evT : Nat → List (List Int)
  | 0 => [[]]
  | 1 => [[1, 0]]
  | 2 => [[1, 0, 3, 2], [3, 2, 1, 0]]
  | 3 => [[1, 0, 3, 2, 5, 4], [1, 0, 5, 4, 3, 2], [3, 2, 1, 0, 5, 4], [5, 2, 1, 4, 3, 0], [5, 4, 3, 2, 1, 0]]
  | 4 => [[1, 0, 3, 2, 5, 4, 7, 6], [1, 0, 3, 2, 7, 6, 5, 4], [1, 0, 5, 4, 3, 2, 7, 6], [1, 0, 7, 4, 3, 6, 5, 2], [1, 0, 7, 6, 5, 4, 3, 2], [3, 2, 1, 0, 5, 4, 7, 6], [3, 2, 1, 0, 7, 6, 5, 4], [5, 2, 1, 4, 3, 0, 7, 6], [5, 4, 3, 2, 1, 0, 7, 6], [7, 2, 1, 4, 3, 6, 5, 0], [7, 2, 1, 6, 5, 4, 3, 0], [7, 4, 3, 2, 1, 6, 5, 0], [7, 6, 3, 2, 5, 4, 1, 0], [7, 6, 5, 4, 3, 2, 1, 0]]
  | 5 => [[1, 0, 3, 2, 5, 4, 7, 6, 9, 8], [1, 0, 3, 2, 5, 4, 9, 8, 7, 6], [1, 0, 3, 2, 7, 6, 5, 4, 9, 8], [1, 0, 3, 2, 9, 6, 5, 8, 7, 4], [1, 0, 3, 2, 9, 8, 7, 6, 5, 4], [1, 0, 5, 4, 3, 2, 7, 6, 9, 8], [1, 0, 5, 4, 3, 2, 9, 8, 7, 6], [1, 0, 7, 4, 3, 6, 5, 2, 9, 8], [1, 0, 7, 6, 5, 4, 3, 2, 9, 8], [1, 0, 9, 4, 3, 6, 5, 8, 7, 2], [1, 0, 9, 4, 3, 8, 7, 6, 5, 2], [1, 0, 9, 6, 5, 4, 3, 8, 7, 2], [1, 0, 9, 8, 5, 4, 7, 6, 3, 2], [1, 0, 9, 8, 7, 6, 5, 4, 3, 2], [3, 2, 1, 0, 5, 4, 7, 6, 9, 8], [3, 2, 1, 0, 5, 4, 9, 8, 7, 6], [3, 2, 1, 0, 7, 6, 5, 4, 9, 8], [3, 2, 1, 0, 9, 6, 5, 8, 7, 4], [3, 2, 1, 0, 9, 8, 7, 6, 5, 4], [5, 2, 1, 4, 3, 0, 7, 6, 9, 8], [5, 2, 1, 4, 3, 0, 9, 8, 7, 6], [5, 4, 3, 2, 1, 0, 7, 6, 9, 8], [5, 4, 3, 2, 1, 0, 9, 8, 7, 6], [7, 2, 1, 4, 3, 6, 5, 0, 9, 8], [7, 2, 1, 6, 5, 4, 3, 0, 9, 8], [7, 4, 3, 2, 1, 6, 5, 0, 9, 8], [7, 6, 3, 2, 5, 4, 1, 0, 9, 8], [7, 6, 5, 4, 3, 2, 1, 0, 9, 8], [9, 2, 1, 4, 3, 6, 5, 8, 7, 0], [9, 2, 1, 4, 3, 8, 7, 6, 5, 0], [9, 2, 1, 6, 5, 4, 3, 8, 7, 0], [9, 2, 1, 8, 5, 4, 7, 6, 3, 0], [9, 2, 1, 8, 7, 6, 5, 4, 3, 0], [9, 4, 3, 2, 1, 6, 5, 8, 7, 0], [9, 4, 3, 2, 1, 8, 7, 6, 5, 0], [9, 6, 3, 2, 5, 4, 1, 8, 7, 0], [9, 6, 5, 4, 3, 2, 1, 8, 7, 0], [9, 8, 3, 2, 5, 4, 7, 6, 1, 0], [9, 8, 3, 2, 7, 6, 5, 4, 1, 0], [9, 8, 5, 4, 3, 2, 7, 6, 1, 0], [9, 8, 7, 4, 3, 6, 5, 2, 1, 0], [9, 8, 7, 6, 5, 4, 3, 2, 1, 0]]
  | _ => []
/-- one more arrangement: mate of 0, what is within, what is behind -/
def evHd (a : Nat) (inner : List Int) : List Int := ((2 * a + 1 : Nat) : Int) :: inner.map (fun x => x + 1) ++ [0]
def evOne (a : Nat) (inner tail : List Int) : List Int := evHd a inner ++ tail.map (fun x => x + ((2 * a + 1 : Nat) : Int) + 1)
def evIn (m a : Nat) (inner : List Int) : List (List Int) := (evT (m - 1 - a)).map (evOne a inner)
def evAt (m a : Nat) : List (List Int) := (evT a).flatMap (evIn m a)
def evRaw (m k : Nat) : List (List Int) := (List.range k).flatMap (evAt m)
def insL (d : List Int) : List (List Int) → List (List Int)
  | [] => [d]
  | e :: r => if TS.code 1000000 d ≤ TS.code 1000000 e then d :: e :: r else e :: insL d r
def sortL : List (List Int) → List (List Int)
  | [] => []
  | d :: r => insL d (sortL r)
theorem keyT_I (xs : List Int) : keyT (.tup (I xs)) = TS.code 1000000 xs := by simp [keyT, tupI, intsOf_I]
theorem insL_ok (d : List Int) : ∀ l, insK keyT (.tup (I d)) (T2 l) = T2 (insL d l)
  | [] => rfl
  | e :: r => by
    show insK keyT (.tup (I d)) (.tup (I e) :: T2 r) = _
    simp only [insK, insL, keyT_I]
    split
    · rfl
    · rw [insL_ok d r]; rfl
theorem sortL_ok : ∀ l, sortK keyT (T2 l) = T2 (sortL l)
  | [] => rfl
  | d :: r => by
    show insK keyT (.tup (I d)) (sortK keyT (T2 r)) = _
    rw [sortL_ok r, insL_ok]; rfl
def evCheck (m : Nat) : Bool := decide (sortL (evRaw m m) = evT m) && decide ((evRaw m m).length < 64) && (evRaw m m).all (fun x => x.length == 2 * m && bdB x) && decide (0 < (evRaw m m).length)
theorem ev_check : ∀ m, m ≤ 5 → 0 < m → evCheck m = true := by
  intro m h5 h0
  have : m = 1 ∨ m = 2 ∨ m = 3 ∨ m = 4 ∨ m = 5 := by omega
  rcases this with rfl | rfl | rfl | rfl | rfl <;> decide +kernel
theorem ev_small : ∀ m, (evT m).length ≤ 42 := by
  intro m
  match m with
  | 0 => decide
  | 1 => decide
  | 2 => decide
  | 3 => decide
  | 4 => decide
  | 5 => decide
  | n + 6 => exact Nat.zero_le _
end Mini
namespace Mini
open PySem L2
theorem lm_ok {g : PM} {o : EF} {a : AF} {s : Ev} {h h1 h2 h3 : Hd} {x d : D} {ds : List D} (e1 : o s h = .ok x h1) (ht : lstTy x h1 = true) (e2 : a s h1 = .ok ds h2) (e3 : g x ds h2 = some (d, h3)) : e_lm g o a s h = .ok d h3 := by
  simp only [e_lm, e1, bind_ok, ht, if_true, e2, e3, lift_some]
theorem expr_ok {f : EF} {s : Ev} {h h1 : Hd} {d : D} (e : f s h = .ok d h1) : s_expr f s h = .ok (.nx s) h1 := by simp only [s_expr, e, bindE_ok]
theorem ev_bd {m : Nat} (hm : m ≤ 5) : ∀ x ∈ evT m, x.length = 2 * m := by
  intro x hx
  have : m = 0 ∨ m = 1 ∨ m = 2 ∨ m = 3 ∨ m = 4 ∨ m = 5 := by omega
  have k : (evT m).all (fun x => x.length == 2 * m) = true := by rcases this with rfl | rfl | rfl | rfl | rfl | rfl <;> decide
  rw [List.all_eq_true] at k
  simpa using k x hx
section
variable {self : MF} {m : Nat} (hm : m ≤ 5) (hself : ∀ (a : Nat) (h : Hd), a < m → self [.int ((2 * a : Nat) : Int)] h = .ok (.lv (T2 (evT a))) h)
include hm hself
theorem every_f0 {a : Nat} (ha : a < m) {inner : List Int} (hin : inner.length ≤ 10) {h : Hd} {acc : List (List Int)} (hacc : acc.length ≤ 10000) {v4 : Option D} :
    ∃ v4', x_law_every_f0 self [some (.int ((2 * m : Nat) : Int)), some (.ref h.length), some (.int ((2 * a + 1 : Nat) : Int)), some (.tup (I inner)), v4, none, none] (h ++ [.lst (T2 acc)]) =
      .ok (.nx [some (.int ((2 * m : Nat) : Int)), some (.ref h.length), some (.int ((2 * a + 1 : Nat) : Int)), some (.tup (I inner)), v4', none, none]) (h ++ [.lst (T2 (acc ++ evIn m a inner))]) := by
  refine ⟨some (.tup (I (evHd a inner))), ?_⟩
  let H : Hd := h ++ [.lst (T2 acc)]
  let S (v4 : Option D) : Ev := [some (.int ((2 * m : Nat) : Int)), some (.ref h.length), some (.int ((2 * a + 1 : Nat) : Int)), some (.tup (I inner)), v4, none, none]
  have l1 : e_lc [5] (i_seq (e_var 3)) (.nm 5) t_yes (e_op (addP false) (e_var 5) (e_c (D.int 1))) (S v4) H = .ok (.lv (I (inner.map fun x => x + 1))) H := by
    rw [lc_map (L := inner) D.int (fun x => D.int (x + 1)) (seq_tup var_ok) (by omega) (fun x _ => op_ok var_ok c_ok (addP_int _ _ _ _))]
    simp [I]
  have hd : s_set 4 (e_op (addP false) (e_op (addP false) (e_tup (a_cons (e_var 2) a_nil)) (e_call tupleP (a_cons (e_lc [5] (i_seq (e_var 3)) (.nm 5) t_yes (e_op (addP false) (e_var 5) (e_c (D.int 1)))) a_nil))) (e_tup (a_cons (e_c (D.int 0)) a_nil))) (S v4) H = .ok (.nx (S (some (.tup (I (evHd a inner)))))) H := by
    refine set_ok (op_ok (op_ok (tup_ok (a1_ok var_ok) one_sz) (call_ok (a1_ok l1) tupleP_lv) (catT (by simp; omega))) (tup_ok (a1_ok c_ok) one_sz) ?_)
    rw [catT (by simp; omega)]
    simp [evHd, I]
  have tl : ∀ tail ∈ evT (m - 1 - a), e_op (addP false) (e_var 4) (e_call tupleP (a_cons (e_lc [5] (i_seq (e_var 6)) (.nm 5) t_yes (e_op (addP false) (e_op (addP false) (e_var 5) (e_var 2)) (e_c (D.int 1)))) a_nil)) ((wipeD (S (some (.tup (I (evHd a inner))))) [6]).set 6 (some (.tup (I tail)))) H = .ok (.tup (I (evOne a inner tail))) H := by
    intro tail ht
    have lt := ev_bd (m := m - 1 - a) (by omega) tail ht
    have k := lc_map (own := [5]) (v := 5) (i := i_seq (e_var 6)) (te := e_op (addP false) (e_op (addP false) (e_var 5) (e_var 2)) (e_c (D.int 1))) (s := (wipeD (S (some (.tup (I (evHd a inner))))) [6]).set 6 (some (.tup (I tail)))) (h := H) (h1 := H) (L := tail) D.int (fun x => D.int (x + ((2 * a + 1 : Nat) : Int) + 1)) (seq_tup var_ok) (by omega) (fun x _ => op_ok (op_ok var_ok var_ok (addP_int _ _ _ _)) c_ok (addP_int _ _ _ _))
    refine op_ok var_ok (call_ok (a1_ok k) tupleP_lv) ?_
    rw [catT (by simp [evHd]; omega)]
    simp [evOne, I]
  have sz : e_op subP (e_op subP (e_var 0) (e_var 2)) (e_c (D.int 1)) (S (some (.tup (I (evHd a inner))))) H = .ok (.int ((2 * (m - 1 - a) : Nat) : Int)) H := by
    have : ((2 * m : Nat) : Int) - ((2 * a + 1 : Nat) : Int) - 1 = ((2 * (m - 1 - a) : Nat) : Int) := by omega
    rw [← this]
    exact op_ok (op_ok var_ok var_ok (subP_int _ _ _)) c_ok (subP_int _ _ _)
  have l2 : e_lc [6] (i_seq (e_own self (a_cons (e_op subP (e_op subP (e_var 0) (e_var 2)) (e_c (D.int 1))) a_nil))) (.nm 6) t_yes (e_op (addP false) (e_var 4) (e_call tupleP (a_cons (e_lc [5] (i_seq (e_var 6)) (.nm 5) t_yes (e_op (addP false) (e_op (addP false) (e_var 5) (e_var 2)) (e_c (D.int 1)))) a_nil))) (S (some (.tup (I (evHd a inner))))) H = .ok (.lv (T2 (evIn m a inner))) H := by
    have sm := ev_small (m - 1 - a)
    rw [lc_map (L := evT (m - 1 - a)) (fun xs => D.tup (I xs)) (fun tail => D.tup (I (evOne a inner tail))) (seq_lv (own_ok (a1_ok sz) (hself _ H (by omega)))) (by omega) tl]
    simp [T2, evIn]
  refine seq_then hd (expr_ok (lm_ok (d := .non) var_ok ?_ (a1_ok l2) ?_))
  · simp [lstTy, asL, H]
  · have sm := ev_small (m - 1 - a)
    have hz : (T2 acc).length + (T2 (evIn m a inner)).length ≤ sizeLine := by simp [evIn]; exact sz5 (by omega)
    simp only [extendP, H, last_get, noRefs_T2, decide_eq_true hz, Bool.and_self, if_true, set_last, T2_app]
theorem every_f1 {a : Nat} (ha : a < m) {h : Hd} {acc : List (List Int)} (hacc : acc.length ≤ 1000) {v3 v4 : Option D} :
    ∃ v3' v4', x_law_every_f1 self [some (.int ((2 * m : Nat) : Int)), some (.ref h.length), some (.int ((2 * a + 1 : Nat) : Int)), v3, v4, none, none] (h ++ [.lst (T2 acc)]) =
      .ok (.nx [some (.int ((2 * m : Nat) : Int)), some (.ref h.length), some (.int ((2 * a + 1 : Nat) : Int)), v3', v4', none, none]) (h ++ [.lst (T2 (acc ++ evAt m a))]) := by
  have sz : e_op subP (e_var 2) (e_c (D.int 1)) [some (.int ((2 * m : Nat) : Int)), some (.ref h.length), some (.int ((2 * a + 1 : Nat) : Int)), v3, v4, none, none] (h ++ [.lst (T2 acc)]) = .ok (.int ((2 * a : Nat) : Int)) (h ++ [.lst (T2 acc)]) := by
    have : ((2 * a + 1 : Nat) : Int) - 1 = ((2 * a : Nat) : Int) := by omega
    rw [← this]
    exact op_ok var_ok c_ok (subP_int _ _ _)
  have it := seq_lv (own_ok (a1_ok sz) (hself a _ ha))
  have sa := ev_small a
  have loop : ∃ v3' v4', forM (.nm 3) (x_law_every_f0 self) (T2 (evT a)) [some (.int ((2 * m : Nat) : Int)), some (.ref h.length), some (.int ((2 * a + 1 : Nat) : Int)), v3, v4, none, none] (h ++ [.lst (T2 acc)]) =
      .ok (.nx [some (.int ((2 * m : Nat) : Int)), some (.ref h.length), some (.int ((2 * a + 1 : Nat) : Int)), v3', v4', none, none]) (h ++ [.lst (T2 (acc ++ evAt m a))]) := by
    refine for_wp (Q := fun r => ∃ v3' v4', r = .ok (.nx [some (.int ((2 * m : Nat) : Int)), some (.ref h.length), some (.int ((2 * a + 1 : Nat) : Int)), v3', v4', none, none]) (h ++ [.lst (T2 (acc ++ evAt m a))]))
      (fun j s H => ∃ v3 v4, s = [some (.int ((2 * m : Nat) : Int)), some (.ref h.length), some (.int ((2 * a + 1 : Nat) : Int)), v3, v4, none, none] ∧ H = h ++ [.lst (T2 (acc ++ ((evT a).take j).flatMap (evIn m a)))]) _ _ (h ++ [.lst (T2 acc)]) ⟨v3, v4, rfl, by simp⟩ ?_ ?_
    · rintro j d s H hd ⟨v3, v4, rfl, rfl⟩
      have hj : j < (evT a).length := by
        have := (List.getElem?_eq_some_iff.mp hd).1
        simpa using this
      have ed : d = .tup (I ((evT a)[j])) := by
        simp only [T2, List.getElem?_map, List.getElem?_eq_getElem hj, Option.map_some, Option.some.injEq] at hd
        exact hd.symm
      subst ed
      have li := ev_bd (m := a) (by omega) ((evT a)[j]) (List.getElem_mem hj)
      have lf : ∀ L : List (List Int), (L.flatMap (evIn m a)).length ≤ 42 * L.length := by
        intro L
        induction L with
        | nil => simp
        | cons x L ih => have := ev_small (m - 1 - a); simp [evIn] at ih ⊢; omega
      have lt := lf ((evT a).take j)
      obtain ⟨v4', e⟩ := every_f0 hm hself ha (inner := (evT a)[j]) (by omega) (h := h) (acc := acc ++ ((evT a).take j).flatMap (evIn m a)) (by simp at lt ⊢; omega) (v4 := v4)
      refine ⟨[some (.int ((2 * m : Nat) : Int)), some (.ref h.length), some (.int ((2 * a + 1 : Nat) : Int)), some (.tup (I ((evT a)[j]))), v4, none, none], by simp only [patD, List.set_cons_zero, List.set_cons_succ], .inl ⟨_, _, e, some (.tup (I ((evT a)[j]))), v4', rfl, ?_⟩⟩
      rw [List.append_assoc, show (evT a).take (j + 1) = (evT a).take j ++ [(evT a)[j]] from by rw [List.take_succ, List.getElem?_eq_getElem hj]; rfl, List.flatMap_append]
      simp
    · rintro s H ⟨v3, v4, rfl, rfl⟩
      refine ⟨v3, v4, ?_⟩
      rw [T2_len, List.take_of_length_le (Nat.le_refl _)]
      rfl
  obtain ⟨v3', v4', e⟩ := loop
  exact ⟨v3', v4', (for_ok it).trans e⟩
end
theorem every_ok : ∀ (f m : Nat) (h : Hd), m ≤ 5 → m < f → r_law_every f [.int ((2 * m : Nat) : Int)] h = .ok (.lv (T2 (evT m))) h
  | 0, m, h, _, hf => by omega
  | f + 1, m, h, hm, hf => by
    by_cases m0 : m = 0
    · subst m0
      refine fn_rt' [some (.int ((2 * 0 : Nat) : Int)), none, none, none, none, none, none] ?_ rfl
      exact seq_rt ((if_t (b_ok (op_ok var_ok c_ok (by rw [eqP_int]; rfl)))).trans (ret_ok (lst_ok (a1_ok (tup_ok rfl (Nat.zero_le _))) one_sz)))
    · have hself : ∀ (a : Nat) (h : Hd), a < m → r_law_every f [.int ((2 * a : Nat) : Int)] h = .ok (.lv (T2 (evT a))) h := fun a h ha => every_ok f a h (by omega) (by omega)
      have ck := ev_check m hm (by omega)
      unfold evCheck at ck
      simp only [Bool.and_eq_true, decide_eq_true_eq] at ck
      obtain ⟨⟨⟨k1, k2⟩, k3⟩, k4⟩ := ck
      have ex : 1 < 2 * (m : Int) := by omega
      have rs : (Builtin.Range.rangeSize 1 ((2 * m : Nat) : Int) 2).toNat = m := by
        simp only [Builtin.Range.rangeSize]
        rw [if_pos (by decide), if_pos (by omega)]
        omega
      have sm : Builtin.Range.small 1 ((2 * m : Nat) : Int) 2 = true := by
        have : m = 1 ∨ m = 2 ∨ m = 3 ∨ m = 4 ∨ m = 5 := by omega
        rcases this with rfl | rfl | rfl | rfl | rfl <;> decide
      have it : i_rng3 (a_cons (e_c (D.int 1)) (a_cons (e_var 0) (a_cons (e_c (D.int 2)) a_nil))) [some (.int ((2 * m : Nat) : Int)), some (.ref h.length), none, none, none, none, none] (h ++ [.lst (T2 [])]) = .ok (rangeC 1 2 m) (h ++ [.lst (T2 [])]) := by
        simp only [i_rng3, a3_ok c_ok (var_ok (i := 0) (s := [some (.int ((2 * m : Nat) : Int)), some (.ref h.length), none, none, none, none, none])) c_ok, bind_ok, rs]
        rw [if_pos ⟨by decide, by decide, sm⟩]
      have loop : ∃ v2 v3 v4, forM (.nm 2) (x_law_every_f1 (r_law_every f)) (rangeC 1 2 m) [some (.int ((2 * m : Nat) : Int)), some (.ref h.length), none, none, none, none, none] (h ++ [.lst (T2 [])]) = .ok (.nx [some (.int ((2 * m : Nat) : Int)), some (.ref h.length), v2, v3, v4, none, none]) (h ++ [.lst (T2 (evRaw m m))]) := by
        have ml : ∀ k, k ≤ m → (evRaw m k).length ≤ (evRaw m m).length := by
          intro k hk
          unfold evRaw
          rw [show m = k + (m - k) by omega, List.range_add, List.flatMap_append, List.length_append]
          omega
        refine for_wp (Q := fun r => ∃ v2 v3 v4, r = .ok (.nx [some (.int ((2 * m : Nat) : Int)), some (.ref h.length), v2, v3, v4, none, none]) (h ++ [.lst (T2 (evRaw m m))]))
          (fun i s H => ∃ v2 v3 v4, s = [some (.int ((2 * m : Nat) : Int)), some (.ref h.length), v2, v3, v4, none, none] ∧ H = h ++ [.lst (T2 (evRaw m i))]) _ _ (h ++ [.lst (T2 [])]) ⟨none, none, none, rfl, rfl⟩ ?_ ?_
        · rintro i d s H hd ⟨v2, v3, v4, rfl, rfl⟩
          obtain ⟨ed, hi⟩ := rangeC_get m i 1 2 d hd
          have e2 : (1 : Int) + (i : Int) * 2 = ((2 * i + 1 : Nat) : Int) := by omega
          rw [e2] at ed
          subst ed
          obtain ⟨v3', v4', e⟩ := every_f1 hm hself hi (h := h) (acc := evRaw m i) (by have := ml i (by omega); omega) (v3 := v3) (v4 := v4)
          refine ⟨[some (.int ((2 * m : Nat) : Int)), some (.ref h.length), some (.int ((2 * i + 1 : Nat) : Int)), v3, v4, none, none], by simp only [patD, List.set_cons_zero, List.set_cons_succ], .inl ⟨_, _, e, some (.int ((2 * i + 1 : Nat) : Int)), v3', v4', rfl, ?_⟩⟩
          unfold evRaw
          rw [List.range_succ, List.flatMap_append]
          simp
        · rintro s H ⟨v2, v3, v4, rfl, rfl⟩
          rw [rangeC_length]
          exact ⟨v2, v3, v4, rfl⟩
      obtain ⟨v2, v3, v4, e⟩ := loop
      have so : sortedP false [.ref h.length] (h ++ [.lst (T2 (evRaw m m))]) = some (.lv (T2 (evT m)), h ++ [.lst (T2 (evRaw m m))]) := by
        have al : asL (.ref h.length) (h ++ [.lst (T2 (evRaw m m))]) = some (T2 (evRaw m m)) := by simp only [asL, last_get]
        simp only [sortedP, al]
        generalize hr : evRaw m m = R at k1 k2 k3 k4
        cases R with
        | nil => simp at k4
        | cons x R =>
          have hx : ((tupI (D.tup (I x))).getD []).length = 2 * m := by
            rw [List.all_eq_true] at k3
            have := k3 x (by simp)
            simp only [Bool.and_eq_true, beq_iff_eq] at this
            simp [tupI, intsOf_I, this.1]
          have c3 : (T2 (x :: R)).all (tupOk (2 * m)) = true := by
            rw [List.all_eq_true]
            intro d hd
            simp only [T2, List.mem_map] at hd
            obtain ⟨y, hy, rfl⟩ := hd
            rw [List.all_eq_true] at k3
            have := k3 y hy
            simpa [tupOk, tupI, intsOf_I] using this
          have ii : intsOf (T2 (x :: R)) = none := rfl
          rw [ii]
          show (if _ then mkL false (sortK keyT (T2 (x :: R))) _ else none) = _
          rw [hx, if_pos ⟨by omega, by rw [T2_len]; exact k2, c3⟩, sortL_ok, k1]
          rfl
      have r := fn_rt (np := 1) (n := 7) (b := b_law_every (r_law_every f)) (ds := [.int ((2 * m : Nat) : Int)]) (h := h) (h' := h ++ [.lst (T2 (evRaw m m))]) (d := .lv (T2 (evT m))) [some (.int ((2 * m : Nat) : Int)), none, none, none, none, none, none] (.lv (T2 (evT m)))
        (seq_then ((if_f (b_ok (op_ok var_ok c_ok (by rw [eqP_int, decide_eq_false (by omega)]; rfl)))).trans nil_ok) (seq_then (set_ok (lstM_ok (ds := []) rfl (Nat.zero_le _))) (seq_then ((for_ok it).trans e) (ret_ok (call_ok (a1_ok var_ok) so)))))
        (by simp only [sealD, noRef, noRefs_T2, if_true])
      rw [List.take_left' rfl] at r
      exact r
end Mini
namespace Mini
open PySem L2
/-! ### k34: what is asked -/
def alkG (m : Nat) (far : Nat) (x : List Int) : Bool := decide (((2 * m : Nat) : Int) = 0) || decide (rot x (far : Int) = x)
def alkL (m far : Nat) : List (List Int) := (evT m).filter (alkG m far)
def mx (m : Nat) : Nat := if m = 0 then 1 else 2 * m
def alkCheck (m : Nat) : Bool := (List.range (mx m)).all fun far => decide (((alkL m far).length : Int) = almP (2 * m) (far : Int)) && decide (almP (2 * m) (-(far : Int)) = almP (2 * m) (far : Int))
theorem alk_check : ∀ m, m ≤ 5 → alkCheck m = true := by
  intro m h5
  have : m = 0 ∨ m = 1 ∨ m = 2 ∨ m = 3 ∨ m = 4 ∨ m = 5 := by omega
  rcases this with rfl | rfl | rfl | rfl | rfl | rfl <;> decide +kernel
theorem alk_num {m far : Nat} (hm : m ≤ 5) (hf : far < mx m) : almP (2 * m) (far : Int) = ((alkL m far).length : Nat) ∧ almP (2 * m) (-(far : Int)) = ((alkL m far).length : Nat) := by
  have k := alk_check m hm
  unfold alkCheck at k
  rw [List.all_eq_true] at k
  have := k far (by simpa using hf)
  simp only [Bool.and_eq_true, decide_eq_true_eq] at this
  exact ⟨this.1.symm, this.2.trans this.1.symm⟩
def inRB (xs : List Int) : Bool := xs.all fun x => decide (0 ≤ x) && decide (x < (xs.length : Int))
theorem inRB_ok {xs : List Int} (e : inRB xs = true) : InR xs := by
  unfold inRB at e
  rw [List.all_eq_true] at e
  intro x hx
  have := e x hx
  simpa using this
theorem ev_inR {m : Nat} (hm : m ≤ 5) : ∀ x ∈ evT m, InR x := by
  intro x hx
  have : m = 0 ∨ m = 1 ∨ m = 2 ∨ m = 3 ∨ m = 4 ∨ m = 5 := by omega
  have k : (evT m).all inRB = true := by rcases this with rfl | rfl | rfl | rfl | rfl | rfl <;> decide
  rw [List.all_eq_true] at k
  exact inRB_ok (k x hx)
theorem ev_pos {m : Nat} (hm : m ≤ 5) : 0 < (evT m).length := by
  have : m = 0 ∨ m = 1 ∨ m = 2 ∨ m = 3 ∨ m = 4 ∨ m = 5 := by omega
  rcases this with rfl | rfl | rfl | rfl | rfl | rfl <;> decide
theorem mul3 {n : Int} {h : Hd} : mulP false (.lv [.int n]) (.int 3) h = some (.lv [.int n, .int n, .int n], h) := by
  have a : (in63 3 && decide (([D.int n] : List D).length * (3 : Int).toNat ≤ sizeLine)) = true := by
    have : ([D.int n] : List D).length * (3 : Int).toNat ≤ sizeLine := sz5 (by simp)
    rw [decide_eq_true this]; decide
  simp only [mulP, lstOf, a, if_true, mkL, Bool.false_eq_true, if_false]
  rfl
theorem three_sz : (3 : Nat) ≤ sizeLine := by decide
theorem pow_ok (a b : Int) (r : Int) (s : Ev) (h : Hd) (e : powP (.int a) (.int b) h = some (.int r, h)) : e_op powP (e_c (D.int a)) (e_c (D.int b)) s h = .ok (.int r) h := op_ok c_ok c_ok e
theorem LP.iff {xs : List Int} (h : InR xs) {P : Nat} (p : LP xs P) {f : Int} (hf : 0 ≤ f) : f % (P : Int) = 0 ↔ Fix xs f := by
  constructor
  · intro e
    have q : f = ((f / (P : Int)).toNat : Int) * (P : Int) := by
      have p1 := p.one
      have d0 : 0 ≤ f / (P : Int) := Int.ediv_nonneg hf (by omega)
      rw [Int.toNat_of_nonneg d0]
      have := Int.mul_ediv_add_emod f (P : Int)
      rw [e, Int.add_zero, Int.mul_comm] at this
      exact this.symm
    rw [q]
    exact Fix.mulN h p.fix _
  · exact p.div h hf
theorem a5_ok {f1 f2 f3 f4 f5 : EF} {s : Ev} {h h1 h2 h3 h4 h5 : Hd} {d1 d2 d3 d4 d5 : D} (e1 : f1 s h = .ok d1 h1) (e2 : f2 s h1 = .ok d2 h2) (e3 : f3 s h2 = .ok d3 h3) (e4 : f4 s h3 = .ok d4 h4) (e5 : f5 s h4 = .ok d5 h5) : a_cons f1 (a_cons f2 (a_cons f3 (a_cons f4 (a_cons f5 a_nil)))) s h = .ok [d1, d2, d3, d4, d5] h5 := by simp only [a_cons, a_nil, e1, e2, e3, e4, e5, bind_ok]
theorem few_turn {m : Nat} (hm : m ≤ 5) {far : Nat} (hf : far < mx m) {h : Hd} {b N : Nat} (hb : BoxAt h b N) (hN : N + 2 < 2 ^ 40) {v4 v5 v6 v7 : Option D} :
    ∃ v4' v5' v6' v7' h', x_law_few_right_f0 [some (.ref b), some (.int ((2 * m : Nat) : Int)), some (.lv (T2 (evT m))), some (.int (far : Nat)), v4, v5, v6, v7] h =
      .ok (.nx [some (.ref b), some (.int ((2 * m : Nat) : Int)), some (.lv (T2 (evT m))), some (.int (far : Nat)), v4', v5', v6', v7']) h' ∧ Drawn b h h' N 2 := by
  obtain ⟨t, h1, et, t0, t1, d1⟩ := m_take_ok (k := 1000000) (by decide) (by decide) hb (by omega)
  have lp : 0 < (T2 (evT m)).length := by rw [T2_len]; exact ev_pos hm
  have ls := ev_small m
  obtain ⟨i, hi, h2, eo, d2⟩ := of_ok lp (by rw [T2_len]; omega) (noRefs_T2 _) d1.box (by omega)
  have hi' : i < (evT m).length := by simpa using hi
  have ex : (T2 (evT m))[i] = D.tup (I ((evT m)[i])) := by simp [T2]
  rw [ex] at eo
  have hxm := List.getElem_mem hi'
  generalize (evT m)[i] = x at eo hxm
  have xR := ev_inR hm x hxm
  have xl := ev_bd hm x hxm
  obtain ⟨n1, n2⟩ := alk_num hm hf
  let L : List D := T2 (alkL m far)
  let more : Int := (far : Int) + (mx m : Int) * (t - 500000)
  have n3 : almP (2 * m) more = ((alkL m far).length : Nat) := by
    by_cases m0 : m = 0
    · subst m0
      rw [← n1]; rfl
    · have : (mx m : Int) = ((2 * m : Nat) : Int) := by simp [mx, m0]
      show almP (2 * m) ((far : Int) + (mx m : Int) * (t - 500000)) = _
      rw [this, almP_mod, n1]
  let n : Int := ((alkL m far).length : Nat)
  let S (v4 v5 v6 v7 : Option D) : Ev := [some (.ref b), some (.int ((2 * m : Nat) : Int)), some (.lv (T2 (evT m))), some (.int (far : Nat)), v4, v5, v6, v7]
  have s1 : s_set 4 (e_lc [7] (i_seq (e_var 2)) (.nm 7) (t_or (t_b (e_op (eqP false) (e_var 1) (e_c (D.int 0)))) (t_b (e_op (eqP false) (e_own m_law_moved (a_cons (e_var 7) (a_cons (e_var 3) a_nil))) (e_var 7)))) (e_var 7)) (S v4 v5 v6 v7) h = .ok (.nx (S (some (.lv L)) v5 v6 v7)) h := by
    refine set_ok ((lc_gen (L := evT m) (fun xs => D.tup (I xs)) (alkG m far) (fun xs => D.tup (I xs)) (seq_lv var_ok) (by omega) fun y hy => ⟨?_, fun _ => var_ok⟩).trans rfl)
    have yl := ev_bd hm y hy
    have z1 : t_b (e_op (eqP false) (e_var 1) (e_c (D.int 0))) ((wipeD (S v4 v5 v6 v7) [7]).set 7 (some (.tup (I y)))) h = .ok (decide (((2 * m : Nat) : Int) = 0)) h := b_ok (op_ok var_ok c_ok (eqP_int false _ _ _))
    unfold alkG
    by_cases m0 : ((2 * m : Nat) : Int) = 0
    · rw [decide_eq_true m0] at z1 ⊢
      exact or_t z1
    · rw [decide_eq_false m0] at z1 ⊢
      rw [or_f z1, Bool.false_or]
      exact b_ok (op_ok (own_ok (a2_ok var_ok var_ok) (moved_ok false y (far : Int) h (by omega))) var_ok (eqP_tup false _ _ _))
  have mxe : e_call max2P (a_cons (e_c (D.int 1)) (a_cons (e_var 1) a_nil)) (S (some (.lv L)) v5 v6 v7) h = .ok (.int (mx m : Nat)) h := by
    refine call_ok (a2_ok c_ok var_ok) ?_
    simp only [max2P, mx]
    by_cases m0 : m = 0
    · subst m0; rfl
    · rw [if_pos (by omega), if_neg m0]
  have s2 : s_set 5 (e_op (addP false) (e_var 3) (e_op (mulP false) (e_call max2P (a_cons (e_c (D.int 1)) (a_cons (e_var 1) a_nil))) (e_op subP (e_own m_law_take (a_cons (e_var 0) (a_cons (e_op powP (e_c (D.int 10)) (e_c (D.int 6))) a_nil))) (e_op (mulP false) (e_c (D.int 5)) (e_op powP (e_c (D.int 10)) (e_c (D.int 5))))))) (S (some (.lv L)) v5 v6 v7) h = .ok (.nx (S (some (.lv L)) (some (.int more)) v6 v7)) h1 :=
    set_ok (op_ok var_ok (op_ok mxe (op_ok (own_ok (a2_ok var_ok (pow_ok 10 6 1000000 _ _ (by simp [powP]))) et) (op_ok c_ok (pow_ok 10 5 100000 _ _ (by simp [powP])) (mulP_l (by decide))) (subP_int _ _ _)) (mulP_r (in64_of (by omega) (by omega)))) (addP_int _ _ _ _))
  have p9 : 2 * m ≤ 900 := by omega
  have s3 : s_set 6 (e_lst false (a_cons (e_own m_alike_many (a_cons (e_var 1) (a_cons (e_var 3) a_nil))) (a_cons (e_ownK m_alike_many 0 2 [1, 0] a_nil (a_cons (e_var 5) (a_cons (e_var 1) a_nil))) (a_cons (e_own m_alike_many (a_cons (e_var 1) (a_cons (e_un negP (e_var 3)) a_nil))) a_nil)))) (S (some (.lv L)) (some (.int more)) v6 v7) h1 = .ok (.nx (S (some (.lv L)) (some (.int more)) (some (.lv [.int n, .int n, .int n])) v7)) h1 := by
    have a1 := alike_many_ok (2 * m) (far : Int) p9 h1
    have a2 := alike_many_ok (2 * m) more p9 h1
    have a3 := alike_many_ok (2 * m) (-(far : Int)) p9 h1
    rw [n1] at a1
    rw [n3] at a2
    rw [n2] at a3
    exact set_ok (lst_ok (a3_ok (own_ok (a2_ok var_ok var_ok) a1) (ownK_ok rfl (a2_ok var_ok var_ok) a2) (own_ok (a2_ok var_ok (un_ok var_ok (negP_int _ _))) a3)) three_sz)
  have gd : good 3 (.lv [.int n, .int n, .int n]) := ⟨by simp, fun y hy => by
    simp at hy; subst hy; exact trivial⟩
  have s4 : s_if (t_not (t_tru (e_own m_law_same (a_cons (e_var 6) (a_cons (e_op (mulP false) (e_lst false (a_cons (e_call lenP (a_cons (e_var 4) a_nil)) a_nil)) (e_c (D.int 3))) a_nil))))) (s_ret (e_c (D.bl false))) s_nil (S (some (.lv L)) (some (.int more)) (some (.lv [.int n, .int n, .int n])) v7) h1 = .ok (.nx (S (some (.lv L)) (some (.int more)) (some (.lv [.int n, .int n, .int n])) v7)) h1 :=
    (if_f (not_ok (tru_ok (own_ok (a2_ok var_ok (op_ok (lst_ok (a1_ok (call_ok (a1_ok var_ok) (by simp only [lenP, asS, asL, L, T2_len]; rfl))) one_sz) c_ok mul3)) (m_same_ok gd))))).trans nil_ok
  have s5 : s_set 7 (e_own m_law_of (a_cons (e_var 0) (a_cons (e_var 2) a_nil))) (S (some (.lv L)) (some (.int more)) (some (.lv [.int n, .int n, .int n])) v7) h1 = .ok (.nx (S (some (.lv L)) (some (.int more)) (some (.lv [.int n, .int n, .int n])) (some (.tup (I x))))) h2 :=
    set_ok (own_ok (a2_ok var_ok var_ok) eo)
  refine ⟨some (.lv L), some (.int more), some (.lv [.int n, .int n, .int n]), some (.tup (I x)), h2, ?_, d1.trans d2⟩
  refine seq_then s1 (seq_then s2 (seq_then s3 (seq_then s4 (seq_then s5 ?_))))
  refine (if_f ?_).trans nil_ok
  have tg : t_b (e_op gtP (e_var 3) (e_c (D.int 0))) (S (some (.lv L)) (some (.int more)) (some (.lv [.int n, .int n, .int n])) (some (.tup (I x)))) h2 = .ok (decide ((0 : Int) < (far : Int))) h2 := b_ok (op_ok var_ok c_ok (gtP_int _ _ _))
  by_cases f0 : far = 0
  · rw [decide_eq_false (by omega)] at tg
    exact and_f tg
  · rw [decide_eq_true (by omega)] at tg
    rw [and_t tg]
    obtain ⟨P, hP⟩ := least_LP xR
    have p1 := hP.one
    have p2 := hP.le
    have pk := period_ok false x h2 p1 (by omega) hP.fix hP.mn
    have ppos : (0 : Int) < (P : Int) := by omega
    refine b_ok (op_ok (op_ok var_ok var_ok (inP_T2 false x (alkL m far) h2)) (op_ok (op_ok var_ok (own_ok (a1_ok var_ok) pk) (modP_int ppos _)) c_ok (eqP_int false _ _ _)) ?_)
    have m0 : m ≠ 0 := by
      intro q
      subst q
      simp [mx] at hf
      omega
    have eqv : decide (x ∈ alkL m far) = decide ((far : Int) % (P : Int) = 0) := by
      apply decide_eq_decide.mpr
      rw [hP.iff xR (by omega)]
      have nz : ¬ ((2 * m : Nat) : Int) = 0 := by omega
      unfold alkL
      rw [List.mem_filter]
      unfold alkG
      rw [decide_eq_false nz, Bool.false_or, decide_eq_true_eq]
      exact ⟨fun q => q.2, fun q => ⟨hxm, q⟩⟩
    rw [eqP_bl]
    simp only [Bool.false_eq_true, if_false, eqv]
    simp
theorem few_right_ok {m : Nat} (hm : m ≤ 5) {h : Hd} {b N : Nat} (hb : BoxAt h b N) (hN : N + 100 < 2 ^ 40) : ∃ h', m_law_few_right [.ref b, .int ((2 * m : Nat) : Int)] h = .ok (.bl true) h' ∧ Drawn b h h' N 20 := by
  have mle : mx m ≤ 10 := by unfold mx; split <;> omega
  have loop : ∃ v3 v4 v5 v6 v7 H', forM (.nm 3) x_law_few_right_f0 (rangeL 0 (mx m)) [some (.ref b), some (.int ((2 * m : Nat) : Int)), some (.lv (T2 (evT m))), none, none, none, none, none] h = .ok (.nx [some (.ref b), some (.int ((2 * m : Nat) : Int)), some (.lv (T2 (evT m))), v3, v4, v5, v6, v7]) H' ∧ Drawn b h H' N 20 := by
    refine for_wp (Q := fun r => ∃ v3 v4 v5 v6 v7 H', r = .ok (.nx [some (.ref b), some (.int ((2 * m : Nat) : Int)), some (.lv (T2 (evT m))), v3, v4, v5, v6, v7]) H' ∧ Drawn b h H' N 20)
      (fun i s H => ∃ v3 v4 v5 v6 v7, s = [some (.ref b), some (.int ((2 * m : Nat) : Int)), some (.lv (T2 (evT m))), v3, v4, v5, v6, v7] ∧ Drawn b h H N (2 * i)) _ _ h ⟨none, none, none, none, none, rfl, Drawn.refl hb⟩ ?_ ?_
    · rintro i d s H hd ⟨v3, v4, v5, v6, v7, rfl, dH⟩
      obtain ⟨hi, rfl⟩ := rangeL_at d hd
      obtain ⟨v4', v5', v6', v7', H', e, dd⟩ := few_turn hm hi dH.box (by omega) (v4 := v4) (v5 := v5) (v6 := v6) (v7 := v7)
      exact ⟨[some (.ref b), some (.int ((2 * m : Nat) : Int)), some (.lv (T2 (evT m))), some (.int (i : Nat)), v4, v5, v6, v7], by simp only [patD, List.set_cons_zero, List.set_cons_succ], .inl ⟨_, _, e, some (.int (i : Nat)), v4', v5', v6', v7', rfl, dH.to dd (by omega)⟩⟩
    · rintro s H ⟨v3, v4, v5, v6, v7, rfl, dH⟩
      rw [rangeL_len] at dH
      exact ⟨v3, v4, v5, v6, v7, H, rfl, dH.mono (by omega)⟩
  obtain ⟨v3, v4, v5, v6, v7, H', e, dd⟩ := loop
  have mxe : e_call max2P (a_cons (e_c (D.int 1)) (a_cons (e_var 1) a_nil)) [some (.ref b), some (.int ((2 * m : Nat) : Int)), some (.lv (T2 (evT m))), none, none, none, none, none] h = .ok (.int (mx m : Nat)) h := by
    refine call_ok (a2_ok c_ok var_ok) ?_
    simp only [max2P, mx]
    by_cases m0 : m = 0
    · subst m0; rfl
    · rw [if_pos (by omega), if_neg m0]
  have it : i_rng1 (a_cons (e_call max2P (a_cons (e_c (D.int 1)) (a_cons (e_var 1) a_nil))) a_nil) [some (.ref b), some (.int ((2 * m : Nat) : Int)), some (.lv (T2 (evT m))), none, none, none, none, none] h = .ok (rangeL 0 (mx m)) h := by
    simp only [i_rng1, a1_ok mxe, bind_ok, in62_nat (n := mx m) (by omega), if_true, Int.toNat_natCast]
  have r := fn_rt (np := 2) (n := 8) (b := b_law_few_right) (ds := [.ref b, .int ((2 * m : Nat) : Int)]) (h := h) (h' := H') (d := .bl true) [some (.ref b), some (.int ((2 * m : Nat) : Int)), none, none, none, none, none, none] (.bl true)
    (seq_then (set_ok (own_ok (a1_ok var_ok) (every_ok 6 m h hm (by omega)))) (seq_then ((for_ok it).trans e) (ret_ok c_ok))) rfl
  rw [← dd.len, take_self] at r
  exact ⟨H', r, dd⟩
theorem sz20 {n : Nat} (h : n ≤ 20) : n ≤ sizeLine := sz5 (by omega)
theorem goodI_lv (n : Nat) {xs : List Int} (h : xs.length ≤ 100000) : good (n + 1) (.lv (I xs)) := ⟨by simpa using h, fun x hx => by
  obtain ⟨a, _, rfl⟩ := mem_I.mp hx; cases n <;> exact trivial⟩
theorem num24 : [0, 12, 8, 6, 4, 2, 16, 18, 22, 1, 3, 23, 10].map (almP 24) = [208012, 924, 70, 20, 6, 2, 70, 20, 2, 0, 0, 0, 2] := by decide +kernel
theorem num22 : almP 22 11 = 462 ∧ almP 22 2 = 2 ∧ almP 6 3 = 3 ∧ almP 2 1 = 1 ∧ almP 2 7 = 1 ∧ almP 4 1 = 0 := by decide +kernel
def flat24 : List Int := (List.range 24).map fun i => ((i : Nat) : Int) + 1 - 2 * (((i : Nat) : Int) % 2)
theorem flat24_f : rot flat24 2 = flat24 ∧ rot flat24 1 ≠ flat24 ∧ inRB flat24 = true := by decide +kernel
theorem across_f : rot [3, 2, 1, 0, 5, 4] 3 = [3, 2, 1, 0, 5, 4] ∧ rot [3, 2, 1, 0, 5, 4] 1 ≠ [3, 2, 1, 0, 5, 4] ∧ rot [3, 2, 1, 0, 5, 4] 2 ≠ [3, 2, 1, 0, 5, 4] := by decide +kernel
theorem known_right_ok (h : Hd) : m_law_known_right [] h = .ok (.bl true) h := by
  let S (a b c : Option D) : Ev := [a, b, c, none, none]
  have tp : i_seq (e_tup (a_cons (e_c (D.int 0)) (a_cons (e_c (D.int 12)) (a_cons (e_c (D.int 8)) (a_cons (e_c (D.int 6)) (a_cons (e_c (D.int 4)) (a_cons (e_c (D.int 2)) (a_cons (e_c (D.int 16)) (a_cons (e_c (D.int 18)) (a_cons (e_c (D.int 22)) (a_cons (e_c (D.int 1)) (a_cons (e_c (D.int 3)) (a_cons (e_c (D.int 23)) (a_cons (e_c (D.int 10)) a_nil)))))))))))))) (S none none none) h = .ok (I [0, 12, 8, 6, 4, 2, 16, 18, 22, 1, 3, 23, 10]) h := seq_tup (tup_ok rfl (sz20 (by decide)))
  have a24 := fun s => alike_many_ok 24 s (by decide) h
  have k1 := lc_map (own := [3]) (v := 3) (te := e_own m_alike_many (a_cons (e_c (D.int 24)) (a_cons (e_var 3) a_nil))) (L := [0, 12, 8, 6, 4, 2, 16, 18, 22, 1, 3, 23, 10]) D.int (fun s => D.int (almP 24 s)) tp (by decide) (fun x _ => own_ok (a2_ok c_ok var_ok) (a24 x))
  have e1 : ([0, 12, 8, 6, 4, 2, 16, 18, 22, 1, 3, 23, 10] : List Int).map (fun s => D.int (almP 24 s)) = I [208012, 924, 70, 20, 6, 2, 70, 20, 2, 0, 0, 0, 2] := by
    rw [← num24]; simp [I]
  rw [e1] at k1
  obtain ⟨n1, n2, n3, n4, n5, n6⟩ := num22
  have c1 : s_if (t_not (t_tru (e_own m_law_same (a_cons (e_var 0) (a_cons (e_lst false (a_cons (e_c (D.int 208012)) (a_cons (e_c (D.int 924)) (a_cons (e_c (D.int 70)) (a_cons (e_c (D.int 20)) (a_cons (e_c (D.int 6)) (a_cons (e_c (D.int 2)) (a_cons (e_c (D.int 70)) (a_cons (e_c (D.int 20)) (a_cons (e_c (D.int 2)) (a_cons (e_c (D.int 0)) (a_cons (e_c (D.int 0)) (a_cons (e_c (D.int 0)) (a_cons (e_c (D.int 2)) a_nil)))))))))))))) a_nil))))) (s_ret (e_c (D.bl false))) s_nil (S (some (.lv (I [208012, 924, 70, 20, 6, 2, 70, 20, 2, 0, 0, 0, 2]))) none none) h = .ok (.nx (S (some (.lv (I [208012, 924, 70, 20, 6, 2, 70, 20, 2, 0, 0, 0, 2]))) none none)) h :=
    (if_f (not_ok (tru_ok (own_ok (a2_ok var_ok (lst_ok rfl (sz20 (by decide)))) (m_same_ok (goodI_lv 2 (xs := [208012, 924, 70, 20, 6, 2, 70, 20, 2, 0, 0, 0, 2]) (by decide))))))).trans nil_ok
  have am : ∀ (p : Nat) (s r : Int) (T : Ev), p ≤ 900 → almP p s = r → e_own m_alike_many (a_cons (e_c (D.int (p : Nat))) (a_cons (e_c (D.int s)) a_nil)) T h = .ok (.int r) h := fun p s r T hp e => by
    rw [← e]
    exact own_ok (a2_ok c_ok c_ok) (alike_many_ok p s hp h)
  have c2 : s_set 0 (e_lst false (a_cons (e_own m_alike_many (a_cons (e_c (D.int 22)) (a_cons (e_c (D.int 11)) a_nil))) (a_cons (e_own m_alike_many (a_cons (e_c (D.int 22)) (a_cons (e_c (D.int 2)) a_nil))) (a_cons (e_own m_alike_many (a_cons (e_c (D.int 6)) (a_cons (e_c (D.int 3)) a_nil))) (a_cons (e_own m_alike_many (a_cons (e_c (D.int 2)) (a_cons (e_c (D.int 1)) a_nil))) (a_cons (e_own m_alike_many (a_cons (e_c (D.int 2)) (a_cons (e_c (D.int 7)) a_nil))) a_nil)))))) (S (some (.lv (I [208012, 924, 70, 20, 6, 2, 70, 20, 2, 0, 0, 0, 2]))) none none) h = .ok (.nx (S (some (.lv (I [462, 2, 3, 1, 1]))) none none)) h := by
    refine set_ok (lst_ok (ds := I [462, 2, 3, 1, 1]) ?_ (sz20 (by decide)))
    have x1 := am 22 11 462 (S (some (.lv (I [208012, 924, 70, 20, 6, 2, 70, 20, 2, 0, 0, 0, 2]))) none none) (by decide) n1
    have x2 := am 22 2 2 (S (some (.lv (I [208012, 924, 70, 20, 6, 2, 70, 20, 2, 0, 0, 0, 2]))) none none) (by decide) n2
    have x3 := am 6 3 3 (S (some (.lv (I [208012, 924, 70, 20, 6, 2, 70, 20, 2, 0, 0, 0, 2]))) none none) (by decide) n3
    have x4 := am 2 1 1 (S (some (.lv (I [208012, 924, 70, 20, 6, 2, 70, 20, 2, 0, 0, 0, 2]))) none none) (by decide) n4
    have x5 := am 2 7 1 (S (some (.lv (I [208012, 924, 70, 20, 6, 2, 70, 20, 2, 0, 0, 0, 2]))) none none) (by decide) n5
    exact a5_ok x1 x2 x3 x4 x5
  have c3 : s_set 0 (e_op (addP false) (e_var 0) (e_lst false (a_cons (e_own m_alike_many (a_cons (e_c (D.int 4)) (a_cons (e_c (D.int 1)) a_nil))) a_nil))) (S (some (.lv (I [462, 2, 3, 1, 1]))) none none) h = .ok (.nx (S (some (.lv (I [462, 2, 3, 1, 1, 0]))) none none)) h :=
    set_ok (op_ok var_ok (lst_ok (a1_ok (am 4 1 0 _ (by decide) n6)) one_sz) (catP_lv (xs := I [462, 2, 3, 1, 1]) (ys := I [0]) (sz20 (by decide))))
  have c4 : s_if (t_not (t_tru (e_own m_law_same (a_cons (e_var 0) (a_cons (e_lst false (a_cons (e_c (D.int 462)) (a_cons (e_c (D.int 2)) (a_cons (e_c (D.int 3)) (a_cons (e_c (D.int 1)) (a_cons (e_c (D.int 1)) (a_cons (e_c (D.int 0)) a_nil))))))) a_nil))))) (s_ret (e_c (D.bl false))) s_nil (S (some (.lv (I [462, 2, 3, 1, 1, 0]))) none none) h = .ok (.nx (S (some (.lv (I [462, 2, 3, 1, 1, 0]))) none none)) h :=
    (if_f (not_ok (tru_ok (own_ok (a2_ok var_ok (lst_ok rfl (sz20 (by decide)))) (m_same_ok (goodI_lv 2 (xs := [462, 2, 3, 1, 1, 0]) (by decide))))))).trans nil_ok
  have c5 : s_par 1 2 (a_cons (e_call tupleP (a_cons (e_lc [4] (i_rng1 (a_cons (e_c (D.int 24)) a_nil)) (.nm 4) t_yes (e_op subP (e_op (addP false) (e_var 4) (e_c (D.int 1))) (e_op (mulP false) (e_c (D.int 2)) (e_op modP (e_var 4) (e_c (D.int 2)))))) a_nil)) (a_cons (e_tup (a_cons (e_c (D.int 3)) (a_cons (e_c (D.int 2)) (a_cons (e_c (D.int 1)) (a_cons (e_c (D.int 0)) (a_cons (e_c (D.int 5)) (a_cons (e_c (D.int 4)) a_nil))))))) a_nil)) (S (some (.lv (I [462, 2, 3, 1, 1, 0]))) none none) h = .ok (.nx (S (some (.lv (I [462, 2, 3, 1, 1, 0]))) (some (.tup (I flat24))) (some (.tup (I [3, 2, 1, 0, 5, 4]))))) h := by
    have r1 : i_rng1 (a_cons (e_c (D.int 24)) a_nil) (S (some (.lv (I [462, 2, 3, 1, 1, 0]))) none none) h = .ok ((List.range 24).map fun i : Nat => D.int (i : Int)) h := by
      have : i_rng1 (a_cons (e_c (D.int 24)) a_nil) (S (some (.lv (I [462, 2, 3, 1, 1, 0]))) none none) h = .ok (rangeL 0 24) h := by
        simp only [i_rng1, a1_ok c_ok, bind_ok, show in62 24 = true from by decide, if_true]; rfl
      rw [this]; rfl
    have k := lc_map (own := [4]) (v := 4) (te := e_op subP (e_op (addP false) (e_var 4) (e_c (D.int 1))) (e_op (mulP false) (e_c (D.int 2)) (e_op modP (e_var 4) (e_c (D.int 2))))) (fun i : Nat => D.int (i : Int)) (fun i : Nat => D.int ((i : Int) + 1 - 2 * ((i : Int) % 2))) r1 (by decide)
      (fun x _ => op_ok (op_ok var_ok c_ok (addP_int _ _ _ _)) (op_ok c_ok (op_ok var_ok c_ok (modP_int (by decide) _)) (mul2_int _ _)) (subP_int _ _ _))
    have ef : (List.range 24).map (fun i : Nat => D.int ((i : Int) + 1 - 2 * ((i : Int) % 2))) = I flat24 := by simp [I, flat24]
    rw [ef] at k
    exact par_ok (a2_ok (call_ok (a1_ok k) tupleP_lv) (tup_ok rfl (sz20 (by decide))))
  obtain ⟨f1, f2, f3⟩ := flat24_f
  obtain ⟨g1, g2, g3⟩ := across_f
  have p1 := period_ok false flat24 h (P := 2) (by decide) (by decide) f1 (fun j j1 j2 => by
    have : j = 1 := by omega
    subst this; exact f2)
  have p2 := period_ok false [3, 2, 1, 0, 5, 4] h (P := 3) (by decide) (by decide) g1 (fun j j1 j2 => by
    have : j = 1 ∨ j = 2 := by omega
    rcases this with rfl | rfl
    · exact g2
    · exact g3)
  have t1 := turned_ok false flat24 2 h
  rw [f1] at t1
  have t2 := turned_ok false [3, 2, 1, 0, 5, 4] 3 h
  rw [g1] at t2
  refine fn_rt' (S none none none) (seq_then (set_ok k1) (seq_then c1 (seq_then c2 (seq_then c3 (seq_then c4 (seq_then c5 (ret_ok ?_))))))) rfl
  have q1 : e_op (eqP false) (e_own m_turned (a_cons (e_var 1) (a_cons (e_c (D.int 2)) a_nil))) (e_var 1) (S (some (.lv (I [462, 2, 3, 1, 1, 0]))) (some (.tup (I flat24))) (some (.tup (I [3, 2, 1, 0, 5, 4])))) h = .ok (.bl true) h := by
    have k := op_ok (g := eqP false) (own_ok (m := m_turned) (a2_ok (var_ok (i := 1) (s := S (some (.lv (I [462, 2, 3, 1, 1, 0]))) (some (.tup (I flat24))) (some (.tup (I [3, 2, 1, 0, 5, 4])))) (h := h)) (c_ok (d := D.int 2))) t1) (var_ok (i := 1)) (eqP_tup false _ _ _)
    simpa using k
  have q2 : e_op (eqP false) (e_own m_turned (a_cons (e_var 2) (a_cons (e_c (D.int 3)) a_nil))) (e_var 2) (S (some (.lv (I [462, 2, 3, 1, 1, 0]))) (some (.tup (I flat24))) (some (.tup (I [3, 2, 1, 0, 5, 4])))) h = .ok (.bl true) h := by
    have k := op_ok (g := eqP false) (own_ok (m := m_turned) (a2_ok (var_ok (i := 2) (s := S (some (.lv (I [462, 2, 3, 1, 1, 0]))) (some (.tup (I flat24))) (some (.tup (I [3, 2, 1, 0, 5, 4])))) (h := h)) (c_ok (d := D.int 3))) t2) (var_ok (i := 2)) (eqP_tup false _ _ _)
    simpa using k
  refine (eand_t q1).trans (op_ok (lst_ok (a3_ok (own_ok (a1_ok var_ok) p1) (own_ok (a1_ok var_ok) p2) q2) (sz20 (by decide))) (lst_ok (a3_ok c_ok c_ok c_ok) (sz20 (by decide))) ?_)
  show eqP false (.lv [.int 2, .int 3, .bl true]) (.lv [.int 2, .int 3, .bl true]) h = some (.bl true, h)
  simp [eqP, pyR, pyD, pyDs, SeqAt.shaped, PyData.canLay0, PyData.canLayAll0, PyData.depth, PyData.depthAll, PyData.eqv, PyData.eqvAll]
theorem right34 {h : Hd} {b : Nat} (hb : BoxAt h b 0) : ∃ h', m_law_right [.ref b] h = .ok (.bl true) h' := by
  obtain ⟨t, h1, et, t0, t1, d1⟩ := m_take_ok (k := 6) (by decide) (by decide) hb (by decide)
  obtain ⟨m, rfl⟩ : ∃ n : Nat, t = (n : Nat) := ⟨t.toNat, by omega⟩
  obtain ⟨h2, e2, d2⟩ := few_right_ok (m := m) (by omega) d1.box (by decide)
  have r := fn_rt (np := 1) (n := 1) (b := b_law_right) (ds := [.ref b]) (h := h) (h' := h2) (d := .bl true) [some (.ref b)] (.bl true) (ret_ok ((eand_t (own_ok (a2_ok var_ok (op_ok c_ok (own_ok (a2_ok var_ok c_ok) et) (by rw [mul2_int]; rfl))) e2)).trans (own_ok (ds := []) rfl (known_right_ok h2)))) rfl
  exact ⟨_, r⟩
theorem spec_law : ∀ ns : List Int, ns.length ≤ 63 → ∃ h, m_law [.fl (ns.map D.int)] [] = .ok (.bl true) h := law_of_right fun h b hb => right34 hb
end Mini
namespace Mini
open PySem PySem.Spec PyProof.Rows L2
/-! ### the text and its derivations -/
def top (i : Nat) : Stmt := PySem.Challenge.pw_handshakes_k34_how_many_are_alike.main.body.getD i (.Pass ⟨0, 0, 0, 0⟩)
structure Txt (mg : Str → Option Value) : Prop where
  n_abs : mg "abs" = none
  n_all : mg "all" = none
  n_bool : mg "bool" = none
  n_enumerate : mg "enumerate" = none
  n_int : mg "int" = none
  n_isinstance : mg "isinstance" = none
  n_len : mg "len" = none
  n_list : mg "list" = none
  n_max : mg "max" = none
  n_min : mg "min" = none
  n_range : mg "range" = none
  n_sorted : mg "sorted" = none
  n_str : mg "str" = none
  n_tuple : mg "tuple" = none
  n_zip : mg "zip" = none
section
variable {P : Program} {w : World} {K : PySem.W.Frag} {mg : Str → Option Value} {base : Heap}
abbrev s_catalan : Stmt := top 1
theorem sc_catalan : FnScope n_catalan ["pairs"] (defScope s_catalan) := ⟨rfl, rfl, rfl, by decide +kernel, rfl, by decide +kernel, by decide +kernel⟩
theorem ok_catalan {f : Addr} {fd : FuncData} (F : Fun K "catalan" "catalan" s_catalan f fd) (T : Txt mg) : FnOk P w K mg base (L2.CX P w) 1 f fd ["pairs"] (spM K mg m_catalan) :=
  fn_ok (k := 0) F sc_catalan fun cdv A outer s H E hr => by
    have tk : Takes (cxOf (L2.CX P w) P w K mg base n_catalan "catalan" (defScope s_catalan) f cdv A outer s H E) (fun cls d _ H => E cls d H) := takes_of rfl rfl rfl rfl
    have sc := sc_catalan
    exact (r_seq (r_set sc.nd r_int)
    (r_seq (r_for (passes_of rfl) rfl (ri_range1 T.n_range (ra_cons (r_var 0) ra_nil)) (g_nm sc.nd)
      (r_last (r_set sc.nd (r_op p_fdiv (r_op (p_mul false) (r_op (p_mul false) (r_var 1) r_int) (r_op (p_add false) (r_op (p_mul false) r_int (r_var 2)) r_int)) (r_op (p_add false) (r_var 2) r_int)))))
    (r_last (r_ret (r_var 1)))))
abbrev s_gcd : Stmt := top 3
theorem sc_gcd : FnScope n_gcd ["one", "other"] (defScope s_gcd) := ⟨rfl, rfl, rfl, by decide +kernel, rfl, by decide +kernel, by decide +kernel⟩
theorem ok_gcd {f : Addr} {fd : FuncData} (F : Fun K "gcd" "gcd" s_gcd f fd) (T : Txt mg) : FnOk P w K mg base (L2.CX P w) 1 f fd ["one", "other"] (spM K mg m_gcd) :=
  fn_ok (k := 0) F sc_gcd fun cdv A outer s H E hr => by
    have tk : Takes (cxOf (L2.CX P w) P w K mg base n_gcd "gcd" (defScope s_gcd) f cdv A outer s H E) (fun cls d _ H => E cls d H) := takes_of rfl rfl rfl rfl
    have sc := sc_gcd
    exact (r_seq (r_while 1000 (passes_of rfl) (r_tcmp p_gt (r_var 1) r_int)
      (r_last (r_par sc.nd rfl (ra_cons (r_var 1) (ra_cons (r_op p_mod (r_var 0) (r_var 1)) ra_nil)))))
    (r_last (r_ret (r_var 0))))
abbrev s_turned : Stmt := top 5
theorem sc_turned : FnScope n_turned ["arrangement", "seats"] (defScope s_turned) := ⟨rfl, rfl, rfl, by decide +kernel, rfl, by decide +kernel, by decide +kernel⟩
theorem ok_turned {f : Addr} {fd : FuncData} (F : Fun K "turned" "turned" s_turned f fd) (T : Txt mg) : FnOk P w K mg base (L2.CX P w) 1 f fd ["arrangement", "seats"] (spM K mg m_turned) :=
  fn_ok (k := 0) F sc_turned fun cdv A outer s H E hr => by
    have tk : Takes (cxOf (L2.CX P w) P w K mg base n_turned "turned" (defScope s_turned) f cdv A outer s H E) (fun cls d _ H => E cls d H) := takes_of rfl rfl rfl rfl
    have sc := sc_turned
    exact (r_seq (r_par sc.nd rfl (ra_cons (r_callTy (c_list true) T.n_list (by decide +kernel) (ra_cons (r_var 0) ra_nil)) (ra_cons (r_callB c_len T.n_len (by decide +kernel) (ra_cons (r_var 0) ra_nil)) ra_nil)))
    (r_seq (r_for (passes_of rfl) rfl (ri_enum T.n_enumerate (ra_cons (r_var 0) ra_nil)) (g_tp rfl (gs_cons (g_nm sc.nd) (gs_cons (g_nm sc.nd) gs_nil)))
      (r_last (r_asgT (r_op p_mod (r_op (p_add false) (r_var 5) (r_var 1)) (r_var 3)) (q_sub (W := W0) p_set (r_var 2) (r_op p_mod (r_op (p_add false) (r_var 4) (r_var 1)) (r_var 3))))))
    (r_last (r_ret (r_callTy c_tuple T.n_tuple (by decide +kernel) (ra_cons (r_var 2) ra_nil))))))
abbrev s_period : Stmt := top 6
theorem sc_period : FnScope n_period ["arrangement"] (defScope s_period) := ⟨rfl, rfl, rfl, by decide +kernel, rfl, by decide +kernel, by decide +kernel⟩
theorem ok_period {f : Addr} {fd : FuncData} (F : Fun K "period" "period" s_period f fd) (T : Txt mg) {f_turned : Addr} {fd_turned : FuncData} (d_turned : Df P w K mg base 1 "turned" ["arrangement", "seats"] f_turned fd_turned m_turned) : FnOk P w K mg base (L2.CX P w) 2 f fd ["arrangement"] (spM K mg m_period) :=
  fn_ok (k := 1) F sc_period fun cdv A outer s H E hr => by
    have tk : Takes (cxOf (L2.CX P w) P w K mg base n_period "period" (defScope s_period) f cdv A outer s H E) (fun cls d _ H => E cls d H) := takes_of rfl rfl rfl rfl
    have sc := sc_period
    exact (r_seq (r_set sc.nd r_int)
    (r_seq (r_while 1000 (passes_of rfl) (r_tcmp (p_ne hr.units) (r_own d_turned hr tk (ra_cons (r_var 0) (ra_cons (r_var 1) ra_nil))) (r_callTy c_tuple T.n_tuple (by decide +kernel) (ra_cons (r_var 0) ra_nil)))
      (r_last (r_aug sc.nd p_iadd r_int)))
    (r_last (r_ret (r_var 1)))))
abbrev s_choose : Stmt := top 7
theorem sc_choose : FnScope n_choose ["things", "some"] (defScope s_choose) := ⟨rfl, rfl, rfl, by decide +kernel, rfl, by decide +kernel, by decide +kernel⟩
theorem ok_choose {f : Addr} {fd : FuncData} (F : Fun K "choose" "choose" s_choose f fd) (T : Txt mg) : FnOk P w K mg base (L2.CX P w) 1 f fd ["things", "some"] (spM K mg m_choose) :=
  fn_ok (k := 0) F sc_choose fun cdv A outer s H E hr => by
    have tk : Takes (cxOf (L2.CX P w) P w K mg base n_choose "choose" (defScope s_choose) f cdv A outer s H E) (fun cls d _ H => E cls d H) := takes_of rfl rfl rfl rfl
    have sc := sc_choose
    exact (r_seq (r_set sc.nd r_int)
    (r_seq (r_for (passes_of rfl) rfl (ri_range1 T.n_range (ra_cons (r_var 1) ra_nil)) (g_nm sc.nd)
      (r_last (r_set sc.nd (r_op p_fdiv (r_op (p_mul false) (r_var 2) (r_op p_sub (r_var 0) (r_var 3))) (r_op (p_add false) (r_var 3) r_int)))))
    (r_last (r_ret (r_var 2)))))
abbrev s_alike_many : Stmt := top 8
theorem sc_alike_many : FnScope n_alike_many ["people", "seats"] (defScope s_alike_many) := ⟨rfl, rfl, rfl, by decide +kernel, rfl, by decide +kernel, by decide +kernel⟩
theorem t_k_alike_many_0_seats_people {f : Addr} {fd : FuncData} (F : Fun K "alike_many" "alike_many" s_alike_many f fd) : KwB K fd ["people", "seats"] ["seats", "people"] 0 2 [1, 0] := by
  obtain ⟨oc, od, kV, doc, pm, an, cdv, ct, osl, rfl, lk, hcd⟩ := F.ex
  intro s us ws _ h1 h2
  match us, ws, h1, h2 with
  | [], [b0, b1], _, _ => exact .of_eq rfl
theorem ok_alike_many {f : Addr} {fd : FuncData} (F : Fun K "alike_many" "alike_many" s_alike_many f fd) (T : Txt mg) {f_gcd : Addr} {fd_gcd : FuncData} (d_gcd : Df P w K mg base 1 "gcd" ["one", "other"] f_gcd fd_gcd m_gcd) {f_catalan : Addr} {fd_catalan : FuncData} (d_catalan : Df P w K mg base 1 "catalan" ["pairs"] f_catalan fd_catalan m_catalan) {f_choose : Addr} {fd_choose : FuncData} (d_choose : Df P w K mg base 1 "choose" ["things", "some"] f_choose fd_choose m_choose) : FnOk P w K mg base (L2.CX P w) 2 f fd ["people", "seats"] (spM K mg m_alike_many) :=
  fn_ok (k := 1) F sc_alike_many fun cdv A outer s H E hr => by
    have tk : Takes (cxOf (L2.CX P w) P w K mg base n_alike_many "alike_many" (defScope s_alike_many) f cdv A outer s H E) (fun cls d _ H => E cls d H) := takes_of rfl rfl rfl rfl
    have sc := sc_alike_many
    exact (r_seq (r_if (r_tcmp (p_eq hr.units) (r_var 0) r_int)
      (r_last (r_ret r_int))
      r_nil)
    (r_seq (r_set sc.nd (r_op p_fdiv (r_var 0) (r_own d_gcd hr tk (ra_cons (r_var 0) (ra_cons (r_op p_mod (r_var 1) (r_var 0)) ra_nil)))))
    (r_seq (r_if (r_tcmp (p_eq hr.units) (r_var 2) r_int)
      (r_last (r_ret (r_own d_catalan hr tk (ra_cons (r_op p_fdiv (r_var 0) r_int) ra_nil))))
      r_nil)
    (r_seq (r_if (r_tcmp (p_eq hr.units) (r_var 2) r_int)
      (r_last (r_ret (r_own d_choose hr tk (ra_cons (r_op p_fdiv (r_var 0) r_int) (ra_cons (r_op p_fdiv (r_var 0) r_int) ra_nil)))))
      r_nil)
    (r_last (r_ret (r_ifE (r_tcmp (p_eq hr.units) (r_op p_mod (r_op p_fdiv (r_var 0) r_int) (r_var 2)) r_int) (r_own d_choose hr tk (ra_cons (r_op p_fdiv (r_var 0) (r_var 2)) (ra_cons (r_op p_fdiv (r_var 0) (r_op (p_mul false) r_int (r_var 2))) ra_nil))) r_int)))))))
abbrev s_law_cell_at : Stmt := top 10
theorem sc_law_cell_at : FnScope n_law_cell_at ["_law_script", "_law_k"] (defScope s_law_cell_at) := ⟨rfl, rfl, rfl, by decide +kernel, rfl, by decide +kernel, by decide +kernel⟩
theorem ok_law_cell_at {f : Addr} {fd : FuncData} (F : Fun K "_law_cell_at" "_law_cell_at" s_law_cell_at f fd) (T : Txt mg) : FnOk P w K mg base (L2.CX P w) 1 f fd ["_law_script", "_law_k"] (spM K mg m_law_cell_at) :=
  fn_ok (k := 0) F sc_law_cell_at fun cdv A outer s H E hr => by
    have tk : Takes (cxOf (L2.CX P w) P w K mg base n_law_cell_at "_law_cell_at" (defScope s_law_cell_at) f cdv A outer s H E) (fun cls d _ H => E cls d H) := takes_of rfl rfl rfl rfl
    have sc := sc_law_cell_at
    exact (r_seq (r_if (r_tcmp p_lt (r_var 1) (r_callB c_len T.n_len (by decide +kernel) (ra_cons (r_var 0) ra_nil)))
      (r_last (r_ret (r_ix p_ix (r_var 0) (r_var 1))))
      r_nil)
    (r_last (r_ret r_int)))
abbrev s_law_box : Stmt := top 11
theorem sc_law_box : FnScope n_law_box ["_law_script", "_law_k"] (defScope s_law_box) := ⟨rfl, rfl, rfl, by decide +kernel, rfl, by decide +kernel, by decide +kernel⟩
theorem ok_law_box {f : Addr} {fd : FuncData} (F : Fun K "_law_box" "_law_box" s_law_box f fd) (T : Txt mg) {f_law_cell_at : Addr} {fd_law_cell_at : FuncData} (d_law_cell_at : Df P w K mg base 1 "_law_cell_at" ["_law_script", "_law_k"] f_law_cell_at fd_law_cell_at m_law_cell_at) : FnOk P w K mg base (L2.CX P w) 2 f fd ["_law_script", "_law_k"] (spM K mg m_law_box) :=
  fn_okR (k := 1) F sc_law_box fun cdv A outer s H E hr => by
    have tk : Takes (cxOf (L2.CX P w) P w K mg base n_law_box "_law_box" (defScope s_law_box) f cdv A outer s H E) (fun cls d _ H => E cls d H) := takes_of rfl rfl rfl rfl
    have sc := sc_law_box
    exact (r_seq (r_set sc.nd (r_own d_law_cell_at hr tk (ra_cons (r_var 0) (ra_cons (r_var 1) ra_nil))))
    (r_last (r_ret (r_lst true (ra_cons (r_op (p_mul false) (r_callB c_abs T.n_abs (by decide +kernel) (ra_cons (r_var 2) ra_nil)) (r_callTy c_int T.n_int (by decide +kernel) (ra_cons (r_cmp p_ge (r_callB c_abs T.n_abs (by decide +kernel) (ra_cons (r_var 2) ra_nil)) (r_op p_pow r_int r_int)) ra_nil))) (ra_cons (r_op (p_add false) (r_op (p_add false) (r_op p_mod (r_var 2) r_int) (r_op (p_mul false) r_int (r_var 1))) r_int) (ra_cons r_int ra_nil)))))))
abbrev s_law_take : Stmt := top 12
theorem sc_law_take : FnScope n_law_take ["_law_box_here", "_law_below"] (defScope s_law_take) := ⟨rfl, rfl, rfl, by decide +kernel, rfl, by decide +kernel, by decide +kernel⟩
theorem ok_law_take {f : Addr} {fd : FuncData} (F : Fun K "_law_take" "_law_take" s_law_take f fd) (T : Txt mg) (gl : mg "_law_take" = some (.ref f)) (bd : Binds K fd ["_law_box_here", "_law_below"] []) : ∀ n : Nat, n ≤ 4 → FnOk P w K mg base (L2.CX P w) (0 + n) f fd ["_law_box_here", "_law_below"] (spM K mg (r_law_take n))
  | 0, _ => fn_zero
  | n + 1, hn => fn_ok (k := 0 + n) F sc_law_take fun cdv A outer s H E hr => by
    have tk : Takes (cxOf (L2.CX P w) P w K mg base n_law_take "_law_take" (defScope s_law_take) f cdv A outer s H E) (fun cls d _ H => E cls d H) := takes_of rfl rfl rfl rfl
    have sc := sc_law_take
    have d_law_take : Df P w K mg base (0 + n) "_law_take" ["_law_box_here", "_law_below"] f fd (r_law_take n) := ⟨ok_law_take F T gl bd  n (Nat.le_of_succ_le hn), gl, F.kp, bd⟩
    exact (r_seq (r_if (r_tcmp p_gt (r_ix p_ix (r_var 0) r_int) r_int)
      (r_seq (r_set sc.nd (r_op p_mod (r_ix p_ix (r_var 0) r_int) (r_var 1)))
    (r_seq (r_asgT (r_op p_fdiv (r_ix p_ix (r_var 0) r_int) (r_var 1)) (q_sub (W := W0) p_set (r_var 0) r_int))
    (r_last (r_ret (r_var 2)))))
      r_nil)
    (r_seq (r_if (r_tcmp p_gt (r_var 1) (r_op p_pow r_int r_int))
      (r_last (r_ret (r_op p_mod (r_op (p_add false) (r_own (hj := Nat.le_refl _) d_law_take hr tk (ra_cons (r_var 0) (ra_cons (r_op p_pow r_int r_int) ra_nil))) (r_op (p_mul false) (r_op p_pow r_int r_int) (r_own (hj := Nat.le_refl _) d_law_take hr tk (ra_cons (r_var 0) (ra_cons (r_op (p_add false) (r_op p_fdiv (r_var 1) (r_op p_pow r_int r_int)) r_int) ra_nil))))) (r_var 1))))
      r_nil)
    (r_seq (r_asgT (r_op (p_add false) (r_ix p_ix (r_var 0) r_int) r_int) (q_sub (W := W0) p_set (r_var 0) r_int))
    (r_seq (r_set sc.nd (r_op p_mod (r_op (p_mul false) (r_op (p_add false) (r_ix p_ix (r_var 0) r_int) (r_op (p_mul false) r_int (r_ix p_ix (r_var 0) r_int))) (r_op (p_add false) r_int (r_ix p_ix (r_var 0) r_int))) r_int))
    (r_seq (r_set sc.nd (r_op p_mod (r_op (p_mul false) (r_op (p_add false) (r_op (p_add false) (r_var 3) (r_ix p_ix (r_var 0) r_int)) (r_op p_fdiv (r_ix p_ix (r_var 0) r_int) r_int)) (r_op (p_add false) (r_op p_mod (r_var 3) r_int) r_int)) r_int))
    (r_last (r_ret (r_op p_mod (r_op p_fdiv (r_op p_mod (r_op (p_add false) (r_op (p_mul false) (r_var 4) r_int) (r_var 3)) r_int) r_int) (r_var 1)))))))))
abbrev s_law_of : Stmt := top 13
theorem sc_law_of : FnScope n_law_of ["_law_box_here", "_law_pool"] (defScope s_law_of) := ⟨rfl, rfl, rfl, by decide +kernel, rfl, by decide +kernel, by decide +kernel⟩
theorem ok_law_of {f : Addr} {fd : FuncData} (F : Fun K "_law_of" "_law_of" s_law_of f fd) (T : Txt mg) {f_law_take : Addr} {fd_law_take : FuncData} (d_law_take : Df P w K mg base 4 "_law_take" ["_law_box_here", "_law_below"] f_law_take fd_law_take m_law_take) : FnOk P w K mg base (L2.CX P w) 5 f fd ["_law_box_here", "_law_pool"] (spM K mg m_law_of) :=
  fn_ok (k := 4) F sc_law_of fun cdv A outer s H E hr => by
    have tk : Takes (cxOf (L2.CX P w) P w K mg base n_law_of "_law_of" (defScope s_law_of) f cdv A outer s H E) (fun cls d _ H => E cls d H) := takes_of rfl rfl rfl rfl
    have sc := sc_law_of
    exact (r_last (r_ret (r_ix p_ix (r_var 1) (r_own d_law_take hr tk (ra_cons (r_var 0) (ra_cons (r_callB c_len T.n_len (by decide +kernel) (ra_cons (r_var 1) ra_nil)) ra_nil))))))
abbrev s_law_same : Stmt := top 14
theorem sc_law_same : FnScope n_law_same ["_law_found", "_law_due"] (defScope s_law_same) := ⟨rfl, rfl, rfl, by decide +kernel, rfl, by decide +kernel, by decide +kernel⟩
theorem ok_law_same {f : Addr} {fd : FuncData} (F : Fun K "_law_same" "_law_same" s_law_same f fd) (T : Txt mg) (gl : mg "_law_same" = some (.ref f)) (bd : Binds K fd ["_law_found", "_law_due"] []) : ∀ n : Nat, n ≤ 4 → FnOk P w K mg base (L2.CX P w) (0 + n) f fd ["_law_found", "_law_due"] (spM K mg (r_law_same n))
  | 0, _ => fn_zero
  | n + 1, hn => fn_ok (k := 0 + n) F sc_law_same fun cdv A outer s H E hr => by
    have tk : Takes (cxOf (L2.CX P w) P w K mg base n_law_same "_law_same" (defScope s_law_same) f cdv A outer s H E) (fun cls d _ H => E cls d H) := takes_of rfl rfl rfl rfl
    have sc := sc_law_same
    have d_law_same : Df P w K mg base (0 + n) "_law_same" ["_law_found", "_law_due"] f fd (r_law_same n) := ⟨ok_law_same F T gl bd  n (Nat.le_of_succ_le hn), gl, F.kp, bd⟩
    exact (r_seq (r_if (r_tru (r_isi2 T.n_isinstance (r_var 1) T.n_list (by decide +kernel) kit_list T.n_tuple (by decide +kernel) kit_tuple))
      (r_seq (r_if (r_bool (r_or (r_tcmp (p_ne hr.units) (r_isi T.n_isinstance (r_var 0) T.n_list (by decide +kernel) kit_list) (r_isi T.n_isinstance (r_var 1) T.n_list (by decide +kernel) kit_list)) (r_or1 (r_tcmp (p_ne hr.units) (r_isi T.n_isinstance (r_var 0) T.n_tuple (by decide +kernel) kit_tuple) (r_isi T.n_isinstance (r_var 1) T.n_tuple (by decide +kernel) kit_tuple)))))
      (r_last (r_ret r_bl))
      r_nil)
    (r_last (r_ret (r_andV (r_cmp (p_eq hr.units) (r_callB c_len T.n_len (by decide +kernel) (ra_cons (r_var 0) ra_nil)) (r_callB c_len T.n_len (by decide +kernel) (ra_cons (r_var 1) ra_nil))) (r_one (r_callB (c_all rfl) T.n_all (by decide +kernel) (ra_cons (r_lc sc.nd rfl (ri_zip T.n_zip (ra_cons (r_var 0) (ra_cons (r_var 1) ra_nil))) (blkOk_by (own := [("_law_a", 2), ("_law_b", 3)]) (N := n_law_same) (sc := defScope s_law_same) (by decide +kernel)) ⟨fun _ _ _ _ _ => (g_tp rfl (gs_cons (g_nm sc.nd) (gs_cons (g_nm sc.nd) gs_nil))), fun _ _ _ _ _ => rts_nil, fun _ _ _ _ _ => (r_own (hj := Nat.le_refl _) d_law_same hr takes0 (ra_cons (r_var 2) (ra_cons (r_var 3) ra_nil)))⟩ (by decide)) ra_nil)))))))
      r_nil)
    (r_seq (r_if (r_bool (r_or (r_tcmp p_isN (r_var 1) r_non) (r_or1 (r_tru (r_isi2 T.n_isinstance (r_var 1) T.n_bool (by decide +kernel) kit_bool T.n_str (by decide +kernel) kit_str)))))
      (r_last (r_ret (r_andV (r_cmp (p_eq hr.units) (r_var 0) (r_var 1)) (r_andV (r_cmp (p_eq hr.units) (r_isi T.n_isinstance (r_var 0) T.n_bool (by decide +kernel) kit_bool) (r_isi T.n_isinstance (r_var 1) T.n_bool (by decide +kernel) kit_bool)) (r_one (r_cmp (p_eq hr.units) (r_cmp p_isN (r_var 0) r_non) (r_cmp p_isN (r_var 1) r_non)))))))
      r_nil)
    (r_last (r_ret (r_andV (r_isi T.n_isinstance (r_var 0) T.n_int (by decide +kernel) kit_int) (r_andV (r_notV (r_isi T.n_isinstance (r_var 0) T.n_bool (by decide +kernel) kit_bool)) (r_one (r_cmp (p_eq hr.units) (r_var 0) (r_var 1)))))))))
abbrev s_law_every : Stmt := top 15
theorem sc_law_every : FnScope n_law_every ["_law_size"] (defScope s_law_every) := ⟨rfl, rfl, rfl, by decide +kernel, rfl, by decide +kernel, by decide +kernel⟩
theorem ok_law_every {f : Addr} {fd : FuncData} (F : Fun K "_law_every" "_law_every" s_law_every f fd) (T : Txt mg) (gl : mg "_law_every" = some (.ref f)) (bd : Binds K fd ["_law_size"] []) : ∀ n : Nat, n ≤ 6 → FnOk P w K mg base (L2.CX P w) (0 + n) f fd ["_law_size"] (spM K mg (r_law_every n))
  | 0, _ => fn_zero
  | n + 1, hn => fn_ok (k := 0 + n) F sc_law_every fun cdv A outer s H E hr => by
    have tk : Takes (cxOf (L2.CX P w) P w K mg base n_law_every "_law_every" (defScope s_law_every) f cdv A outer s H E) (fun cls d _ H => E cls d H) := takes_of rfl rfl rfl rfl
    have sc := sc_law_every
    have d_law_every : Df P w K mg base (0 + n) "_law_every" ["_law_size"] f fd (r_law_every n) := ⟨ok_law_every F T gl bd  n (Nat.le_of_succ_le hn), gl, F.kp, bd⟩
    exact (r_seq (r_if (r_tcmp (p_eq hr.units) (r_var 0) r_int)
      (r_last (r_ret (r_lst false (ra_cons (r_tup ra_nil) ra_nil))))
      r_nil)
    (r_seq (r_set sc.nd (r_lst true ra_nil))
    (r_seq (r_for (passes_of rfl) rfl (ri_range3 T.n_range (ra_cons r_int (ra_cons (r_var 0) (ra_cons r_int ra_nil)))) (g_nm sc.nd)
      (r_last (r_for (passes_of rfl) rfl (ri_seq (r_own (hj := Nat.le_refl _) d_law_every hr tk (ra_cons (r_op p_sub (r_var 2) r_int) ra_nil))) (g_nm sc.nd)
      (r_seq (r_set sc.nd (r_op (p_add false) (r_op (p_add false) (r_tup (ra_cons (r_var 2) ra_nil)) (r_callTy c_tuple T.n_tuple (by decide +kernel) (ra_cons (r_lc sc.nd rfl (ri_seq (r_var 3)) (blkOk_by (own := [("_law_its", 5)]) (N := n_law_every) (sc := defScope s_law_every) (by decide +kernel)) ⟨fun _ _ _ _ _ => (g_nm sc.nd), fun _ _ _ _ _ => rts_nil, fun _ _ _ _ _ => (r_op (p_add false) (r_var 5) r_int)⟩ (by decide)) ra_nil))) (r_tup (ra_cons r_int ra_nil))))
    (r_last (r_expr (r_lm PySem.F.slot_list_extend PySem.F.type_list_extend m_extend (r_var 1) (ra_cons (r_lc sc.nd rfl (ri_seq (r_own (hj := Nat.le_refl _) d_law_every hr tk (ra_cons (r_op p_sub (r_op p_sub (r_var 0) (r_var 2)) r_int) ra_nil))) (blkOk_by (own := [("_law_tail", 6)]) (N := n_law_every) (sc := defScope s_law_every) (by decide +kernel)) ⟨fun _ _ _ _ _ => (g_nm sc.nd), fun _ _ _ _ _ => rts_nil, fun _ _ _ _ _ => (r_op (p_add false) (r_var 4) (r_callTy c_tuple T.n_tuple (by decide +kernel) (ra_cons (r_lc sc.nd rfl (ri_seq (r_var 6)) (blkOk_in (own := [("_law_its", 5)]) (N := n_law_every) (sc := defScope s_law_every) (by decide +kernel)) ⟨fun _ _ _ _ _ => (g_nm sc.nd), fun _ _ _ _ _ => rts_nil, fun _ _ _ _ _ => (r_op (p_add false) (r_op (p_add false) (r_var 5) (r_var 2)) r_int)⟩ (by decide)) ra_nil)))⟩ (by decide)) ra_nil))))))))
    (r_last (r_ret (r_callB (c_sorted false) T.n_sorted (by decide +kernel) (ra_cons (r_var 1) ra_nil)))))))
abbrev s_law_moved : Stmt := top 16
theorem sc_law_moved : FnScope n_law_moved ["_law_hall", "_law_far"] (defScope s_law_moved) := ⟨rfl, rfl, rfl, by decide +kernel, rfl, by decide +kernel, by decide +kernel⟩
theorem ok_law_moved {f : Addr} {fd : FuncData} (F : Fun K "_law_moved" "_law_moved" s_law_moved f fd) (T : Txt mg) : FnOk P w K mg base (L2.CX P w) 1 f fd ["_law_hall", "_law_far"] (spM K mg m_law_moved) :=
  fn_ok (k := 0) F sc_law_moved fun cdv A outer s H E hr => by
    have tk : Takes (cxOf (L2.CX P w) P w K mg base n_law_moved "_law_moved" (defScope s_law_moved) f cdv A outer s H E) (fun cls d _ H => E cls d H) := takes_of rfl rfl rfl rfl
    have sc := sc_law_moved
    exact (r_seq (r_set sc.nd (r_callB c_len T.n_len (by decide +kernel) (ra_cons (r_var 0) ra_nil)))
    (r_seq (r_set sc.nd (r_op (p_mul true) (r_lst false (ra_cons r_int ra_nil)) (r_var 2)))
    (r_seq (r_for (passes_of rfl) rfl (ri_range1 T.n_range (ra_cons (r_var 2) ra_nil)) (g_nm sc.nd)
      (r_last (r_asgT (r_op p_mod (r_op (p_add false) (r_ix p_ix (r_var 0) (r_var 4)) (r_var 1)) (r_var 2)) (q_sub (W := W0) p_set (r_var 3) (r_op p_mod (r_op (p_add false) (r_var 4) (r_var 1)) (r_var 2))))))
    (r_last (r_ret (r_callTy c_tuple T.n_tuple (by decide +kernel) (ra_cons (r_var 3) ra_nil)))))))
abbrev s_law_few_right : Stmt := top 17
theorem sc_law_few_right : FnScope n_law_few_right ["_law_box_here", "_law_size"] (defScope s_law_few_right) := ⟨rfl, rfl, rfl, by decide +kernel, rfl, by decide +kernel, by decide +kernel⟩
theorem ok_law_few_right {f : Addr} {fd : FuncData} (F : Fun K "_law_few_right" "_law_few_right" s_law_few_right f fd) (T : Txt mg) {f_law_every : Addr} {fd_law_every : FuncData} (d_law_every : Df P w K mg base 6 "_law_every" ["_law_size"] f_law_every fd_law_every m_law_every) {f_law_of : Addr} {fd_law_of : FuncData} (d_law_of : Df P w K mg base 5 "_law_of" ["_law_box_here", "_law_pool"] f_law_of fd_law_of m_law_of) {f_alike_many : Addr} {fd_alike_many : FuncData} (d_alike_many : Df P w K mg base 2 "alike_many" ["people", "seats"] f_alike_many fd_alike_many m_alike_many) {f_law_same : Addr} {fd_law_same : FuncData} (d_law_same : Df P w K mg base 4 "_law_same" ["_law_found", "_law_due"] f_law_same fd_law_same m_law_same) {f_law_take : Addr} {fd_law_take : FuncData} (d_law_take : Df P w K mg base 4 "_law_take" ["_law_box_here", "_law_below"] f_law_take fd_law_take m_law_take) {f_law_moved : Addr} {fd_law_moved : FuncData} (d_law_moved : Df P w K mg base 1 "_law_moved" ["_law_hall", "_law_far"] f_law_moved fd_law_moved m_law_moved) {f_period : Addr} {fd_period : FuncData} (d_period : Df P w K mg base 2 "period" ["arrangement"] f_period fd_period m_period) (k_alike_many_0_seats_people : KwB K fd_alike_many ["people", "seats"] ["seats", "people"] 0 2 [1, 0]) : FnOk P w K mg base (L2.CX P w) 7 f fd ["_law_box_here", "_law_size"] (spM K mg m_law_few_right) :=
  fn_ok (k := 6) F sc_law_few_right fun cdv A outer s H E hr => by
    have tk : Takes (cxOf (L2.CX P w) P w K mg base n_law_few_right "_law_few_right" (defScope s_law_few_right) f cdv A outer s H E) (fun cls d _ H => E cls d H) := takes_of rfl rfl rfl rfl
    have sc := sc_law_few_right
    exact (r_seq (r_set sc.nd (r_own d_law_every hr tk (ra_cons (r_var 1) ra_nil)))
    (r_seq (r_for (passes_of rfl) rfl (ri_range1 T.n_range (ra_cons (r_callB (c_max2 rfl) T.n_max (by decide +kernel) (ra_cons r_int (ra_cons (r_var 1) ra_nil))) ra_nil)) (g_nm sc.nd)
      (r_seq (r_setLc sc.nd rfl (ri_seq (r_var 2)) (blkOk_by (own := [("_law_hall", 7)]) (N := n_law_few_right) (sc := defScope s_law_few_right) (by decide +kernel)) ⟨fun _ _ _ _ _ => (g_nm sc.nd), fun _ _ _ _ _ => (rts_one (r_bool (r_or (r_tcmp (p_eq hr.units) (r_var 1) r_int) (r_or1 (r_tcmp (p_eq hr.units) (r_own d_law_moved hr takes0 (ra_cons (r_var 7) (ra_cons (r_var 3) ra_nil))) (r_var 7)))))), fun _ _ _ _ _ => (r_var 7)⟩ (by decide) (sw_true rfl rfl rfl (by decide +kernel)))
    (r_seq (r_set sc.nd (r_op (p_add false) (r_var 3) (r_op (p_mul false) (r_callB (c_max2 rfl) T.n_max (by decide +kernel) (ra_cons r_int (ra_cons (r_var 1) ra_nil))) (r_op p_sub (r_own d_law_take hr tk (ra_cons (r_var 0) (ra_cons (r_op p_pow r_int r_int) ra_nil))) (r_op (p_mul false) r_int (r_op p_pow r_int r_int))))))
    (r_seq (r_set sc.nd (r_lst false (ra_cons (r_own d_alike_many hr tk (ra_cons (r_var 1) (ra_cons (r_var 3) ra_nil))) (ra_cons (r_ownK0 d_alike_many hr tk k_alike_many_0_seats_people (rk_cons (r_var 5) (rk_cons (r_var 1) rk_nil)) (hnk := (a_lenS (a_lenS a_len0)))) (ra_cons (r_own d_alike_many hr tk (ra_cons (r_var 1) (ra_cons (r_un p_neg (r_var 3)) ra_nil))) ra_nil)))))
    (r_seq (r_if (r_not (r_tru (r_own d_law_same hr tk (ra_cons (r_var 6) (ra_cons (r_op (p_mul false) (r_lst false (ra_cons (r_callB c_len T.n_len (by decide +kernel) (ra_cons (r_var 4) ra_nil)) ra_nil)) r_int) ra_nil)))))
      (r_last (r_ret r_bl))
      r_nil)
    (r_seq (r_set sc.nd (r_own d_law_of hr tk (ra_cons (r_var 0) (ra_cons (r_var 2) ra_nil))))
    (r_last (r_if (r_bool (r_and (r_tcmp p_gt (r_var 3) r_int) (r_and1 (r_tcmp (p_ne hr.units) (r_cmp (p_in (room65 hr)) (r_var 7) (r_var 4)) (r_cmp (p_eq hr.units) (r_op p_mod (r_var 3) (r_own d_period hr tk (ra_cons (r_var 7) ra_nil))) r_int)))))
      (r_last (r_ret r_bl))
      r_nil))))))))
    (r_last (r_ret r_bl))))
abbrev s_law_known_right : Stmt := top 18
theorem sc_law_known_right : FnScope n_law_known_right [] (defScope s_law_known_right) := ⟨rfl, rfl, rfl, by decide +kernel, rfl, by decide +kernel, by decide +kernel⟩
theorem ok_law_known_right {f : Addr} {fd : FuncData} (F : Fun K "_law_known_right" "_law_known_right" s_law_known_right f fd) (T : Txt mg) {f_alike_many : Addr} {fd_alike_many : FuncData} (d_alike_many : Df P w K mg base 2 "alike_many" ["people", "seats"] f_alike_many fd_alike_many m_alike_many) {f_law_same : Addr} {fd_law_same : FuncData} (d_law_same : Df P w K mg base 4 "_law_same" ["_law_found", "_law_due"] f_law_same fd_law_same m_law_same) {f_turned : Addr} {fd_turned : FuncData} (d_turned : Df P w K mg base 1 "turned" ["arrangement", "seats"] f_turned fd_turned m_turned) {f_period : Addr} {fd_period : FuncData} (d_period : Df P w K mg base 2 "period" ["arrangement"] f_period fd_period m_period) : FnOk P w K mg base (L2.CX P w) 5 f fd [] (spM K mg m_law_known_right) :=
  fn_ok (k := 4) F sc_law_known_right fun cdv A outer s H E hr => by
    have tk : Takes (cxOf (L2.CX P w) P w K mg base n_law_known_right "_law_known_right" (defScope s_law_known_right) f cdv A outer s H E) (fun cls d _ H => E cls d H) := takes_of rfl rfl rfl rfl
    have sc := sc_law_known_right
    exact (r_seq (r_setLc sc.nd rfl (ri_seq (r_tup (ra_cons r_int (ra_cons r_int (ra_cons r_int (ra_cons r_int (ra_cons r_int (ra_cons r_int (ra_cons r_int (ra_cons r_int (ra_cons r_int (ra_cons r_int (ra_cons r_int (ra_cons r_int (ra_cons r_int ra_nil))))))))))))))) (blkOk_by (own := [("_law_seats_so", 3)]) (N := n_law_known_right) (sc := defScope s_law_known_right) (by decide +kernel)) ⟨fun _ _ _ _ _ => (g_nm sc.nd), fun _ _ _ _ _ => rts_nil, fun _ _ _ _ _ => (r_own d_alike_many hr takes0 (ra_cons r_int (ra_cons (r_var 3) ra_nil)))⟩ (by decide) (sw_true rfl rfl rfl (by decide +kernel)))
    (r_seq (r_if (r_not (r_tru (r_own d_law_same hr tk (ra_cons (r_var 0) (ra_cons (r_lst false (ra_cons r_int (ra_cons r_int (ra_cons r_int (ra_cons r_int (ra_cons r_int (ra_cons r_int (ra_cons r_int (ra_cons r_int (ra_cons r_int (ra_cons r_int (ra_cons r_int (ra_cons r_int (ra_cons r_int ra_nil)))))))))))))) ra_nil)))))
      (r_last (r_ret r_bl))
      r_nil)
    (r_seq (r_set sc.nd (r_lst false (ra_cons (r_own d_alike_many hr tk (ra_cons r_int (ra_cons r_int ra_nil))) (ra_cons (r_own d_alike_many hr tk (ra_cons r_int (ra_cons r_int ra_nil))) (ra_cons (r_own d_alike_many hr tk (ra_cons r_int (ra_cons r_int ra_nil))) (ra_cons (r_own d_alike_many hr tk (ra_cons r_int (ra_cons r_int ra_nil))) (ra_cons (r_own d_alike_many hr tk (ra_cons r_int (ra_cons r_int ra_nil))) ra_nil)))))))
    (r_seq (r_set sc.nd (r_op (p_add false) (r_var 0) (r_lst false (ra_cons (r_own d_alike_many hr tk (ra_cons r_int (ra_cons r_int ra_nil))) ra_nil))))
    (r_seq (r_if (r_not (r_tru (r_own d_law_same hr tk (ra_cons (r_var 0) (ra_cons (r_lst false (ra_cons r_int (ra_cons r_int (ra_cons r_int (ra_cons r_int (ra_cons r_int (ra_cons r_int ra_nil))))))) ra_nil)))))
      (r_last (r_ret r_bl))
      r_nil)
    (r_seq (r_par sc.nd rfl (ra_cons (r_callTy c_tuple T.n_tuple (by decide +kernel) (ra_cons (r_lc sc.nd rfl (ri_range1 T.n_range (ra_cons r_int ra_nil)) (blkOk_by (own := [("_law_k", 4)]) (N := n_law_known_right) (sc := defScope s_law_known_right) (by decide +kernel)) ⟨fun _ _ _ _ _ => (g_nm sc.nd), fun _ _ _ _ _ => rts_nil, fun _ _ _ _ _ => (r_op p_sub (r_op (p_add false) (r_var 4) r_int) (r_op (p_mul false) r_int (r_op p_mod (r_var 4) r_int)))⟩ (by decide)) ra_nil)) (ra_cons (r_tup (ra_cons r_int (ra_cons r_int (ra_cons r_int (ra_cons r_int (ra_cons r_int (ra_cons r_int ra_nil))))))) ra_nil)))
    (r_last (r_ret (r_andV (r_cmp (p_eq hr.units) (r_own d_turned hr tk (ra_cons (r_var 1) (ra_cons r_int ra_nil))) (r_var 1)) (r_one (r_cmp (p_eq hr.units) (r_lst false (ra_cons (r_own d_period hr tk (ra_cons (r_var 1) ra_nil)) (ra_cons (r_own d_period hr tk (ra_cons (r_var 2) ra_nil)) (ra_cons (r_cmp (p_eq hr.units) (r_own d_turned hr tk (ra_cons (r_var 2) (ra_cons r_int ra_nil))) (r_var 2)) ra_nil)))) (r_lst false (ra_cons r_int (ra_cons r_int (ra_cons r_bl ra_nil)))))))))))))))
abbrev s_law_right : Stmt := top 19
theorem sc_law_right : FnScope n_law_right ["_law_box_here"] (defScope s_law_right) := ⟨rfl, rfl, rfl, by decide +kernel, rfl, by decide +kernel, by decide +kernel⟩
theorem ok_law_right {f : Addr} {fd : FuncData} (F : Fun K "_law_right" "_law_right" s_law_right f fd) (T : Txt mg) {f_law_few_right : Addr} {fd_law_few_right : FuncData} (d_law_few_right : Df P w K mg base 7 "_law_few_right" ["_law_box_here", "_law_size"] f_law_few_right fd_law_few_right m_law_few_right) {f_law_known_right : Addr} {fd_law_known_right : FuncData} (d_law_known_right : Df P w K mg base 5 "_law_known_right" [] f_law_known_right fd_law_known_right m_law_known_right) {f_law_take : Addr} {fd_law_take : FuncData} (d_law_take : Df P w K mg base 4 "_law_take" ["_law_box_here", "_law_below"] f_law_take fd_law_take m_law_take) : FnOk P w K mg base (L2.CX P w) 8 f fd ["_law_box_here"] (spM K mg m_law_right) :=
  fn_ok (k := 7) F sc_law_right fun cdv A outer s H E hr => by
    have tk : Takes (cxOf (L2.CX P w) P w K mg base n_law_right "_law_right" (defScope s_law_right) f cdv A outer s H E) (fun cls d _ H => E cls d H) := takes_of rfl rfl rfl rfl
    have sc := sc_law_right
    exact (r_last (r_ret (r_andV (r_own d_law_few_right hr tk (ra_cons (r_var 0) (ra_cons (r_op (p_mul false) r_int (r_own d_law_take hr tk (ra_cons (r_var 0) (ra_cons r_int ra_nil)))) ra_nil))) (r_one (r_own0 d_law_known_right hr tk)))))
abbrev s_law : Stmt := top 20
theorem sc_law : FnScope n_law ["_law_script"] (defScope s_law) := ⟨rfl, rfl, rfl, by decide +kernel, rfl, by decide +kernel, by decide +kernel⟩
theorem ok_law {f : Addr} {fd : FuncData} (F : Fun K "law" "law" s_law f fd) (T : Txt mg) {f_law_right : Addr} {fd_law_right : FuncData} (d_law_right : Df P w K mg base 8 "_law_right" ["_law_box_here"] f_law_right fd_law_right m_law_right) {f_law_box : Addr} {fd_law_box : FuncData} (d_law_box : Df P w K mg base 2 "_law_box" ["_law_script", "_law_k"] f_law_box fd_law_box m_law_box) : FnOk P w K mg base (L2.CX P w) 9 f fd ["_law_script"] (spM K mg m_law) :=
  fn_ok (k := 8) F sc_law fun cdv A outer s H E hr => by
    have tk : Takes (cxOf (L2.CX P w) P w K mg base n_law "law" (defScope s_law) f cdv A outer s H E) (fun cls d _ H => E cls d H) := takes_of rfl rfl rfl rfl
    have sc := sc_law
    exact (r_last (r_ret (r_callB (c_all rfl) T.n_all (by decide +kernel) (ra_cons (r_lc sc.nd rfl (ri_range1 T.n_range (ra_cons (r_op (p_add false) r_int (r_callB (c_min2 rfl) T.n_min (by decide +kernel) (ra_cons r_int (ra_cons (r_callB c_len T.n_len (by decide +kernel) (ra_cons (r_var 0) ra_nil)) ra_nil)))) ra_nil)) (blkOk_by (own := [("_law_k", 1)]) (N := n_law) (sc := defScope s_law) (by decide +kernel)) ⟨fun _ _ _ _ _ => (g_nm sc.nd), fun _ _ _ _ _ => rts_nil, fun _ _ _ _ _ => (r_own d_law_right hr takes0 (ra_cons (r_own d_law_box hr takes0 (ra_cons (r_var 0) (ra_cons (r_var 1) ra_nil))) ra_nil))⟩ (by decide)) ra_nil))))
end
end Mini
namespace Mini
open PySem PySem.Spec PyProof.Rows L2
/-! ### the end -/
theorem all_mk {l : PySem.W.OpenLaw} {w : World} {K : PySem.W.Frag} {h : Heap} {mg : Str → Option Value} {fa f0 f1 f2 f3 f4 f5 f6 f7 f8 f9 f10 f11 f12 f13 f14 f15 f16 : Addr} (X : K.In h) (G : h.Ns mainGlobals mg) (hfa : mg "law" = some (.ref fa))
    {od0 an0 od1 an1 od2 an2 od3 an3 od4 an4 od5 an5 od6 an6 od7 an7 od8 an8 od9 an9 od10 an10 od11 an11 od12 an12 od13 an13 od14 an14 od15 an15 od16 an16 : Option Addr} {sl0 sl1 sl2 sl3 sl4 sl5 sl6 sl7 sl8 sl9 sl10 sl11 sl12 sl13 sl14 sl15 sl16 : Array (Option Value)} {oc0 kV0 dc0 pm0 cd0 ct0 oc1 kV1 dc1 pm1 cd1 ct1 oc2 kV2 dc2 pm2 cd2 ct2 oc3 kV3 dc3 pm3 cd3 ct3 oc4 kV4 dc4 pm4 cd4 ct4 oc5 kV5 dc5 pm5 cd5 ct5 oc6 kV6 dc6 pm6 cd6 ct6 oc7 kV7 dc7 pm7 cd7 ct7 oc8 kV8 dc8 pm8 cd8 ct8 oc9 kV9 dc9 pm9 cd9 ct9 oc10 kV10 dc10 pm10 cd10 ct10 oc11 kV11 dc11 pm11 cd11 ct11 oc12 kV12 dc12 pm12 cd12 ct12 oc13 kV13 dc13 pm13 cd13 ct13 oc14 kV14 dc14 pm14 cd14 ct14 oc15 kV15 dc15 pm15 cd15 ct15 oc16 kV16 dc16 pm16 cd16 ct16 : Value}
    (a0 : PySem.W.nsIn K mainGlobals "catalan" = some (some (.ref f0))) (l0 : K.lookup f0 = some ⟨oc0, od0, .func (PySem.W.fnOf "catalan" "catalan" (defArgs s_catalan) (defBody s_catalan) (defScope s_catalan) .none kV0 dc0 pm0 an0 cd0 ct0), sl0⟩) (c0 : PySem.W.codeIn K cd0 "catalan" = true) (k0 : PySem.W.keepIn K (.ref f0) = true)
    (a1 : PySem.W.nsIn K mainGlobals "gcd" = some (some (.ref f1))) (l1 : K.lookup f1 = some ⟨oc1, od1, .func (PySem.W.fnOf "gcd" "gcd" (defArgs s_gcd) (defBody s_gcd) (defScope s_gcd) .none kV1 dc1 pm1 an1 cd1 ct1), sl1⟩) (c1 : PySem.W.codeIn K cd1 "gcd" = true) (k1 : PySem.W.keepIn K (.ref f1) = true)
    (a2 : PySem.W.nsIn K mainGlobals "turned" = some (some (.ref f2))) (l2 : K.lookup f2 = some ⟨oc2, od2, .func (PySem.W.fnOf "turned" "turned" (defArgs s_turned) (defBody s_turned) (defScope s_turned) .none kV2 dc2 pm2 an2 cd2 ct2), sl2⟩) (c2 : PySem.W.codeIn K cd2 "turned" = true) (k2 : PySem.W.keepIn K (.ref f2) = true)
    (a3 : PySem.W.nsIn K mainGlobals "period" = some (some (.ref f3))) (l3 : K.lookup f3 = some ⟨oc3, od3, .func (PySem.W.fnOf "period" "period" (defArgs s_period) (defBody s_period) (defScope s_period) .none kV3 dc3 pm3 an3 cd3 ct3), sl3⟩) (c3 : PySem.W.codeIn K cd3 "period" = true) (k3 : PySem.W.keepIn K (.ref f3) = true)
    (a4 : PySem.W.nsIn K mainGlobals "choose" = some (some (.ref f4))) (l4 : K.lookup f4 = some ⟨oc4, od4, .func (PySem.W.fnOf "choose" "choose" (defArgs s_choose) (defBody s_choose) (defScope s_choose) .none kV4 dc4 pm4 an4 cd4 ct4), sl4⟩) (c4 : PySem.W.codeIn K cd4 "choose" = true) (k4 : PySem.W.keepIn K (.ref f4) = true)
    (a5 : PySem.W.nsIn K mainGlobals "alike_many" = some (some (.ref f5))) (l5 : K.lookup f5 = some ⟨oc5, od5, .func (PySem.W.fnOf "alike_many" "alike_many" (defArgs s_alike_many) (defBody s_alike_many) (defScope s_alike_many) .none kV5 dc5 pm5 an5 cd5 ct5), sl5⟩) (c5 : PySem.W.codeIn K cd5 "alike_many" = true) (k5 : PySem.W.keepIn K (.ref f5) = true)
    (a6 : PySem.W.nsIn K mainGlobals "_law_cell_at" = some (some (.ref f6))) (l6 : K.lookup f6 = some ⟨oc6, od6, .func (PySem.W.fnOf "_law_cell_at" "_law_cell_at" (defArgs s_law_cell_at) (defBody s_law_cell_at) (defScope s_law_cell_at) .none kV6 dc6 pm6 an6 cd6 ct6), sl6⟩) (c6 : PySem.W.codeIn K cd6 "_law_cell_at" = true) (k6 : PySem.W.keepIn K (.ref f6) = true)
    (a7 : PySem.W.nsIn K mainGlobals "_law_box" = some (some (.ref f7))) (l7 : K.lookup f7 = some ⟨oc7, od7, .func (PySem.W.fnOf "_law_box" "_law_box" (defArgs s_law_box) (defBody s_law_box) (defScope s_law_box) .none kV7 dc7 pm7 an7 cd7 ct7), sl7⟩) (c7 : PySem.W.codeIn K cd7 "_law_box" = true) (k7 : PySem.W.keepIn K (.ref f7) = true)
    (a8 : PySem.W.nsIn K mainGlobals "_law_take" = some (some (.ref f8))) (l8 : K.lookup f8 = some ⟨oc8, od8, .func (PySem.W.fnOf "_law_take" "_law_take" (defArgs s_law_take) (defBody s_law_take) (defScope s_law_take) .none kV8 dc8 pm8 an8 cd8 ct8), sl8⟩) (c8 : PySem.W.codeIn K cd8 "_law_take" = true) (k8 : PySem.W.keepIn K (.ref f8) = true)
    (a9 : PySem.W.nsIn K mainGlobals "_law_of" = some (some (.ref f9))) (l9 : K.lookup f9 = some ⟨oc9, od9, .func (PySem.W.fnOf "_law_of" "_law_of" (defArgs s_law_of) (defBody s_law_of) (defScope s_law_of) .none kV9 dc9 pm9 an9 cd9 ct9), sl9⟩) (c9 : PySem.W.codeIn K cd9 "_law_of" = true) (k9 : PySem.W.keepIn K (.ref f9) = true)
    (a10 : PySem.W.nsIn K mainGlobals "_law_same" = some (some (.ref f10))) (l10 : K.lookup f10 = some ⟨oc10, od10, .func (PySem.W.fnOf "_law_same" "_law_same" (defArgs s_law_same) (defBody s_law_same) (defScope s_law_same) .none kV10 dc10 pm10 an10 cd10 ct10), sl10⟩) (c10 : PySem.W.codeIn K cd10 "_law_same" = true) (k10 : PySem.W.keepIn K (.ref f10) = true)
    (a11 : PySem.W.nsIn K mainGlobals "_law_every" = some (some (.ref f11))) (l11 : K.lookup f11 = some ⟨oc11, od11, .func (PySem.W.fnOf "_law_every" "_law_every" (defArgs s_law_every) (defBody s_law_every) (defScope s_law_every) .none kV11 dc11 pm11 an11 cd11 ct11), sl11⟩) (c11 : PySem.W.codeIn K cd11 "_law_every" = true) (k11 : PySem.W.keepIn K (.ref f11) = true)
    (a12 : PySem.W.nsIn K mainGlobals "_law_moved" = some (some (.ref f12))) (l12 : K.lookup f12 = some ⟨oc12, od12, .func (PySem.W.fnOf "_law_moved" "_law_moved" (defArgs s_law_moved) (defBody s_law_moved) (defScope s_law_moved) .none kV12 dc12 pm12 an12 cd12 ct12), sl12⟩) (c12 : PySem.W.codeIn K cd12 "_law_moved" = true) (k12 : PySem.W.keepIn K (.ref f12) = true)
    (a13 : PySem.W.nsIn K mainGlobals "_law_few_right" = some (some (.ref f13))) (l13 : K.lookup f13 = some ⟨oc13, od13, .func (PySem.W.fnOf "_law_few_right" "_law_few_right" (defArgs s_law_few_right) (defBody s_law_few_right) (defScope s_law_few_right) .none kV13 dc13 pm13 an13 cd13 ct13), sl13⟩) (c13 : PySem.W.codeIn K cd13 "_law_few_right" = true) (k13 : PySem.W.keepIn K (.ref f13) = true)
    (a14 : PySem.W.nsIn K mainGlobals "_law_known_right" = some (some (.ref f14))) (l14 : K.lookup f14 = some ⟨oc14, od14, .func (PySem.W.fnOf "_law_known_right" "_law_known_right" (defArgs s_law_known_right) (defBody s_law_known_right) (defScope s_law_known_right) .none kV14 dc14 pm14 an14 cd14 ct14), sl14⟩) (c14 : PySem.W.codeIn K cd14 "_law_known_right" = true) (k14 : PySem.W.keepIn K (.ref f14) = true)
    (a15 : PySem.W.nsIn K mainGlobals "_law_right" = some (some (.ref f15))) (l15 : K.lookup f15 = some ⟨oc15, od15, .func (PySem.W.fnOf "_law_right" "_law_right" (defArgs s_law_right) (defBody s_law_right) (defScope s_law_right) .none kV15 dc15 pm15 an15 cd15 ct15), sl15⟩) (c15 : PySem.W.codeIn K cd15 "_law_right" = true) (k15 : PySem.W.keepIn K (.ref f15) = true)
    (a16 : PySem.W.nsIn K mainGlobals "law" = some (some (.ref f16))) (l16 : K.lookup f16 = some ⟨oc16, od16, .func (PySem.W.fnOf "law" "law" (defArgs s_law) (defBody s_law) (defScope s_law) .none kV16 dc16 pm16 an16 cd16 ct16), sl16⟩) (c16 : PySem.W.codeIn K cd16 "law" = true) (k16 : PySem.W.keepIn K (.ref f16) = true)
    (z_abs : PySem.W.nsIn K mainGlobals "abs" = some none) (z_all : PySem.W.nsIn K mainGlobals "all" = some none) (z_bool : PySem.W.nsIn K mainGlobals "bool" = some none) (z_enumerate : PySem.W.nsIn K mainGlobals "enumerate" = some none) (z_int : PySem.W.nsIn K mainGlobals "int" = some none) (z_isinstance : PySem.W.nsIn K mainGlobals "isinstance" = some none) (z_len : PySem.W.nsIn K mainGlobals "len" = some none) (z_list : PySem.W.nsIn K mainGlobals "list" = some none) (z_max : PySem.W.nsIn K mainGlobals "max" = some none) (z_min : PySem.W.nsIn K mainGlobals "min" = some none) (z_range : PySem.W.nsIn K mainGlobals "range" = some none) (z_sorted : PySem.W.nsIn K mainGlobals "sorted" = some none) (z_str : PySem.W.nsIn K mainGlobals "str" = some none) (z_tuple : PySem.W.nsIn K mainGlobals "tuple" = some none) (z_zip : PySem.W.nsIn K mainGlobals "zip" = some none)
    (spec : ∀ ns : List Int, ns.length ≤ 63 → ∃ h, m_law [.fl (ns.map D.int)] [] = .ok (.bl true) h) :
    ∃ fd : FuncData, (∀ (s : Shared) (v : Value), BindsTo s fd ⟨[v], []⟩ [("_law_script", v)]) ∧ ∀ base : Heap, K.In base → base.Ns mainGlobals mg → FnOk l.prog w K mg base (L2.CX l.prog w) 9 fa fd ["_law_script"] (spLaw K) := by
  have e := hfa.symm.trans (PySem.W.mg_of X G a16)
  cases e
  have T : Txt mg := ⟨PySem.W.mg_none_of X G z_abs, PySem.W.mg_none_of X G z_all, PySem.W.mg_none_of X G z_bool, PySem.W.mg_none_of X G z_enumerate, PySem.W.mg_none_of X G z_int, PySem.W.mg_none_of X G z_isinstance, PySem.W.mg_none_of X G z_len, PySem.W.mg_none_of X G z_list, PySem.W.mg_none_of X G z_max, PySem.W.mg_none_of X G z_min, PySem.W.mg_none_of X G z_range, PySem.W.mg_none_of X G z_sorted, PySem.W.mg_none_of X G z_str, PySem.W.mg_none_of X G z_tuple, PySem.W.mg_none_of X G z_zip⟩
  have F0 := fun_mk (st := s_catalan) l0 c0 k0
  have b0 := F0.binds (ps := ["pairs"]) fun _ _ _ _ _ _ us hl => match us, hl with | [_], _ => rfl
  have F1 := fun_mk (st := s_gcd) l1 c1 k1
  have b1 := F1.binds (ps := ["one", "other"]) fun _ _ _ _ _ _ us hl => match us, hl with | [_, _], _ => rfl
  have F2 := fun_mk (st := s_turned) l2 c2 k2
  have b2 := F2.binds (ps := ["arrangement", "seats"]) fun _ _ _ _ _ _ us hl => match us, hl with | [_, _], _ => rfl
  have F3 := fun_mk (st := s_period) l3 c3 k3
  have b3 := F3.binds (ps := ["arrangement"]) fun _ _ _ _ _ _ us hl => match us, hl with | [_], _ => rfl
  have F4 := fun_mk (st := s_choose) l4 c4 k4
  have b4 := F4.binds (ps := ["things", "some"]) fun _ _ _ _ _ _ us hl => match us, hl with | [_, _], _ => rfl
  have F5 := fun_mk (st := s_alike_many) l5 c5 k5
  have b5 := F5.binds (ps := ["people", "seats"]) fun _ _ _ _ _ _ us hl => match us, hl with | [_, _], _ => rfl
  have F6 := fun_mk (st := s_law_cell_at) l6 c6 k6
  have b6 := F6.binds (ps := ["_law_script", "_law_k"]) fun _ _ _ _ _ _ us hl => match us, hl with | [_, _], _ => rfl
  have F7 := fun_mk (st := s_law_box) l7 c7 k7
  have b7 := F7.binds (ps := ["_law_script", "_law_k"]) fun _ _ _ _ _ _ us hl => match us, hl with | [_, _], _ => rfl
  have F8 := fun_mk (st := s_law_take) l8 c8 k8
  have b8 := F8.binds (ps := ["_law_box_here", "_law_below"]) fun _ _ _ _ _ _ us hl => match us, hl with | [_, _], _ => rfl
  have F9 := fun_mk (st := s_law_of) l9 c9 k9
  have b9 := F9.binds (ps := ["_law_box_here", "_law_pool"]) fun _ _ _ _ _ _ us hl => match us, hl with | [_, _], _ => rfl
  have F10 := fun_mk (st := s_law_same) l10 c10 k10
  have b10 := F10.binds (ps := ["_law_found", "_law_due"]) fun _ _ _ _ _ _ us hl => match us, hl with | [_, _], _ => rfl
  have F11 := fun_mk (st := s_law_every) l11 c11 k11
  have b11 := F11.binds (ps := ["_law_size"]) fun _ _ _ _ _ _ us hl => match us, hl with | [_], _ => rfl
  have F12 := fun_mk (st := s_law_moved) l12 c12 k12
  have b12 := F12.binds (ps := ["_law_hall", "_law_far"]) fun _ _ _ _ _ _ us hl => match us, hl with | [_, _], _ => rfl
  have F13 := fun_mk (st := s_law_few_right) l13 c13 k13
  have b13 := F13.binds (ps := ["_law_box_here", "_law_size"]) fun _ _ _ _ _ _ us hl => match us, hl with | [_, _], _ => rfl
  have F14 := fun_mk (st := s_law_known_right) l14 c14 k14
  have b14 := F14.binds (ps := []) fun _ _ _ _ _ _ us hl => match us, hl with | [], _ => rfl
  have F15 := fun_mk (st := s_law_right) l15 c15 k15
  have b15 := F15.binds (ps := ["_law_box_here"]) fun _ _ _ _ _ _ us hl => match us, hl with | [_], _ => rfl
  have F16 := fun_mk (st := s_law) l16 c16 k16
  have b16 := F16.binds (ps := ["_law_script"]) fun _ _ _ _ _ _ us hl => match us, hl with | [_], _ => rfl
  refine ⟨PySem.W.fnOf "law" "law" (defArgs s_law) (defBody s_law) (defScope s_law) .none kV16 dc16 pm16 an16 cd16 ct16, fun s v => .of_eq rfl, fun base _ _ => ?_⟩
  have d_law_every : Df l.prog w K mg base 6 "_law_every" ["_law_size"] f11 _ m_law_every := ⟨ok_law_every F11 T (PySem.W.mg_of X G a11) b11 6 (Nat.le_refl _), PySem.W.mg_of X G a11, F11.kp, b11⟩
  have d_law_take : Df l.prog w K mg base 4 "_law_take" ["_law_box_here", "_law_below"] f8 _ m_law_take := ⟨ok_law_take F8 T (PySem.W.mg_of X G a8) b8 4 (Nat.le_refl _), PySem.W.mg_of X G a8, F8.kp, b8⟩
  have d_law_of : Df l.prog w K mg base 5 "_law_of" ["_law_box_here", "_law_pool"] f9 _ m_law_of := ⟨ok_law_of F9 T d_law_take, PySem.W.mg_of X G a9, F9.kp, b9⟩
  have d_gcd : Df l.prog w K mg base 1 "gcd" ["one", "other"] f1 _ m_gcd := ⟨ok_gcd F1 T, PySem.W.mg_of X G a1, F1.kp, b1⟩
  have d_catalan : Df l.prog w K mg base 1 "catalan" ["pairs"] f0 _ m_catalan := ⟨ok_catalan F0 T, PySem.W.mg_of X G a0, F0.kp, b0⟩
  have d_choose : Df l.prog w K mg base 1 "choose" ["things", "some"] f4 _ m_choose := ⟨ok_choose F4 T, PySem.W.mg_of X G a4, F4.kp, b4⟩
  have d_alike_many : Df l.prog w K mg base 2 "alike_many" ["people", "seats"] f5 _ m_alike_many := ⟨ok_alike_many F5 T d_gcd d_catalan d_choose, PySem.W.mg_of X G a5, F5.kp, b5⟩
  have d_law_same : Df l.prog w K mg base 4 "_law_same" ["_law_found", "_law_due"] f10 _ m_law_same := ⟨ok_law_same F10 T (PySem.W.mg_of X G a10) b10 4 (Nat.le_refl _), PySem.W.mg_of X G a10, F10.kp, b10⟩
  have d_law_moved : Df l.prog w K mg base 1 "_law_moved" ["_law_hall", "_law_far"] f12 _ m_law_moved := ⟨ok_law_moved F12 T, PySem.W.mg_of X G a12, F12.kp, b12⟩
  have d_turned : Df l.prog w K mg base 1 "turned" ["arrangement", "seats"] f2 _ m_turned := ⟨ok_turned F2 T, PySem.W.mg_of X G a2, F2.kp, b2⟩
  have d_period : Df l.prog w K mg base 2 "period" ["arrangement"] f3 _ m_period := ⟨ok_period F3 T d_turned, PySem.W.mg_of X G a3, F3.kp, b3⟩
  have k_alike_many_0_seats_people := t_k_alike_many_0_seats_people (K := K) F5
  have d_law_few_right : Df l.prog w K mg base 7 "_law_few_right" ["_law_box_here", "_law_size"] f13 _ m_law_few_right := ⟨ok_law_few_right F13 T d_law_every d_law_of d_alike_many d_law_same d_law_take d_law_moved d_period k_alike_many_0_seats_people, PySem.W.mg_of X G a13, F13.kp, b13⟩
  have d_law_known_right : Df l.prog w K mg base 5 "_law_known_right" [] f14 _ m_law_known_right := ⟨ok_law_known_right F14 T d_alike_many d_law_same d_turned d_period, PySem.W.mg_of X G a14, F14.kp, b14⟩
  have d_law_right : Df l.prog w K mg base 8 "_law_right" ["_law_box_here"] f15 _ m_law_right := ⟨ok_law_right F15 T d_law_few_right d_law_known_right d_law_take, PySem.W.mg_of X G a15, F15.kp, b15⟩
  have d_law_cell_at : Df l.prog w K mg base 1 "_law_cell_at" ["_law_script", "_law_k"] f6 _ m_law_cell_at := ⟨ok_law_cell_at F6 T, PySem.W.mg_of X G a6, F6.kp, b6⟩
  have d_law_box : Df l.prog w K mg base 2 "_law_box" ["_law_script", "_law_k"] f7 _ m_law_box := ⟨ok_law_box F7 T d_law_cell_at, PySem.W.mg_of X G a7, F7.kp, b7⟩
  exact (ok_law F16 T d_law_right d_law_box).imp fun vs H Q E z => spLaw_ok spec z
theorem walk {l : PySem.W.OpenLaw} {q : Program} {loose : List Str} {XP : (Str → Option Value) → Heap → Prop} {YP : World → Heap → Prop} {d : DefRec} {K : Params → PySem.W.Frag} (hn : l.most = some 63) (hdf : d.params.defaults = [])
    (hY : ∀ (w : World) (h : Heap), YP w h → (K w.params).In h)
    (F : ∀ (w : World) (mg : Str → Option Value) (fa : Addr) (h : Heap), (K w.params).In h → h.Ns mainGlobals mg → mg d.name = some (.ref fa) →
      ∃ fd : FuncData, (∀ (s : Shared) (u : Value), BindsTo s fd ⟨[u], []⟩ [("_law_script", u)]) ∧ ∀ base : Heap, (K w.params).In base → base.Ns mainGlobals mg → FnOk l.prog w (K w.params) mg base (L2.CX l.prog w) 9 fa fd ["_law_script"] (spLaw (K w.params))) :
    PySem.W.WalkO q loose XP YP l.row.toRowW d [] (fun f vs => PySem.call f vs) :=
  L2.walk_of (n := 63) (k := 9) (x := "_law_script") (CX := fun w => L2.CX l.prog w) (sp := fun w => spLaw (K w.params)) hn (by decide) hdf ⟨rfl, by decide, by decide⟩ hY F (fun _ _ a ns hl hO hS => ⟨a, ns, rfl, hl, hO, hS, fun v H e => e⟩) fun w H s e s' z => by
    obtain ⟨_, _, _, _, _, _, _, _, _, _, _, _, z⟩ := z
    exact z
end Mini
open PySem PySem.W PyProof.Rows
set_option maxRecDepth 100000 in
set_option maxHeartbeats 0 in
theorem PySem.Challenge.cw_handshakes_k34_how_many_are_alike_holds : PySem.Challenge.rw_handshakes_k34_how_many_are_alike.Holds := by
  w_on; o_law; k_head; (case hw => w_witness2)
  k_fill
  refine Mini.walk (l := PySem.Challenge.rw_handshakes_k34_how_many_are_alike) rfl rfl (fun w h Y => PySem.W.kIn_of Y) ?F
  case F =>
    intro w mg fa h KX G hmg
    refine' Mini.all_mk KX G hmg ?a0 ?l0 ?c0 ?k0 ?a1 ?l1 ?c1 ?k1 ?a2 ?l2 ?c2 ?k2 ?a3 ?l3 ?c3 ?k3 ?a4 ?l4 ?c4 ?k4 ?a5 ?l5 ?c5 ?k5 ?a6 ?l6 ?c6 ?k6 ?a7 ?l7 ?c7 ?k7 ?a8 ?l8 ?c8 ?k8 ?a9 ?l9 ?c9 ?k9 ?a10 ?l10 ?c10 ?k10 ?a11 ?l11 ?c11 ?k11 ?a12 ?l12 ?c12 ?k12 ?a13 ?l13 ?c13 ?k13 ?a14 ?l14 ?c14 ?k14 ?a15 ?l15 ?c15 ?k15 ?a16 ?l16 ?c16 ?k16 ?z_abs ?z_all ?z_bool ?z_enumerate ?z_int ?z_isinstance ?z_len ?z_list ?z_max ?z_min ?z_range ?z_sorted ?z_str ?z_tuple ?z_zip Mini.spec_law
    (case a0 => k_is)
    (case l0 => k_is)
    (case c0 => k_is)
    (case k0 => k_is)
    (case a1 => k_is)
    (case l1 => k_is)
    (case c1 => k_is)
    (case k1 => k_is)
    (case a2 => k_is)
    (case l2 => k_is)
    (case c2 => k_is)
    (case k2 => k_is)
    (case a3 => k_is)
    (case l3 => k_is)
    (case c3 => k_is)
    (case k3 => k_is)
    (case a4 => k_is)
    (case l4 => k_is)
    (case c4 => k_is)
    (case k4 => k_is)
    (case a5 => k_is)
    (case l5 => k_is)
    (case c5 => k_is)
    (case k5 => k_is)
    (case a6 => k_is)
    (case l6 => k_is)
    (case c6 => k_is)
    (case k6 => k_is)
    (case a7 => k_is)
    (case l7 => k_is)
    (case c7 => k_is)
    (case k7 => k_is)
    (case a8 => k_is)
    (case l8 => k_is)
    (case c8 => k_is)
    (case k8 => k_is)
    (case a9 => k_is)
    (case l9 => k_is)
    (case c9 => k_is)
    (case k9 => k_is)
    (case a10 => k_is)
    (case l10 => k_is)
    (case c10 => k_is)
    (case k10 => k_is)
    (case a11 => k_is)
    (case l11 => k_is)
    (case c11 => k_is)
    (case k11 => k_is)
    (case a12 => k_is)
    (case l12 => k_is)
    (case c12 => k_is)
    (case k12 => k_is)
    (case a13 => k_is)
    (case l13 => k_is)
    (case c13 => k_is)
    (case k13 => k_is)
    (case a14 => k_is)
    (case l14 => k_is)
    (case c14 => k_is)
    (case k14 => k_is)
    (case a15 => k_is)
    (case l15 => k_is)
    (case c15 => k_is)
    (case k15 => k_is)
    (case a16 => k_is)
    (case l16 => k_is)
    (case c16 => k_is)
    (case k16 => k_is)
    (case z_abs => k_is)
    (case z_all => k_is)
    (case z_bool => k_is)
    (case z_enumerate => k_is)
    (case z_int => k_is)
    (case z_isinstance => k_is)
    (case z_len => k_is)
    (case z_list => k_is)
    (case z_max => k_is)
    (case z_min => k_is)
    (case z_range => k_is)
    (case z_sorted => k_is)
    (case z_str => k_is)
    (case z_tuple => k_is)
    (case z_zip => k_is)
