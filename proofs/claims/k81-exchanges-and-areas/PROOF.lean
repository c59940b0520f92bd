import PyProof.Rows.All
import Wide.All
import OpenK.AllK
import Wide.FinOn
import HandS.ForMost
import HandS.ForExc
import HandS.TryOnly
import KE.GoesEnum
import KE.GoesMore
import HandS.Zip
import HandS.Style
import HandS.TupAny
import HandS.IsInst
import HandS.Conv
import HandS.Deep
import HandS.Wide
import HandS.TupSets
import HandS.SortInts
import KE.DataMinMax
import KE.SortData
import PySem.Challenge.RW_handshakes_k81_whole_exchanges_and_areas
set_option Elab.async false
set_option linter.all false
set_option maxRecDepth 100000
set_option maxHeartbeats 4000000
namespace Mini
open PySem L2

/-! ### values, cells, results -/
inductive D where
  | non | bl (b : Bool) | int (i : Int) | str (x : Str) | tup (xs : List D) | lv (xs : List D) | fl (xs : List D) | ref (n : Nat)
inductive O where
  | lst (xs : List D) | dead
abbrev Hd := List O
structure Ex where
  cls : Str
  fs : List (Str × D)
inductive Res (α : Type) where
  | ok (a : α) (h : Hd) | exc (x : Ex) (h : Hd) | fail
abbrev Ev := List (Option D)
def Res.bind {α β : Type} (r : Res α) (k : α → Hd → Res β) : Res β := match r with
  | .ok a h => k a h
  | .exc x h => .exc x h
  | .fail => .fail

def live (h : Hd) (m : Nat) : Bool := match h[m]? with
  | some (.lst _) => true
  | _ => false

/-! ### the relation to the abstract heap -/
/-- where the cells stand; Z: addresses that no value speaks of (a comprehension's list while it grows) -/
structure Rh where
  f : Nat → Addr
  Z : Addr → Prop
instance : CoeFun Rh (fun _ => Nat → Addr) := ⟨Rh.f⟩

def KLst (K : PySem.W.Frag) (a : Addr) (xs : List V) : Prop :=
  ∃ (o : Obj) (its : Array Value) (n : Nat), K.lookup a = some o ∧ o.cls = .type "list" ∧ o.dict = none ∧ o.data = .seq its n ∧ its.size ≤ sizeLine ∧ Vals xs its.toList

mutual
def RelD (K : PySem.W.Frag) (rho : Rh) (h : Hd) (B : Nat) (H : Hp) : D → V → Prop
  | .non, v => v = .non
  | .bl b, v => v = .bl b
  | .int i, v => v = .int i
  | .str x, v => v = .str x
  | .tup xs, v => ∃ a us, v = .ref a ∧ SqT K H a us ∧ RelDs K rho h B H xs us
  | .lv xs, v => ∃ a us, v = .ref a ∧ (H a = some (.lst us) ∧ ¬ rho.Z a ∧ ∀ m, live h m = true → rho m ≠ a) ∧ RelDs K rho h B H xs us
  | .fl xs, v => ∃ a us, v = .ref a ∧ ((∃ o, H a = some (.frz o (.lst us))) ∨ KLst K a us) ∧ RelDs K rho h B H xs us
  | .ref n, v => n < B ∧ v = .ref (rho n)
def RelDs (K : PySem.W.Frag) (rho : Rh) (h : Hd) (B : Nat) (H : Hp) : List D → List V → Prop
  | [], us => us = []
  | d :: ds, us => ∃ v r, us = v :: r ∧ RelD K rho h B H d v ∧ RelDs K rho h B H ds r
end

structure Ext (K : PySem.W.Frag) (rho : Rh) (h : Hd) (H : Hp) (rho' : Rh) (h' : Hd) (H' : Hp) : Prop where
  le : h.length ≤ h'.length
  ag : ∀ m, m < h.length → rho' m = rho m
  lv : ∀ m, m < h.length → live h' m = true → live h m = true
  fr : ∀ m, h.length ≤ m → live h' m = true → H (rho' m) = none
  kp : ∀ a o, H a = some o → (∀ m, live h m = true → rho m ≠ a) → H' a = some o
  tp : ∀ a us, H a = some (.tup us) → H' a = some (.tup us)
  fz : ∀ a o u, H a = some (.frz o u) → H' a = some (.frz o u)
  dm : ∀ a, H' a = none → H a = none
  zi : ∀ a, rho.Z a → rho'.Z a
  zo : ∀ a, rho'.Z a → rho.Z a ∨ H a = none

theorem live_lt {h : Hd} {m : Nat} (e : live h m = true) : m < h.length := by
  unfold live at e
  cases q : h[m]? with
  | none => rw [q] at e; cases e
  | some o => exact (List.getElem?_eq_some_iff.mp q).1

section
variable {K : PySem.W.Frag} {rho rho' rho2 : Rh} {h h' h2 : Hd} {H H' H2 : Hp}
theorem Ext.refl : Ext K rho h H rho h H where
  le := Nat.le_refl _
  ag := fun _ _ => rfl
  lv := fun _ _ e => e
  fr := fun m hm e => absurd (live_lt e) (Nat.not_lt.mpr hm)
  kp := fun _ _ e _ => e
  tp := fun _ _ e => e
  fz := fun _ _ _ e => e
  dm := fun _ e => e
  zi := fun _ e => e
  zo := fun _ e => .inl e
theorem Ext.ne (x : Ext K rho h H rho' h' H') {a : Addr} {o : HO} (e : H a = some o) (n : ∀ m, live h m = true → rho m ≠ a) : ∀ m, live h' m = true → rho' m ≠ a := fun m hm => by
  by_cases hl : m < h.length
  · rw [x.ag m hl]; exact n m (x.lv m hl hm)
  · have := x.fr m (Nat.not_lt.mp hl) hm
    intro z; rw [z, e] at this; cases this
theorem Ext.trans (x : Ext K rho h H rho' h' H') (y : Ext K rho' h' H' rho2 h2 H2) : Ext K rho h H rho2 h2 H2 where
  le := Nat.le_trans x.le y.le
  ag := fun m hm => (y.ag m (Nat.lt_of_lt_of_le hm x.le)).trans (x.ag m hm)
  lv := fun m hm e => x.lv m hm (y.lv m (Nat.lt_of_lt_of_le hm x.le) e)
  fr := fun m hm e => by
    by_cases hl : m < h'.length
    · rw [y.ag m hl]; exact x.fr m hm (y.lv m hl e)
    · exact x.dm _ (y.fr m (Nat.not_lt.mp hl) e)
  kp := fun a o e n => y.kp a o (x.kp a o e n) (x.ne e n)
  tp := fun a us e => y.tp a us (x.tp a us e)
  fz := fun a o u e => y.fz a o u (x.fz a o u e)
  dm := fun a e => x.dm a (y.dm a e)
  zi := fun a e => y.zi a (x.zi a e)
  zo := fun a e => (y.zo a e).elim (x.zo a) fun q => .inr (x.dm a q)
theorem Ext.nz (x : Ext K rho h H rho' h' H') {a : Addr} {o : HO} (e : H a = some o) (z : ¬ rho.Z a) : ¬ rho'.Z a := fun q => (x.zo a q).elim z fun n => by rw [e] at n; cases n
theorem Ext.sqT (x : Ext K rho h H rho' h' H') {a : Addr} {us : List V} (e : SqT K H a us) : SqT K H' a us := by
  rcases e with (e | ⟨o, e⟩) | e
  · exact .inl (.inl (x.tp _ _ e))
  · exact .inl (.inr ⟨o, x.fz _ _ _ e⟩)
  · exact .inr e

mutual
theorem RelD.mono (x : Ext K rho h H rho' h' H') {B B' : Nat} (hB : B ≤ B') (hh : B ≤ h.length) : ∀ (d : D) (v : V), RelD K rho h B H d v → RelD K rho' h' B' H' d v
  | .non, v, e => by simp only [RelD] at e ⊢; exact e
  | .bl b, v, e => by simp only [RelD] at e ⊢; exact e
  | .int i, v, e => by simp only [RelD] at e ⊢; exact e
  | .str z, v, e => by simp only [RelD] at e ⊢; exact e
  | .tup xs, v, e => by
    simp only [RelD] at e ⊢
    obtain ⟨a, us, e1, e2, e3⟩ := e
    exact ⟨a, us, e1, x.sqT e2, RelDs.mono x hB hh xs us e3⟩
  | .lv xs, v, e => by
    simp only [RelD] at e ⊢
    obtain ⟨a, us, e1, e2, e3⟩ := e
    refine ⟨a, us, e1, ?_, RelDs.mono x hB hh xs us e3⟩
    obtain ⟨e2, z, n⟩ := e2
    exact ⟨x.kp _ _ e2 n, x.nz e2 z, x.ne e2 n⟩
  | .fl xs, v, e => by
    simp only [RelD] at e ⊢
    obtain ⟨a, us, e1, e2, e3⟩ := e
    refine ⟨a, us, e1, ?_, RelDs.mono x hB hh xs us e3⟩
    rcases e2 with ⟨o, e2⟩ | e2
    · exact .inl ⟨o, x.fz _ _ _ e2⟩
    · exact .inr e2
  | .ref n, v, e => by
    simp only [RelD] at e ⊢
    exact ⟨Nat.lt_of_lt_of_le e.1 hB, by rw [x.ag n (Nat.lt_of_lt_of_le e.1 hh)]; exact e.2⟩
theorem RelDs.mono (x : Ext K rho h H rho' h' H') {B B' : Nat} (hB : B ≤ B') (hh : B ≤ h.length) : ∀ (ds : List D) (us : List V), RelDs K rho h B H ds us → RelDs K rho' h' B' H' ds us
  | [], us, e => by simp only [RelDs] at e ⊢; exact e
  | d :: ds, us, e => by
    simp only [RelDs] at e ⊢
    obtain ⟨v, r, e1, e2, e3⟩ := e
    exact ⟨v, r, e1, RelD.mono x hB hh d v e2, RelDs.mono x hB hh ds r e3⟩
end
end

/-- a cell and what stands for it -/
def RelC (K : PySem.W.Frag) (rho : Rh) (h : Hd) (m : Nat) (H : Hp) : O → Prop
  | .lst xs => ∃ us, H (rho m) = some (.lst us) ∧ RelDs K rho h m H xs us
  | .dead => True
structure Rel (K : PySem.W.Frag) (rho : Rh) (h : Hd) (H : Hp) : Prop where
  inj : ∀ m n, live h m = true → live h n = true → rho m = rho n → m = n
  cell : ∀ m o, h[m]? = some o → RelC K rho h m H o
  zd : ∀ a, rho.Z a → H a ≠ none
  zc : ∀ m, live h m = true → ¬ rho.Z (rho m)
abbrev RelV' (K : PySem.W.Frag) (rho : Rh) (h : Hd) (H : Hp) (d : D) (v : V) : Prop := RelD K rho h h.length H d v
abbrev RelVs' (K : PySem.W.Frag) (rho : Rh) (h : Hd) (H : Hp) (d : List D) (v : List V) : Prop := RelDs K rho h h.length H d v
def RelS (K : PySem.W.Frag) (rho : Rh) (h : Hd) (H : Hp) (s : Ev) (σ : St) : Prop :=
  s.length = σ.length ∧ ∀ (i : Nat) (d : D), s[i]? = some (some d) → ∃ v, σ[i]? = some (some v) ∧ RelV' K rho h H d v
def RelX (K : PySem.W.Frag) (mg : Str → Option Value) (rho : Rh) (h : Hd) (H : Hp) (x : Ex) (cls : Value) (dd : Option Addr) : Prop :=
  ∃ C, mg x.cls = some (.ref C) ∧ cls = .ref C ∧ (x.fs = [] ∨ ∃ d us, dd = some d ∧ H d = some (.xd us) ∧ us.map (·.1) = x.fs.map (·.1) ∧ RelDs K rho h h.length H (x.fs.map (·.2)) (us.map (·.2)))
section
variable {K : PySem.W.Frag} {rho rho' rho2 : Rh} {h h' h2 : Hd} {H H' H2 : Hp}
theorem Ext.v (x : Ext K rho h H rho' h' H') {d : D} {v : V} (r : RelV' K rho h H d v) : RelV' K rho' h' H' d v := RelD.mono x x.le (Nat.le_refl _) d v r
theorem Ext.vs (x : Ext K rho h H rho' h' H') {d : List D} {v : List V} (r : RelVs' K rho h H d v) : RelVs' K rho' h' H' d v := RelDs.mono x x.le (Nat.le_refl _) d v r
theorem Ext.s (x : Ext K rho h H rho' h' H') {s : Ev} {σ : St} (r : RelS K rho h H s σ) : RelS K rho' h' H' s σ := ⟨r.1, fun i d e => let ⟨v, a, b⟩ := r.2 i d e; ⟨v, a, x.v b⟩⟩
theorem RelS.set {s : Ev} {σ : St} (r : RelS K rho h H s σ) {d : D} {v : V} (e : RelV' K rho h H d v) (i : Nat) : RelS K rho h H (s.set i (some d)) (σ.set i (some v)) := by
  refine ⟨by simp [r.1], fun j d' q => ?_⟩
  by_cases hj : i = j
  · subst hj
    by_cases hl : i < s.length
    · rw [List.getElem?_set_self hl] at q
      cases q
      exact ⟨v, by rw [List.getElem?_set_self (by rw [← r.1]; exact hl)], e⟩
    · rw [List.getElem?_eq_none (by simpa using hl)] at q; cases q
  · rw [List.getElem?_set_ne hj] at q
    obtain ⟨w, a, b⟩ := r.2 j d' q
    exact ⟨w, by rw [List.getElem?_set_ne hj]; exact a, b⟩
theorem RelDs.length : ∀ {ds : List D} {us : List V} {B : Nat}, RelDs K rho h B H ds us → ds.length = us.length
  | [], us, B, e => by simp only [RelDs] at e; subst e; rfl
  | d :: ds, us, B, e => by
    simp only [RelDs] at e
    obtain ⟨v, r, e1, _, e3⟩ := e
    subst e1
    simp [RelDs.length e3]
theorem RelDs.get : ∀ {ds : List D} {us : List V} {B i : Nat} {d : D}, RelDs K rho h B H ds us → ds[i]? = some d → ∃ v, us[i]? = some v ∧ RelD K rho h B H d v
  | [], us, B, i, d, e, q => by simp at q
  | d' :: ds, us, B, 0, d, e, q => by
    simp only [RelDs] at e
    obtain ⟨v, r, e1, e2, e3⟩ := e
    subst e1
    simp at q
    subst q
    exact ⟨v, rfl, e2⟩
  | d' :: ds, us, B, i + 1, d, e, q => by
    simp only [RelDs] at e
    obtain ⟨v, r, e1, e2, e3⟩ := e
    subst e1
    simp at q
    obtain ⟨w, a, b⟩ := RelDs.get (i := i) e3 q
    exact ⟨w, by simpa using a, b⟩
theorem RelDs.append : ∀ {ds es : List D} {us ws : List V} {B : Nat}, RelDs K rho h B H ds us → RelDs K rho h B H es ws → RelDs K rho h B H (ds ++ es) (us ++ ws)
  | [], es, us, ws, B, e, q => by simp only [RelDs] at e; subst e; exact q
  | d :: ds, es, us, ws, B, e, q => by
    simp only [RelDs] at e
    obtain ⟨v, r, e1, e2, e3⟩ := e
    subst e1
    simp only [List.cons_append, RelDs]
    exact ⟨v, _, rfl, e2, RelDs.append e3 q⟩
theorem RelDs.set {d : D} {v : V} {B : Nat} (r : RelD K rho h B H d v) : ∀ {ds : List D} {us : List V} (i : Nat), RelDs K rho h B H ds us → RelDs K rho h B H (ds.set i d) (us.set i v)
  | [], us, i, e => by simp only [RelDs] at e; subst e; simp [RelDs]
  | d' :: ds, us, 0, e => by
    simp only [RelDs] at e
    obtain ⟨v', r', e1, e2, e3⟩ := e
    subst e1
    simp only [List.set_cons_zero, RelDs]
    exact ⟨v, _, rfl, r, e3⟩
  | d' :: ds, us, i + 1, e => by
    simp only [RelDs] at e
    obtain ⟨v', r', e1, e2, e3⟩ := e
    subst e1
    simp only [List.set_cons_succ, RelDs]
    exact ⟨v', _, rfl, e2, RelDs.set r i e3⟩
theorem RelDs.take : ∀ {ds : List D} {us : List V} {B : Nat} (i : Nat), RelDs K rho h B H ds us → RelDs K rho h B H (ds.take i) (us.take i)
  | ds, us, B, 0, e => by simp [RelDs]
  | [], us, B, i + 1, e => by simp only [RelDs] at e; subst e; simp [RelDs]
  | d' :: ds, us, B, i + 1, e => by
    simp only [RelDs] at e
    obtain ⟨v', r', e1, e2, e3⟩ := e
    subst e1
    simp only [List.take_succ_cons, RelDs]
    exact ⟨v', _, rfl, e2, RelDs.take i e3⟩
theorem RelDs.drop : ∀ {ds : List D} {us : List V} {B : Nat} (i : Nat), RelDs K rho h B H ds us → RelDs K rho h B H (ds.drop i) (us.drop i)
  | ds, us, B, 0, e => e
  | [], us, B, i + 1, e => by simp only [RelDs] at e; subst e; simp [RelDs]
  | d' :: ds, us, B, i + 1, e => by
    simp only [RelDs] at e
    obtain ⟨v', r', e1, e2, e3⟩ := e
    subst e1
    simp only [List.drop_succ_cons]
    exact RelDs.drop i e3
theorem RelDs.reverse : ∀ {ds : List D} {us : List V} {B : Nat}, RelDs K rho h B H ds us → RelDs K rho h B H ds.reverse us.reverse
  | [], us, B, e => by simp only [RelDs] at e; subst e; simp [RelDs]
  | d :: ds, us, B, e => by
    simp only [RelDs] at e
    obtain ⟨v, r, e1, e2, e3⟩ := e
    subst e1
    rw [List.reverse_cons, List.reverse_cons]
    exact RelDs.append (RelDs.reverse e3) (by simp only [RelDs]; exact ⟨v, [], rfl, e2, rfl⟩)
theorem RelDs.nil_iff {ds : List D} {us : List V} {B : Nat} (e : RelDs K rho h B H ds us) : ds = [] ↔ us = [] := by
  have := RelDs.length e
  constructor
  · intro z; subst z; exact List.length_eq_zero_iff.mp this.symm
  · intro z; subst z; exact List.length_eq_zero_iff.mp this
end
end Mini
namespace Mini
open PySem L2

/-! ### what is wanted behind a mirror's result -/
abbrev PG' (α : Type) := α → (Rh) → Hd → Hp → Prop
def PostG {α : Type} (K : PySem.W.Frag) (mg : Str → Option Value) (W : XK) (rho : Rh) (h : Hd) (H : Hp) (r : Res α) (P : PG' α) : Prop := match r with
  | .ok a h' => ∀ rho' H', Ext K rho h H rho' h' H' → Rel K rho' h' H' → P a rho' h' H'
  | .exc x h' => ∀ rho' H' cls dd, Ext K rho h H rho' h' H' → Rel K rho' h' H' → RelX K mg rho' h' H' x cls dd → W cls dd H'
  | .fail => False
abbrev pE (K : PySem.W.Frag) (Q : VK) : PG' D := fun d rho h H => ∀ v, RelV' K rho h H d v → Q v H
abbrev pA (K : PySem.W.Frag) (Q : List V → Hp → Prop) : PG' (List D) := fun d rho h H => ∀ v, RelVs' K rho h H d v → Q v H
abbrev pT (Q : Bool → Hp → Prop) : PG' Bool := fun b _ _ H => Q b H
section
variable {α β : Type} {K : PySem.W.Frag} {mg : Str → Option Value} {W W' : XK} {rho rho1 : Rh} {h h1 : Hd} {H H1 : Hp} {P P' : PG' α}
theorem PostG.ext {r : Res α} (x : Ext K rho h H rho1 h1 H1) (p : PostG K mg W rho h H r P) : PostG K mg W rho1 h1 H1 r P := by
  cases r with
  | ok a h' => exact fun rho' H' e R => p rho' H' (x.trans e) R
  | exc y h' => exact fun rho' H' cls dd e R q => p rho' H' cls dd (x.trans e) R q
  | fail => exact p
theorem PostG.imp {r : Res α} (p : PostG K mg W rho h H r P) (i : ∀ a rho' h' H', Ext K rho h H rho' h' H' → Rel K rho' h' H' → P a rho' h' H' → P' a rho' h' H') : PostG K mg W rho h H r P' := by
  cases r with
  | ok a h' => exact fun rho' H' e R => i a rho' h' H' e R (p rho' H' e R)
  | exc y h' => exact p
  | fail => exact p
theorem PostG.bind {r : Res α} {k : α → Hd → Res β} {P : PG' β} (p : PostG K mg W rho h H (r.bind k) P) : PostG K mg W rho h H r (fun a rho' h' H' => PostG K mg W rho' h' H' (k a h') P) := by
  cases r with
  | ok a h' => exact fun rho' H' e R => PostG.ext e p
  | exc y h' => exact p
  | fail => exact p
theorem PostG.ok {a : α} (p : PostG K mg W rho h H (.ok a h) P) (R : Rel K rho h H) : P a rho h H := p rho H Ext.refl R
end

/-- a primitive's result: no exception -/
abbrev PR := Option (D × Hd)
def lift {α : Type} (r : Option (α × Hd)) : Res α := match r with
  | some (d, h) => .ok d h
  | none => .fail
abbrev EF := Ev → Hd → Res D
abbrev TF := Ev → Hd → Res Bool
abbrev AF := Ev → Hd → Res (List D)
inductive Fl where
  | nx (s : Ev) | rt (d : D) | bk (s : Ev) | ct (s : Ev) | ex (x : Ex) (s : Ev)
abbrev SF := Ev → Hd → Res Fl

def tG {α β : Type} (K : PySem.W.Frag) (mg : Str → Option Value) (W : WX) (f : Ev → Hd → Res α) (p : β → PG' α) : St → Hp → β → Prop := fun σ H Q =>
  ∃ rho h s, Rel K rho h H ∧ RelS K rho h H s σ ∧ PostG K mg (fun c d H' => W c d σ H') rho h H (f s h) (p Q)
abbrev tE (K : PySem.W.Frag) (mg : Str → Option Value) (W : WX) (f : EF) : TE := tG K mg W f (pE K)
abbrev tT (K : PySem.W.Frag) (mg : Str → Option Value) (W : WX) (f : TF) : TT := tG K mg W f pT
abbrev tA (K : PySem.W.Frag) (mg : Str → Option Value) (W : WX) (f : AF) : TA := tG K mg W f (pA K)
def pS (K : PySem.W.Frag) (W : WX) (mg : Str → Option Value) (E : Ends) : PG' Fl := fun fl rho h H => match fl with
  | .nx s => ∀ σ, RelS K rho h H s σ → E.nx σ H
  | .rt d => ∀ v, RelV' K rho h H d v → E.rt v H
  | .bk s => ∀ σ, RelS K rho h H s σ → E.bk σ H
  | .ct s => ∀ σ, RelS K rho h H s σ → E.ct σ H
  | .ex x s => ∀ σ cls dd, RelS K rho h H s σ → RelX K mg rho h H x cls dd → W cls dd σ H
def tS (K : PySem.W.Frag) (mg : Str → Option Value) (W : WX) (f : SF) : TS := fun E σ H =>
  ∃ rho h s, Rel K rho h H ∧ RelS K rho h H s σ ∧ PostG K mg (fun _ _ _ => False) rho h H (f s h) (pS K W mg E)

/-! ### the judgements -/
abbrev SE (X : Cx) (W : WX) (e : Expr) (f : EF) : Prop := PE X e (tE X.K X.mg W f)
abbrev ST (X : Cx) (W : WX) (e : Expr) (f : TF) : Prop := PT X e (tT X.K X.mg W f)
abbrev SW (X : Cx) (W : WX) (e : Expr) (f : TF) : Prop := PW X e (tT X.K X.mg W f)
abbrev SA (X : Cx) (W : WX) (e : List Expr) (f : AF) : Prop := PA X e (tA X.K X.mg W f)
abbrev SK (X : Cx) (W : WX) (e : List Keyword) (f : AF) : Prop := PK X e (tA X.K X.mg W f)
abbrev SS (X : Cx) (W : WX) (e : Stmt) (f : SF) : Prop := PS X e (tS X.K X.mg W f)
abbrev SSs (X : Cx) (W : WX) (e : List Stmt) (f : SF) : Prop := PSs X e (tS X.K X.mg W f)
section
variable {X : Cx} {e : Expr} {es : List Expr} {st : Stmt} {sts : List Stmt}
theorem PE.imp {t t' : TE} (p : PE X e t) (i : ∀ σ H Q, t' σ H Q → t σ H Q) : PE X e t' := ⟨fun pins s σ H Q I q => p.run pins s σ H Q I (i σ H Q q)⟩
theorem PT.imp {t t' : TT} (p : PT X e t) (i : ∀ σ H Q, t' σ H Q → t σ H Q) : PT X e t' := ⟨fun pins s σ H Q I q => p.run pins s σ H Q I (i σ H Q q)⟩
theorem PW.imp {t t' : TT} (p : PW X e t) (i : ∀ σ H Q, t' σ H Q → t σ H Q) : PW X e t' := ⟨fun wh pins s σ H Q I q => p.run wh pins s σ H Q I (i σ H Q q)⟩
theorem PA.imp {t t' : TA} (p : PA X es t) (i : ∀ σ H Q, t' σ H Q → t σ H Q) : PA X es t' := ⟨fun ps pins s σ H Q I q => p.run ps pins s σ H Q I (i σ H Q q)⟩
theorem PK.imp {ks : List Keyword} {t t' : TA} (p : PK X ks t) (i : ∀ σ H Q, t' σ H Q → t σ H Q) : PK X ks t' := ⟨fun ps pins s σ H Q I q => p.run ps pins s σ H Q I (i σ H Q q)⟩
theorem PS.imp {t t' : TS} (p : PS X st t) (i : ∀ E σ H, t' E σ H → t E σ H) : PS X st t' := ⟨fun pins s σ H E I q => p.run pins s σ H E I (i E σ H q)⟩
theorem PSs.imp {t t' : TS} (p : PSs X sts t) (i : ∀ E σ H, t' E σ H → t E σ H) : PSs X sts t' := ⟨fun pins s σ H E I q => p.run pins s σ H E I (i E σ H q)⟩
end

/-! ### the general step: the mirror's bind against the reading's nesting -/
section
variable {α β γ : Type} {K : PySem.W.Frag} {mg : Str → Option Value} {W : WX} {f : Ev → Hd → Res α} {k : α → Hd → Res γ} {p : β → PG' α} {P : PG' γ} {σ : St} {H : Hp} {c : β} {rho : Rh} {h : Hd} {s : Ev}
theorem step (R : Rel K rho h H) (S : RelS K rho h H s σ) (po : PostG K mg (fun c d H' => W c d σ H') rho h H ((f s h).bind k) P)
    (hc : ∀ rho' h' H' a, Ext K rho h H rho' h' H' → Rel K rho' h' H' → RelS K rho' h' H' s σ → PostG K mg (fun c d H' => W c d σ H') rho' h' H' (k a h') P → p c a rho' h' H') : tG K mg W f p σ H c :=
  ⟨rho, h, s, R, S, (PostG.bind po).imp fun a rho' h' H' e R' z => hc rho' h' H' a e R' (e.s S) z⟩
end

/-! ### names, constants -/
def e_var (i : Nat) : EF := fun s h => match s[i]? with
  | some (some d) => .ok d h
  | _ => .fail
def e_c (d : D) : EF := fun _ h => .ok d h
section
variable {X : Cx} {W : WX} {pos : Pos}
theorem tE.get {K : PySem.W.Frag} {mg : Str → Option Value} {i : Nat} {σ : St} {H : Hp} {Q : VK} (h : tE K mg W (e_var i) σ H Q) : tVar i σ H Q := by
  obtain ⟨rho, hh, s, R, S, po⟩ := h
  unfold e_var at po
  cases q : s[i]? with
  | none => rw [q] at po; exact po.elim
  | some o =>
    cases o with
    | none => rw [q] at po; exact po.elim
    | some d =>
      rw [q] at po
      obtain ⟨v, e, r⟩ := S.2 i d q
      exact ⟨v, e, PostG.ok po R v r⟩
theorem r_var (i : Nat) {x : Str} (hN : X.N[i]? = some x := by rfl) (hv : Vis X.env.scope x := by first | exact Or.inl rfl | exact Or.inr (Or.inl rfl) | exact Or.inr (Or.inr rfl)) (hd : (x == ("__debug__" : Str)) = false := by decide)
    (hcd : (x == ("__classdict__" : Str)) = false := by decide) : SE X W (.Name x pos) (e_var i) := PE.imp (pe_var hN hv hd hcd) fun _ _ _ h => tE.get h
theorem tE.const {K : PySem.W.Frag} {mg : Str → Option Value} {d : D} {v : V} {σ : St} {H : Hp} {Q : VK} (h : tE K mg W (e_c d) σ H Q) (r : ∀ rho h H, RelV' K rho h H d v) : tC v σ H Q := by
  obtain ⟨rho, hh, s, R, S, po⟩ := h
  exact PostG.ok po R v (r _ _ _)
theorem r_int {i : Int} {j : Nat} : SE X W (.Constant (.int i) j pos) (e_c (.int i)) := PE.imp pe_int fun _ _ _ h => tE.const h fun _ _ _ => by simp only [RelV', RelD]
theorem r_bl {b : Bool} {j : Nat} : SE X W (.Constant (.bool b) j pos) (e_c (.bl b)) := PE.imp pe_bl fun _ _ _ h => tE.const h fun _ _ _ => by simp only [RelV', RelD]
theorem r_non {j : Nat} : SE X W (.Constant .none j pos) (e_c .non) := PE.imp pe_non fun _ _ _ h => tE.const h fun _ _ _ => by simp only [RelV', RelD]
theorem r_str {x : Str} {j : Nat} : SE X W (.Constant (.str x) j pos) (e_c (.str x)) := PE.imp pe_str fun _ _ _ h => tE.const h fun _ _ _ => by simp only [RelV', RelD]
end

/-! ### primitives -/
def PostP (K : PySem.W.Frag) (rho : Rh) (h : Hd) (H : Hp) (r : PR) (Q : VK) : Prop := match r with
  | some (d, h') => ∀ rho' H' v, Ext K rho h H rho' h' H' → Rel K rho' h' H' → RelV' K rho' h' H' d v → Q v H'
  | none => False
theorem PostP.of {K : PySem.W.Frag} {mg : Str → Option Value} {W : XK} {rho : Rh} {h : Hd} {H : Hp} {r : PR} {Q : VK} (p : PostG K mg W rho h H (lift r) (pE K Q)) : PostP K rho h H r Q := by
  cases r with
  | none => exact p
  | some x => exact fun rho' H' v e R r => p rho' H' e R v r
theorem PostP.here {K : PySem.W.Frag} {rho : Rh} {h : Hd} {H : Hp} {d : D} {Q : VK} (p : PostP K rho h H (some (d, h)) Q) (R : Rel K rho h H) {v : V} (r : RelV' K rho h H d v) : Q v H := p rho H v Ext.refl R r
abbrev P2 := D → D → Hd → PR
abbrev P1 := D → Hd → PR
abbrev PL := List D → Hd → PR
abbrev PM := D → List D → Hd → PR
def rO (K : PySem.W.Frag) (g : P2) : R2 := fun x y H Q => ∃ rho h dx dy, Rel K rho h H ∧ RelV' K rho h H dx x ∧ RelV' K rho h H dy y ∧ PostP K rho h H (g dx dy h) Q
def rU' (K : PySem.W.Frag) (g : P1) : V → Hp → VK → Prop := fun x H Q => ∃ rho h dx, Rel K rho h H ∧ RelV' K rho h H dx x ∧ PostP K rho h H (g dx h) Q
def rC (K : PySem.W.Frag) (g : PL) : List V → Hp → VK → Prop := fun xs H Q => ∃ rho h ds, Rel K rho h H ∧ RelVs' K rho h H ds xs ∧ PostP K rho h H (g ds h) Q
def rM (K : PySem.W.Frag) (g : PM) : V → List V → Hp → VK → Prop := fun x xs H Q => ∃ rho h d ds, Rel K rho h H ∧ RelV' K rho h H d x ∧ RelVs' K rho h H ds xs ∧ PostP K rho h H (g d ds h) Q

def e_op (g : P2) (a b : EF) : EF := fun s h => (a s h).bind fun x h1 => (b s h1).bind fun y h2 => lift (g x y h2)
def e_un (g : P1) (a : EF) : EF := fun s h => (a s h).bind fun x h1 => lift (g x h1)
section
variable {X : Cx} {W : WX} {pos : Pos} {a b c : Expr} {fa fb fc : EF}
theorem OpR.imp' {f : Value → Value → Sem Value} {r r' : R2} (p : OpR X f r) (i : ∀ x y H Q, r' x y H Q → r x y H Q) : OpR X f r' := fun pins s σ H x y v u Q I rx ry q => p pins s σ H x y v u Q I rx ry (i x y H Q q)
theorem tE.op {K : PySem.W.Frag} {mg : Str → Option Value} {g : P2} {σ : St} {H : Hp} {Q : VK} (h : tE K mg W (e_op g fa fb) σ H Q) : tOp (rO K g) (tE K mg W fa) (tE K mg W fb) σ H Q := by
  obtain ⟨rho, h, s, R, S, po⟩ := h
  exact step R S po fun rho1 h1 H1 x e1 R1 S1 po1 v r => step R1 S1 po1 fun rho2 h2 H2 y e2 R2 S2 po2 u ru => ⟨rho2, h2, x, y, R2, e2.v r, ru, PostP.of po2⟩
theorem r_op {op : Operator} {g : P2} (ho : OpR X (binaryOp op) (rO X.K g)) (ha : SE X W a fa) (hb : SE X W b fb) : SE X W (.BinOp a op b pos) (e_op g fa fb) := PE.imp (pe_op ho ha hb) fun _ _ _ h => tE.op h
theorem r_cmp {op : CmpOp} {g : P2} (ho : OpR X (compareOp op) (rO X.K g)) (ha : SE X W a fa) (hb : SE X W b fb) (hm : behindInMarks op b = false := by first | exact nobehind _ (by decide) (by decide) | rfl) : SE X W (.Compare a [op] [b] pos) (e_op g fa fb) :=
  PE.imp (pe_cmpR ho ha hb hm) fun _ _ _ h => tE.op h
theorem tE.un {K : PySem.W.Frag} {mg : Str → Option Value} {g : P1} {σ : St} {H : Hp} {Q : VK} (h : tE K mg W (e_un g fa) σ H Q) : tUn (rU' K g) (tE K mg W fa) σ H Q := by
  obtain ⟨rho, h, s, R, S, po⟩ := h
  exact step R S po fun rho1 h1 H1 x e1 R1 S1 po1 v r => ⟨rho1, h1, x, R1, r, PostP.of po1⟩
theorem r_un {op : UnaryOp} {g : P1} (ho : UnR X (unaryOp op) (rU' X.K g)) (ha : SE X W a fa) : SE X W (.UnaryOp op a pos) (e_un g fa) := PE.imp (pe_un ho ha) fun _ _ _ h => tE.un h
/-- a subscript -/
theorem r_ix {g : P2} (ho : IxR X (rO X.K g)) (ha : SE X W a fa) (hb : SE X W b fb) (hs : PlainIx b := by intro _ _; rfl) : SE X W (.Subscript a b pos) (e_op g fa fb) := PE.imp (pe_ix ho ha hb hs) fun _ _ _ h => tE.op h
end

/-! ### tests -/
def t_b (f : EF) : TF := fun s h => (f s h).bind fun d h1 => match d with
  | .bl b => .ok b h1
  | _ => .fail
def truD (d : D) (h : Hd) : Option Bool := match d with
  | .non => some false
  | .bl b => some b
  | .int i => some (i != 0)
  | .str y => if y.length ≤ sizeLine then some ((y.length : Int) != 0) else none
  | .tup xs => some (!xs.isEmpty)
  | .lv xs => some (!xs.isEmpty)
  | .fl xs => some (!xs.isEmpty)
  | .ref n => match h[n]? with
    | some (.lst xs) => some (!xs.isEmpty)
    | _ => none
def t_tru (f : EF) : TF := fun s h => (f s h).bind fun d h1 => match truD d h1 with
  | some b => .ok b h1
  | none => .fail
section
variable {K : PySem.W.Frag} {rho : Rh} {h : Hd} {H : Hp}
theorem RelV'.bl {b : Bool} {v : V} (r : RelV' K rho h H (.bl b) v) : v = .bl b := by simpa only [RelV', RelD] using r
theorem RelV'.int {b : Int} {v : V} (r : RelV' K rho h H (.int b) v) : v = .int b := by simpa only [RelV', RelD] using r
theorem RelV'.str {b : Str} {v : V} (r : RelV' K rho h H (.str b) v) : v = .str b := by simpa only [RelV', RelD] using r
theorem RelV'.non {v : V} (r : RelV' K rho h H .non v) : v = .non := by simpa only [RelV', RelD] using r
theorem relInt (i : Int) : RelV' K rho h H (.int i) (.int i) := by simp only [RelV', RelD]
theorem relBl (i : Bool) : RelV' K rho h H (.bl i) (.bl i) := by simp only [RelV', RelD]
theorem relStr (i : Str) : RelV' K rho h H (.str i) (.str i) := by simp only [RelV', RelD]
theorem relNon : RelV' K rho h H .non .non := by simp only [RelV', RelD]
theorem RelV'.tup {xs : List D} {v : V} (r : RelV' K rho h H (.tup xs) v) : ∃ a us, v = .ref a ∧ SqT K H a us ∧ RelVs' K rho h H xs us := by simpa only [RelV', RelD] using r
theorem Rel.cellL (R : Rel K rho h H) {n : Nat} {xs : List D} (e : h[n]? = some (.lst xs)) : ∃ us, H (rho n) = some (.lst us) ∧ RelVs' K rho h H xs us := by
  obtain ⟨us, a, b⟩ := R.cell n _ e
  exact ⟨us, a, RelDs.mono Ext.refl (Nat.le_of_lt (List.getElem?_eq_some_iff.mp e).1) (Nat.le_of_lt (List.getElem?_eq_some_iff.mp e).1) _ _ b⟩
/-- a list that is read: by value, or a cell -/
def asL (d : D) (h : Hd) : Option (List D) := match d with
  | .lv xs => some xs
  | .fl xs => some xs
  | .ref n => match h[n]? with
    | some (.lst xs) => some xs
    | _ => none
  | _ => none
theorem asL_ok (R : Rel K rho h H) {d : D} {v : V} {xs : List D} (r : RelV' K rho h H d v) (e : asL d h = some xs) : ∃ a us, v = .ref a ∧ SqL K H a us ∧ RelVs' K rho h H xs us := by
  cases d with
  | lv ys =>
    simp only [asL, Option.some.injEq] at e
    subst e
    simp only [RelV', RelD] at r
    obtain ⟨a, us, e1, e2, e3⟩ := r
    exact ⟨a, us, e1, .inl (.inl e2.1), e3⟩
  | fl ys =>
    simp only [asL, Option.some.injEq] at e
    subst e
    simp only [RelV', RelD] at r
    obtain ⟨a, us, e1, e2, e3⟩ := r
    refine ⟨a, us, e1, ?_, e3⟩
    rcases e2 with e2 | e2
    · exact .inl (.inr e2)
    · exact .inr e2
  | ref n =>
    simp only [asL] at e
    cases q : h[n]? with
    | none => rw [q] at e; cases e
    | some o =>
      cases o with
      | dead => rw [q] at e; cases e
      | lst ys =>
        rw [q] at e
        cases e
        obtain ⟨us, a, b⟩ := R.cellL q
        simp only [RelV', RelD] at r
        exact ⟨_, us, r.2, .inl (.inl a), b⟩
  | _ => simp [asL] at e
/-- a list or a tuple that is read -/
def asS (d : D) (h : Hd) : Option (List D) := match d with
  | .tup xs => some xs
  | d => asL d h
theorem asS_ok (R : Rel K rho h H) {d : D} {v : V} {xs : List D} (r : RelV' K rho h H d v) (e : asS d h = some xs) : ∃ a us, v = .ref a ∧ (SqL K H a us ∨ SqT K H a us) ∧ RelVs' K rho h H xs us := by
  cases d with
  | tup ys =>
    simp only [asS, Option.some.injEq] at e
    subst e
    obtain ⟨a, us, e1, e2, e3⟩ := r.tup
    exact ⟨a, us, e1, .inr e2, e3⟩
  | lv ys => obtain ⟨a, us, e1, e2, e3⟩ := asL_ok R r e; exact ⟨a, us, e1, .inl e2, e3⟩
  | fl ys => obtain ⟨a, us, e1, e2, e3⟩ := asL_ok R r e; exact ⟨a, us, e1, .inl e2, e3⟩
  | ref n => obtain ⟨a, us, e1, e2, e3⟩ := asL_ok R r e; exact ⟨a, us, e1, .inl e2, e3⟩
  | _ => simp [asS, asL] at e
theorem RelDs.isEmpty {ds : List D} {us : List V} {B : Nat} (e : RelDs K rho h B H ds us) : ds.isEmpty = us.isEmpty := by
  cases ds with
  | nil => simp only [RelDs] at e; subst e; rfl
  | cons d r => simp only [RelDs] at e; obtain ⟨_, _, e, _⟩ := e; subst e; rfl
theorem truD_ok (R : Rel K rho h H) {d : D} {v : V} {b : Bool} (r : RelV' K rho h H d v) (e : truD d h = some b) : TruV K v H b := by
  cases d with
  | non => rw [r.non]; simp only [truD, Option.some.injEq] at e; exact e.symm
  | bl c => rw [r.bl]; simp only [truD, Option.some.injEq] at e; exact e.symm
  | int i => rw [r.int]; simp only [truD, Option.some.injEq] at e; exact e.symm
  | str y =>
    rw [r.str]
    simp only [truD] at e
    split at e
    · rename_i hl; cases e; exact ⟨hl, rfl⟩
    · cases e
  | tup xs =>
    obtain ⟨a, us, e1, e2, e3⟩ := r.tup
    simp only [truD, Option.some.injEq] at e
    subst e1 e
    exact .inr (.inl ⟨us, e2, by rw [RelDs.isEmpty e3]⟩)
  | lv xs =>
    obtain ⟨a, us, e1, e2, e3⟩ := asL_ok R r (xs := xs) rfl
    simp only [truD, Option.some.injEq] at e
    subst e1 e
    exact .inl ⟨us, e2, by rw [RelDs.isEmpty e3]⟩
  | fl xs =>
    obtain ⟨a, us, e1, e2, e3⟩ := asL_ok R r (xs := xs) rfl
    simp only [truD, Option.some.injEq] at e
    subst e1 e
    exact .inl ⟨us, e2, by rw [RelDs.isEmpty e3]⟩
  | ref n =>
    simp only [truD] at e
    cases q : h[n]? with
    | none => rw [q] at e; cases e
    | some o =>
      cases o with
      | dead => rw [q] at e; cases e
      | lst ys =>
        rw [q] at e
        cases e
        obtain ⟨a, us, e1, e2, e3⟩ := asL_ok R r (xs := ys) (by simp only [asL, q])
        subst e1
        exact .inl ⟨us, e2, by rw [RelDs.isEmpty e3]⟩
end
section
variable {X : Cx} {W : WX} {pos : Pos} {a b c : Expr} {fa fb fc : EF} {ta tb : TF} {rest : List Expr}
theorem tE.asB {K : PySem.W.Frag} {mg : Str → Option Value} {σ : St} {H : Hp} {Q : Bool → Hp → Prop} (h : tT K mg W (t_b fa) σ H Q) : tE K mg W fa σ H fun x H1 => ∃ c, x = .bl c ∧ Q c H1 := by
  obtain ⟨rho, h, s, R, S, po⟩ := h
  refine step R S po fun rho1 h1 H1 x e1 R1 S1 po1 v r => ?_
  cases x with
  | bl c => exact ⟨c, r.bl, PostG.ok po1 R1⟩
  | _ => exact po1.elim
theorem tE.asTru {K : PySem.W.Frag} {mg : Str → Option Value} {σ : St} {H : Hp} {Q : Bool → Hp → Prop} (h : tT K mg W (t_tru fa) σ H Q) : tE K mg W fa σ H fun x H' => ∃ k, TruV K x H' k ∧ Q k H' := by
  obtain ⟨rho, h, s, R, S, po⟩ := h
  refine step R S po fun rho1 h1 H1 x e1 R1 S1 po1 v r => ?_
  cases q : truD x h1 with
  | none => simp only [q] at po1; exact po1.elim
  | some k => simp only [q] at po1; exact ⟨k, truD_ok R1 r q, PostG.ok po1 R1⟩
/-- a test of any plain expression: a name, a call, a subscript -/
theorem r_tru (ha : SE X W a fa) (he : ∀ whole, isTrue a X.env whole = (do let v ← whole; standAt a.pos; holding [v] (truthy v)) := by intro _; rfl) : ST X W a (t_tru fa) := PT.imp (pt_truth ha he) fun _ _ _ h => tE.asTru h
/-- a comparison as a test -/
theorem r_tcmp {op : CmpOp} {g : P2} (ho : OpR X (compareOp op) (rO X.K g)) (ha : SE X W a fa) (hb : SE X W b fb) (hm : behindInMarks op b = false := by first | exact nobehind _ (by decide) (by decide) | rfl) : ST X W (.Compare a [op] [b] pos) (t_b (e_op g fa fb)) :=
  PT.imp (pt_cmpR ho ha hb hm) fun _ _ _ h => by
    have z := tE.asB h
    obtain ⟨rho, h, s, R, S, po⟩ := z
    exact tE.op ⟨rho, h, s, R, S, po⟩
def t_and (a b : TF) : TF := fun s h => (a s h).bind fun c h1 => if c then b s h1 else .ok false h1
def t_or (a b : TF) : TF := fun s h => (a s h).bind fun c h1 => if c then .ok true h1 else b s h1
def t_not (a : TF) : TF := fun s h => (a s h).bind fun c h1 => .ok (!c) h1
theorem r_and1 (ha : ST X W a ta) : SW X W (.BoolOp .And [a] pos) ta := pw_and1 ha
theorem r_or1 (ha : ST X W a ta) : SW X W (.BoolOp .Or [a] pos) ta := pw_or1 ha
theorem r_and (ha : ST X W a ta) (hb : SW X W (.BoolOp .And (b :: rest) pos) tb) : SW X W (.BoolOp .And (a :: b :: rest) pos) (t_and ta tb) := PW.imp (pw_and ha hb) fun σ H Q h => by
  obtain ⟨rho, h, s, R, S, po⟩ := h
  refine step R S po fun rho1 h1 H1 x e1 R1 S1 po1 => ?_
  cases x with
  | true => exact iteT ⟨rho1, h1, s, R1, S1, po1⟩
  | false => exact iteF (PostG.ok po1 R1)
theorem r_or (ha : ST X W a ta) (hb : SW X W (.BoolOp .Or (b :: rest) pos) tb) : SW X W (.BoolOp .Or (a :: b :: rest) pos) (t_or ta tb) := PW.imp (pw_or ha hb) fun σ H Q h => by
  obtain ⟨rho, h, s, R, S, po⟩ := h
  refine step R S po fun rho1 h1 H1 x e1 R1 S1 po1 => ?_
  cases x with
  | true => exact iteT (PostG.ok po1 R1)
  | false => exact iteF ⟨rho1, h1, s, R1, S1, po1⟩
theorem r_bool (h : SW X W a ta) : ST X W a ta := PW.pt h
theorem r_not (ha : ST X W a ta) : ST X W (.UnaryOp .Not a pos) (t_not ta) := PT.imp (pt_not ha) fun σ H Q h => by
  obtain ⟨rho, h, s, R, S, po⟩ := h
  refine step R S po fun rho1 h1 H1 x e1 R1 S1 po1 => ?_
  have z := PostG.ok po1 R1
  exact z
/-- as values: all but the last are bools -/
def e_and (a b : EF) : EF := fun s h => (a s h).bind fun c h1 => match c with
  | .bl true => b s h1
  | .bl false => .ok (.bl false) h1
  | _ => .fail
def e_or (a b : EF) : EF := fun s h => (a s h).bind fun c h1 => match c with
  | .bl true => .ok (.bl true) h1
  | .bl false => b s h1
  | _ => .fail
def e_not (a : EF) : EF := fun s h => (a s h).bind fun c h1 => match c with
  | .bl c => .ok (.bl (!c)) h1
  | _ => .fail
theorem r_one {op} (ha : SE X W a fa) : SE X W (.BoolOp op [a] pos) fa := pe_one ha
theorem r_andV (ha : SE X W a fa) (hb : SE X W (.BoolOp .And (b :: rest) pos) fb) : SE X W (.BoolOp .And (a :: b :: rest) pos) (e_and fa fb) := PE.imp (pe_and ha hb) fun σ H Q h => by
  obtain ⟨rho, h, s, R, S, po⟩ := h
  refine step R S po fun rho1 h1 H1 x e1 R1 S1 po1 v r => ?_
  cases x with
  | bl c =>
    refine ⟨c, r.bl, ?_⟩
    cases c with
    | true => exact iteT ⟨rho1, h1, s, R1, S1, po1⟩
    | false => exact iteF (PostG.ok po1 R1 _ (relBl false))
  | _ => exact po1.elim
theorem r_orV (ha : SE X W a fa) (hb : SE X W (.BoolOp .Or (b :: rest) pos) fb) : SE X W (.BoolOp .Or (a :: b :: rest) pos) (e_or fa fb) := PE.imp (pe_or ha hb) fun σ H Q h => by
  obtain ⟨rho, h, s, R, S, po⟩ := h
  refine step R S po fun rho1 h1 H1 x e1 R1 S1 po1 v r => ?_
  cases x with
  | bl c =>
    refine ⟨c, r.bl, ?_⟩
    cases c with
    | true => exact iteT (PostG.ok po1 R1 _ (relBl true))
    | false => exact iteF ⟨rho1, h1, s, R1, S1, po1⟩
  | _ => exact po1.elim
theorem r_notV (ha : SE X W a fa) : SE X W (.UnaryOp .Not a pos) (e_not fa) := PE.imp (pe_not ha) fun σ H Q h => by
  obtain ⟨rho, h, s, R, S, po⟩ := h
  refine step R S po fun rho1 h1 H1 x e1 R1 S1 po1 v r => ?_
  cases x with
  | bl c => exact ⟨c, r.bl, PostG.ok po1 R1 _ (relBl _)⟩
  | _ => exact po1.elim
def e_if (t : TF) (a b : EF) : EF := fun s h => (t s h).bind fun c h1 => if c then a s h1 else b s h1
theorem r_ifE (hc : ST X W c ta) (ha : SE X W a fa) (hb : SE X W b fb) : SE X W (.IfExp c a b pos) (e_if ta fa fb) := PE.imp (pe_ifExp hc ha hb) fun σ H Q h => by
  obtain ⟨rho, h, s, R, S, po⟩ := h
  refine step R S po fun rho1 h1 H1 x e1 R1 S1 po1 => ?_
  cases x with
  | true => exact iteT ⟨rho1, h1, s, R1, S1, po1⟩
  | false => exact iteF ⟨rho1, h1, s, R1, S1, po1⟩
/-- a < b < c -/
def e_chain (g g' : P2) (a b c : EF) : EF := fun s h => (a s h).bind fun x h1 => (b s h1).bind fun y h2 => (lift (g x y h2)).bind fun z h3 => match z with
  | .bl true => (c s h3).bind fun w h4 => lift (g' y w h4)
  | .bl false => .ok (.bl false) h3
  | _ => .fail
theorem tE.chain {K : PySem.W.Frag} {mg : Str → Option Value} {g g' : P2} {σ : St} {H : Hp} {Q : VK} (h : tE K mg W (e_chain g g' fa fb fc) σ H Q) : tChain (rO K g) (rO K g') (tE K mg W fa) (tE K mg W fb) (tE K mg W fc) σ H Q := by
  obtain ⟨rho, h, s, R, S, po⟩ := h
  refine step R S po fun rho1 h1 H1 x e1 R1 S1 po1 v r => step R1 S1 po1 fun rho2 h2 H2 y e2 R2 S2 po2 u ru => ⟨rho2, h2, x, y, R2, e2.v r, ru, ?_⟩
  have po3 := PostG.bind po2
  cases q : g x y h2 with
  | none => rw [q] at po3; exact po3
  | some dz =>
    obtain ⟨z, h3⟩ := dz
    rw [q] at po3
    intro rho3 H3 w e3 R3 rw
    have po4 := po3 rho3 H3 e3 R3
    cases z with
    | bl k =>
      refine ⟨k, rw.bl, ?_⟩
      cases k with
      | true => exact iteT (step R3 (e3.s S2) po4 fun rho4 h4 H4 z e4 R4 S4 po5 t rt => ⟨rho4, h4, y, z, R4, (e3.trans e4).v ru, rt, PostP.of po5⟩)
      | false => exact iteF (PostG.ok po4 R3 _ (relBl false))
    | _ => exact po4.elim
theorem r_chain {op op' : CmpOp} {g g' : P2} (ho : OpR X (compareOp op) (rO X.K g)) (ho' : OpR X (compareOp op') (rO X.K g')) (ha : SE X W a fa) (hb : SE X W b fb) (hc : SE X W c fc)
    (hm : lastMarks [op, op'] [b, c] = false := by with_unfolding_all rfl) : SE X W (.Compare a [op, op'] [b, c] pos) (e_chain g g' fa fb fc) := PE.imp (pe_chain ho ho' ha hb hc hm) fun _ _ _ h => tE.chain h
theorem r_tchain {op op' : CmpOp} {g g' : P2} (ho : OpR X (compareOp op) (rO X.K g)) (ho' : OpR X (compareOp op') (rO X.K g')) (ha : SE X W a fa) (hb : SE X W b fb) (hc : SE X W c fc)
    (hm : lastMarks [op, op'] [b, c] = false := by with_unfolding_all rfl) : ST X W (.Compare a [op, op'] [b, c] pos) (t_b (e_chain g g' fa fb fc)) := PT.imp (pt_chain ho ho' ha hb hc hm) fun _ _ _ h => by
  have z := tE.asB h
  obtain ⟨rho, h, s, R, S, po⟩ := z
  exact tE.chain ⟨rho, h, s, R, S, po⟩
end

/-! ### argument lists, displays -/
def a_nil : AF := fun _ h => .ok [] h
def a_cons (a : EF) (r : AF) : AF := fun s h => (a s h).bind fun x h1 => (r s h1).bind fun xs h2 => .ok (x :: xs) h2
theorem tA.cons {K : PySem.W.Frag} {mg : Str → Option Value} {W : WX} {fa : EF} {fr : AF} {σ : St} {H : Hp} {Q : List V → Hp → Prop} (h : tA K mg W (a_cons fa fr) σ H Q) : tCons (tE K mg W fa) (tA K mg W fr) σ H Q := by
  obtain ⟨rho, h, s, R, S, po⟩ := h
  refine step R S po fun rho1 h1 H1 x e1 R1 S1 po1 v r => step R1 S1 po1 fun rho2 h2 H2 ys e2 R2 S2 po2 us ru => ?_
  refine PostG.ok po2 R2 (v :: us) ?_
  simp only [RelVs', RelDs]
  exact ⟨v, us, rfl, e2.v r, ru⟩
theorem tA.nil {K : PySem.W.Frag} {mg : Str → Option Value} {W : WX} {σ : St} {H : Hp} {Q : List V → Hp → Prop} (h : tA K mg W a_nil σ H Q) : tNil σ H Q := by
  obtain ⟨rho, h, s, R, S, po⟩ := h
  exact PostG.ok po R [] (by simp only [RelVs', RelDs])
section
variable {X : Cx} {W : WX} {pos : Pos} {e : Expr} {es : List Expr} {fa : EF} {fr : AF}
theorem ra_nil : SA X W [] a_nil := PA.imp pa_nil fun _ _ _ h => tA.nil h
theorem ra_cons (ha : SE X W e fa) (hr : SA X W es fr) (hs : starEach (e :: es) X.env = (false, eval e X.env) :: starEach es X.env := by rfl) : SA X W (e :: es) (a_cons fa fr) := PA.imp (pa_cons ha hr hs) fun _ _ _ h => tA.cons h
theorem rk_nil : SK X W [] a_nil := PK.imp pk_nil fun _ _ _ h => tA.nil h
theorem rk_cons {nm : Option Str} {kpos : Pos} {kws : List Keyword} (ha : SE X W e fa) (hr : SK X W kws fr) : SK X W (⟨nm, e, kpos⟩ :: kws) (a_cons fa fr) := PK.imp (pk_cons ha hr) fun _ _ _ h => tA.cons h
end

/-! ### allocation -/
/-- a new list by value (m = false) or as a cell (m = true) -/
def mkL (m : Bool) (xs : List D) (h : Hd) : PR := if m then some (.ref h.length, h ++ [.lst xs]) else some (.lv xs, h)
section
variable {K : PySem.W.Frag} {rho : Rh} {h : Hd} {H : Hp} {p : Addr}
theorem Ext.upd (R : Rel K rho h H) (np : H p = none) (o : HO) : Ext K rho h H rho h (L2.upd H p o) where
  le := Nat.le_refl _
  ag := fun _ _ => rfl
  lv := fun _ _ e => e
  fr := fun m hm e => absurd (live_lt e) (Nat.not_lt.mpr hm)
  kp := fun a o' e _ => by rw [upd_ne (ne_of_none e np)]; exact e
  tp := fun a us e => by rw [upd_ne (ne_of_none e np)]; exact e
  fz := fun a o' u e => by rw [upd_ne (ne_of_none e np)]; exact e
  dm := fun a e => by
    by_cases q : a = p
    · subst q; exact np
    · rw [upd_ne q] at e; exact e
  zi := fun _ e => e
  zo := fun _ e => .inl e
theorem live_of {m : Nat} (e : live h m = true) : ∃ xs, h[m]? = some (.lst xs) := by
  unfold live at e
  cases q : h[m]? with
  | none => rw [q] at e; cases e
  | some o =>
    cases o with
    | dead => rw [q] at e; cases e
    | lst xs => exact ⟨xs, rfl⟩
theorem Rel.at (R : Rel K rho h H) {m : Nat} (e : live h m = true) : ∃ us, H (rho m) = some (.lst us) := by
  obtain ⟨xs, q⟩ := live_of e
  obtain ⟨us, a, _⟩ := R.cell m _ q
  exact ⟨us, a⟩
/-- the heap grew by something that is no cell -/
theorem Rel.upd (R : Rel K rho h H) (np : H p = none) (o : HO) : Rel K rho h (L2.upd H p o) where
  inj := R.inj
  cell := fun m ob e => by
    have c := R.cell m ob e
    have hm := (List.getElem?_eq_some_iff.mp e).1
    cases ob with
    | dead => trivial
    | lst xs =>
      obtain ⟨us, a, b⟩ := c
      exact ⟨us, by rw [upd_ne (ne_of_none a np)]; exact a, RelDs.mono (Ext.upd R np o) (Nat.le_refl _) (Nat.le_of_lt hm) _ _ b⟩
  zd := fun a z e => R.zd a z ((Ext.upd R np o).dm a e)
  zc := R.zc
theorem Rel.newV (R : Rel K rho h H) (np : H p = none) {xs : List D} {us : List V} (r : RelVs' K rho h H xs us) : RelV' K rho h (L2.upd H p (.lst us)) (.lv xs) (.ref p) := by
  simp only [RelV', RelD]
  refine ⟨p, us, rfl, ⟨upd_same, fun z => R.zd p z np, fun m hm => ?_⟩, (Ext.upd R np _).vs r⟩
  obtain ⟨ws, q⟩ := R.at hm
  exact ne_of_none q np
theorem Rel.newT (R : Rel K rho h H) (np : H p = none) {xs : List D} {us : List V} (r : RelVs' K rho h H xs us) : RelV' K rho h (L2.upd H p (.tup us)) (.tup xs) (.ref p) := by
  simp only [RelV', RelD]
  exact ⟨p, us, rfl, .inl (.inl upd_same), (Ext.upd R np _).vs r⟩
def rhoAdd (rho : Rh) (n : Nat) (p : Addr) : Rh := ⟨fun m => if m = n then p else rho m, rho.Z⟩
theorem live_app {xs : List D} {m : Nat} (e : live (h ++ [.lst xs]) m = true) : live h m = true ∨ m = h.length := by
  have hl := live_lt e
  rw [List.length_append] at hl
  by_cases q : m < h.length
  · left
    unfold live at e ⊢
    rw [List.getElem?_append_left q] at e
    exact e
  · right
    simp at hl; omega
theorem Ext.alloc (R : Rel K rho h H) (np : H p = none) {xs : List D} {us : List V} : Ext K rho h H (rhoAdd rho h.length p) (h ++ [.lst xs]) (L2.upd H p (.lst us)) where
  le := by rw [List.length_append]; exact Nat.le_add_right _ _
  ag := fun m hm => by show (if m = h.length then p else rho m) = rho m; rw [if_neg (Nat.ne_of_lt hm)]
  lv := fun m hm e => by
    rcases live_app e with q | q
    · exact q
    · omega
  fr := fun m hm e => by
    rcases live_app e with q | q
    · exact absurd (live_lt q) (Nat.not_lt.mpr hm)
    · subst q; show H (if h.length = h.length then p else rho h.length) = none; rw [if_pos rfl]; exact np
  kp := (Ext.upd R np _).kp
  tp := (Ext.upd R np _).tp
  fz := (Ext.upd R np _).fz
  dm := (Ext.upd R np (.lst us)).dm
  zi := fun _ e => e
  zo := fun _ e => .inl e
theorem Rel.alloc (R : Rel K rho h H) (np : H p = none) {xs : List D} {us : List V} (r : RelVs' K rho h H xs us) : Rel K (rhoAdd rho h.length p) (h ++ [.lst xs]) (L2.upd H p (.lst us)) where
  inj := fun m n hm hn e => by
    have e : (if m = h.length then p else rho m) = (if n = h.length then p else rho n) := e
    rcases live_app hm with qm | qm <;> rcases live_app hn with qn | qn
    · rw [if_neg (Nat.ne_of_lt (live_lt qm)), if_neg (Nat.ne_of_lt (live_lt qn))] at e; exact R.inj m n qm qn e
    · rw [if_neg (Nat.ne_of_lt (live_lt qm)), if_pos qn] at e
      obtain ⟨ws, z⟩ := R.at qm
      exact absurd e (ne_of_none z np)
    · rw [if_pos qm, if_neg (Nat.ne_of_lt (live_lt qn))] at e
      obtain ⟨ws, z⟩ := R.at qn
      exact absurd e.symm (ne_of_none z np)
    · rw [qm, qn]
  cell := fun m ob e => by
    have x := Ext.alloc (xs := xs) (us := us) R np
    by_cases q : m < h.length
    · rw [List.getElem?_append_left q] at e
      cases ob with
      | dead => trivial
      | lst ys =>
        obtain ⟨ws, a, b⟩ := R.cell m _ e
        exact ⟨ws, by rw [x.ag m q, upd_ne (ne_of_none a np)]; exact a, RelDs.mono x (Nat.le_refl _) (Nat.le_of_lt q) _ _ b⟩
    · have hl := (List.getElem?_eq_some_iff.mp e).1
      rw [List.length_append] at hl
      have em : m = h.length := by simp at hl; omega
      subst em
      rw [List.getElem?_append_right (Nat.le_refl _)] at e
      simp at e
      subst e
      exact ⟨us, by show L2.upd H p (.lst us) (if h.length = h.length then p else rho h.length) = _; rw [if_pos rfl]; exact upd_same, RelDs.mono x (Nat.le_refl _) (Nat.le_refl _) _ _ r⟩
  zd := fun a z e => R.zd a z ((Ext.upd R np (.lst us)).dm a e)
  zc := fun m hm z => by
    have z : rho.Z (if m = h.length then p else rho m) := z
    rcases live_app hm with q | q
    · rw [if_neg (Nat.ne_of_lt (live_lt q))] at z; exact R.zc m q z
    · rw [if_pos q] at z; exact R.zd p z np
/-- a new list: both ways -/
theorem post_mkL (R : Rel K rho h H) {m : Bool} {xs : List D} {us : List V} {Q : VK} (r : RelVs' K rho h H xs us) (po : PostP K rho h H (mkL m xs h) Q) (np : H p = none) : Q (.ref p) (L2.upd H p (.lst us)) := by
  unfold mkL at po
  cases m with
  | true =>
    refine po (rhoAdd rho h.length p) _ _ (Ext.alloc R np) (Rel.alloc R np r) ?_
    simp only [RelV', RelD, List.length_append]
    exact ⟨by simp, by show V.ref p = .ref (if h.length = h.length then p else rho h.length); rw [if_pos rfl]⟩
  | false => exact po rho _ _ (Ext.upd R np _) (R.upd np _) (R.newV np r)
theorem post_tup (R : Rel K rho h H) {xs : List D} {us : List V} {Q : VK} (r : RelVs' K rho h H xs us) (po : PostP K rho h H (some (.tup xs, h)) Q) (np : H p = none) : Q (.ref p) (L2.upd H p (.tup us)) :=
  po rho _ _ (Ext.upd R np _) (R.upd np _) (R.newT np r)
end
def e_tup (a : AF) : EF := fun s h => (a s h).bind fun xs h1 => if xs.length ≤ sizeLine then .ok (.tup xs) h1 else .fail
def e_lst (m : Bool) (a : AF) : EF := fun s h => (a s h).bind fun xs h1 => if xs.length ≤ sizeLine then lift (mkL m xs h1) else .fail
section
variable {X : Cx} {W : WX} {pos : Pos} {es : List Expr} {fa : AF}
theorem r_tup {x1} (ha : SA X W es fa) : SE X W (.Tuple es x1 pos) (e_tup fa) := PE.imp (pe_tup ha) fun σ H Q h => by
  obtain ⟨rho, h, s, R, S, po⟩ := h
  refine step R S po fun rho1 h1 H1 x e1 R1 S1 po1 v r => ?_
  by_cases q : x.length ≤ sizeLine
  · simp only [q, if_true] at po1
    refine ⟨by rw [← RelDs.length r]; exact q, fun p np => post_tup R1 r ?_ np⟩
    exact fun rho' H' v e R' rr => po1 rho' H' e R' v rr
  · simp only [q, if_false] at po1; exact po1.elim
theorem r_lst (m : Bool) (ha : SA X W es fa) : SE X W (.List es pos) (e_lst m fa) := PE.imp (pe_lst ha) fun σ H Q h => by
  obtain ⟨rho, h, s, R, S, po⟩ := h
  refine step R S po fun rho1 h1 H1 x e1 R1 S1 po1 v r => ?_
  by_cases q : x.length ≤ sizeLine
  · simp only [q, if_true] at po1
    exact ⟨by rw [← RelDs.length r]; exact q, fun p np => post_mkL R1 r (PostP.of po1) np⟩
  · simp only [q, if_false] at po1; exact po1.elim
end

/-! ### calls of built-ins and methods, by primitives -/
def e_call (g : PL) (a : AF) : EF := fun s h => (a s h).bind fun xs h1 => lift (g xs h1)
def e_meth (g : PM) (o : EF) (a : AF) : EF := fun s h => (o s h).bind fun x h1 => (a s h1).bind fun xs h2 => lift (g x xs h2)
section
variable {X : Cx} {W : WX} {p pos : Pos} {x : Str} {e o : Expr} {es : List Expr} {fo : EF} {fa : AF} {id T : String} {g : PL}
theorem CallR.imp' {f : Value} {r r' : List V → Hp → VK → Prop} (p : CallR X f r) (i : ∀ x H Q, r' x H Q → r x H Q) : CallR X f r' := fun pins s σ H xs us Q I rx q => p pins s σ H xs us Q I rx (i xs H Q q)
theorem tE.cb {K : PySem.W.Frag} {mg : Str → Option Value} {σ : St} {H : Hp} {Q : VK} (h : tE K mg W (e_call g fa) σ H Q) : tCB (rC K g) (tA K mg W fa) σ H Q := by
  obtain ⟨rho, h, s, R, S, po⟩ := h
  exact step R S po fun rho1 h1 H1 x e1 R1 S1 po1 v r => ⟨rho1, h1, x, R1, r, PostP.of po1⟩
theorem r_callB (hc : CallR X (.builtin id) (rC X.K g)) (hm : X.mg x = none) (hv : bootBuiltins x = some (.builtin id)) (ha : SA X W (e :: es) fa) (hg : Gl X x := by rfl) (hn : x ≠ "__name__" := by decide) (hdb : (x == ("__debug__" : Str)) = false := by decide)
    (he : starEach (e :: es) X.env = (false, eval e X.env) :: starEach es X.env := by rfl) (hpl : (backTo pos (starEach es X.env)).any (·.1) = false := by rfl) : SE X W (.Call (.Name x p) (e :: es) [] pos) (e_call g fa) :=
  PE.imp (pe_callB hc hg hm hv ha hn hdb he hpl) fun _ _ _ h => tE.cb h
theorem r_callTy (hc : CallR X (.type T) (rC X.K g)) (hm : X.mg x = none) (hv : bootBuiltins x = some (.type T)) (ha : SA X W (e :: es) fa) (hg : Gl X x := by rfl) (hn : x ≠ "__name__" := by decide) (hdb : (x == ("__debug__" : Str)) = false := by decide)
    (he : starEach (e :: es) X.env = (false, eval e X.env) :: starEach es X.env := by rfl) (hpl : (backTo pos (starEach es X.env)).any (·.1) = false := by rfl) : SE X W (.Call (.Name x p) (e :: es) [] pos) (e_call g fa) :=
  PE.imp (pe_callTy hc hg hm hv ha hn hdb he hpl) fun _ _ _ h => tE.cb h
end
end Mini
namespace Mini
open PySem L2

/-! ### statements -/
def bindE {α : Type} (r : Res α) (s : Ev) (k : α → Hd → Res Fl) : Res Fl := match r with
  | .ok a h => k a h
  | .exc x h => .ok (.ex x s) h
  | .fail => .fail
section
variable {α β : Type} {K : PySem.W.Frag} {mg : Str → Option Value} {W : WX} {f : Ev → Hd → Res α} {k : α → Hd → Res Fl} {p : β → PG' α} {E : Ends} {σ : St} {H : Hp} {c : β} {rho : Rh} {h : Hd} {s : Ev}
theorem stepS (R : Rel K rho h H) (S : RelS K rho h H s σ) (po : PostG K mg (fun _ _ _ => False) rho h H (bindE (f s h) s k) (pS K W mg E))
    (hc : ∀ rho' h' H' a, Ext K rho h H rho' h' H' → Rel K rho' h' H' → RelS K rho' h' H' s σ → PostG K mg (fun _ _ _ => False) rho' h' H' (k a h') (pS K W mg E) → p c a rho' h' H') : tG K mg W f p σ H c := by
  refine ⟨rho, h, s, R, S, ?_⟩
  cases q : f s h with
  | ok a h' => rw [q] at po; exact fun rho' H' e R' => hc rho' h' H' a e R' (e.s S) (PostG.ext e po)
  | exc x h' => rw [q] at po; exact fun rho' H' cls dd e R' rx => po rho' H' e R' σ cls dd (e.s S) rx
  | fail => rw [q] at po; exact po
end
def s_nil : SF := fun s h => .ok (.nx s) h
def s_seq (a b : SF) : SF := fun s h => match a s h with
  | .ok (.nx s1) h1 => b s1 h1
  | r => r
def s_expr (f : EF) : SF := fun s h => bindE (f s h) s fun _ h1 => .ok (.nx s) h1
def s_ret (f : EF) : SF := fun s h => bindE (f s h) s fun d h1 => .ok (.rt d) h1
def s_retN : SF := fun _ h => .ok (.rt .non) h
def s_if (t : TF) (a b : SF) : SF := fun s h => bindE (t s h) s fun c h1 => if c then a s h1 else b s h1
def s_never : SF := fun _ _ => .fail
def s_break : SF := fun s h => .ok (.bk s) h
def s_cont : SF := fun s h => .ok (.ct s) h
def s_set (i : Nat) (f : EF) : SF := fun s h => bindE (f s h) s fun d h1 => .ok (.nx (s.set i (some d))) h1
def s_aug (i : Nat) (g : P2) (f : EF) : SF := fun s h => match s[i]? with
  | some (some x) => bindE (f s h) s fun y h1 => match g x y h1 with
    | some (d, h2) => .ok (.nx (s.set i (some d))) h2
    | none => .fail
  | _ => .fail
section
variable {X : Cx} {W : WX} {pos : Pos} {e c : Expr} {fe : EF} {tc : TF} {st : Stmt} {rest a b : List Stmt} {fs gs : SF}
theorem r_nil : SSs X W [] s_nil := PSs.imp pss_nil fun E σ H h => by
  obtain ⟨rho, h, s, R, S, po⟩ := h
  exact PostG.ok po R σ S
theorem tS.seq {K : PySem.W.Frag} {mg : Str → Option Value} {E : Ends} {σ : St} {H : Hp} (h : tS K mg W (s_seq fs gs) E σ H) : tSeq (tS K mg W fs) (tS K mg W gs) E σ H := by
  obtain ⟨rho, h, s, R, S, po⟩ := h
  refine ⟨rho, h, s, R, S, ?_⟩
  unfold s_seq at po
  cases q : fs s h with
  | ok fl h' =>
    rw [q] at po
    cases fl with
    | nx s1 => exact fun rho' H' e R' σ' S' => ⟨rho', h', s1, R', S', PostG.ext e po⟩
    | rt d => exact po
    | bk s1 => exact po
    | ct s1 => exact po
    | ex x s1 => exact po
  | exc x h' => rw [q] at po; exact po
  | fail => rw [q] at po; exact po
theorem r_seq (h1 : SS X W st fs) (h2 : SSs X W rest gs) : SSs X W (st :: rest) (s_seq fs gs) := PSs.imp (pss_cons h1 h2) fun _ _ _ h => tS.seq h
theorem r_last (h1 : SS X W st fs) : SSs X W [st] fs := pss_one h1
theorem r_pass : SS X W (.Pass pos) s_nil := PS.imp ps_pass fun E σ H h => by
  obtain ⟨rho, h, s, R, S, po⟩ := h
  exact PostG.ok po R σ S
theorem r_break : SS X W (.Break pos) s_break := PS.imp ps_break fun E σ H h => by
  obtain ⟨rho, h, s, R, S, po⟩ := h
  exact PostG.ok po R σ S
theorem r_cont : SS X W (.Continue pos) s_cont := PS.imp ps_continue fun E σ H h => by
  obtain ⟨rho, h, s, R, S, po⟩ := h
  exact PostG.ok po R σ S
theorem r_never : SS X W st s_never := PS.imp ps_never fun E σ H h => by
  obtain ⟨rho, h, s, R, S, po⟩ := h
  exact po
theorem r_nevers : SSs X W rest s_never := PSs.imp pss_never fun E σ H h => by
  obtain ⟨rho, h, s, R, S, po⟩ := h
  exact po
theorem r_expr (he : SE X W e fe) (hs : swapsWith e none pos.line X.env = pure false := by rfl) : SS X W (.Expr e pos) (s_expr fe) := PS.imp (ps_expr he hs) fun E σ H h => by
  obtain ⟨rho, h, s, R, S, po⟩ := h
  exact stepS R S po fun rho1 h1 H1 x e1 R1 S1 po1 v r => PostG.ok po1 R1 σ S1
theorem r_ret (he : SE X W e fe) : SS X W (.Return (some e) pos) (s_ret fe) := PS.imp (ps_ret he) fun E σ H h => by
  obtain ⟨rho, h, s, R, S, po⟩ := h
  exact stepS R S po fun rho1 h1 H1 x e1 R1 S1 po1 v r => PostG.ok po1 R1 v r
theorem r_retN : SS X W (.Return none pos) s_retN := PS.imp ps_retN fun E σ H h => by
  obtain ⟨rho, h, s, R, S, po⟩ := h
  exact PostG.ok po R _ relNon
theorem r_if (hc : ST X W c tc) (ha : SSs X W a fs) (hb : SSs X W b gs) : SS X W (.If c a b pos) (s_if tc fs gs) := PS.imp (ps_if hc ha hb) fun E σ H h => by
  obtain ⟨rho, h, s, R, S, po⟩ := h
  refine stepS R S po fun rho1 h1 H1 x e1 R1 S1 po1 => ?_
  cases x with
  | true => exact iteT ⟨rho1, h1, s, R1, S1, po1⟩
  | false => exact iteF ⟨rho1, h1, s, R1, S1, po1⟩
theorem r_set {i : Nat} {x : Str} {pos' : Pos} (hN : X.N.Nodup) (he : SE X W e fe) (hi : X.N[i]? = some x := by rfl) (hx : Loc X.env.scope x := by first | exact Or.inl rfl | exact Or.inr rfl) (hs : swapsWith e (some (.Name x pos')) pos.line X.env = pure false := by rfl)
    (hf : X.fn x = true ∨ X.env.scope.names.lookup x = some .local := by first | exact .inl rfl | exact .inr rfl | assumption) : SS X W (.Assign [.Name x pos'] e pos) (s_set i fe) := PS.imp (ps_set hN hi hx he hs hf) fun E σ H h => by
  obtain ⟨rho, h, s, R, S, po⟩ := h
  exact stepS R S po fun rho1 h1 H1 x e1 R1 S1 po1 v r => PostG.ok po1 R1 _ (S1.set r i)
theorem r_aug {i : Nat} {x : Str} {op : Operator} {g : P2} {pos' : Pos} (hN : X.N.Nodup) (ho : OpR X (inplaceOp op) (rO X.K g)) (he : SE X W e fe) (hi : X.N[i]? = some x := by rfl) (hx : Loc X.env.scope x := by first | exact Or.inl rfl | exact Or.inr rfl)
    (hf : X.fn x = true ∨ X.env.scope.names.lookup x = some .local := by first | exact .inl rfl | exact .inr rfl | assumption) : SS X W (.AugAssign (.Name x pos') op e pos) (s_aug i g fe) := PS.imp (ps_aug hN hi hx he ho hf) fun E σ H h => by
  obtain ⟨rho, h, s, R, S, po⟩ := h
  unfold s_aug at po
  cases q : s[i]? with
  | none => rw [q] at po; exact po.elim
  | some o =>
    cases o with
    | none => rw [q] at po; exact po.elim
    | some x =>
      rw [q] at po
      obtain ⟨v, e1, r⟩ := S.2 i x q
      refine ⟨v, e1, stepS R S po fun rho1 h1 H1 y e1 R1 S1 po1 u ru => ⟨rho1, h1, x, y, R1, e1.v r, ru, ?_⟩⟩
      cases q2 : g x y h1 with
      | none => simp only [q2] at po1; exact po1
      | some dz =>
        simp only [q2] at po1
        exact fun rho' H' v' e2 R2 r2 => po1 rho' H' e2 R2 _ ((e2.s S1).set r2 i)
end

/-! ### targets: names and tuples of names -/
inductive Pat where
  | nm (i : Nat) | tp (ps : List Pat)
mutual
def patG (K : PySem.W.Frag) : Pat → TG
  | .nm i => gName i
  | .tp ps => fun v σ H Q => gTup K (patN ps) (patGs K ps) v σ H Q ∨ gLst K (patN ps) (patGs K ps) v σ H Q
def patGs (K : PySem.W.Frag) : List Pat → TGs
  | [] => gNil
  | p :: ps => gCons (patG K p) (patGs K ps)
def patN : List Pat → Nat
  | [] => 0
  | _ :: ps => patN ps + 1
end
mutual
def patD : Pat → D → Ev → Option Ev
  | .nm i, d, s => some (s.set i (some d))
  | .tp ps, .tup xs, s => if xs.length = patN ps then patDs ps xs s else none
  | .tp ps, .lv xs, s => if xs.length = patN ps then patDs ps xs s else none
  | .tp _, _, _ => none
def patDs : List Pat → List D → Ev → Option Ev
  | [], [], s => some s
  | p :: ps, x :: xs, s => match patD p x s with
    | some s1 => patDs ps xs s1
    | none => none
  | _, _, _ => none
end
mutual
def patI : Pat → List Nat
  | .nm i => [i]
  | .tp ps => patIs ps
def patIs : List Pat → List Nat
  | [] => []
  | p :: ps => patI p ++ patIs ps
end
theorem wipe_get (σ : St) (j : Nat) : ∀ vs : List Nat, (wipe σ vs)[j]? = if j ∈ vs then (if j < σ.length then some none else none) else σ[j]?
  | [] => by simp [wipe]
  | v :: vs => by
    unfold wipe
    by_cases hv : v = j
    · subst hv
      by_cases hl : v < σ.length
      · rw [List.getElem?_set_self (by rw [wipe_length]; exact hl)]
        simp [hl]
      · rw [List.getElem?_eq_none (by simp [wipe_length]; omega)]
        simp [hl]
    · rw [List.getElem?_set_ne hv, wipe_get σ j vs]
      have : ¬ j = v := fun e => hv e.symm
      simp [this]
theorem wipe_set {σ : St} {i : Nat} {v : Option V} {vs : List Nat} (h : i ∈ vs) : wipe (σ.set i v) vs = wipe σ vs := by
  apply List.ext_getElem?
  intro j
  rw [wipe_get, wipe_get]
  by_cases hj : j ∈ vs
  · simp [hj]
  · have : i ≠ j := fun e => hj (e ▸ h)
    simp [hj, List.getElem?_set_ne this]
section
variable {K : PySem.W.Frag} {rho : Rh} {h : Hd} {H : Hp}
mutual
theorem patG_ok : ∀ (p : Pat) (d : D) (v : V) (s s' : Ev) (σ : St), RelV' K rho h H d v → RelS K rho h H s σ → patD p d s = some s' →
    ∃ σ', RelS K rho h H s' σ' ∧ (∀ Q : St → Hp → Prop, Q σ' H → patG K p v σ H Q) ∧ ∀ vs, (∀ i ∈ patI p, i ∈ vs) → wipe σ' vs = wipe σ vs
  | .nm i, d, v, s, s', σ, r, S, e => by
    simp only [patD, Option.some.injEq] at e
    subst e
    refine ⟨σ.set i (some v), S.set r i, fun Q q => ?_, fun vs hv => wipe_set (hv i (by simp [patI]))⟩
    simp only [patG]
    exact q
  | .tp ps, .tup xs, v, s, s', σ, r, S, e => by
    simp only [patD] at e
    split at e
    · rename_i hl
      obtain ⟨a, us, e1, e2, e3⟩ := r.tup
      obtain ⟨σ', S', q, w⟩ := patGs_ok ps xs us s s' σ e3 S e
      refine ⟨σ', S', fun Q z => ?_, fun vs hv => w vs (by simpa [patI] using hv)⟩
      simp only [patG]
      exact .inl ⟨a, us, e1, e2, by rw [← RelDs.length e3]; exact hl, q Q z⟩
    · cases e
  | .tp ps, .non, v, s, s', σ, r, S, e => by simp [patD] at e
  | .tp ps, .bl _, v, s, s', σ, r, S, e => by simp [patD] at e
  | .tp ps, .int _, v, s, s', σ, r, S, e => by simp [patD] at e
  | .tp ps, .str _, v, s, s', σ, r, S, e => by simp [patD] at e
  | .tp ps, .lv xs, v, s, s', σ, r, S, e => by
    simp only [patD] at e
    split at e
    · rename_i hl
      simp only [RelV', RelD] at r
      obtain ⟨a, us, e1, e2, e3⟩ := r
      obtain ⟨σ', S', q, w⟩ := patGs_ok ps xs us s s' σ e3 S e
      refine ⟨σ', S', fun Q z => ?_, fun vs hv => w vs (by simpa [patI] using hv)⟩
      simp only [patG]
      exact .inr ⟨a, us, e1, .inl (.inl e2.1), by rw [← RelDs.length e3]; exact hl, q Q z⟩
    · cases e
  | .tp ps, .fl _, v, s, s', σ, r, S, e => by simp [patD] at e
  | .tp ps, .ref _, v, s, s', σ, r, S, e => by simp [patD] at e
theorem patGs_ok : ∀ (ps : List Pat) (ds : List D) (us : List V) (s s' : Ev) (σ : St), RelVs' K rho h H ds us → RelS K rho h H s σ → patDs ps ds s = some s' →
    ∃ σ', RelS K rho h H s' σ' ∧ (∀ Q : St → Hp → Prop, Q σ' H → patGs K ps us σ H Q) ∧ ∀ vs, (∀ i ∈ patIs ps, i ∈ vs) → wipe σ' vs = wipe σ vs
  | [], [], us, s, s', σ, r, S, e => by
    simp only [patDs, Option.some.injEq] at e
    subst e
    simp only [RelVs', RelDs] at r
    subst r
    exact ⟨σ, S, fun Q q => by simp only [patGs]; exact ⟨rfl, q⟩, fun vs _ => rfl⟩
  | p :: ps, x :: xs, us, s, s', σ, r, S, e => by
    simp only [patDs] at e
    cases q : patD p x s with
    | none => rw [q] at e; cases e
    | some s1 =>
      rw [q] at e
      simp only [RelVs', RelDs] at r
      obtain ⟨v, rr, e1, e2, e3⟩ := r
      obtain ⟨σ1, S1, q1, w1⟩ := patG_ok p x v s s1 σ e2 S q
      obtain ⟨σ2, S2, q2, w2⟩ := patGs_ok ps xs rr s1 s' σ1 e3 S1 e
      refine ⟨σ2, S2, fun Q z => ?_, fun vs hv => ?_⟩
      · simp only [patGs]
        exact ⟨v, rr, e1, q1 _ (q2 Q z)⟩
      · have h1 : ∀ i ∈ patI p, i ∈ vs := fun i hi => hv i (by simp [patIs, hi])
        have h2 : ∀ i ∈ patIs ps, i ∈ vs := fun i hi => hv i (by simp [patIs, hi])
        rw [w2 vs h2, w1 vs h1]
  | [], _ :: _, us, s, s', σ, r, S, e => by simp [patDs] at e
  | _ :: _, [], us, s, s', σ, r, S, e => by simp [patDs] at e
end
end
abbrev SG (X : Cx) (tg : Expr) (p : Pat) : Prop := PG X tg (patG X.K p)
abbrev SGs (X : Cx) (tg : List Expr) (p : List Pat) : Prop := PGs X tg (patGs X.K p)
def s_asg (p : Pat) (f : EF) : SF := fun s h => bindE (f s h) s fun d h1 => match patD p d s with
  | some s1 => .ok (.nx s1) h1
  | none => .fail
section
variable {X : Cx} {W : WX} {pos : Pos} {e tg : Expr} {fe : EF} {es : List Expr} {p : Pat} {ps : List Pat}
theorem g_nm {i : Nat} {x : Str} (hN : X.N.Nodup) (hi : X.N[i]? = some x := by rfl) (hx : Loc X.env.scope x := by first | exact Or.inl rfl | exact Or.inr rfl) (hf : X.fn x = true ∨ X.env.scope.names.lookup x = some .local := by first | exact .inl rfl | exact .inr rfl | assumption) :
    SG X (.Name x pos) (.nm i) := by
  show PG X _ _
  unfold patG
  exact pg_name hN hi hx hf
theorem gs_nil : SGs X [] [] := by
  show PGs X _ _
  unfold patGs
  exact pgs_nil
theorem gs_cons (h1 : SG X e p) (h2 : SGs X es ps) (hs : (assignEach (e :: es) X.env).map (·.2) = assign e X.env :: (assignEach es X.env).map (·.2) := by rfl) : SGs X (e :: es) (p :: ps) := by
  show PGs X _ _
  unfold patGs
  exact pgs_cons h1 h2 hs
theorem g_tp {k : Nat} (hc : X.calm = true) (h : SGs X es ps) (hn : (assignEach es X.env).length = patN ps := by rfl) (hst : (assignEach es X.env).findIdx? (·.1) = none := by rfl) : SG X (.Tuple es k pos) (.tp ps) := by
  show PG X _ _
  unfold patG
  exact ⟨fun pins s σ H v u Q I r q => q.elim (fun q => (pg_tup hc h hn hst).run pins s σ H v u Q I r q) fun q => (pg_lst hc h hn hst).run pins s σ H v u Q I r q⟩
theorem r_asg (he : SE X W e fe) (hg : SG X tg p) (hs : swapsWithSole [tg] e pos.line X.env = pure false := by rfl) (hw : swappedStores [tg] e X.env = pure none := by rfl)
    (h1 : (assignEach [tg] X.env).map (·.2) = [assign tg X.env] := by rfl) : SS X W (.Assign [tg] e pos) (s_asg p fe) := PS.imp (ps_asg he hg hs hw h1) fun E σ H h => by
  obtain ⟨rho, h, s, R, S, po⟩ := h
  refine stepS R S po fun rho1 h1 H1 x e1 R1 S1 po1 v r => ?_
  cases q : patD p x s with
  | none => simp only [q] at po1; exact po1.elim
  | some s1 =>
    simp only [q] at po1
    obtain ⟨σ', S', z, _⟩ := patG_ok p x v s s1 σ r S1 q
    exact z _ (PostG.ok po1 R1 σ' S')
end
/-- a, b = x, y of plain local names -/
def s_par (i j : Nat) (a : AF) : SF := fun s h => bindE (a s h) s fun ds h1 => match ds with
  | [x, y] => .ok (.nx ((s.set i (some x)).set j (some y))) h1
  | _ => .fail
theorem r_par {X : Cx} {W : WX} {pos : Pos} {i j : Nat} {x y : Str} {a b : Expr} {fa : AF} {px py pt : Pos} {kt k2 pt2} (hN : X.N.Nodup) (hc : X.calm = true) (ha : SA X W [a, b] fa) (hi : X.N[i]? = some x := by rfl) (hj : X.N[j]? = some y := by rfl) (hij : i ≠ j := by decide)
    (hx : X.env.scope.names.lookup x = some .local := by rfl) (hy : X.env.scope.names.lookup y = some .local := by rfl)
    (hw : swappedStores [.Tuple [.Name x px, .Name y py] kt pt] (.Tuple [a, b] k2 pt2) X.env = pure (some [x, y]) := by rfl)
    (hs : swapsWithSole [.Tuple [.Name x px, .Name y py] kt pt] (.Tuple [a, b] k2 pt2) pos.line X.env = pure false := by rfl) :
    SS X W (.Assign [.Tuple [.Name x px, .Name y py] kt pt] (.Tuple [a, b] k2 pt2) pos) (s_par i j fa) := PS.imp (ps_par hc hN hi hj hij hx hy ha hw hs) fun E σ H h => by
  obtain ⟨rho, h, s, R, S, po⟩ := h
  refine stepS R S po fun rho1 h1 H1 ds e1 R1 S1 po1 vs r => ?_
  match ds, po1, r with
  | [d1, d2], po1, r =>
    simp only [RelVs', RelDs] at r
    obtain ⟨v, rr, e1, r1, w, rr2, e2, r2, e3⟩ := r
    subst e3 e2
    exact ⟨v, w, e1, PostG.ok po1 R1 _ ((S1.set r1 i).set r2 j)⟩
  | [], po1, r => exact po1.elim
  | [_], po1, r => exact po1.elim
  | _ :: _ :: _ :: _, po1, r => exact po1.elim

/-! ### targets with places: xs[i] = v, xs[i], ys[j] = v, w -/
abbrev GF := D → Ev → Hd → Res Ev
def tGt (K : PySem.W.Frag) (mg : Str → Option Value) (g : GF) : TG := fun v σ H Q => ∃ rho h s d, Rel K rho h H ∧ RelS K rho h H s σ ∧ RelV' K rho h H d v ∧ PostG K mg (fun _ _ _ => False) rho h H (g d s h) fun s' rho' h' H' => ∀ σ', RelS K rho' h' H' s' σ' → Q σ' H'
abbrev GFs := List D → Ev → Hd → Res Ev
def tGts (K : PySem.W.Frag) (mg : Str → Option Value) (g : GFs) : TGs := fun v σ H Q => ∃ rho h s d, Rel K rho h H ∧ RelS K rho h H s σ ∧ RelVs' K rho h H d v ∧ PostG K mg (fun _ _ _ => False) rho h H (g d s h) fun s' rho' h' H' => ∀ σ', RelS K rho' h' H' s' σ' → Q σ' H'
def g_name (i : Nat) : GF := fun d s h => .ok (s.set i (some d)) h
def g_sub (g : D → D → D → Hd → Option Hd) (o i : EF) : GF := fun d s h => (o s h).bind fun x h1 => (i s h1).bind fun y h2 => match g x y d h2 with
  | some h3 => .ok s h3
  | none => .fail
def g_nil : GFs := fun ds s h => match ds with
  | [] => .ok s h
  | _ => .fail
def g_cons (g : GF) (r : GFs) : GFs := fun ds s h => match ds with
  | d :: ds => (g d s h).bind fun s1 h1 => r ds s1 h1
  | [] => .fail
def g_tup (n : Nat) (r : GFs) : GF := fun d s h => match d with
  | .tup xs => if xs.length = n then r xs s h else .fail
  | _ => .fail
def rS (K : PySem.W.Frag) (g : D → D → D → Hd → Option Hd) : TSet := fun o i v H Q => ∃ rho h d0 d1 d2, Rel K rho h H ∧ RelV' K rho h H d0 o ∧ RelV' K rho h H d1 i ∧ RelV' K rho h H d2 v ∧ ∃ h', g d0 d1 d2 h = some h' ∧ ∀ rho' H', Ext K rho h H rho' h' H' → Rel K rho' h' H' → Q H'
section
variable {X : Cx} {W : WX} {pos : Pos} {e o i tg : Expr} {fe fo fi : EF} {es : List Expr}
theorem tG.noex {α β : Type} {K : PySem.W.Frag} {mg : Str → Option Value} {f : Ev → Hd → Res α} {p : β → PG' α} {σ : St} {H : Hp} {c : β} (h : tG K mg (fun _ _ _ _ => False) f p σ H c) : tG K mg W f p σ H c := by
  obtain ⟨rho, h, s, R, S, po⟩ := h
  refine ⟨rho, h, s, R, S, ?_⟩
  cases q : f s h with
  | ok a h' => rw [q] at po; exact po
  | exc x h' => rw [q] at po; exact fun rho' H' cls dd e R' rx => (po rho' H' cls dd e R' rx).elim
  | fail => rw [q] at po; exact po
theorem PG.imp {t t' : TG} (p : PG X tg t) (i : ∀ v σ H Q, t' v σ H Q → t v σ H Q) : PG X tg t' := ⟨fun pins s σ H v u Q I r q => p.run pins s σ H v u Q I r (i v σ H Q q)⟩
theorem PGs.imp {t t' : TGs} (p : PGs X es t) (i : ∀ v σ H Q, t' v σ H Q → t v σ H Q) : PGs X es t' := ⟨fun pins s σ H v u Q I r q => p.run pins s σ H v u Q I r (i v σ H Q q)⟩
theorem q_name {i : Nat} {x : Str} (hN : X.N.Nodup) (hi : X.N[i]? = some x := by rfl) (hx : Loc X.env.scope x := by first | exact Or.inl rfl | exact Or.inr rfl) (hf : X.fn x = true ∨ X.env.scope.names.lookup x = some .local := by first | exact .inl rfl | exact .inr rfl | assumption) :
    PG X (.Name x pos) (tGt X.K X.mg (g_name i)) := PG.imp (pg_name hN hi hx hf) fun v σ H Q h => by
  obtain ⟨rho, h, s, d, R, S, r, po⟩ := h
  exact PostG.ok po R _ (S.set r i)
theorem q_sub {g : D → D → D → Hd → Option Hd} (hs : PSet X (rS X.K g)) (ho : SE X W o fo) (hi : SE X W i fi)
    (ha : ∀ v, assign (.Subscript o i pos) X.env v = (do
      let ov ← holding [v] (eval o X.env)
      let iv ← holding [v, ov] (eval i X.env)
      standAt pos
      holding [v, ov, iv] (setItem ov iv v)
      release [v, ov, iv] []) := by intro _; rfl) : PG X (.Subscript o i pos) (tGt X.K X.mg (g_sub g fo fi)) := PG.imp (pg_sub ho hi hs ha) fun v σ H Q h => by
  obtain ⟨rho, h, s, d, R, S, r, po⟩ := h
  refine tG.noex (step R S po fun rho1 h1 H1 x e1 R1 S1 po1 ov ro => tG.noex (step R1 S1 po1 fun rho2 h2 H2 y e2 R2 S2 po2 iv ri => ⟨rho2, h2, x, y, d, R2, e2.v ro, ri, (e1.trans e2).v r, ?_⟩))
  cases q : g x y d h2 with
  | none => simp only [q] at po2; exact po2.elim
  | some h3 =>
    simp only [q] at po2
    exact ⟨h3, rfl, fun rho' H' e3 R3 => po2 rho' H' e3 R3 σ (e3.s S2)⟩
theorem qs_nil : PGs X [] (tGts X.K X.mg g_nil) := PGs.imp pgs_nil fun v σ H Q h => by
  obtain ⟨rho, h, s, d, R, S, r, po⟩ := h
  cases d with
  | nil => simp only [RelVs', RelDs] at r; exact ⟨r, PostG.ok po R σ S⟩
  | cons _ _ => exact po.elim
theorem qs_cons {g : GF} {gs : GFs} (h1 : PG X e (tGt X.K X.mg g)) (h2 : PGs X es (tGts X.K X.mg gs)) (hs : (assignEach (e :: es) X.env).map (·.2) = assign e X.env :: (assignEach es X.env).map (·.2) := by rfl) : PGs X (e :: es) (tGts X.K X.mg (g_cons g gs)) :=
  PGs.imp (pgs_cons h1 h2 hs) fun v σ H Q h => by
    obtain ⟨rho, h, s, d, R, S, r, po⟩ := h
    cases d with
    | nil => exact po.elim
    | cons d ds =>
      simp only [RelVs', RelDs] at r
      obtain ⟨u, us, e1, r1, r2⟩ := r
      refine ⟨u, us, e1, rho, h, s, d, R, S, r1, ?_⟩
      exact (PostG.bind po).imp fun s1 rho1 h1 H1 e1 R1 z σ' S' => ⟨rho1, h1, s1, ds, R1, S', e1.vs r2, z⟩
theorem q_tup {k n : Nat} {gs : GFs} (hc : X.calm = true) (h : PGs X es (tGts X.K X.mg gs)) (hn : (assignEach es X.env).length = n := by rfl) (hst : (assignEach es X.env).findIdx? (·.1) = none := by rfl) : PG X (.Tuple es k pos) (tGt X.K X.mg (g_tup n gs)) :=
  PG.imp (pg_tup hc h hn hst) fun v σ H Q h => by
    obtain ⟨rho, h, s, d, R, S, r, po⟩ := h
    cases d with
    | tup xs =>
      simp only [g_tup] at po
      split at po
      · rename_i hl
        obtain ⟨a, us, e1, e2, e3⟩ := r.tup
        exact ⟨a, us, e1, e2, by rw [← RelDs.length e3]; exact hl, rho, h, s, xs, R, S, e3, po⟩
      · exact po.elim
    | _ => exact po.elim
def s_asgT (g : GF) (f : EF) : SF := fun s h => bindE (f s h) s fun d h1 => match g d s h1 with
  | .ok s1 h2 => .ok (.nx s1) h2
  | _ => .fail
theorem r_asgT {g : GF} (he : SE X W e fe) (hg : PG X tg (tGt X.K X.mg g)) (hs : swapsWithSole [tg] e pos.line X.env = pure false := by rfl) (hw : swappedStores [tg] e X.env = pure none := by rfl)
    (h1 : (assignEach [tg] X.env).map (·.2) = [assign tg X.env] := by rfl) : SS X W (.Assign [tg] e pos) (s_asgT g fe) := PS.imp (ps_asg he hg hs hw h1) fun E σ H h => by
  obtain ⟨rho, h, s, R, S, po⟩ := h
  refine stepS R S po fun rho1 h1 H1 x e1 R1 S1 po1 v r => ⟨rho1, h1, s, x, R1, S1, r, ?_⟩
  cases q : g x s h1 with
  | ok s1 h2 => simp only [q] at po1; exact fun rho' H' e2 R2 σ' S' => po1 rho' H' e2 R2 σ' S'
  | exc _ _ => simp only [q] at po1; exact po1.elim
  | fail => simp only [q] at po1; exact po1
end

/-! ### a cell becomes a value: no code of Python's -/
def s_freeze (i : Nat) (b : SF) : SF := fun s h => match s[i]? with
  | some (some (.ref n)) => match h[n]? with
    | some (.lst xs) => b (s.set i (some (.lv xs))) (h.set n .dead)
    | _ => .fail
  | _ => .fail
theorem live_dead {h : Hd} {n m : Nat} (e : live (h.set n .dead) m = true) : live h m = true ∧ m ≠ n := by
  unfold live at e ⊢
  by_cases q : n = m
  · subst q
    by_cases hl : n < h.length
    · rw [List.getElem?_set_self hl] at e; cases e
    · rw [List.getElem?_eq_none (by simpa using hl)] at e; cases e
  · rw [List.getElem?_set_ne q] at e
    exact ⟨e, fun z => q z.symm⟩
section
variable {K : PySem.W.Frag} {rho : Rh} {h : Hd} {H : Hp}
theorem Ext.dead (n : Nat) : Ext K rho h H rho (h.set n .dead) H where
  le := by simp
  ag := fun _ _ => rfl
  lv := fun m _ e => (live_dead e).1
  fr := fun m hm e => absurd (live_lt e) (by simpa using hm)
  kp := fun _ _ e _ => e
  tp := fun _ _ e => e
  fz := fun _ _ _ e => e
  dm := fun _ e => e
  zi := fun _ e => e
  zo := fun _ e => .inl e
theorem Rel.dead (R : Rel K rho h H) (n : Nat) : Rel K rho (h.set n .dead) H where
  inj := fun m k hm hk e => R.inj m k (live_dead hm).1 (live_dead hk).1 e
  cell := fun m o e => by
    by_cases q : n = m
    · subst q
      have hl : n < h.length := by
        have := (List.getElem?_eq_some_iff.mp e).1
        simpa using this
      rw [List.getElem?_set_self hl] at e
      cases e
      trivial
    · rw [List.getElem?_set_ne q] at e
      have c := R.cell m o e
      cases o with
      | dead => trivial
      | lst xs =>
        obtain ⟨us, a, b⟩ := c
        exact ⟨us, a, RelDs.mono (Ext.dead n) (Nat.le_refl _) (Nat.le_of_lt (List.getElem?_eq_some_iff.mp e).1) _ _ b⟩
  zd := R.zd
  zc := fun m hm => R.zc m (live_dead hm).1
theorem Rel.frozen (R : Rel K rho h H) {n : Nat} {xs : List D} (e : h[n]? = some (.lst xs)) : RelV' K rho (h.set n .dead) H (.lv xs) (.ref (rho n)) := by
  obtain ⟨us, a, b⟩ := R.cellL e
  have ln : live h n = true := by unfold live; rw [e]
  simp only [RelV', RelD]
  refine ⟨rho n, us, rfl, ⟨a, R.zc n ln, fun m hm z => ?_⟩, ?_⟩
  · obtain ⟨hm, ne⟩ := live_dead hm
    exact ne (R.inj m n hm ln z)
  · have := (Ext.dead (K := K) (rho := rho) (H := H) n).vs b
    exact this
end
theorem tS.freeze {K : PySem.W.Frag} {mg : Str → Option Value} {W : WX} {i : Nat} {b : SF} {E : Ends} {σ : St} {H : Hp} (q : tS K mg W (s_freeze i b) E σ H) : tS K mg W b E σ H := by
  obtain ⟨rho, h, s, R, S, po⟩ := q
  unfold s_freeze at po
  split at po
  · rename_i n q
    split at po
    · rename_i xs q2
      obtain ⟨v, e1, r⟩ := S.2 i _ q
      simp only [RelV', RelD] at r
      have hil : i < σ.length := (List.getElem?_eq_some_iff.mp e1).1
      refine ⟨rho, h.set n .dead, s.set i (some (.lv xs)), R.dead n, ?_, PostG.ext (Ext.dead n) po⟩
      have S1 := ((Ext.dead (K := K) (rho := rho) (H := H) n).s S).set (R.frozen q2) i
      have e : σ.set i (some (.ref (rho n))) = σ := by
        apply List.ext_getElem?
        intro j
        by_cases hj : i = j
        · subst hj; rw [List.getElem?_set_self hil, e1, r.2]
        · rw [List.getElem?_set_ne hj]
      rw [e] at S1
      exact S1
    · exact po.elim
  · exact po.elim
theorem r_freeze {X : Cx} {W : WX} (i : Nat) {sts : List Stmt} {b : SF} (p : SSs X W sts b) : SSs X W sts (s_freeze i b) := PSs.imp p fun _ _ _ q => tS.freeze q

/-! ### while -/
def whileM (t : TF) (b : SF) : Nat → SF
  | 0 => fun _ _ => .fail
  | n + 1 => fun s h => bindE (t s h) s fun c h1 => if c then (match b s h1 with
    | .ok (.nx s2) h2 => whileM t b n s2 h2
    | .ok (.ct s2) h2 => whileM t b n s2 h2
    | .ok (.bk s2) h2 => .ok (.nx s2) h2
    | r => r) else .ok (.nx s) h1
theorem r_while {X : Cx} {W : WX} {c : Expr} {body : List Stmt} {pos : Pos} {tc : TF} {b : SF} (n : Nat) (hp : PassesOwn (model X.prog X.w) X.A X.env X.xe) (hc : ST X W c tc) (hb : SSs X W body b) : SS X W (.While c body [] pos) (whileM tc b n) :=
  PS.imp (ps_while hp hc hb) fun E σ H q => by
    refine ⟨fun m σ H => ∃ k, k < m + 1 ∧ tS X.K X.mg W (whileM tc b k) E σ H, ⟨n, n, Nat.lt_succ_self _, q⟩, fun m σ H q => ?_⟩
    obtain ⟨k, hk, rho, h, s, R, S, po⟩ := q
    cases k with
    | zero => exact po.elim
    | succ k =>
      refine stepS R S po fun rho1 h1 H1 x e1 R1 S1 po1 => ?_
      cases x with
      | false => exact iteF (PostG.ok po1 R1 σ S1)
      | true =>
        refine iteT ⟨fun σ' H' => tS X.K X.mg W (whileM tc b k) E σ' H', fun σ' H' z => ⟨m - 1, by omega, k, by omega, z⟩, ?_⟩
        refine ⟨rho1, h1, s, R1, S1, ?_⟩
        simp only [if_true] at po1
        cases qb : b s h1 with
        | ok fl h2 =>
          rw [qb] at po1
          cases fl with
          | nx s2 => exact fun rho' H' e R' σ' S' => ⟨rho', h2, s2, R', S', PostG.ext e po1⟩
          | ct s2 => exact fun rho' H' e R' σ' S' => ⟨rho', h2, s2, R', S', PostG.ext e po1⟩
          | bk s2 => exact po1
          | rt d => exact po1
          | ex x s2 => exact po1
        | exc x h2 => rw [qb] at po1; exact po1
        | fail => rw [qb] at po1; exact po1
end Mini
namespace Mini
open PySem L2

/-! ### what may go on besides: reserved addresses may change -/
structure ExtZ (K : PySem.W.Frag) (rho : Rh) (h : Hd) (H : Hp) (rho' : Rh) (h' : Hd) (H' : Hp) : Prop where
  le : h.length ≤ h'.length
  ag : ∀ m, m < h.length → rho' m = rho m
  lv : ∀ m, m < h.length → live h' m = true → live h m = true
  fr : ∀ m, h.length ≤ m → live h' m = true → H (rho' m) = none
  kp : ∀ a o, H a = some o → ¬ rho.Z a → (∀ m, live h m = true → rho m ≠ a) → H' a = some o
  tp : ∀ a us, H a = some (.tup us) → H' a = some (.tup us)
  fz : ∀ a o u, H a = some (.frz o u) → H' a = some (.frz o u)
  dm : ∀ a, H' a = none → H a = none
  zo : ∀ a, rho'.Z a → rho.Z a ∨ H a = none
section
variable {K : PySem.W.Frag} {rho rho' rho2 : Rh} {h h' h2 : Hd} {H H' H2 : Hp}
theorem Ext.z (x : Ext K rho h H rho' h' H') : ExtZ K rho h H rho' h' H' := ⟨x.le, x.ag, x.lv, x.fr, fun a o e _ n => x.kp a o e n, x.tp, x.fz, x.dm, x.zo⟩
theorem ExtZ.ne (x : ExtZ K rho h H rho' h' H') {a : Addr} {o : HO} (e : H a = some o) (n : ∀ m, live h m = true → rho m ≠ a) : ∀ m, live h' m = true → rho' m ≠ a := fun m hm => by
  by_cases hl : m < h.length
  · rw [x.ag m hl]; exact n m (x.lv m hl hm)
  · have := x.fr m (Nat.not_lt.mp hl) hm
    intro z; rw [z, e] at this; cases this
theorem ExtZ.nz (x : ExtZ K rho h H rho' h' H') {a : Addr} {o : HO} (e : H a = some o) (z : ¬ rho.Z a) : ¬ rho'.Z a := fun q => (x.zo a q).elim z fun n => by rw [e] at n; cases n
theorem ExtZ.trans (x : ExtZ K rho h H rho' h' H') (y : ExtZ K rho' h' H' rho2 h2 H2) : ExtZ K rho h H rho2 h2 H2 where
  le := Nat.le_trans x.le y.le
  ag := fun m hm => (y.ag m (Nat.lt_of_lt_of_le hm x.le)).trans (x.ag m hm)
  lv := fun m hm e => x.lv m hm (y.lv m (Nat.lt_of_lt_of_le hm x.le) e)
  fr := fun m hm e => by
    by_cases hl : m < h'.length
    · rw [y.ag m hl]; exact x.fr m hm (y.lv m hl e)
    · exact x.dm _ (y.fr m (Nat.not_lt.mp hl) e)
  kp := fun a o e z n => y.kp a o (x.kp a o e z n) (x.nz e z) (x.ne e n)
  tp := fun a us e => y.tp a us (x.tp a us e)
  fz := fun a o u e => y.fz a o u (x.fz a o u e)
  dm := fun a e => x.dm a (y.dm a e)
  zo := fun a e => (y.zo a e).elim (x.zo a) fun q => .inr (x.dm a q)
theorem ExtZ.sqT (x : ExtZ K rho h H rho' h' H') {a : Addr} {us : List V} (e : SqT K H a us) : SqT K H' a us := by
  rcases e with (e | ⟨o, e⟩) | e
  · exact .inl (.inl (x.tp _ _ e))
  · exact .inl (.inr ⟨o, x.fz _ _ _ e⟩)
  · exact .inr e
mutual
theorem RelD.monoZ (x : ExtZ K rho h H rho' h' H') {B B' : Nat} (hB : B ≤ B') (hh : B ≤ h.length) : ∀ (d : D) (v : V), RelD K rho h B H d v → RelD K rho' h' B' H' d v
  | .non, v, e => by simp only [RelD] at e ⊢; exact e
  | .bl b, v, e => by simp only [RelD] at e ⊢; exact e
  | .int i, v, e => by simp only [RelD] at e ⊢; exact e
  | .str z, v, e => by simp only [RelD] at e ⊢; exact e
  | .tup xs, v, e => by
    simp only [RelD] at e ⊢
    obtain ⟨a, us, e1, e2, e3⟩ := e
    exact ⟨a, us, e1, x.sqT e2, RelDs.monoZ x hB hh xs us e3⟩
  | .lv xs, v, e => by
    simp only [RelD] at e ⊢
    obtain ⟨a, us, e1, e2, e3⟩ := e
    refine ⟨a, us, e1, ?_, RelDs.monoZ x hB hh xs us e3⟩
    obtain ⟨e2, z, n⟩ := e2
    exact ⟨x.kp _ _ e2 z n, x.nz e2 z, x.ne e2 n⟩
  | .fl xs, v, e => by
    simp only [RelD] at e ⊢
    obtain ⟨a, us, e1, e2, e3⟩ := e
    refine ⟨a, us, e1, ?_, RelDs.monoZ x hB hh xs us e3⟩
    rcases e2 with ⟨o, e2⟩ | e2
    · exact .inl ⟨o, x.fz _ _ _ e2⟩
    · exact .inr e2
  | .ref n, v, e => by
    simp only [RelD] at e ⊢
    exact ⟨Nat.lt_of_lt_of_le e.1 hB, by rw [x.ag n (Nat.lt_of_lt_of_le e.1 hh)]; exact e.2⟩
theorem RelDs.monoZ (x : ExtZ K rho h H rho' h' H') {B B' : Nat} (hB : B ≤ B') (hh : B ≤ h.length) : ∀ (ds : List D) (us : List V), RelDs K rho h B H ds us → RelDs K rho' h' B' H' ds us
  | [], us, e => by simp only [RelDs] at e ⊢; exact e
  | d :: ds, us, e => by
    simp only [RelDs] at e ⊢
    obtain ⟨v, r, e1, e2, e3⟩ := e
    exact ⟨v, r, e1, RelD.monoZ x hB hh d v e2, RelDs.monoZ x hB hh ds r e3⟩
end
theorem ExtZ.v (x : ExtZ K rho h H rho' h' H') {d : D} {v : V} (r : RelV' K rho h H d v) : RelV' K rho' h' H' d v := RelD.monoZ x x.le (Nat.le_refl _) d v r
theorem ExtZ.vs (x : ExtZ K rho h H rho' h' H') {d : List D} {v : List V} (r : RelVs' K rho h H d v) : RelVs' K rho' h' H' d v := RelDs.monoZ x x.le (Nat.le_refl _) d v r
theorem ExtZ.s (x : ExtZ K rho h H rho' h' H') {s : Ev} {σ : St} (r : RelS K rho h H s σ) : RelS K rho' h' H' s σ := ⟨r.1, fun i d e => let ⟨v, a, b⟩ := r.2 i d e; ⟨v, a, x.v b⟩⟩
/-- a reserved list is changed -/
theorem ExtZ.grow (x : ExtZ K rho h H rho' h' H') {p : Addr} {us : List V} {o : HO} (hp : H p = some (.lst us)) (hz : rho.Z p) : ExtZ K rho h H rho' h' (L2.upd H' p o) where
  le := x.le
  ag := x.ag
  lv := x.lv
  fr := x.fr
  kp := fun a o' e z n => by
    have q : a ≠ p := fun q => z (by rw [q]; exact hz)
    rw [upd_ne q]; exact x.kp a o' e z n
  tp := fun a us' e => by
    have q : a ≠ p := fun q => by rw [q, hp] at e; cases e
    rw [upd_ne q]; exact x.tp a us' e
  fz := fun a o' u e => by
    have q : a ≠ p := fun q => by rw [q, hp] at e; cases e
    rw [upd_ne q]; exact x.fz a o' u e
  dm := fun a e => by
    by_cases q : a = p
    · subst q; rw [upd_same] at e; cases e
    · rw [upd_ne q] at e; exact x.dm a e
  zo := x.zo
end

/-! ### what is walked -/
/-- J walks the items, whatever else goes on -/
def Serves (K : PySem.W.Frag) (J : It) (items : List D) (rho : Rh) (h : Hd) (H : Hp) : Prop :=
  ∀ (rho' : Rh) (h' : Hd) (H' : Hp), ExtZ K rho h H rho' h' H' → Rel K rho' h' H' → ∀ i : Nat,
    (∀ d, items[i]? = some d → J.go i H' ∧ ∀ x H2, J.yld i H' x H2 → Ext K rho' h' H' rho' h' H2 ∧ Rel K rho' h' H2 ∧ RelV' K rho' h' H2 d x) ∧ (items.length ≤ i → J.stop i H')
theorem Serves.ext {K : PySem.W.Frag} {J : It} {items : List D} {rho rho1 : Rh} {h h1 : Hd} {H H1 : Hp} (s : Serves K J items rho h H) (x : Ext K rho h H rho1 h1 H1) : Serves K J items rho1 h1 H1 := fun rho' h' H' e R => s rho' h' H' (x.z.trans e) R
abbrev pI (K : PySem.W.Frag) (Q : It → Hp → Prop) : PG' (List D) := fun items rho h H => ∀ J, Serves K J items rho h H → Q J H
abbrev tI (K : PySem.W.Frag) (mg : Str → Option Value) (W : WX) (f : AF) : TI := tG K mg W f (pI K)
abbrev SI (X : Cx) (W : WX) (tg e : Expr) (f : AF) : Prop := PI X tg e (tI X.K X.mg W f)
theorem PI.imp {X : Cx} {tg e : Expr} {t t' : TI} (p : PI X tg e t) (i : ∀ σ H Q, t' σ H Q → t σ H Q) : PI X tg e t' := ⟨fun pins s σ H R I q => p.run pins s σ H R I (i σ H R q)⟩
theorem PI.or {X : Cx} {tg e : Expr} {t u t' : TI} (p : PI X tg e t) (q : PI X tg e u) (i : ∀ σ H Q, t' σ H Q → t σ H Q ∨ u σ H Q) : PI X tg e t' := ⟨fun pins s σ H R I z => (i σ H R z).elim (p.run pins s σ H R I) (q.run pins s σ H R I)⟩
/-- a list by value or a tuple -/
def i_seq (f : EF) : AF := fun s h => (f s h).bind fun d h1 => match d with
  | .lv xs => .ok xs h1
  | .tup xs => .ok xs h1
  | _ => .fail
theorem RelDs.idx {K : PySem.W.Frag} {rho : Rh} {h : Hd} {H : Hp} {B : Nat} {ds : List D} {us : List V} (r : RelDs K rho h B H ds us) {i : Nat} {d : D} (e : ds[i]? = some d) : ∃ v, us[i]? = some v ∧ RelD K rho h B H d v := RelDs.get r e
theorem serves_lv {K : PySem.W.Frag} {rho : Rh} {h : Hd} {H : Hp} {xs : List D} {a : Addr} (r : RelV' K rho h H (.lv xs) (.ref a)) : Serves K (Itl K a) xs rho h H := by
  intro rho' h' H' e R i
  have r' := e.v r
  obtain ⟨a', us, e1, e2, e3⟩ := asL_ok R r' (xs := xs) rfl
  cases e1
  refine ⟨fun d hd => ?_, fun hl => ⟨us, e2, by rw [← RelDs.length e3]; exact hl⟩⟩
  obtain ⟨v, e4, e5⟩ := RelDs.get e3 hd
  exact ⟨⟨us, v, e2, e4⟩, fun x H2 ⟨q1, q2⟩ => by
    subst q1
    have := q2 us e2
    rw [e4] at this
    cases this
    exact ⟨Ext.refl, R, e5⟩⟩
theorem serves_tup {K : PySem.W.Frag} {rho : Rh} {h : Hd} {H : Hp} {xs : List D} {a : Addr} (r : RelV' K rho h H (.tup xs) (.ref a)) : Serves K (Itt K a) xs rho h H := by
  intro rho' h' H' e R i
  obtain ⟨a', us, e1, e2, e3⟩ := (e.v r).tup
  cases e1
  refine ⟨fun d hd => ?_, fun hl => ⟨us, e2, by rw [← RelDs.length e3]; exact hl⟩⟩
  obtain ⟨v, e4, e5⟩ := RelDs.get e3 hd
  exact ⟨⟨us, v, e2, e4⟩, fun x H2 ⟨q1, q2⟩ => by
    subst q1
    have := q2 us e2
    rw [e4] at this
    cases this
    exact ⟨Ext.refl, R, e5⟩⟩
theorem ri_seq {X : Cx} {W : WX} {tg e : Expr} {fe : EF} (he : SE X W e fe) : SI X W tg e (i_seq fe) := by
  refine PI.or (pi_list he) (pi_tup he) fun σ H Q q => ?_
  obtain ⟨rho, h, s, R, S, po⟩ := q
  have po2 := po
  cases q : fe s h with
  | fail => simp only [i_seq, q] at po2; exact po2.elim
  | exc x h1 =>
    simp only [i_seq, q] at po2
    exact .inl ⟨rho, h, s, R, S, by rw [q]; exact po2⟩
  | ok d h1 =>
    simp only [i_seq, q] at po2
    cases d with
    | lv xs =>
      refine .inl ⟨rho, h, s, R, S, ?_⟩
      rw [q]
      intro rho1 H1 e1 R1 v r
      have r0 := r
      obtain ⟨a, us, e2, e3, e4⟩ := asL_ok R1 r (xs := xs) rfl
      subst e2
      exact ⟨a, rfl, ⟨us, e3⟩, po2 rho1 H1 e1 R1 _ (serves_lv r0)⟩
    | tup xs =>
      refine .inr ⟨rho, h, s, R, S, ?_⟩
      rw [q]
      intro rho1 H1 e1 R1 v r
      have r0 := r
      obtain ⟨a, us, e2, e3, e4⟩ := r.tup
      subst e2
      exact ⟨a, rfl, ⟨us, e3⟩, po2 rho1 H1 e1 R1 _ (serves_tup r0)⟩
    | _ => exact po2.elim

/-! ### ranges -/
def rangeL (lo : Int) : Nat → List D
  | 0 => []
  | n + 1 => .int lo :: rangeL (lo + 1) n
theorem rangeL_length : ∀ (n : Nat) (lo : Int), (rangeL lo n).length = n
  | 0, _ => rfl
  | n + 1, lo => by simp [rangeL, rangeL_length n]
theorem rangeL_get : ∀ (n i : Nat) (lo : Int) (d : D), (rangeL lo n)[i]? = some d → d = .int (lo + i) ∧ i < n
  | 0, i, lo, d, e => by simp [rangeL] at e
  | n + 1, 0, lo, d, e => by simp [rangeL] at e; subst e; simp
  | n + 1, i + 1, lo, d, e => by
    simp only [rangeL, List.getElem?_cons_succ] at e
    obtain ⟨a, b⟩ := rangeL_get n i (lo + 1) d e
    exact ⟨by rw [a]; congr 1; omega, by omega⟩
theorem serves_range {K : PySem.W.Frag} {rho : Rh} {h : Hd} {H : Hp} (lo : Int) (n : Nat) : Serves K (Itr lo n) (rangeL lo n) rho h H := by
  intro rho' h' H' e R i
  refine ⟨fun d hd => ?_, fun hl => by rw [rangeL_length] at hl; exact hl⟩
  obtain ⟨a, b⟩ := rangeL_get n i lo d hd
  subst a
  exact ⟨b, fun x H2 ⟨q1, q2⟩ => by subst q1 q2; exact ⟨Ext.refl, R, relInt _⟩⟩
def in62 (i : Int) : Bool := decide (-(2 ^ 62) ≤ i) && decide (i < 2 ^ 62)
theorem in62_ok {i : Int} (e : in62 i = true) : -(2 ^ 62) ≤ i ∧ i < 2 ^ 62 := by
  unfold in62 at e
  rw [Bool.and_eq_true] at e
  exact ⟨of_decide_eq_true e.1, of_decide_eq_true e.2⟩
def i_rng1 (a : AF) : AF := fun s h => (a s h).bind fun ds h1 => match ds with
  | [.int j] => if in62 j then .ok (rangeL 0 j.toNat) h1 else .fail
  | _ => .fail
def i_rng2 (a : AF) : AF := fun s h => (a s h).bind fun ds h1 => match ds with
  | [.int i, .int j] => if in62 i && in62 j then .ok (rangeL i (j - i).toNat) h1 else .fail
  | _ => .fail
section
variable {X : Cx} {W : WX} {tg a b : Expr} {p pos : Pos} {fa : AF}
theorem ri_range1 (hm : X.mg "range" = none) (ha : SA X W [a] fa) (hg : Gl X "range" := by rfl) (hs : starEach [a] X.env = [(false, eval a X.env)] := by rfl) : SI X W tg (.Call (.Name "range" p) [a] [] pos) (i_rng1 fa) := PI.imp (pi_range1 hg hm ha hs) fun σ H Q q => by
  obtain ⟨rho, h, s, R, S, po⟩ := q
  refine step R S po fun rho1 h1 H1 ds e1 R1 S1 po1 vs r => ?_
  match ds, po1, r with
  | [.int j], po1, r =>
    by_cases q : in62 j = true
    · simp only [q, if_true] at po1
      simp only [RelVs', RelDs, RelD] at r
      obtain ⟨v, rr, e2, e3, e4⟩ := r
      subst e4 e3
      exact ⟨j, e2, (in62_ok q).1, (in62_ok q).2, PostG.ok po1 R1 _ (serves_range 0 _)⟩
    · simp only [q] at po1; exact po1.elim
  | [], po1, r => exact po1.elim
  | [.non], po1, r => exact po1.elim
  | [.bl _], po1, r => exact po1.elim
  | [.str _], po1, r => exact po1.elim
  | [.tup _], po1, r => exact po1.elim
  | [.lv _], po1, r => exact po1.elim
  | [.fl _], po1, r => exact po1.elim
  | [.ref _], po1, r => exact po1.elim
  | _ :: _ :: _, po1, r => simp only at po1; exact po1.elim
theorem ri_range2 (hm : X.mg "range" = none) (ha : SA X W [a, b] fa) (hg : Gl X "range" := by rfl) (hs : starEach [a, b] X.env = [(false, eval a X.env), (false, eval b X.env)] := by rfl) (hs2 : starEach [b] X.env = [(false, eval b X.env)] := by rfl) :
    SI X W tg (.Call (.Name "range" p) [a, b] [] pos) (i_rng2 fa) := PI.imp (pi_range2 hg hm ha hs hs2) fun σ H Q q => by
  obtain ⟨rho, h, s, R, S, po⟩ := q
  refine step R S po fun rho1 h1 H1 ds e1 R1 S1 po1 vs r => ?_
  split at po1
  · rename_i i j
    by_cases q : (in62 i && in62 j) = true
    · simp only [q, if_true] at po1
      rw [Bool.and_eq_true] at q
      simp only [RelVs', RelDs, RelD] at r
      obtain ⟨v, rr, e2, e3, v2, rr2, e4, e5, e6⟩ := r
      subst e6 e5 e4 e3
      exact ⟨i, j, e2, ⟨(in62_ok q.1).1, (in62_ok q.1).2, (in62_ok q.2).1, (in62_ok q.2).2⟩, PostG.ok po1 R1 _ (serves_range i _)⟩
    · simp only [q] at po1; exact po1.elim
  · exact po1.elim
end

/-! ### for -/
def forM (p : Pat) (b : SF) : List D → SF
  | [] => fun s h => .ok (.nx s) h
  | d :: r => fun s h => match patD p d s with
    | some s1 => (match b s1 h with
      | .ok (.nx s2) h2 => forM p b r s2 h2
      | .ok (.ct s2) h2 => forM p b r s2 h2
      | .ok (.bk s2) h2 => .ok (.nx s2) h2
      | r => r)
    | none => .fail
def s_for (i : AF) (p : Pat) (b : SF) : SF := fun s h => bindE (i s h) s fun items h1 => forM p b items s h1
theorem r_for {X : Cx} {W : WX} {tg iter : Expr} {body : List Stmt} {pos : Pos} {fi : AF} {p : Pat} {b : SF} (hp : PassesOwn (model X.prog X.w) X.A X.env X.xe) (hc : X.calm = true) (hi : SI X W tg iter fi) (hg : SG X tg p) (hb : SSs X W body b)
    (hs : ∀ x, foldedSetIterable iter X.env x = pure x := by intro _; rfl) : SS X W (.For tg iter body [] pos) (s_for fi p b) :=
  PS.imp (ps_for hp hc hi hg hb hs) fun E σ H q => by
    obtain ⟨rho, h, s, R, S, po⟩ := q
    refine stepS R S po fun rho0 h0 H0 items e0 R0 S0 po0 J sv => ?_
    refine ⟨fun i m σ H => i + m = items.length ∧ ∃ rho h s, Ext X.K rho0 h0 H0 rho h H ∧ Rel X.K rho h H ∧ RelS X.K rho h H s σ ∧ PostG X.K X.mg (fun _ _ _ => False) rho h H (forM p b (items.drop i) s h) (pS X.K W X.mg E),
      ⟨items.length, by simp, rho0, h0, s, Ext.refl, R0, S0, by simpa using po0⟩, fun i m σ H q => ?_⟩
    obtain ⟨hm, rho, h, s, e1, R1, S1, po1⟩ := q
    obtain ⟨s1, s2⟩ := sv rho h H e1.z R1 i
    cases hi : items[i]? with
    | none =>
      have hl : items.length ≤ i := List.getElem?_eq_none_iff.mp hi
      rw [List.drop_eq_nil_of_le hl] at po1
      exact .inl ⟨s2 hl, PostG.ok po1 R1 σ S1⟩
    | some d =>
      have hl : i < items.length := (List.getElem?_eq_some_iff.mp hi).1
      have ed : items.drop i = d :: items.drop (i + 1) := by
        rw [List.drop_eq_getElem_cons hl]
        congr 1
        exact (List.getElem?_eq_some_iff.mp hi).2
      rw [ed] at po1
      obtain ⟨go, yl⟩ := s1 d hi
      refine .inr ⟨go, fun σ' H' => ∃ rho h s, Ext X.K rho0 h0 H0 rho h H' ∧ Rel X.K rho h H' ∧ RelS X.K rho h H' s σ' ∧ PostG X.K X.mg (fun _ _ _ => False) rho h H' (forM p b (items.drop (i + 1)) s h) (pS X.K W X.mg E),
        fun σ' H' z => ⟨m - 1, by omega, by omega, z⟩, fun x H2 y => ?_⟩
      obtain ⟨e2, R2, r⟩ := yl x H2 y
      simp only [forM] at po1
      cases q : patD p d s with
      | none => rw [q] at po1; exact po1.elim
      | some s1' =>
        rw [q] at po1
        obtain ⟨σ', S', z, _⟩ := patG_ok p d x s s1' σ r (e2.s S1) q
        refine z _ ⟨rho, h, s1', R2, S', ?_⟩
        have po2 := PostG.ext e2 po1
        cases qb : b s1' h with
        | ok fl h2 =>
          simp only [qb] at po2
          cases fl with
          | nx s2 => exact fun rho' H' e R' σ' S' => ⟨rho', h2, s2, (e1.trans e2).trans e, R', S', PostG.ext e po2⟩
          | ct s2 => exact fun rho' H' e R' σ' S' => ⟨rho', h2, s2, (e1.trans e2).trans e, R', S', PostG.ext e po2⟩
          | bk s2 => exact po2
          | rt d => exact po2
          | ex x s2 => exact po2
        | exc x h2 => simp only [qb] at po2; exact po2
        | fail => simp only [qb] at po2; exact po2

/-! ### list comprehensions: one clause -/
def wipeD (s : Ev) : List Nat → Ev
  | [] => s
  | v :: vs => (wipeD s vs).set v none
theorem wipeD_get (s : Ev) (j : Nat) : ∀ vs : List Nat, (wipeD s vs)[j]? = if j ∈ vs then (if j < s.length then some none else none) else s[j]?
  | [] => by simp [wipeD]
  | v :: vs => by
    have hw : ∀ vs, (wipeD s vs).length = s.length := by
      intro vs
      induction vs with
      | nil => rfl
      | cons v vs ih => simp [wipeD, ih]
    unfold wipeD
    by_cases hv : v = j
    · subst hv
      by_cases hl : v < s.length
      · rw [List.getElem?_set_self (by rw [hw]; exact hl)]
        simp [hl]
      · rw [List.getElem?_eq_none (by simp [hw]; omega)]
        simp [hl]
    · rw [List.getElem?_set_ne hv, wipeD_get s j vs]
      have : ¬ j = v := fun e => hv e.symm
      simp [this]
theorem RelS.wipe {K : PySem.W.Frag} {rho : Rh} {h : Hd} {H : Hp} {s : Ev} {σ : St} (S : RelS K rho h H s σ) (vs : List Nat) : RelS K rho h H (wipeD s vs) (L2.wipe σ vs) := by
  have hw : ∀ vs, (wipeD s vs).length = s.length := by
    intro vs
    induction vs with
    | nil => rfl
    | cons v vs ih => simp [wipeD, ih]
  refine ⟨by rw [hw, wipe_length]; exact S.1, fun i d e => ?_⟩
  rw [wipeD_get] at e
  split at e
  · split at e <;> cases e
  · rename_i hn
    obtain ⟨v, a, b⟩ := S.2 i d e
    exact ⟨v, by rw [wipe_get]; simp [hn, a], b⟩
/-- ok: no exception leaves a comprehension -/
def lcM (p : Pat) (tt : TF) (te : EF) (s0 : Ev) : List D → List D → Hd → Option (List D × Hd)
  | [], acc, h => some (acc, h)
  | d :: r, acc, h => match patD p d s0 with
    | some s1 => (match tt s1 h with
      | .ok true h1 => (match te s1 h1 with
        | .ok y h2 => if acc.length < sizeLine then lcM p tt te s0 r (acc ++ [y]) h2 else none
        | _ => none)
      | .ok false h1 => lcM p tt te s0 r acc h1
      | _ => none)
    | none => none
def e_lc (own : List Nat) (i : AF) (p : Pat) (tt : TF) (te : EF) : EF := fun s h => (i s h).bind fun items h1 => match lcM p tt te (wipeD s own) items [] h1 with
  | some (ys, h2) => .ok (.lv ys) h2
  | none => .fail
def t_yes : TF := fun _ h => .ok true h
abbrev W0 : WX := fun _ _ _ _ => False
theorem wipe_wipe (σ : St) (vs : List Nat) : wipe (wipe σ vs) vs = wipe σ vs := by
  apply List.ext_getElem?
  intro j
  rw [wipe_get, wipe_get, wipe_length]
  by_cases hj : j ∈ vs <;> simp [hj]
def zAdd (rho : Rh) (a : Addr) : Rh := ⟨rho.f, fun b => rho.Z b ∨ b = a⟩
def zDel (rho : Rh) (a : Addr) : Rh := ⟨rho.f, fun b => rho.Z b ∧ b ≠ a⟩
section
variable {K : PySem.W.Frag} {rho rho1 : Rh} {h h1 : Hd} {H H1 : Hp} {p : Addr} {o : HO}
/-- a new object is laid, its address reserved -/
theorem Ext.zin (R : Rel K rho h H) (np : H p = none) : Ext K rho h H (zAdd rho p) h (L2.upd H p o) :=
  { Ext.upd R np o with zi := fun a e => .inl e, zo := fun a e => e.elim .inl fun q => .inr (by rw [q]; exact np) }
theorem Rel.zin (R : Rel K rho h H) (np : H p = none) : Rel K (zAdd rho p) h (L2.upd H p o) := by
  refine ⟨R.inj, fun m ob e => ?_, fun a z => ?_, fun m hm z => ?_⟩
  · have c := R.cell m ob e
    cases ob with
    | dead => trivial
    | lst xs =>
      obtain ⟨us, a, b⟩ := c
      have hm := (List.getElem?_eq_some_iff.mp e).1
      exact ⟨us, by show L2.upd H p o (rho m) = _; rw [upd_ne (ne_of_none a np)]; exact a, RelDs.mono (Ext.zin R np) (Nat.le_refl _) (Nat.le_of_lt hm) _ _ b⟩
  · rcases z with z | z
    · exact (R.upd np o).zd a z
    · rw [z, upd_same]; simp
  · rcases z with z | z
    · exact R.zc m hm z
    · obtain ⟨us, q⟩ := R.at hm
      rw [show (zAdd rho p) m = rho m from rfl] at z
      rw [z, np] at q; cases q
/-- what stands at an address that was free is changed -/
theorem Ext.over (x : Ext K rho h H rho1 h1 H1) (np : H p = none) : Ext K rho h H rho1 h1 (L2.upd H1 p o) where
  le := x.le
  ag := x.ag
  lv := x.lv
  fr := x.fr
  kp := fun a o e n => by rw [upd_ne (ne_of_none e np)]; exact x.kp a o e n
  tp := fun a us e => by rw [upd_ne (ne_of_none e np)]; exact x.tp a us e
  fz := fun a o u e => by rw [upd_ne (ne_of_none e np)]; exact x.fz a o u e
  dm := fun a e => by
    by_cases q : a = p
    · subst q; exact np
    · rw [upd_ne q] at e; exact x.dm a e
  zi := x.zi
  zo := x.zo
theorem RelD.grow {us us' : List V} (hp : H p = some (.lst us)) (hz : rho.Z p) (d : D) : ∀ (v : V) (B : Nat), RelD K rho h B H d v → RelD K rho h B (L2.upd H p (.lst us')) d v := by
  refine D.rec (motive_1 := fun d => ∀ (v : V) (B : Nat), RelD K rho h B H d v → RelD K rho h B (L2.upd H p (.lst us')) d v)
    (motive_2 := fun ds => ∀ (vs : List V) (B : Nat), RelDs K rho h B H ds vs → RelDs K rho h B (L2.upd H p (.lst us')) ds vs) ?_ ?_ ?_ ?_ ?_ ?_ ?_ ?_ ?_ ?_ d
  · intro v B e; simp only [RelD] at e ⊢; exact e
  · intro b v B e; simp only [RelD] at e ⊢; exact e
  · intro b v B e; simp only [RelD] at e ⊢; exact e
  · intro b v B e; simp only [RelD] at e ⊢; exact e
  · intro xs ih v B e
    simp only [RelD] at e ⊢
    obtain ⟨a, ws, e1, e2, e3⟩ := e
    refine ⟨a, ws, e1, ?_, ih ws B e3⟩
    rcases e2 with (e2 | ⟨o, e2⟩) | e2
    · exact .inl (.inl (by rw [upd_ne (ne_of e2 hp (by intro z; cases z))]; exact e2))
    · exact .inl (.inr ⟨o, by rw [upd_ne (ne_of e2 hp (by intro z; cases z))]; exact e2⟩)
    · exact .inr e2
  · intro xs ih v B e
    simp only [RelD] at e ⊢
    obtain ⟨a, ws, e1, e2, e3⟩ := e
    refine ⟨a, ws, e1, ?_, ih ws B e3⟩
    obtain ⟨e2, z, n⟩ := e2
    have ne : a ≠ p := fun q => z (q ▸ hz)
    exact ⟨by rw [upd_ne ne]; exact e2, z, n⟩
  · intro xs ih v B e
    simp only [RelD] at e ⊢
    obtain ⟨a, ws, e1, e2, e3⟩ := e
    refine ⟨a, ws, e1, ?_, ih ws B e3⟩
    rcases e2 with ⟨o, e2⟩ | e2
    · exact .inl ⟨o, by rw [upd_ne (ne_of e2 hp (by intro z; cases z))]; exact e2⟩
    · exact .inr e2
  · intro n v B e; simp only [RelD] at e ⊢; exact e
  · intro vs B e; simp only [RelDs] at e ⊢; exact e
  · intro d ds i1 i2 vs B e
    simp only [RelDs] at e ⊢
    obtain ⟨v, r, e1, e2, e3⟩ := e
    exact ⟨v, r, e1, i1 v B e2, i2 r B e3⟩
theorem RelDs.grow {us us' : List V} (hp : H p = some (.lst us)) (hz : rho.Z p) : ∀ (ds : List D) (vs : List V) (B : Nat), RelDs K rho h B H ds vs → RelDs K rho h B (L2.upd H p (.lst us')) ds vs
  | [], vs, B, e => by simp only [RelDs] at e ⊢; exact e
  | d :: ds, vs, B, e => by
    simp only [RelDs] at e ⊢
    obtain ⟨v, r, e1, e2, e3⟩ := e
    exact ⟨v, r, e1, RelD.grow hp hz d v B e2, RelDs.grow hp hz ds r B e3⟩
theorem Rel.grow (R : Rel K rho h H) {us us' : List V} (hp : H p = some (.lst us)) (hz : rho.Z p) : Rel K rho h (L2.upd H p (.lst us')) := by
  refine ⟨R.inj, fun m ob e => ?_, fun a z => ?_, R.zc⟩
  · have c := R.cell m ob e
    cases ob with
    | dead => trivial
    | lst xs =>
      obtain ⟨ws, a, b⟩ := c
      have ne : rho m ≠ p := fun q => R.zc m (by unfold live; rw [e]) (q ▸ hz)
      exact ⟨ws, by rw [upd_ne ne]; exact a, RelDs.grow hp hz _ _ m b⟩
  · by_cases q : a = p
    · rw [q, upd_same]; simp
    · rw [upd_ne q]; exact R.zd a z
/-- the reserved address is let go -/
theorem RelD.zdel (d : D) : ∀ (v : V) (B : Nat), RelD K rho h B H d v → RelD K (zDel rho p) h B H d v := by
  refine D.rec (motive_1 := fun d => ∀ (v : V) (B : Nat), RelD K rho h B H d v → RelD K (zDel rho p) h B H d v)
    (motive_2 := fun ds => ∀ (vs : List V) (B : Nat), RelDs K rho h B H ds vs → RelDs K (zDel rho p) h B H ds vs) ?_ ?_ ?_ ?_ ?_ ?_ ?_ ?_ ?_ ?_ d
  · intro v B e; simp only [RelD] at e ⊢; exact e
  · intro b v B e; simp only [RelD] at e ⊢; exact e
  · intro b v B e; simp only [RelD] at e ⊢; exact e
  · intro b v B e; simp only [RelD] at e ⊢; exact e
  · intro xs ih v B e
    simp only [RelD] at e ⊢
    obtain ⟨a, ws, e1, e2, e3⟩ := e
    exact ⟨a, ws, e1, e2, ih ws B e3⟩
  · intro xs ih v B e
    simp only [RelD] at e ⊢
    obtain ⟨a, ws, e1, e2, e3⟩ := e
    refine ⟨a, ws, e1, ?_, ih ws B e3⟩
    obtain ⟨e2, z, n⟩ := e2
    exact ⟨e2, fun q => z q.1, n⟩
  · intro xs ih v B e
    simp only [RelD] at e ⊢
    obtain ⟨a, ws, e1, e2, e3⟩ := e
    exact ⟨a, ws, e1, e2, ih ws B e3⟩
  · intro n v B e; simp only [RelD] at e ⊢; exact e
  · intro vs B e; simp only [RelDs] at e ⊢; exact e
  · intro d ds i1 i2 vs B e
    simp only [RelDs] at e ⊢
    obtain ⟨v, r, e1, e2, e3⟩ := e
    exact ⟨v, r, e1, i1 v B e2, i2 r B e3⟩
theorem RelDs.zdel : ∀ (ds : List D) (vs : List V) (B : Nat), RelDs K rho h B H ds vs → RelDs K (zDel rho p) h B H ds vs
  | [], vs, B, e => by simp only [RelDs] at e ⊢; exact e
  | d :: ds, vs, B, e => by
    simp only [RelDs] at e ⊢
    obtain ⟨v, r, e1, e2, e3⟩ := e
    exact ⟨v, r, e1, RelD.zdel d v B e2, RelDs.zdel ds r B e3⟩
theorem Rel.zdel (R : Rel K rho h H) : Rel K (zDel rho p) h H := by
  refine ⟨R.inj, fun m ob e => ?_, fun a z => R.zd a z.1, fun m hm z => R.zc m hm z.1⟩
  have c := R.cell m ob e
  cases ob with
  | dead => trivial
  | lst xs =>
    obtain ⟨ws, a, b⟩ := c
    exact ⟨ws, a, RelDs.zdel _ _ m b⟩
theorem Ext.zdel (R : Rel K rho h H) (x : Ext K rho h H rho1 h1 H1) (np : H p = none) : Ext K rho h H (zDel rho1 p) h1 H1 :=
  { x with zi := fun a z => ⟨x.zi a z, fun q => R.zd a z (by rw [q]; exact np)⟩, zo := fun a z => x.zo a z.1 }
end
theorem tE.lc {K : PySem.W.Frag} {mg : Str → Option Value} {W : WX} {own : List Nat} {fi : AF} {p : Pat} {tt : TF} {te : EF} (hp : ∀ i ∈ patI p, i ∈ own) {σ : St} {H : Hp} {Q : VK} (q : tE K mg W (e_lc own fi p tt te) σ H Q) :
    tLc (tI K mg W fi) (patG K p) (tT K mg W0 tt) (tE K mg W0 te) own σ H Q := by
  obtain ⟨rho, h, s, R, S, po⟩ := q
  refine step R S po fun rho0 h0 H0 items e0 R0 S0 po0 J sv => fun Dl np => ?_
  refine ⟨fun i k H => i + k = items.length ∧ ∃ rho h acc us, Ext K rho0 h0 H0 rho h H ∧ rho.Z Dl ∧ Rel K rho h H ∧ H Dl = some (.lst us) ∧ RelVs' K rho h H acc us ∧
      PostG K mg (fun c d H' => W c d σ H') rho0 h0 H0 (match lcM p tt te (wipeD s own) (items.drop i) acc h with
        | some (ys, h2) => Res.ok (.lv ys) h2
        | none => Res.fail) (pE K Q), ?_, fun i k H q => ?_⟩
  · exact ⟨items.length, by simp, zAdd rho0 Dl, h0, [], [], Ext.zin R0 np, .inr rfl, R0.zin np, upd_same, by simp only [RelVs', RelDs], by simpa using po0⟩
  · obtain ⟨hk, rho1, h1, acc, us, x1, hz, R1, hD, ra, po1⟩ := q
    have nD : ∀ m, live h1 m = true → rho1 m ≠ Dl := fun m hm q => R1.zc m hm (q ▸ hz)
    obtain ⟨s1, s2⟩ := sv rho1 h1 H x1.z R1 i
    cases hi : items[i]? with
    | none =>
      have hl : items.length ≤ i := List.getElem?_eq_none_iff.mp hi
      rw [List.drop_eq_nil_of_le hl] at po1
      refine .inl ⟨s2 hl, po1 (zDel rho1 Dl) H (Ext.zdel R0 x1 np) R1.zdel _ ?_⟩
      simp only [RelV', RelD]
      exact ⟨Dl, us, rfl, ⟨hD, fun z => z.2 rfl, nD⟩, RelDs.zdel _ _ _ ra⟩
    | some d =>
      have hl : i < items.length := (List.getElem?_eq_some_iff.mp hi).1
      have ed : items.drop i = d :: items.drop (i + 1) := by
        rw [List.drop_eq_getElem_cons hl]
        congr 1
        exact (List.getElem?_eq_some_iff.mp hi).2
      rw [ed] at po1
      obtain ⟨go, yl⟩ := s1 d hi
      refine .inr ⟨go, fun H' => ∃ rho h acc us, Ext K rho0 h0 H0 rho h H' ∧ rho.Z Dl ∧ Rel K rho h H' ∧ H' Dl = some (.lst us) ∧ RelVs' K rho h H' acc us ∧
          PostG K mg (fun c d H' => W c d σ H') rho0 h0 H0 (match lcM p tt te (wipeD s own) (items.drop (i + 1)) acc h with
            | some (ys, h2) => Res.ok (.lv ys) h2
            | none => Res.fail) (pE K Q),
        fun H' z => ⟨k - 1, by omega, by omega, z⟩, fun x H2 y => ?_⟩
      obtain ⟨e2, R2, r⟩ := yl x H2 y
      have hD2 := e2.kp _ _ hD nD
      simp only [lcM] at po1
      cases q : patD p d (wipeD s own) with
      | none => simp only [q] at po1; exact po1.elim
      | some s1' =>
        simp only [q] at po1
        have x2 := x1.trans e2
        obtain ⟨σ', S', z, wp⟩ := patG_ok p d x (wipeD s own) s1' (wipe σ own) r (RelS.wipe (x2.s S0) own) q
        refine z _ ⟨by rw [wp own hp, wipe_wipe], rho1, h1, s1', R2, S', ?_⟩
        cases qt : tt s1' h1 with
        | fail => simp only [qt] at po1; exact po1.elim
        | exc _ _ => simp only [qt] at po1; exact po1.elim
        | ok c h2 =>
          simp only [qt] at po1
          intro rho3 H3 e3 R3
          have hz3 : rho3.Z Dl := e3.zi _ hz
          have hD3 := e3.kp _ _ hD2 nD
          cases c with
          | false => exact iteF ⟨rho3, h2, acc, us, x2.trans e3, hz3, R3, hD3, (e2.trans e3).vs ra, po1⟩
          | true =>
            refine iteT ⟨rho3, h2, s1', R3, e3.s S', ?_⟩
            cases qe : te s1' h2 with
            | fail => simp only [qe] at po1; exact po1.elim
            | exc _ _ => simp only [qe] at po1; exact po1.elim
            | ok yv h3 =>
              simp only [qe] at po1
              intro rho4 H4 e4 R4 v rv
              have nD3 : ∀ m, live h2 m = true → rho3 m ≠ Dl := fun m hm q => R3.zc m hm (q ▸ hz3)
              have hD4 := e4.kp _ _ hD3 nD3
              have hz4 : rho4.Z Dl := e4.zi _ hz3
              have ra4 := (e2.trans (e3.trans e4)).vs ra
              by_cases hlen : acc.length < sizeLine
              · simp only [hlen, if_true] at po1
                refine ⟨us, hD4, by rw [← RelDs.length ra]; exact hlen, rho4, h3, acc ++ [yv], us ++ [v], (x2.trans (e3.trans e4)).over np, hz4, R4.grow hD4 hz4, upd_same, ?_, po1⟩
                refine RelDs.append (RelDs.grow hD4 hz4 _ _ _ ra4) ?_
                simp only [RelDs]
                exact ⟨v, [], rfl, RelD.grow hD4 hz4 _ _ _ rv, rfl⟩
              · simp only [hlen, if_false] at po1; exact po1.elim
section
variable {X : Cx} {W : WX} {elt tg iter : Expr} {ifs : List Expr} {scope : Scope} {own : List (Str × Nat)} {pos : Pos} {fi : AF} {p : Pat} {tt : TF} {te : EF}
theorem rts_nil : PTs X [] (tT X.K X.mg W t_yes) := ⟨fun pins s σ H Q I q => pts_nil.run pins s σ H Q I (by
  obtain ⟨rho, h, s, R, S, po⟩ := q
  exact PostG.ok po R)⟩
theorem rts_one {c : Expr} (h : ST X W c tt) : PTs X [c] (tT X.K X.mg W tt) := pts_one h
/-- what a comprehension's block asks of its parts -/
structure Blk (X : Cx) (scope : Scope) (tg : Expr) (ifs : List Expr) (elt : Expr) (p : Pat) (tt : TF) (te : EF) : Prop where
  hg : ∀ (s : Shared) (H : Hp) (C : Addr) (cl : List (Str × Addr)) (fp : List Addr), SG (X.blk s H scope (compEnvC scope cl C X.env) fp) tg p
  ht : ∀ (s : Shared) (H : Hp) (C : Addr) (cl : List (Str × Addr)) (fp : List Addr), PTs (X.blk s H scope (compEnvC scope cl C X.env) fp) ifs (tT X.K X.mg W0 tt)
  he : ∀ (s : Shared) (H : Hp) (C : Addr) (cl : List (Str × Addr)) (fp : List Addr), SE (X.blk s H scope (compEnvC scope cl C X.env) fp) W0 elt te
theorem r_lc {oi : List Nat} (hN : X.N.Nodup) (hc : X.calm = true) (hi : SI X W tg iter fi) (ok : BlkOk X.N X.env.scope scope own) (b : Blk X scope tg ifs elt p tt te) (hp : ∀ i ∈ patI p, i ∈ oi) (ho : own.map (·.2) = oi := by rfl) (hs : ∀ x, foldedSetIterable iter X.env x = pure x := by intro _; rfl) :
    SE X W (.ListComp elt [⟨tg, iter, ifs, 0⟩] scope pos) (e_lc oi fi p tt te) := PE.imp (pe_lc hc hN hi ok b.hg b.ht b.he hs) fun _ _ _ h => by subst ho; exact tE.lc hp h
theorem r_setLc {oi : List Nat} {i : Nat} {y : Str} {py spos : Pos} (hN : X.N.Nodup) (hc : X.calm = true) (hi : SI X W tg iter fi) (ok : BlkOk X.N X.env.scope scope own) (b : Blk X scope tg ifs elt p tt te) (hp : ∀ i ∈ patI p, i ∈ oi)
    (hsw : swapsWith (.ListComp elt [⟨tg, iter, ifs, 0⟩] scope pos) (some (.Name y py)) spos.line X.env = pure true) (ho : own.map (·.2) = oi := by rfl) (hy : X.N[i]? = some y := by rfl) (hyl : X.env.scope.names.lookup y = some .local := by rfl) (hs : ∀ x, foldedSetIterable iter X.env x = pure x := by intro _; rfl) :
    SS X W (.Assign [.Name y py] (.ListComp elt [⟨tg, iter, ifs, 0⟩] scope pos) spos) (s_set i (e_lc oi fi p tt te)) := PS.imp (ps_setLc hc hN hy hyl hsw hi ok b.hg b.ht b.he hs) fun E σ H h => by
  subst ho
  obtain ⟨rho, h, s, R, S, po⟩ := h
  exact tE.lc (W := W) hp (stepS R S po fun rho1 h1 H1 x e1 R1 S1 po1 v r => PostG.ok po1 R1 _ (S1.set r i))
end
end Mini
namespace Mini
open PySem PySem.Spec PyProof.Rows L2

/-! ### defs: their mirrors, promises and calls -/
abbrev MF := List D → Hd → Res D
mutual
def noRef : D → Bool
  | .tup xs => noRefs xs
  | .lv xs => noRefs xs
  | .fl xs => noRefs xs
  | .ref _ => false
  | _ => true
def noRefs : List D → Bool
  | [] => true
  | d :: ds => noRef d && noRefs ds
end
theorem noRefs_iff : ∀ ds : List D, noRefs ds = true ↔ ∀ d ∈ ds, noRef d = true
  | [] => by simp [noRefs]
  | d :: ds => by simp [noRefs, noRefs_iff ds]
section
variable {K : PySem.W.Frag} {rho : Rh} {h h' : Hd} {H : Hp}
theorem RelD.noref (hl : ∀ m, live h' m = true → live h m = true) (d : D) : ∀ (v : V) (B B' : Nat), noRef d = true → RelD K rho h B H d v → RelD K rho h' B' H d v := by
  refine D.rec (motive_1 := fun d => ∀ (v : V) (B B' : Nat), noRef d = true → RelD K rho h B H d v → RelD K rho h' B' H d v)
    (motive_2 := fun ds => ∀ (vs : List V) (B B' : Nat), noRefs ds = true → RelDs K rho h B H ds vs → RelDs K rho h' B' H ds vs) ?_ ?_ ?_ ?_ ?_ ?_ ?_ ?_ ?_ ?_ d
  · intro v B B' n e; simp only [RelD] at e ⊢; exact e
  · intro b v B B' n e; simp only [RelD] at e ⊢; exact e
  · intro b v B B' n e; simp only [RelD] at e ⊢; exact e
  · intro b v B B' n e; simp only [RelD] at e ⊢; exact e
  · intro xs ih v B B' n e
    simp only [RelD] at e ⊢
    obtain ⟨a, ws, e1, e2, e3⟩ := e
    exact ⟨a, ws, e1, e2, ih ws B B' (by simpa [noRef] using n) e3⟩
  · intro xs ih v B B' n e
    simp only [RelD] at e ⊢
    obtain ⟨a, ws, e1, e2, e3⟩ := e
    refine ⟨a, ws, e1, ?_, ih ws B B' (by simpa [noRef] using n) e3⟩
    obtain ⟨e2, z, k⟩ := e2
    exact ⟨e2, z, fun m hm => k m (hl m hm)⟩
  · intro xs ih v B B' n e
    simp only [RelD] at e ⊢
    obtain ⟨a, ws, e1, e2, e3⟩ := e
    exact ⟨a, ws, e1, e2, ih ws B B' (by simpa [noRef] using n) e3⟩
  · intro n v B B' q e; simp [noRef] at q
  · intro vs B B' n e; simp only [RelDs] at e ⊢; exact e
  · intro d ds i1 i2 vs B B' n e
    simp only [noRefs, Bool.and_eq_true] at n
    simp only [RelDs] at e ⊢
    obtain ⟨v, r, e1, e2, e3⟩ := e
    exact ⟨v, r, e1, i1 v B B' n.1 e2, i2 r B B' n.2 e3⟩
theorem RelDs.noref (hl : ∀ m, live h' m = true → live h m = true) : ∀ (ds : List D) (vs : List V) (B B' : Nat), noRefs ds = true → RelDs K rho h B H ds vs → RelDs K rho h' B' H ds vs
  | [], vs, B, B', n, e => by simp only [RelDs] at e ⊢; exact e
  | d :: ds, vs, B, B', n, e => by
    simp only [noRefs, Bool.and_eq_true] at n
    simp only [RelDs] at e ⊢
    obtain ⟨v, r, e1, e2, e3⟩ := e
    exact ⟨v, r, e1, RelD.noref hl d v B B' n.1 e2, RelDs.noref hl ds r B B' n.2 e3⟩
/-- fewer live cells: all values stay -/
theorem RelD.less (hl : ∀ m, live h' m = true → live h m = true) (d : D) : ∀ (v : V) (B : Nat), RelD K rho h B H d v → RelD K rho h' B H d v := by
  refine D.rec (motive_1 := fun d => ∀ (v : V) (B : Nat), RelD K rho h B H d v → RelD K rho h' B H d v)
    (motive_2 := fun ds => ∀ (vs : List V) (B : Nat), RelDs K rho h B H ds vs → RelDs K rho h' B H ds vs) ?_ ?_ ?_ ?_ ?_ ?_ ?_ ?_ ?_ ?_ d
  · intro v B e; simp only [RelD] at e ⊢; exact e
  · intro b v B e; simp only [RelD] at e ⊢; exact e
  · intro b v B e; simp only [RelD] at e ⊢; exact e
  · intro b v B e; simp only [RelD] at e ⊢; exact e
  · intro xs ih v B e
    simp only [RelD] at e ⊢
    obtain ⟨a, ws, e1, e2, e3⟩ := e
    exact ⟨a, ws, e1, e2, ih ws B e3⟩
  · intro xs ih v B e
    simp only [RelD] at e ⊢
    obtain ⟨a, ws, e1, e2, e3⟩ := e
    refine ⟨a, ws, e1, ?_, ih ws B e3⟩
    obtain ⟨e2, z, k⟩ := e2
    exact ⟨e2, z, fun m hm => k m (hl m hm)⟩
  · intro xs ih v B e
    simp only [RelD] at e ⊢
    obtain ⟨a, ws, e1, e2, e3⟩ := e
    exact ⟨a, ws, e1, e2, ih ws B e3⟩
  · intro n v B e; simp only [RelD] at e ⊢; exact e
  · intro vs B e; simp only [RelDs] at e ⊢; exact e
  · intro d ds i1 i2 vs B e
    simp only [RelDs] at e ⊢
    obtain ⟨v, r, e1, e2, e3⟩ := e
    exact ⟨v, r, e1, i1 v B e2, i2 r B e3⟩
theorem RelDs.less (hl : ∀ m, live h' m = true → live h m = true) : ∀ (ds : List D) (vs : List V) (B : Nat), RelDs K rho h B H ds vs → RelDs K rho h' B H ds vs
  | [], vs, B, e => by simp only [RelDs] at e ⊢; exact e
  | d :: ds, vs, B, e => by
    simp only [RelDs] at e ⊢
    obtain ⟨v, r, e1, e2, e3⟩ := e
    exact ⟨v, r, e1, RelD.less hl d v B e2, RelDs.less hl ds r B e3⟩
theorem live_take {n m : Nat} (e : live (h.take n) m = true) : live h m = true ∧ m < n := by
  have hl := live_lt e
  have hn : m < n := by rw [List.length_take] at hl; omega
  unfold live at e ⊢
  rw [List.getElem?_take_of_lt hn] at e
  exact ⟨e, hn⟩
theorem Rel.take (R : Rel K rho h H) (n : Nat) : Rel K rho (h.take n) H := by
  refine ⟨fun m k hm hk e => R.inj m k (live_take hm).1 (live_take hk).1 e, fun m o e => ?_, R.zd, fun m hm => R.zc m (live_take hm).1⟩
  have hl := (List.getElem?_eq_some_iff.mp e).1
  have hn : m < n := by rw [List.length_take] at hl; omega
  rw [List.getElem?_take_of_lt hn] at e
  have c := R.cell m o e
  cases o with
  | dead => trivial
  | lst xs =>
    obtain ⟨us, a, b⟩ := c
    exact ⟨us, a, RelDs.less (fun m hm => (live_take hm).1) _ _ _ b⟩
theorem Ext.take {rho' : Rh} {H' : Hp} (x : Ext K rho h H rho' h' H') : Ext K rho h H rho' (h'.take h.length) H' :=
  { x with
    le := by rw [List.length_take, Nat.min_eq_left x.le]; exact Nat.le_refl _
    lv := fun m hm e => x.lv m hm (live_take e).1
    fr := fun m hm e => absurd (live_take e).2 (Nat.not_lt.mpr hm) }
end
/-- what a def hands out: its own cells are dropped; one of them that is handed out becomes a value -/
def sealD (n : Nat) (d : D) (h : Hd) : Option D := match d with
  | .ref k => if k < n then some (.ref k) else match h[k]? with
    | some (.lst xs) => if noRefs xs then some (.lv xs) else none
    | _ => none
  | d => if noRef d then some d else none
theorem sealD_ok {K : PySem.W.Frag} {rho : Rh} {h : Hd} {H : Hp} {n : Nat} {d d' : D} {v : V} (R : Rel K rho h H) (hn : n ≤ h.length) (r : RelV' K rho h H d v) (e : sealD n d h = some d') : RelV' K rho (h.take n) H d' v := by
  have len : (h.take n).length = n := by rw [List.length_take, Nat.min_eq_left hn]
  have other : noRef d = true → d' = d → RelV' K rho (h.take n) H d' v := fun q1 q2 => by rw [q2]; exact RelD.noref (fun m hm => (live_take hm).1) d v _ _ q1 r
  cases d with
  | ref k =>
    simp only [sealD] at e
    by_cases hk : k < n
    · simp only [hk, if_true, Option.some.injEq] at e
      subst e
      simp only [RelV', RelD] at r ⊢
      exact ⟨by rw [len]; exact hk, r.2⟩
    · simp only [hk, if_false] at e
      cases q : h[k]? with
      | none => rw [q] at e; cases e
      | some o =>
        cases o with
        | dead => rw [q] at e; cases e
        | lst xs =>
          rw [q] at e
          simp only at e
          by_cases hx : noRefs xs = true
          · simp only [hx, if_true, Option.some.injEq] at e
            subst e
            obtain ⟨us, a, b⟩ := R.cellL q
            have lk : live h k = true := by unfold live; rw [q]
            simp only [RelV', RelD] at r ⊢
            refine ⟨rho k, us, r.2, ⟨a, R.zc k lk, fun m hm z => ?_⟩, RelDs.noref (fun m hm => (live_take hm).1) _ _ _ _ hx b⟩
            have := R.inj m k (live_take hm).1 lk z
            exact hk (this ▸ (live_take hm).2)
          · simp only [hx] at e; cases e
  | _ =>
    all_goals
      simp only [sealD] at e
      split at e
      · rename_i q; cases e; exact other q rfl
      · cases e
def sealX (x : Ex) : Bool := noRefs (x.fs.map (·.2))
/-- the body's run: a def of np parameters and n names -/
def runB (np n : Nat) (b : SF) : MF := fun ds h => if ds.length = np then (match b (ds.map some ++ List.replicate (n - ds.length) none) h with
  | .ok (.nx _) h' => .ok .non h'
  | .ok (.rt d) h' => .ok d h'
  | .ok (.ex x _) h' => .exc x h'
  | _ => .fail) else .fail
def sealR (n : Nat) : Res D → Res D
  | .ok d h => match sealD n d h with
    | some d' => .ok d' (h.take n)
    | none => .fail
  | .exc x h => if sealX x then .exc x (h.take n) else .fail
  | .fail => .fail
def fnM (np n : Nat) (b : SF) : MF := fun ds h => sealR h.length (runB np n b ds h)
def spM (K : PySem.W.Frag) (mg : Str → Option Value) (m : MF) : Sp := fun vs H Q E => ∃ rho h ds, Rel K rho h H ∧ RelVs' K rho h H ds vs ∧ PostG K mg E rho h H (m ds h) (pE K Q)
theorem RelS.start {K : PySem.W.Frag} {rho : Rh} {h : Hd} {H : Hp} {N : List Str} {ds : List D} {vs : List V} (r : RelVs' K rho h H ds vs) : RelS K rho h H (ds.map some ++ List.replicate (N.length - ds.length) none) (L2.start N vs) := by
  have hl := RelDs.length r
  refine ⟨by unfold L2.start; simp [hl], fun i d e => ?_⟩
  unfold L2.start
  by_cases hi : i < ds.length
  · rw [List.getElem?_append_left (by simpa using hi)] at e
    rw [List.getElem?_map] at e
    cases q : ds[i]? with
    | none => rw [q] at e; simp at e
    | some d' =>
      rw [q] at e
      simp at e
      subst e
      obtain ⟨v, a, b⟩ := RelDs.get r q
      exact ⟨v, by rw [List.getElem?_append_left (by simp; omega), List.getElem?_map, a]; rfl, b⟩
  · rw [List.getElem?_append_right (by simpa using hi)] at e
    have := List.mem_of_getElem? e
    simp [List.mem_replicate] at this
section
variable {P : Program} {w : World} {K : PySem.W.Frag} {mg : Str → Option Value} {base : Heap}
/-- a def's mirror, kept by the def -/
theorem fn_zero {k : Nat} {f : Addr} {fd : FuncData} {ps : List Str} : FnOk P w K mg base (L2.CX P w) k f fd ps (spM K mg fun _ _ => .fail) where
  len := fun vs H Q E h => by obtain ⟨_, _, _, _, _, h⟩ := h; exact h.elim
  run := fun A outer s H args us vs Q E _ _ _ _ h => by obtain ⟨_, _, _, _, _, h⟩ := h; exact h.elim
theorem spM.len {np n : Nat} {b : SF} {vs : List V} {H : Hp} {Q : VK} {E : XK} (h : spM K mg (fnM np n b) vs H Q E) : vs.length = np := by
  obtain ⟨rho, h, ds, R, r, po⟩ := h
  by_cases q : ds.length = np
  · rw [← RelDs.length r]; exact q
  · unfold fnM runB at po; simp only [q, if_false] at po; exact po.elim
theorem fn_ok {x qual : Str} {st : Stmt} {f : Addr} {fd : FuncData} {N ps : List Str} {k : Nat} {b : SF} (F : Fun K x qual st f fd) (S : FnScope N ps (defScope st))
    (hb : ∀ (cdv : Value) (A : Around) (outer : List Env) (s : Shared) (H : Hp) (E : XK), Room k (A.deeper (envOfC qual (defScope st) s.heap.objs.size f cdv)) →
      SSs (cxOf (L2.CX P w) P w K mg base N qual (defScope st) f cdv A outer s H E) (fun cls d _ H => E cls d H) (defBody st) b) : FnOk P w K mg base (L2.CX P w) (k + 1) f fd ps (spM K mg (fnM ps.length N.length b)) := by
  refine F.okX S (fun vs H Q E h => spM.len h) fun cdv A outer s H vs Q E hr h => ⟨_, hb cdv A outer s H E hr, ?_⟩
  obtain ⟨rho, h, ds, R, r, po⟩ := h
  refine ⟨rho, h, ds.map some ++ List.replicate (N.length - ds.length) none, R, RelS.start r, ?_⟩
  unfold fnM runB at po
  by_cases q : ds.length = ps.length
  · simp only [q, if_true] at po
    rw [← q] at po
    cases qb : b (ds.map some ++ List.replicate (N.length - ds.length) none) h with
    | fail => rw [qb] at po; exact po
    | exc x h' => rw [qb] at po; exact po.elim
    | ok fl h' =>
      rw [qb] at po
      cases fl with
      | nx s1 => exact fun rho' H' e R' σ' S' => po rho' H' e.take (R'.take _) _ relNon
      | rt d =>
        intro rho' H' e R' v r'
        simp only [sealR] at po
        cases qs : sealD h.length d h' with
        | none => rw [qs] at po; exact po.elim
        | some d' => rw [qs] at po; exact po rho' H' e.take (R'.take _) v (sealD_ok R' e.le r' qs)
      | bk s1 => exact po.elim
      | ct s1 => exact po.elim
      | ex x s1 =>
        intro rho' H' e R' σ' cls dd S' rx
        simp only [sealR] at po
        by_cases qx : sealX x = true
        · simp only [qx, if_true] at po
          refine po rho' H' cls dd e.take (R'.take _) ?_
          obtain ⟨C, a1, a2, a3⟩ := rx
          refine ⟨C, a1, a2, ?_⟩
          rcases a3 with a3 | ⟨d, us, b1, b2, b3, b4⟩
          · exact .inl a3
          · exact .inr ⟨d, us, b1, b2, b3, RelDs.noref (fun m hm => (live_take hm).1) _ _ _ _ qx b4⟩
        · simp only [qx] at po; exact po.elim
  · simp only [q, if_false] at po; exact po.elim
/-- a def as its callers see it -/
structure Df (P : Program) (w : World) (K : PySem.W.Frag) (mg : Str → Option Value) (base : Heap) (k : Nat) (x : Str) (ps : List Str) (f : Addr) (fd : FuncData) (m : MF) : Prop where
  ok : FnOk P w K mg base (L2.CX P w) k f fd ps (spM K mg m)
  gl : mg x = some (.ref f)
  kp : PySem.W.keepIn K (.ref f) = true
  bd : Binds K fd ps []
end
/-- the arguments given by name put in the parameters' order -/
def permL {α : Type} (np nk : Nat) (perm : List Nat) (us ws : List α) : List α := if us.length = np ∧ ws.length = nk then perm.filterMap fun i => (us ++ ws)[i]? else []
def e_own (m : MF) (a : AF) : EF := fun s h => (a s h).bind fun xs h1 => m xs h1
def e_ownK (m : MF) (np nk : Nat) (perm : List Nat) (a k : AF) : EF := fun s h => (a s h).bind fun xs h1 => (k s h1).bind fun ys h2 => m (permL np nk perm xs ys) h2
theorem RelDs.perm {K : PySem.W.Frag} {rho : Rh} {h : Hd} {H : Hp} {B : Nat} {ds es : List D} {us ws : List V} (r1 : RelDs K rho h B H ds us) (r2 : RelDs K rho h B H es ws) (np nk : Nat) (perm : List Nat) : RelDs K rho h B H (permL np nk perm ds es) (permL np nk perm us ws) := by
  unfold permL
  rw [RelDs.length r1, RelDs.length r2]
  split
  · have r := RelDs.append r1 r2
    have hl := RelDs.length r
    induction perm with
    | nil => simp [RelDs]
    | cons i perm ih =>
      rw [List.filterMap_cons, List.filterMap_cons]
      cases q : (ds ++ es)[i]? with
      | none =>
        have : (us ++ ws)[i]? = none := by
          rw [List.getElem?_eq_none_iff] at q ⊢
          omega
        rw [this]; exact ih
      | some d =>
        obtain ⟨v, a, b⟩ := RelDs.get r q
        rw [a]
        simp only [RelDs]
        exact ⟨v, _, rfl, b, ih⟩
  · simp [RelDs]
theorem vals_perm {us : List V} {ws : List Value} {us2 : List V} {ws2 : List Value} (r1 : Vals us ws) (r2 : Vals us2 ws2) (np nk : Nat) (perm : List Nat) : Vals (permL np nk perm us us2) (permL np nk perm ws ws2) := by
  unfold permL
  rw [r1.length, r2.length]
  split
  · have r := r1.append r2
    have hl := r.length
    induction perm with
    | nil => exact .nil
    | cons i perm ih =>
      rw [List.filterMap_cons, List.filterMap_cons]
      cases q : (us ++ us2)[i]? with
      | none => rw [r.none_of q]; exact ih
      | some d =>
        obtain ⟨v, a, b⟩ := r.get q
        rw [a]
        exact .cons b ih
  · exact .nil
section
variable {X : Cx} {W : WX} {k j : Nat} {f : Addr} {fd : FuncData} {x : Str} {ps ks : List Str} {m : MF} {p pos : Pos} {e : Expr} {es : List Expr} {kws : List Keyword} {fa fk : AF}
theorem r_own (F : Df X.prog X.w X.K X.mg X.base k x ps f fd m) (hr : Room j X.A) (tk : Takes X W) (ha : SA X W (e :: es) fa) (hj : k ≤ j := by decide) (hg : Gl X x := by rfl) (hdb : (x == ("__debug__" : Str)) = false := by decide)
    (he : starEach (e :: es) X.env = (false, eval e X.env) :: starEach es X.env := by rfl) (hpl : (backTo pos (starEach es X.env)).any (·.1) = false := by rfl) : SE X W (.Call (.Name x p) (e :: es) [] pos) (e_own m fa) :=
  PE.imp (pe_callS F.ok (hr.mono hj) hg F.gl F.kp F.bd (E := WE W) (fun σ => passAt tk σ) ha hdb he hpl) fun σ H Q h => by
    obtain ⟨rho, h, s, R, S, po⟩ := h
    exact step R S po fun rho1 h1 H1 ds e1 R1 S1 po1 vs r => ⟨rho1, h1, ds, R1, r, po1⟩
theorem r_own0 (F : Df X.prog X.w X.K X.mg X.base k x ps f fd m) (hr : Room j X.A) (tk : Takes X W) (hj : k ≤ j := by decide) (hg : Gl X x := by rfl) (hdb : (x == ("__debug__" : Str)) = false := by decide) : SE X W (.Call (.Name x p) [] [] pos) (e_own m a_nil) :=
  ⟨fun pins s σ H Q I h => by
    refine wpAny_Call_Name_kw (ld_glob I hg F.gl ?_ hdb)
    refine PySem.W.callWith_K0 I.kIn F.kp (run_fnS (us := []) (vs := []) (E := WE W) F.ok (hr.mono hj) F.bd (passAt tk σ) I .nil ?_)
    obtain ⟨rho, h, s, R, S, po⟩ := h
    exact ⟨rho, h, [], R, by simp only [RelVs', RelDs], po⟩⟩
/-- how a call binds its keywords -/
def KwB (K : PySem.W.Frag) (fd : FuncData) (ps ks : List Str) (np nk : Nat) (perm : List Nat) : Prop := ∀ (s : Shared) (us ws : List Value), K.In s.heap → us.length = np → ws.length = nk → BindsTo s fd ⟨us, ks.zip ws⟩ (ps.zip (permL np nk perm us ws))
theorem run_kw {pins : List (Addr × Obj)} {σ : L2.St} {H : Hp} {s : Shared} {Q : VK} {us ws : List Value} {vs zs : List V} {np nk : Nat} {perm : List Nat} (F : Df X.prog X.w X.K X.mg X.base k x ps f fd m) (hr : Room k X.A) (tk : Takes X W) (hb : KwB X.K fd ps ks np nk perm)
    (I : Inv X pins σ H s) (r : Vals vs us) (rz : Vals zs ws) (hn : us.length = np) (hk : ws.length = nk) (h : spM X.K X.mg m (permL np nk perm vs zs) H Q (WE W σ)) : wpAny (model X.prog X.w) X.A (call (.ref f) us (ks.zip ws)) (EP X pins σ Q) X.xe s := by
  have r2 := vals_perm r rz np nk perm
  refine wpAny_call (codeAny_mono (F.ok.run X.A X.stack s H ⟨us, ks.zip ws⟩ (permL np nk perm us ws) (permL np nk perm vs zs) Q (WE W σ) hr I.env0 (hb s us ws I.kIn hn hk) r2 h) fun r s' hq => ?_)
  cases r with
  | error e => exact passAt tk σ pins H s e s' I hq
  | ok fl =>
    cases fl with
    | ret u => exact I.after hq
    | next => exact False.elim hq
    | brk => exact False.elim hq
    | cont => exact False.elim hq
theorem r_ownK0 {nk : Nat} {perm : List Nat} (F : Df X.prog X.w X.K X.mg X.base k x ps f fd m) (hr : Room j X.A) (tk : Takes X W) (hb : KwB X.K fd ps ks 0 nk perm) (hkw : SK X W kws fk) (hlen : kws.length = nk := by rfl) (hj : k ≤ j := by decide) (hg : Gl X x := by rfl)
    (hall : (backToKw pos (keywordEach kws X.env)).all (·.1.isSome) = true := by rfl) (hks : (backToKw pos (keywordEach kws X.env)).filterMap (·.1) = ks := by rfl) (hdb : (x == ("__debug__" : Str)) = false := by decide)
    (hpl : ((backTo pos (starEach [] X.env)).any (·.1) || (backToKw pos (keywordEach kws X.env)).any (·.1.isNone)) = false := by rfl) (hnk : ∀ ds : List D, ∀ s h h', fk s h = .ok ds h' → ds.length = nk) :
    SE X W (.Call (.Name x p) [] kws pos) (e_ownK m 0 nk perm a_nil fk) := ⟨fun pins s σ H Q I h => by
  refine wpAny_Call_Name_kw (ld_glob I hg F.gl ?_ hdb)
  refine PySem.W.callWith_KW0 (h₀ := X.base) I.ok.mod.kin F.kp hall ?_ hpl
  obtain ⟨rho, h, sd, R, S, po⟩ := h
  have po' : PostG X.K X.mg (fun c d H' => W c d σ H') rho h H ((fk sd h).bind fun ys h2 => m (permL 0 nk perm [] ys) h2) (pE X.K Q) := po
  have z : tA X.K X.mg W fk σ H fun zs H2 => zs.length = nk ∧ spM X.K X.mg m (permL 0 nk perm [] zs) H2 Q (WE W σ) := by
    refine ⟨rho, h, sd, R, S, ?_⟩
    cases q : fk sd h with
    | fail => rw [q] at po'; exact po'
    | exc x h1 => rw [q] at po'; exact po'
    | ok ys h1 =>
      rw [q] at po'
      exact fun rho1 H1 e1 R1 vs r => ⟨by rw [← RelDs.length r]; exact hnk ys _ _ _ q, rho1, h1, permL 0 nk perm [] ys, R1, RelDs.perm (by simp [RelDs]) r 0 nk perm, PostG.ext e1 po'⟩
  refine thn (hkw.run pos pins s σ H _ I z) fun ws s2 ⟨zs, H2, I2, rz, hn, q2⟩ => ⟨I2.kIn, ?_⟩
  rw [hks]
  exact run_kw F (hr.mono hj) tk hb I2 .nil rz rfl (by rw [← rz.length]; exact hn) q2⟩
theorem r_ownK {np nk : Nat} {perm : List Nat} (F : Df X.prog X.w X.K X.mg X.base k x ps f fd m) (hr : Room j X.A) (tk : Takes X W) (hb : KwB X.K fd ps ks np nk perm) (ha : SA X W (e :: es) fa) (hkw : SK X W kws fk) (hj : k ≤ j := by decide) (hg : Gl X x := by rfl)
    (hall : (backToKw pos (keywordEach kws X.env)).all (·.1.isSome) = true := by rfl) (hks : (backToKw pos (keywordEach kws X.env)).filterMap (·.1) = ks := by rfl) (hdb : (x == ("__debug__" : Str)) = false := by decide)
    (he : starEach (e :: es) X.env = (false, eval e X.env) :: starEach es X.env := by rfl)
    (hpl : ((backTo pos (starEach (e :: es) X.env)).any (·.1) || (backToKw pos (keywordEach kws X.env)).any (·.1.isNone)) = false := by rfl)
    (hnp : ∀ ds : List D, ∀ s h h', fa s h = .ok ds h' → ds.length = np) (hnk : ∀ ds : List D, ∀ s h h', fk s h = .ok ds h' → ds.length = nk) :
    SE X W (.Call (.Name x p) (e :: es) kws pos) (e_ownK m np nk perm fa fk) := ⟨fun pins s σ H Q I h => by
  refine wpAny_Call_Name_kw (ld_glob I hg F.gl ?_ hdb)
  obtain ⟨rho, h, sd, R, S, po⟩ := h
  have z : tA X.K X.mg W fa σ H fun vs H1 => vs.length = np ∧ tA X.K X.mg W fk σ H1 fun zs H2 => zs.length = nk ∧ spM X.K X.mg m (permL np nk perm vs zs) H2 Q (WE W σ) := by
    refine ⟨rho, h, sd, R, S, ?_⟩
    cases q0 : fa sd h with
    | fail => simp only [e_ownK, q0] at po; exact po
    | exc x h1 => simp only [e_ownK, q0] at po; exact po
    | ok xs h0 =>
      simp only [e_ownK, q0] at po
      intro rho0 H0 e0 R0 vs r0
      refine ⟨by rw [← RelDs.length r0]; exact hnp xs _ _ _ q0, rho0, h0, sd, R0, e0.s S, ?_⟩
      have po' : PostG X.K X.mg (fun c d H' => W c d σ H') rho0 h0 H0 ((fk sd h0).bind fun ys h2 => m (permL np nk perm xs ys) h2) (pE X.K Q) := PostG.ext e0 po
      cases q : fk sd h0 with
      | fail => rw [q] at po'; exact po'
      | exc x h1 => rw [q] at po'; exact po'
      | ok ys h1 =>
        rw [q] at po'
        exact fun rho1 H1 e1 R1 vs r => ⟨by rw [← RelDs.length r]; exact hnk ys _ _ _ q, rho1, h1, permL np nk perm xs ys, R1, RelDs.perm (e1.vs r0) r np nk perm, PostG.ext e1 po'⟩
  refine PySem.W.callWith_KW (h₀ := X.base) I.ok.mod.kin F.kp hall (thn (ha.run pos pins s σ H _ I z) fun us s1 ⟨vs, H1, I1, r, hn, q⟩ => ?_) hpl he
  refine thn (hkw.run pos pins s1 σ H1 _ I1 q) fun ws s2 ⟨zs, H2, I2, rz, hk, q2⟩ => ⟨I2.kIn, ?_⟩
  rw [hks]
  exact run_kw F (hr.mono hj) tk hb I2 r rz (by show us.length = np; rw [← r.length]; exact hn) (by rw [← rz.length]; exact hk) q2⟩
end
theorem a_len0 : ∀ ds : List D, ∀ s h h', a_nil s h = .ok ds h' → ds.length = 0 := fun ds s h h' e => by cases e; rfl
theorem a_lenS {fa : EF} {fr : AF} {n : Nat} (hr : ∀ ds : List D, ∀ s h h', fr s h = .ok ds h' → ds.length = n) : ∀ ds : List D, ∀ s h h', a_cons fa fr s h = .ok ds h' → ds.length = n + 1 := fun ds s h h' e => by
  unfold a_cons at e
  cases q : fa s h with
  | fail => rw [q] at e; cases e
  | exc _ _ => rw [q] at e; cases e
  | ok x h1 =>
    rw [q] at e
    simp only [Res.bind] at e
    cases q2 : fr s h1 with
    | fail => rw [q2] at e; cases e
    | exc _ _ => rw [q2] at e; cases e
    | ok xs h2 => rw [q2] at e; cases e; simp [hr xs _ _ _ q2]
end Mini
namespace PySem
open AutoSeq1 (wpAny_loadPart')
theorem meets_enumerate_newT (l : Addr) (items : Array Value) (n : Nat) (dct : Option Addr) (sl : Array (Option Value)) :
    Meets (Builtin.«enumerate.__new__» ⟨[.type "enumerate", .ref l], []⟩) (fun _ R s => s.heap.get? l = some { cls := .type "tuple", dict := dct, data := .seq items n, slots := sl } ∧
      R (.ok (.ret (.ref (s.heap.push { cls := .type "tuple_iterator", data := .fields #[.ref l, .int 0 0] }).objs.size)))
        { s with heap := (s.heap.push { cls := .type "tuple_iterator", data := .fields #[.ref l, .int 0 0] }).push { cls := .type "enumerate", data := .fields #[.none, .bool false, .ref s.heap.objs.size, rawInt 0, .none, .none] } }) :=
  .of_wp fun prog w A R s h => by
    obtain ⟨hp, g, d, tk, os⟩ := s; obtain ⟨hl, h⟩ := h
    have hsub := sub_enumerate
    have hL : Heap.IsTuple (Shared.heap ⟨hp, g, d, tk, os⟩) l items := ⟨_, hl, rfl, n, rfl⟩
    wp_walk using wpAny_loadPart' hl
    refine wpAny_stack_any fun st => wpAny_pure ?_
    split
    · rename_i c _ _ _ _ _
      cases (c == Value.type "enumerate")
      · wp_walk using wpAny_loadPart' hl, wpAny_pyIter_tuple hL
        exact ⟨_, rfl, h⟩
      · wp_walk using wpAny_loadPart' hl, wpAny_pyIter_tuple hL
        exact ⟨_, rfl, h⟩
    · wp_walk using wpAny_loadPart' hl, wpAny_pyIter_tuple hL
      exact ⟨_, rfl, h⟩
theorem call_enumerate_tup {prog : Program} {w : World} {A : Around} {E : Value → Shared → Prop} {s : Shared} {l : Addr} {items : Array Value} {Q : Value → Shared → Prop} (hL : s.heap.IsTuple l items)
    (h : ∀ h', IsEnum h' (s.heap.objs.size + 1) s.heap.objs.size 0 .none → h'.IsTupleIter s.heap.objs.size l 0 → h'.objs.size = s.heap.objs.size + 2 →
      (∀ b o, s.heap.get? b = some o → h'.get? b = some o) → Q (.ref (s.heap.objs.size + 1)) { s with heap := h' }) :
    wpAny (model prog w) A (call (.type "enumerate") [.ref l]) Q E s := by
  obtain ⟨⟨c, dct, dt, sl⟩, hl, hc, n, hd⟩ := hL
  replace hc : c = .type "tuple" := hc
  replace hd : dt = .seq items n := hd
  subst hc hd
  refine callType_new F.called_enumerate (by decide) (F.typeCall_enumerate_1 _) (F.newCall_enumerate_1 _) (fun obj => F.args_object_init_2 obj _) F.entry_enumerate_new
    (meets_enumerate_newT l items n dct sl) ⟨hl, ?_⟩
  have hz : (s.heap.push { cls := .type "tuple_iterator", data := .fields #[.ref l, .int 0 0] }).objs.size = s.heap.objs.size + 1 := Heap.size_push ..
  show _ ∧ _
  rw [hz]
  have he : IsEnum ((s.heap.push { cls := .type "tuple_iterator", data := .fields #[.ref l, .int 0 0] }).push
      { cls := .type "enumerate", data := .fields #[.none, .bool false, .ref s.heap.objs.size, rawInt 0, .none, .none] }) (s.heap.objs.size + 1) s.heap.objs.size 0 .none := by
    have := Heap.get?_push_size (s.heap.push { cls := .type "tuple_iterator", data := .fields #[.ref l, .int 0 0] })
      (o := { cls := .type "enumerate", data := .fields #[.none, .bool false, .ref s.heap.objs.size, rawInt 0, .none, .none] }) rfl
    rw [hz] at this; exact this
  refine ⟨⟨_, he, rfl⟩, h _ he ⟨_, Heap.get?_push_of_some _ (Heap.get?_push_size _ rfl), rfl, rfl⟩ (by rw [Heap.size_push, hz]) fun b o x => Heap.get?_push_of_some _ (Heap.get?_push_of_some _ x)⟩
end PySem
namespace Mini
open PySem PySem.Spec PyProof.Rows L2
/-- the tuple at a, each item in a new pair -/
def IteT (K : PySem.W.Frag) (a : Addr) : It :=
  ⟨fun i H => ∃ (xs : List V) (x : V), SqT K H a xs ∧ xs[i]? = some x, fun i H v H' => ∃ T x, v = .ref T ∧ H T = none ∧ H' = upd H T (.tup [.int (i : Nat), x]) ∧ ∀ xs, SqT K H a xs → xs[i]? = some x, fun i H => ∃ xs : List V, SqT K H a xs ∧ xs.length ≤ i⟩
theorem turn_enumT {P : Program} {w : World} {K : PySem.W.Frag} {elts : List Expr} {kk : Nat} {tpos : Pos} (a e it : Addr) (hai : a ≠ it) (hae : a ≠ e) :
    Turn P w K (.Tuple elts kk tpos) (IteT K a) [e, it] e (fun i h => (∃ old, IsEnum h e it ((i : Nat) : Int) old) ∧ h.IsTupleIter it a i ∧ e ≠ it) where
  mem := by simp
  obj := fun i h st b hb => by
    obtain ⟨⟨old, he⟩, ⟨o, ho, hc, hd⟩, _⟩ := st
    have e' : b = e ∨ b = it := by simpa using hb
    rcases e' with z | z
    · rw [z]; exact ⟨_, he, fun v q => nomatch q⟩
    · rw [z]; exact ⟨o, ho, fun v q => by rw [hd] at q; cases q⟩
  keep := fun i h h' st k => let ⟨⟨old, he⟩, hi, hne⟩ := st; ⟨⟨old, k e (by simp) _ he⟩, hi.at fun o q => k it (by simp) o q, hne⟩
  item := by
    intro X hP hw hK hc i pins s σ H E I hf st hg
    subst hP hw hK
    obtain ⟨⟨old, he⟩, hit, hne⟩ := st
    obtain ⟨xs, x, hq, hx⟩ := hg
    obtain ⟨its, rv, p, hz⟩ := I.tuple hq
    obtain ⟨u, hu, ru⟩ := rv.get hx
    have hel : e < s.heap.objs.size := Heap.lt_size he
    have hil : it < s.heap.objs.size := by obtain ⟨_, q, _⟩ := hit; exact Heap.lt_size q
    have hlt : i < its.toArray.size := by have := (List.getElem?_eq_some_iff.mp hu).1; simpa using this
    have hef : e ∉ [it, a] := by
      intro z
      rcases List.mem_cons.mp z with z | z
      · exact hne z
      · exact hae ((List.mem_singleton.mp z).symm)
    refine wpAny_pyNext_enum_itemC (Draws.tuple (A := X.A.in1) (by rw [show X.A.in1.handled = X.A.handled from rfl]; exact I.ok.hd hc) it a hai its.toArray) he ⟨hit, p⟩ hlt hne hef fun x' h' tk hP ho hst' hT hsz hk => ?_
    have ex : x' = u := by
      have : its.toArray[i]? = some x' := hP
      have e2 : its.toArray[i]? = some u := by simpa using hu
      rw [e2] at this; exact (Option.some.inj this).symm
    subst ex
    obtain ⟨hit', _⟩ := hst'
    refine ⟨_, rfl, wpAny_letOwnedTupleGo_enum (s := { s with heap := h', toks := tk + 1 }) ho fun h'' he' sb => ?_⟩
    have hT2 : h''.get? s.heap.objs.size = some { cls := .type "tuple", data := .seq #[.int i tk, x'] } := (sb.2 _ (Nat.ne_of_gt hel)).trans hT
    have new : ObjOk X.prog X.w (upd H s.heap.objs.size (.tup [.int (i : Nat), x])) h'' s.heap.objs.size (.tup [.int (i : Nat), x]) :=
      ⟨by show 2 ≤ sizeLine; decide, [.int i tk, x'], .cons ⟨_, rfl⟩ (.cons ru .nil), ⟨_, hT2, rfl, _, rfl⟩⟩
    have I1 : Inv X pins σ (upd H s.heap.objs.size (.tup [.int (i : Nat), x])) { s with heap := h'', toks := tk + 1 } :=
      I.turnedNew (ch := [e, it]) (fun b ob hb q => (sb.2 b (fun z => hb (by simp [z]))).trans (hk b ob (fun z => hb (by simp [z])) (fun z => hb (by simp [z])) q)) hf (Nat.le_refl _) new
    refine ⟨.ref s.heap.objs.size, _, I1, rfl, ⟨_, x, rfl, I.hok.fresh (Nat.le_refl _), rfl, fun ys hy => by rw [I.tuple_inj hy hq]; exact hx⟩, ⟨⟨x', ?_⟩, hit'.at fun o q => (sb.2 it (Ne.symm hne)).trans q, hne⟩, fun b hb => ?_⟩
    · have e1 : ((i + 1 : Nat) : Int) = (i : Int) + 1 := by omega
      rw [e1]; exact he'
    · have hb' : b < s.heap.objs.size := by
        have e' : b = e ∨ b = it := by simpa using hb
        rcases e' with z | z
        · rw [z]; exact hel
        · rw [z]; exact hil
      rw [upd_ne (Nat.ne_of_lt hb')]
      exact (hf b hb).1
  done := by
    intro X hP hw hK hc i pins s σ H E I hf st hg
    subst hP hw hK
    obtain ⟨⟨old, he⟩, hit, hne⟩ := st
    obtain ⟨xs, hq, hx⟩ := hg
    obtain ⟨its, rv, p, hz⟩ := I.tuple hq
    obtain ⟨f0, f1, f2, f3, f4, f5⟩ := hf it (by simp)
    have hl := rv.length
    have D : Draws X.prog X.w X.A.in1 it [it, a] i (fun j v => its.toArray[j]? = some v) (fun j h => j = i ∧ h.IsTupleIter it a j ∧ h.IsTuple a its.toArray) := by
      refine ⟨fun _ _ st => let ⟨o, ho, _⟩ := st.2.1; ⟨o, ho⟩, fun _ _ _ st hk => ⟨st.1, st.2.1.at fun o e => hk it (by simp) o e, st.2.2.at fun o e => hk a (by simp) o e⟩, fun j s Q E hj st hQ => ?_, fun s Q E st hE => ?_⟩
      · exact absurd hj (by rw [st.1]; exact Nat.lt_irrefl _)
      · exact wpAny_nextOf_tuple_end (by rw [show X.A.in1.handled = X.A.handled from rfl]; exact I.ok.hd hc) st.2.1 st.2.2 (by simp; omega) hE
    exact wpAny_pyNext_enum_endD D he ⟨rfl, hit, p⟩ fun h' eb => ⟨rfl, I.turned (t' := s.toks) (fun b o hb q => eb b o hb q) f0 f1 f3 f4 f5⟩
  self := fun A i s Q E st h => let ⟨⟨_, he⟩, _⟩ := st; wpAny_pyIter_enum he h
def iEnumT (K : PySem.W.Frag) (ta : TA) : TI := fun σ H R => ta σ H fun vs H1 => ∃ a xs, vs = [.ref a] ∧ SqT K H1 a xs ∧ R (IteT K a) H1
theorem pi_enumT {X : Cx} {e : Expr} {ta : TA} {p pos tpos : Pos} {elts : List Expr} {kk : Nat} (hg : Gl X "enumerate") (hm : X.mg "enumerate" = none) (ha : PA X [e] ta) (hs : starEach [e] X.env = [(false, eval e X.env)] := by rfl) :
    PI X (.Tuple elts kk tpos) (.Call (.Name "enumerate" p) [e] [] pos) (iEnumT X.K ta) := by
  refine ⟨fun pins s σ H R I h => ?_⟩
  refine Call_ (ld_blt I hg hm boot_enumerate (PyProof.Rows.callWith_type1 (thn (ha.run pos pins s σ H _ I h) fun us s1 ⟨vs, H1, I1, r1, q1⟩ => ?_) hs rfl))
  obtain ⟨a, xs, ex, hq, q⟩ := q1
  subst ex
  cases r1 with
  | cons r rr =>
    cases rr
    cases r
    obtain ⟨its, rv, p', hz⟩ := I1.tuple hq
    obtain ⟨oa, hoa, _⟩ := id p'
    have la : a < s1.heap.objs.size := Heap.lt_size hoa
    refine call_enumerate_tup (show s1.heap.IsTuple a its.toArray from p') fun h' he hit hsz hk => wpAny_pyIter_enum he ?_
    have I2 : Inv X pins σ H1 { s1 with heap := h' } := I1.kept (t' := s1.toks) hk
    refine ⟨s1.heap.objs.size + 1, [s1.heap.objs.size + 1, s1.heap.objs.size], _, _, H1, rfl, I2, turn_enumT a (s1.heap.objs.size + 1) s1.heap.objs.size (Nat.ne_of_lt la) (Nat.ne_of_lt (Nat.lt_succ_of_lt la)), ⟨⟨.none, he⟩, hit, Nat.succ_ne_self _⟩, fun b hb => ?_, q⟩
    have e' : b = s1.heap.objs.size + 1 ∨ b = s1.heap.objs.size := by simpa using hb
    have hle : s1.heap.objs.size ≤ b := by
      rcases e' with z | z
      · rw [z]; exact Nat.le_add_right _ _
      · rw [z]; exact Nat.le_refl _
    exact I1.fpOk hle (I1.hok.fresh hle)

/-! ### enumerate(xs), zip(xs, ys) by mirrors -/
def enumL (i : Nat) : List D → List D
  | [] => []
  | d :: ds => .tup [.int (i : Nat), d] :: enumL (i + 1) ds
theorem enumL_length : ∀ (ds : List D) (i : Nat), (enumL i ds).length = ds.length
  | [], _ => rfl
  | d :: ds, i => by simp [enumL, enumL_length ds]
theorem enumL_get : ∀ (ds : List D) (k i : Nat) (d : D), (enumL k ds)[i]? = some d → ∃ x, ds[i]? = some x ∧ d = .tup [.int ((k + i : Nat) : Int), x]
  | [], k, i, d, e => by simp [enumL] at e
  | x :: ds, k, 0, d, e => by simp [enumL] at e; exact ⟨x, rfl, by rw [← e]; simp⟩
  | x :: ds, k, i + 1, d, e => by
    simp only [enumL, List.getElem?_cons_succ] at e
    obtain ⟨y, a, b⟩ := enumL_get ds (k + 1) i d e
    refine ⟨y, by simpa using a, ?_⟩
    rw [b]
    have : k + 1 + i = k + (i + 1) := by omega
    rw [this]
def zipL : List D → List D → List D
  | x :: xs, y :: ys => .tup [x, y] :: zipL xs ys
  | _, _ => []
theorem zipL_length : ∀ (xs ys : List D), (zipL xs ys).length = min xs.length ys.length
  | [], _ => by simp [zipL]
  | _ :: _, [] => by simp [zipL]
  | x :: xs, y :: ys => by simp [zipL, zipL_length xs ys]
theorem zipL_get : ∀ (xs ys : List D) (i : Nat) (d : D), (zipL xs ys)[i]? = some d → ∃ x y, xs[i]? = some x ∧ ys[i]? = some y ∧ d = .tup [x, y]
  | [], _, i, d, e => by simp [zipL] at e
  | _ :: _, [], i, d, e => by simp [zipL] at e
  | x :: xs, y :: ys, 0, d, e => by simp [zipL] at e; exact ⟨x, y, rfl, rfl, e.symm⟩
  | x :: xs, y :: ys, i + 1, d, e => by
    simp only [zipL, List.getElem?_cons_succ] at e
    obtain ⟨a, b, c, d, e⟩ := zipL_get xs ys i d e
    exact ⟨a, b, by simpa using c, by simpa using d, e⟩
section
variable {K : PySem.W.Frag} {rho : Rh} {h : Hd} {H : Hp}
/-- a new pair -/
theorem pair_new (R : Rel K rho h H) {T : Addr} (nT : H T = none) {d1 d2 : D} {v1 v2 : V} (r1 : RelV' K rho h H d1 v1) (r2 : RelV' K rho h H d2 v2) :
    Ext K rho h H rho h (L2.upd H T (.tup [v1, v2])) ∧ Rel K rho h (L2.upd H T (.tup [v1, v2])) ∧ RelV' K rho h (L2.upd H T (.tup [v1, v2])) (.tup [d1, d2]) (.ref T) :=
  ⟨Ext.upd R nT _, R.upd nT _, R.newT nT (by simp only [RelVs', RelDs]; exact ⟨v1, _, rfl, r1, v2, [], rfl, r2, rfl⟩)⟩
/-- what a list or a tuple holds, whatever goes on -/
def Holds (K : PySem.W.Frag) (rho : Rh) (h : Hd) (H : Hp) (a : Addr) (l : Bool) (xs : List D) : Prop :=
  ∀ (rho' : Rh) (h' : Hd) (H' : Hp), ExtZ K rho h H rho' h' H' → Rel K rho' h' H' → ∃ us, (if l then SqL K H' a us else SqT K H' a us) ∧ RelVs' K rho' h' H' xs us
def asV (d : D) : Option (Bool × List D) := match d with
  | .lv xs => some (true, xs)
  | .fl xs => some (true, xs)
  | .tup xs => some (false, xs)
  | _ => none
theorem asV_ok {d : D} {v : V} {l : Bool} {xs : List D} (r : RelV' K rho h H d v) (e : asV d = some (l, xs)) : ∃ a, v = .ref a ∧ Holds K rho h H a l xs := by
  cases d with
  | lv ys =>
    simp only [asV, Option.some.injEq, Prod.mk.injEq] at e
    obtain ⟨e1, e2⟩ := e
    subst e1 e2
    obtain ⟨a, us, e1, _⟩ : ∃ a us, v = .ref a ∧ True := by simp only [RelV', RelD] at r; obtain ⟨a, us, e, _⟩ := r; exact ⟨a, us, e, trivial⟩
    subst e1
    refine ⟨a, rfl, fun rho' h' H' x R => ?_⟩
    obtain ⟨a', us, q1, q2, q3⟩ := asL_ok R (x.v r) (xs := ys) rfl
    cases q1
    exact ⟨us, by simpa using q2, q3⟩
  | fl ys =>
    simp only [asV, Option.some.injEq, Prod.mk.injEq] at e
    obtain ⟨e1, e2⟩ := e
    subst e1 e2
    obtain ⟨a, us, e1, _⟩ : ∃ a us, v = .ref a ∧ True := by simp only [RelV', RelD] at r; obtain ⟨a, us, e, _⟩ := r; exact ⟨a, us, e, trivial⟩
    subst e1
    refine ⟨a, rfl, fun rho' h' H' x R => ?_⟩
    obtain ⟨a', us, q1, q2, q3⟩ := asL_ok R (x.v r) (xs := ys) rfl
    cases q1
    exact ⟨us, by simpa using q2, q3⟩
  | tup ys =>
    simp only [asV, Option.some.injEq, Prod.mk.injEq] at e
    obtain ⟨e1, e2⟩ := e
    subst e1 e2
    obtain ⟨a, us, e1, _, _⟩ := r.tup
    subst e1
    refine ⟨a, rfl, fun rho' h' H' x R => ?_⟩
    obtain ⟨a', us, q1, q2, q3⟩ := (x.v r).tup
    cases q1
    exact ⟨us, by simpa using q2, q3⟩
  | _ => simp [asV] at e
theorem serves_enumL {a : Addr} {xs : List D} (q : Holds K rho h H a true xs) : Serves K (Ite K a) (enumL 0 xs) rho h H := by
  intro rho' h' H' x R i
  obtain ⟨us, q1, q2⟩ := q rho' h' H' x R
  simp only [if_true] at q1
  refine ⟨fun d hd => ?_, fun hl => ⟨us, q1, by rw [enumL_length] at hl; rw [← RelDs.length q2]; exact hl⟩⟩
  obtain ⟨y, e1, e2⟩ := enumL_get xs 0 i d hd
  obtain ⟨v, e3, e4⟩ := RelDs.get q2 e1
  refine ⟨⟨us, v, q1, e3⟩, fun w H2 ⟨T, z, w1, w2, w3, w4⟩ => ?_⟩
  have := w4 us q1
  rw [e3] at this
  cases this
  subst w1 w3 e2
  have := pair_new R w2 (relInt (i : Nat)) e4
  simpa using this
theorem serves_enumT {a : Addr} {xs : List D} (q : Holds K rho h H a false xs) : Serves K (IteT K a) (enumL 0 xs) rho h H := by
  intro rho' h' H' x R i
  obtain ⟨us, q1, q2⟩ := q rho' h' H' x R
  simp only [Bool.false_eq_true, if_false] at q1
  refine ⟨fun d hd => ?_, fun hl => ⟨us, q1, by rw [enumL_length] at hl; rw [← RelDs.length q2]; exact hl⟩⟩
  obtain ⟨y, e1, e2⟩ := enumL_get xs 0 i d hd
  obtain ⟨v, e3, e4⟩ := RelDs.get q2 e1
  refine ⟨⟨us, v, q1, e3⟩, fun w H2 ⟨T, z, w1, w2, w3, w4⟩ => ?_⟩
  have := w4 us q1
  rw [e3] at this
  cases this
  subst w1 w3 e2
  have := pair_new R w2 (relInt (i : Nat)) e4
  simpa using this
theorem serves_zipL {a b : Addr} {xs ys : List D} (p : Holds K rho h H a true xs) (q : Holds K rho h H b true ys) : Serves K (Itz K a b) (zipL xs ys) rho h H := by
  intro rho' h' H' x R i
  obtain ⟨us, p1, p2⟩ := p rho' h' H' x R
  obtain ⟨ws, q1, q2⟩ := q rho' h' H' x R
  simp only [if_true] at p1 q1
  refine ⟨fun d hd => ?_, fun hl => ⟨us, ws, p1, q1, by rw [zipL_length] at hl; rw [← RelDs.length q2, ← RelDs.length p2]; omega⟩⟩
  obtain ⟨y, z, e1, e2, e3⟩ := zipL_get xs ys i d hd
  obtain ⟨v, v1, v2⟩ := RelDs.get p2 e1
  obtain ⟨w, w1, w2⟩ := RelDs.get q2 e2
  refine ⟨⟨us, ws, v, w, p1, q1, v1, w1⟩, fun t H2 ⟨T, t1, t2, t3, t4, t5, t6, t7⟩ => ?_⟩
  have z1 := t6 us p1
  have z2 := t7 ws q1
  rw [v1] at z1
  rw [w1] at z2
  cases z1
  cases z2
  subst t3 t5 e3
  exact pair_new R t4 v2 w2
theorem serves_zipT {a b : Addr} {xs ys : List D} (p : Holds K rho h H a false xs) (q : Holds K rho h H b false ys) : Serves K (RZ.ItzT K a b) (zipL xs ys) rho h H := by
  intro rho' h' H' x R i
  obtain ⟨us, p1, p2⟩ := p rho' h' H' x R
  obtain ⟨ws, q1, q2⟩ := q rho' h' H' x R
  simp only [Bool.false_eq_true, if_false] at p1 q1
  refine ⟨fun d hd => ?_, fun hl => ⟨us, ws, p1, q1, by rw [zipL_length] at hl; rw [← RelDs.length q2, ← RelDs.length p2]; omega⟩⟩
  obtain ⟨y, z, e1, e2, e3⟩ := zipL_get xs ys i d hd
  obtain ⟨v, v1, v2⟩ := RelDs.get p2 e1
  obtain ⟨w, w1, w2⟩ := RelDs.get q2 e2
  refine ⟨⟨us, ws, v, w, p1, q1, v1, w1⟩, fun t H2 ⟨T, t1, t2, t3, t4, t5, t6, t7⟩ => ?_⟩
  have z1 := t6 us p1
  have z2 := t7 ws q1
  rw [v1] at z1
  rw [w1] at z2
  cases z1
  cases z2
  subst t3 t5 e3
  exact pair_new R t4 v2 w2
end
def i_enum (a : AF) : AF := fun s h => (a s h).bind fun ds h1 => match ds with
  | [d] => (match asV d with
    | some (_, xs) => .ok (enumL 0 xs) h1
    | none => .fail)
  | _ => .fail
def i_zip (a : AF) : AF := fun s h => (a s h).bind fun ds h1 => match ds with
  | [d, e] => (match asV d, asV e with
    | some (l, xs), some (m, ys) => if l = m then .ok (zipL xs ys) h1 else .fail
    | _, _ => .fail)
  | _ => .fail
section
variable {X : Cx} {W : WX} {e e2 : Expr} {p pos tpos : Pos} {elts : List Expr} {kk : Nat} {fa : AF}
theorem ri_enum (hm : X.mg "enumerate" = none) (ha : SA X W [e] fa) (hg : Gl X "enumerate" := by rfl) (hs : starEach [e] X.env = [(false, eval e X.env)] := by rfl) :
    SI X W (.Tuple elts kk tpos) (.Call (.Name "enumerate" p) [e] [] pos) (i_enum fa) := by
  refine PI.or (pi_enum hg hm ha hs) (pi_enumT hg hm ha hs) fun σ H Q q => ?_
  obtain ⟨rho, h, s, R, S, po⟩ := q
  unfold i_enum at po
  cases qf : fa s h with
  | fail => rw [qf] at po; exact po.elim
  | exc x h1 => rw [qf] at po; exact .inl ⟨rho, h, s, R, S, by rw [qf]; exact po⟩
  | ok ds h1 =>
    rw [qf] at po
    simp only [Res.bind] at po
    match ds, po, qf with
    | [], po, _ => exact po.elim
    | _ :: _ :: _, po, _ => exact po.elim
    | [d], po, qf =>
      simp only at po
      cases qa : asV d with
      | none => rw [qa] at po; exact po.elim
      | some lx =>
        obtain ⟨l, xs⟩ := lx
        rw [qa] at po
        simp only at po
        cases l with
        | true =>
          refine .inl ⟨rho, h, s, R, S, ?_⟩
          rw [qf]
          intro rho1 H1 e1 R1 vs r
          simp only [RelVs', RelDs] at r
          obtain ⟨v, rr, e2, r1, e3⟩ := r
          subst e3 e2
          obtain ⟨a, e4, hh⟩ := asV_ok r1 qa
          subst e4
          obtain ⟨us, q1, _⟩ := hh rho1 h1 H1 Ext.refl.z R1
          exact ⟨a, us, rfl, by simpa using q1, po rho1 H1 e1 R1 _ (serves_enumL hh)⟩
        | false =>
          refine .inr ⟨rho, h, s, R, S, ?_⟩
          rw [qf]
          intro rho1 H1 e1 R1 vs r
          simp only [RelVs', RelDs] at r
          obtain ⟨v, rr, e2, r1, e3⟩ := r
          subst e3 e2
          obtain ⟨a, e4, hh⟩ := asV_ok r1 qa
          subst e4
          obtain ⟨us, q1, _⟩ := hh rho1 h1 H1 Ext.refl.z R1
          exact ⟨a, us, rfl, by simpa using q1, po rho1 H1 e1 R1 _ (serves_enumT hh)⟩
theorem ri_zip (hm : X.mg "zip" = none) (ha : SA X W [e, e2] fa) (hg : Gl X "zip" := by rfl) (hs : starEach [e, e2] X.env = (false, eval e X.env) :: starEach [e2] X.env := by rfl) (hpl : (backTo pos (starEach [e2] X.env)).any (·.1) = false := by rfl) :
    SI X W (.Tuple elts kk tpos) (.Call (.Name "zip" p) [e, e2] [] pos) (i_zip fa) := PI.imp (RZ.pi_zipA hg hm ha hs hpl) fun σ H Q q => by
  obtain ⟨rho, h, s, R, S, po⟩ := q
  refine step R S po fun rho1 h1 H1 ds e1 R1 S1 po1 vs r => ?_
  match ds, po1, r with
  | [], po, _ => exact po.elim
  | [_], po, _ => exact po.elim
  | _ :: _ :: _ :: _, po, _ => exact po.elim
  | [d, d'], po, r =>
    simp only at po
    cases qa : asV d with
    | none => rw [qa] at po; exact po.elim
    | some lx =>
      obtain ⟨l, xs⟩ := lx
      cases qb : asV d' with
      | none => rw [qa, qb] at po; exact po.elim
      | some my =>
        obtain ⟨m, ys⟩ := my
        rw [qa, qb] at po
        simp only at po
        by_cases hlm : l = m
        · simp only [hlm, if_true] at po
          simp only [RelVs', RelDs] at r
          obtain ⟨v, rr, e2, r1, v2, rr2, e3, r2, e4⟩ := r
          subst e4 e3 e2 hlm
          obtain ⟨a, a1, ah⟩ := asV_ok r1 qa
          obtain ⟨b, b1, bh⟩ := asV_ok r2 qb
          subst a1 b1
          obtain ⟨us, q1, _⟩ := ah rho1 h1 H1 Ext.refl.z R1
          obtain ⟨ws, q2, _⟩ := bh rho1 h1 H1 Ext.refl.z R1
          refine ⟨a, b, us, ws, rfl, ?_⟩
          cases l with
          | true => exact .inl ⟨by simpa using q1, by simpa using q2, PostG.ok po R1 _ (serves_zipL ah bh)⟩
          | false => exact .inr ⟨by simpa using q1, by simpa using q2, PostG.ok po R1 _ (serves_zipT ah bh)⟩
        · simp only [hlm, if_false] at po; exact po.elim
end
end Mini
namespace Mini
open PySem PySem.Spec PyProof.Rows L2 HT
theorem places_rev (n : Nat) : Builtin.Slice.slicePlaces ((n : Int) - 1) (-1) (-1) = n := by
  unfold Builtin.Slice.slicePlaces
  rw [if_neg (by decide)]
  by_cases hn : n = 0
  · subst hn; decide
  · rw [if_pos (by omega)]
    have : ((n : Int) - 1 - -1 - 1) / (- -1) + 1 = n := by
      rw [show (- -1 : Int) = 1 from rfl, Int.ediv_one]; omega
    rw [this]; simp
theorem filterMap_some {α β : Type} {f : α → Option β} {g : α → β} : ∀ {l : List α}, (∀ m ∈ l, f m = some (g m)) → l.filterMap f = l.map g
  | [], _ => rfl
  | m :: l, h => by rw [List.filterMap_cons, h m (by simp), List.map_cons, filterMap_some fun k hk => h k (by simp [hk])]
theorem pick_rev (xs : Array Value) : ((List.range xs.size).filterMap fun (m : Nat) => xs[(((xs.size : Int) - 1) + (m : Int) * (-1)).toNat]?).toArray = xs.toList.reverse.toArray := by
  congr 1
  have key : (List.range xs.size).filterMap (fun (m : Nat) => xs[(((xs.size : Int) - 1) + (m : Int) * (-1)).toNat]?) = (List.range xs.size).map fun m => xs.toList.reverse.getD m default := by
    apply filterMap_some
    intro m hm
    have hm := List.mem_range.mp hm
    have e : (((xs.size : Int) - 1) + (m : Int) * (-1)).toNat = xs.size - 1 - m := by omega
    rw [e]
    have hl : xs.size - 1 - m < xs.size := by omega
    simp [List.getD_eq_getElem?_getD, List.getElem?_reverse, hm, hl]
  rw [key]
  apply List.ext_getElem?
  intro i
  by_cases hi : i < xs.size
  · rw [List.getElem?_map, List.getElem?_range hi]
    have : xs.size - 1 - i < xs.size := by omega
    simp [List.getD_eq_getElem?_getD, List.getElem?_reverse, hi, this]
  · rw [List.getElem?_eq_none (by simpa using hi), List.getElem?_eq_none (by simpa using hi)]
section
variable {prog : Program} {w : World} {A : Around} {E : Value → Shared → Prop} {s : Shared}
theorem sliceApplied_rev {sl : Addr} {vl vu vk : Value} {n : Nat} {Q : Int × Int × Nat → Shared → Prop} (hs : s.heap.IsSliceOf sl vl vu vk) (pl : IsPart vl none) (pu : IsPart vu none) (pk : IsPart vk (some (-1)))
    (h : Q ((n : Int) - 1, -1, n) s) : wpAny (model prog w) A (Builtin.Slice.sliceApplied (.ref sl) (pure (n : Int))) Q E s := by
  obtain ⟨os, hos, hcs, hds⟩ := id hs
  unfold Builtin.Slice.sliceApplied Builtin.Slice.sliceFields
  refine wpAny_bind (wpAny_bind (wpAny_field hos hds (x := vl) rfl (wpAny_bind (wpAny_field hos hds (x := vu) rfl (wpAny_bind (wpAny_field hos hds (x := vk) rfl (wpAny_pure ?_)))))))
  refine wpAny_bind (slicePart_ pk ?_)
  show wpAny _ _ (if ((-1 : Int) == 0) = true then _ else _) _ _ s
  rw [if_neg (by decide)]
  refine wpAny_bind (slicePart_ pl (wpAny_bind (slicePart_ pu (wpAny_bind (wpAny_pure ?_)))))
  show wpAny _ _ (pure ((n : Int) - 1, (-1 : Int), Builtin.Slice.slicePlaces ((n : Int) - 1) (-1) (-1))) _ _ s
  rw [places_rev]
  exact wpAny_pure h
theorem getItem_tuple_rev {t sl : Addr} {items : Array Value} {vl vu vk : Value} {Q : Value → Shared → Prop} (ht : IsTup s.heap t items) (hs : s.heap.IsSliceOf sl vl vu vk) (pl : IsPart vl none) (pu : IsPart vu none) (pk : IsPart vk (some (-1)))
    (h : Q (.ref s.heap.objs.size) { s with heap := s.heap.push { cls := .type "tuple", data := .seq items.toList.reverse.toArray } })
    (hsz : items.size ≤ sizeLine) : wpAny (model prog w) A (getItem (.ref t) (.ref sl)) Q E s := by
  have htake : sizeOk (.seq items.toList.reverse.toArray) := by
    show items.toList.reverse.toArray.size ≤ sizeLine
    rw [List.size_toArray, List.length_reverse, Array.length_toList]
    exact hsz
  obtain ⟨os, hos, hcs, hds⟩ := id hs
  have hTs : s.TypeIs (.ref sl) "slice" := ⟨os, hos, hcs⟩
  unfold getItem
  try with_reducible refine wpAny_holding ?_
  first | refine wpAny_bind (wpAny_pure ?_) | skip
  refine wpAny_bind (wpAny_sequenceKey ht.typeIs (by decide) ?_)
  refine wpAny_bind (wpAny_callSpecial?_slot (name := Str.ofString "__getitem__") ht.typeIs PyProof.Rows.slot_tuple_getitem
    (wpAny_call_entry PyProof.Rows.slot_tuple_getitem ht.typeIs entry_tuple_getitem ?_ (args_tuple_getitem _ _)))
  show wpAny _ _ (Builtin.Tuple.tupleItemsOf (.ref t) >>= _) _ _ s
  refine wpAny_bind (tupleItemsOf_ ht ?_)
  refine wpAny_bind (wpAny_typeOf hTs ?_)
  rw [if_pos (by decide)]
  refine wpAny_bind (sliceApplied_rev hs pl pu pk ?_)
  have hno : ¬ ((((items.size : Int) - 1) == 0 && (-1 : Int) == 1 && items.size == items.size) = true) := by
    intro q
    rw [Bool.and_eq_true, Bool.and_eq_true] at q
    exact absurd q.1.2 (by decide)
  show wpAny _ _ (if (((items.size : Int) - 1) == 0 && (-1 : Int) == 1 && items.size == items.size) = true then _ else _) _ _ s
  rw [if_neg hno, pick_rev]
  first
    | exact wpAny_bind (m := Builtin.Tuple.tupleExact _) (wpAny_newObj_type (wpAny_pure ⟨_, rfl, wpAny_pure h⟩) htake)
    | exact wpAny_bind (m := Builtin.Tuple.tupleExact _) (wpAny_newObj_type (wpAny_bind (wpAny_pure (wpAny_pure ⟨_, rfl, wpAny_pure h⟩))) htake)
    | exact wpAny_bind (wpAny_bind (m := Builtin.Tuple.tupleExact _) (wpAny_newObj_type (wpAny_pure (wpAny_pure ⟨_, rfl, wpAny_pure h⟩)) htake))
    | exact wpAny_bind (wpAny_bind (m := Builtin.Tuple.tupleExact _) (wpAny_newObj_type (wpAny_pure ⟨_, rfl, wpAny_pure h⟩) htake))
end
def tRevT (K : PySem.W.Frag) (te : TE) : TE := fun σ H Q => te σ H fun x H1 => ∃ a xs, x = .ref a ∧ SqT K H1 a xs ∧ ∀ p, H1 p = none → Q (.ref p) (upd H1 p (.tup xs.reverse))
theorem pe_revT {X : Cx} {e : Expr} {te : TE} {k : Nat} {p1 p2 p3 pos : Pos} (he : PE X e te) : PE X (.Subscript e (.Slice none none (some (.UnaryOp .USub (.Constant (.int 1) k p1) p2)) p3) pos) (tRevT X.K te) := by
  refine ⟨fun pins s σ H Q I h => ?_⟩
  refine Subscript_ (thn (he.run pins s σ H _ I h) fun v s1 ⟨x, H1, I1, r1, q1⟩ => ?_)
  obtain ⟨a, xs, ex, hx, q⟩ := q1
  subst ex
  cases r1
  have hst : PO X (some (.UnaryOp .USub (.Constant (.int 1) k p1) p2)) (tPart (tUn (rU fun i => .int (-i)) (tC (.int 1)))) := po_some (pe_un un_neg pe_int)
  refine wpAny_Slice (thn (po_none.run pins s1 σ H1 (fun o H2 => o = none ∧ H2 = H1) I1 ⟨rfl, rfl⟩) fun vl s2 ⟨l, H2, I2, pl, el, e2⟩ => ?_)
  subst el e2
  refine thn (po_none.run pins s2 σ H2 (fun o H3 => o = none ∧ H3 = H2) I2 ⟨rfl, rfl⟩) fun vu s3 ⟨u, H3, I3, pu, eu, e3⟩ => ?_
  subst eu e3
  refine thn (hst.run pins s3 σ H3 (fun o H4 => o = some (-1) ∧ H4 = H3) I3 ⟨1, rfl, -1, rfl, rfl, rfl⟩) fun vs s4 ⟨o, H4, I4, ps, eo, e4⟩ => ?_
  subst eo e4
  have I5 : Inv X pins σ H4 { s4 with heap := s4.heap.push { cls := .type "slice", data := .fields #[vl, vu, vs] } } := I4.kept (t' := s4.toks) fun b ob q => Heap.get?_push_of_some _ q
  obtain ⟨its, r, ht, hz⟩ := I5.tuple hx
  have hlen := r.length
  show wpAny (model X.prog X.w) X.A (subscriptTail e (.Slice none none (some (.UnaryOp .USub (.Constant (.int 1) k p1) p2)) p3) (.ref a) (.ref s4.heap.objs.size)) (EP X pins σ Q) X.xe { s4 with heap := s4.heap.push { cls := .type "slice", data := .fields #[vl, vu, vs] } }
  refine tail_any (ops := [.ref a, .ref s4.heap.objs.size]) ht.typeIs (PyProof.Rows.slot_tuple_getitem.lookup) ?_ (by with_unfolding_all rfl)
  refine getItem_tuple_rev ht (Heap.IsSliceOf.new _ vl vu vs) pl pu ps ?_ (by rw [List.size_toArray]; omega)
  refine ⟨.ref _, _, I5.laid (t' := s4.toks) (o := .tup xs.reverse) (fun b ob q => Heap.get?_push_of_some _ q) (Nat.le_refl _) ?_, rfl, q _ (I5.hok.fresh (Nat.le_refl _))⟩
  exact ⟨by rw [List.length_reverse]; exact hz, _, r.reverse, ⟨_, Heap.get?_push_size _ rfl, rfl, _, rfl⟩⟩
end Mini
namespace Mini
open PySem PySem.Spec PyProof.Rows L2

/-! ### helpers -/
section
variable {K : PySem.W.Frag} {rho : Rh} {h : Hd} {H : Hp}
/-- a list that may be joined or repeated: by value or a cell -/
def lstOf (d : D) (h : Hd) : Option (List D) := match d with
  | .lv xs => some xs
  | .ref n => match h[n]? with
    | some (.lst xs) => some xs
    | _ => none
  | _ => none
theorem lstOf_ok (R : Rel K rho h H) {d : D} {v : V} {xs : List D} (r : RelV' K rho h H d v) (e : lstOf d h = some xs) : ∃ a us, v = .ref a ∧ H a = some (.lst us) ∧ RelVs' K rho h H xs us := by
  cases d with
  | lv ys =>
    simp only [lstOf, Option.some.injEq] at e
    subst e
    simp only [RelV', RelD] at r
    obtain ⟨a, us, e1, e2, e3⟩ := r
    exact ⟨a, us, e1, e2.1, e3⟩
  | ref n =>
    simp only [lstOf] at e
    cases q : h[n]? with
    | none => rw [q] at e; cases e
    | some o =>
      cases o with
      | dead => rw [q] at e; cases e
      | lst ys =>
        rw [q] at e
        cases e
        obtain ⟨us, a, b⟩ := R.cellL q
        simp only [RelV', RelD] at r
        exact ⟨_, us, r.2, a, b⟩
  | _ => simp [lstOf] at e
/-- a cell is written -/
theorem setCell (R : Rel K rho h H) {n : Nat} {xs ys : List D} {us ws : List V} (e : h[n]? = some (.lst xs)) (a : H (rho n) = some (.lst us)) (r : RelDs K rho h n H ys ws) :
    Ext K rho h H rho (h.set n (.lst ys)) (L2.upd H (rho n) (.lst ws)) ∧ Rel K rho (h.set n (.lst ys)) (L2.upd H (rho n) (.lst ws)) := by
  have hn : n < h.length := (List.getElem?_eq_some_iff.mp e).1
  have ln : live h n = true := by unfold live; rw [e]
  have lv : ∀ m, live (h.set n (.lst ys)) m = true → live h m = true := fun m hm => by
    by_cases q : n = m
    · subst q; exact ln
    · unfold live at hm ⊢
      rw [List.getElem?_set_ne q] at hm
      exact hm
  have x : Ext K rho h H rho (h.set n (.lst ys)) (L2.upd H (rho n) (.lst ws)) :=
    { le := by simp
      ag := fun _ _ => rfl
      lv := fun m _ hm => lv m hm
      fr := fun m hm q => absurd (live_lt q) (by simpa using hm)
      kp := fun b o q k => by rw [upd_ne (fun z => k n ln z.symm)]; exact q
      tp := fun b vs q => by rw [upd_ne (ne_of q a (by intro z; cases z))]; exact q
      fz := fun b o u q => by rw [upd_ne (ne_of q a (by intro z; cases z))]; exact q
      dm := fun b q => by
        by_cases z : b = rho n
        · rw [z, upd_same] at q; cases q
        · rw [upd_ne z] at q; exact q
      zi := fun _ q => q
      zo := fun _ q => .inl q }
  refine ⟨x, fun m k hm hk q => R.inj m k (lv m hm) (lv k hk) q, fun m o q => ?_, fun b z => ?_, fun m hm => R.zc m (lv m hm)⟩
  · by_cases z : n = m
    · subst z
      rw [List.getElem?_set_self hn] at q
      cases q
      exact ⟨ws, upd_same, RelDs.mono x (Nat.le_refl _) (Nat.le_of_lt hn) _ _ r⟩
    · rw [List.getElem?_set_ne z] at q
      have c := R.cell m o q
      cases o with
      | dead => trivial
      | lst zs =>
        obtain ⟨vs, b1, b2⟩ := c
        have lm : live h m = true := by unfold live; rw [q]
        have ne : rho m ≠ rho n := fun w => z (R.inj n m ln lm w.symm)
        exact ⟨vs, by rw [upd_ne ne]; exact b1, RelDs.mono x (Nat.le_refl _) (Nat.le_of_lt (List.getElem?_eq_some_iff.mp q).1) _ _ b2⟩
  · by_cases q : b = rho n
    · rw [q, upd_same]; simp
    · rw [upd_ne q]; exact R.zd b z
end

/-! ### ints, texts, lists: + - * // % ** -/
def addP (m : Bool) : P2 := fun x y h => match x, y with
  | .int i, .int j => some (.int (i + j), h)
  | .str i, .str j => if i.length + j.length ≤ sizeLine then some (.str (i ++ j), h) else none
  | .tup xs, .tup ys => if xs.length + ys.length ≤ sizeLine then some (.tup (xs ++ ys), h) else none
  | x, y => match lstOf x h, lstOf y h with
    | some xs, some ys => if xs.length + ys.length ≤ sizeLine then mkL m (xs ++ ys) h else none
    | _, _ => none
def subP : P2 := fun x y h => match x, y with
  | .int i, .int j => some (.int (i - j), h)
  | _, _ => none
def in64 (i : Int) : Bool := decide (-(2 ^ 64) < i) && decide (i < 2 ^ 64)
def in63 (i : Int) : Bool := decide (-(2 ^ 63) ≤ i) && decide (i < 2 ^ 63)
def mulP (m : Bool) : P2 := fun x y h => match x, y with
  | .int i, .int j => if in64 i || in64 j then some (.int (i * j), h) else none
  | x, .int k => match lstOf x h with
    | some xs => if in63 k && decide (xs.length * k.toNat ≤ sizeLine) then mkL m (List.replicate k.toNat xs).flatten h else none
    | none => none
  | _, _ => none
def fdivP : P2 := fun x y h => match x, y with
  | .int i, .int j => if 0 < j ∧ j.natAbs.log2 < 9000 then some (.int (i / j), h) else none
  | _, _ => none
def modP : P2 := fun x y h => match x, y with
  | .int i, .int j => if 0 < j then some (.int (i % j), h) else none
  | _, _ => none
def powP : P2 := fun x y h => match x, y with
  | .int i, .int j => if 0 ≤ j ∧ j ≤ 1000000 ∧ i.natAbs < 2 ^ 64 then some (.int (i ^ j.toNat), h) else none
  | _, _ => none
def negP : P1 := fun x h => match x with
  | .int i => some (.int (-i), h)
  | _ => none
section
variable {X : Cx}
theorem p_add (m : Bool) : OpR X (binaryOp .Add) (rO X.K (addP m)) := by
  refine OpR.imp' (op_add.or (op_add_str.or (op_catA.or op_cat))) fun x y H Q q => ?_
  obtain ⟨rho, h, dx, dy, R, rx, ry, po⟩ := q
  have lists : ∀ xs ys, lstOf dx h = some xs → lstOf dy h = some ys → PostP X.K rho h H (if xs.length + ys.length ≤ sizeLine then mkL m (xs ++ ys) h else none) Q → rCat x y H Q := fun xs ys ex ey po => by
    obtain ⟨a, us, e1, e2, e3⟩ := lstOf_ok R rx ex
    obtain ⟨b, ws, f1, f2, f3⟩ := lstOf_ok R ry ey
    by_cases hl : xs.length + ys.length ≤ sizeLine
    · simp only [hl, if_true] at po
      exact ⟨a, b, us, ws, e1, f1, e2, f2, by rw [← RelDs.length e3, ← RelDs.length f3]; exact hl, fun p np => post_mkL R (RelDs.append e3 f3) po np⟩
    · simp only [hl, if_false] at po; exact po.elim
  unfold addP at po
  split at po
  · exact .inl ⟨_, _, rx.int, ry.int, PostP.here po R (relInt _)⟩
  · split at po
    · rename_i hl
      exact .inr (.inl ⟨_, _, rx.str, ry.str, hl, PostP.here po R (relStr _)⟩)
    · exact po.elim
  · rename_i xs ys
    split at po
    · rename_i hl
      obtain ⟨a, us, e1, e2, e3⟩ := rx.tup
      obtain ⟨b, ws, f1, f2, f3⟩ := ry.tup
      subst e1 f1
      refine .inr (.inr (.inl ⟨a, b, us, ws, rfl, rfl, e2, f2, by rw [← RelDs.length e3, ← RelDs.length f3]; exact hl, fun z => ?_, fun z1 z2 => ?_, fun z1 z2 p np => post_tup R (RelDs.append e3 f3) po np⟩))
      · have : xs = [] := (RelDs.nil_iff e3).mpr z
        subst this
        exact PostP.here po R (by simpa using ry)
      · have : ys = [] := (RelDs.nil_iff f3).mpr z2
        subst this
        exact PostP.here po R (by simpa using rx)
    · exact po.elim
  · cases ex : lstOf dx h with
    | none => rw [ex] at po; exact po.elim
    | some xs =>
      cases ey : lstOf dy h with
      | none => rw [ex, ey] at po; exact po.elim
      | some ys => rw [ex, ey] at po; exact .inr (.inr (.inr (lists xs ys ex ey po)))
theorem int2 {K : PySem.W.Frag} {rho : Rh} {h : Hd} {H : Hp} {r : R2} {g : P2} {x y : V} {Q : VK} (q : rO K g x y H Q) (hg : ∀ dx dy h r, g dx dy h = some r → ∃ i j, dx = .int i ∧ dy = .int j)
    (k : ∀ i j rho h, Rel K rho h H → PostP K rho h H (g (.int i) (.int j) h) Q → r (.int i) (.int j) H Q) : r x y H Q := by
  obtain ⟨rho, h, dx, dy, R, rx, ry, po⟩ := q
  cases qg : g dx dy h with
  | none => rw [qg] at po; exact po.elim
  | some w =>
    obtain ⟨i, j, e1, e2⟩ := hg dx dy h w qg
    subst e1 e2
    rw [rx.int, ry.int]
    exact k i j rho h R po
theorem p_sub : OpR X (binaryOp .Sub) (rO X.K subP) := OpR.imp' op_sub fun x y H Q q => by
  obtain ⟨rho, h, dx, dy, R, rx, ry, po⟩ := q
  unfold subP at po
  split at po
  · exact ⟨_, _, rx.int, ry.int, PostP.here po R (relInt _)⟩
  · exact po.elim
theorem p_isub : OpR X (inplaceOp .Sub) (rO X.K subP) := OpR.imp' iop_sub fun x y H Q q => by
  obtain ⟨rho, h, dx, dy, R, rx, ry, po⟩ := q
  unfold subP at po
  split at po
  · exact ⟨_, _, rx.int, ry.int, PostP.here po R (relInt _)⟩
  · exact po.elim
def iaddP : P2 := fun x y h => match x, y with
  | .int i, .int j => some (.int (i + j), h)
  | _, _ => none
theorem p_iadd : OpR X (inplaceOp .Add) (rO X.K iaddP) := OpR.imp' iop_add fun x y H Q q => by
  obtain ⟨rho, h, dx, dy, R, rx, ry, po⟩ := q
  unfold iaddP at po
  split at po
  · exact ⟨_, _, rx.int, ry.int, PostP.here po R (relInt _)⟩
  · exact po.elim
theorem in64_ok {i j : Int} (e : (in64 i || in64 j) = true) : CMul i j := by
  rw [Bool.or_eq_true] at e
  rcases e with e | e <;> (unfold in64 at e; rw [Bool.and_eq_true] at e)
  · exact .inl ⟨of_decide_eq_true e.1, of_decide_eq_true e.2⟩
  · exact .inr ⟨of_decide_eq_true e.1, of_decide_eq_true e.2⟩
theorem p_mul (m : Bool) : OpR X (binaryOp .Mult) (rO X.K (mulP m)) := by
  refine OpR.imp' (op_mul.or op_rep) fun x y H Q q => ?_
  obtain ⟨rho, h, dx, dy, R, rx, ry, po⟩ := q
  unfold mulP at po
  split at po
  · split at po
    · rename_i hl
      exact .inl ⟨_, _, rx.int, ry.int, in64_ok hl, PostP.here po R (relInt _)⟩
    · exact po.elim
  · rename_i k hne
    cases ex : lstOf dx h with
    | none => rw [ex] at po; exact po.elim
    | some xs =>
      rw [ex] at po
      simp only at po
      by_cases hl : (in63 k && decide (xs.length * k.toNat ≤ sizeLine)) = true
      · simp only [hl, if_true] at po
        rw [Bool.and_eq_true] at hl
        obtain ⟨h1, h2⟩ := hl
        unfold in63 at h1
        rw [Bool.and_eq_true] at h1
        obtain ⟨a, us, e1, e2, e3⟩ := lstOf_ok R rx ex
        refine .inr ⟨a, k, us, e1, ry.int, e2, of_decide_eq_true h1.1, of_decide_eq_true h1.2, by rw [← RelDs.length e3]; exact of_decide_eq_true h2, fun p np => post_mkL R ?_ po np⟩
        generalize k.toNat = n
        induction n with
        | zero => simp only [List.replicate_zero, List.flatten_nil, RelVs', RelDs]
        | succ n ih => simp only [List.replicate_succ, List.flatten_cons]; exact RelDs.append e3 ih
      · simp only [hl] at po; exact po.elim
  · exact po.elim
def imulP : P2 := fun x y h => match x, y with
  | .int i, .int j => if in64 i || in64 j then some (.int (i * j), h) else none
  | _, _ => none
theorem p_imul : OpR X (inplaceOp .Mult) (rO X.K imulP) := OpR.imp' iop_mul fun x y H Q q => by
  obtain ⟨rho, h, dx, dy, R, rx, ry, po⟩ := q
  unfold imulP at po
  split at po
  · split at po
    · rename_i hl
      exact ⟨_, _, rx.int, ry.int, in64_ok hl, PostP.here po R (relInt _)⟩
    · exact po.elim
  · exact po.elim
theorem p_fdiv : OpR X (binaryOp .FloorDiv) (rO X.K fdivP) := OpR.imp' op_fdivW fun x y H Q q => by
  obtain ⟨rho, h, dx, dy, R, rx, ry, po⟩ := q
  unfold fdivP at po
  split at po
  · split at po
    · rename_i hl
      exact ⟨_, _, rx.int, ry.int, hl, PostP.here po R (relInt _)⟩
    · exact po.elim
  · exact po.elim
theorem p_mod : OpR X (binaryOp .Mod) (rO X.K modP) := OpR.imp' op_mod fun x y H Q q => by
  obtain ⟨rho, h, dx, dy, R, rx, ry, po⟩ := q
  unfold modP at po
  split at po
  · split at po
    · rename_i hl
      exact ⟨_, _, rx.int, ry.int, hl, PostP.here po R (relInt _)⟩
    · exact po.elim
  · exact po.elim
theorem p_pow : OpR X (binaryOp .Pow) (rO X.K powP) := OpR.imp' op_pow fun x y H Q q => by
  obtain ⟨rho, h, dx, dy, R, rx, ry, po⟩ := q
  unfold powP at po
  split at po
  · split at po
    · rename_i hl
      exact ⟨_, _, rx.int, ry.int, hl, PostP.here po R (relInt _)⟩
    · exact po.elim
  · exact po.elim
theorem p_neg : UnR X (unaryOp .USub) (rU' X.K negP) := fun pins s σ H x v Q I rx q => un_neg pins s σ H x v Q I rx (by
  obtain ⟨rho, h, dx, R, r, po⟩ := q
  unfold negP at po
  split at po
  · exact ⟨_, r.int, PostP.here po R (relInt _)⟩
  · exact po.elim)

/-! ### comparisons of ints -/
def cmpP (p : Int → Int → Bool) : P2 := fun x y h => match x, y with
  | .int i, .int j => some (.bl (p i j), h)
  | _, _ => none
def ltP : P2 := cmpP fun i j => decide (i < j)
def leP : P2 := cmpP fun i j => decide (i ≤ j)
def gtP : P2 := cmpP fun i j => decide (j < i)
def geP : P2 := cmpP fun i j => decide (j ≤ i)
theorem cmp_ok {K : PySem.W.Frag} {p : Int → Int → Bool} {x y : V} {H : Hp} {Q : VK} (q : rO K (cmpP p) x y H Q) : rI0 (fun i j => .bl (p i j)) x y H Q := by
  obtain ⟨rho, h, dx, dy, R, rx, ry, po⟩ := q
  unfold cmpP at po
  split at po
  · exact ⟨_, _, rx.int, ry.int, PostP.here po R (relBl _)⟩
  · exact po.elim
theorem p_lt : OpR X (compareOp .Lt) (rO X.K ltP) := OpR.imp' op_lt fun _ _ _ _ q => cmp_ok q
theorem p_le : OpR X (compareOp .LtE) (rO X.K leP) := OpR.imp' op_le fun _ _ _ _ q => cmp_ok q
theorem p_gt : OpR X (compareOp .Gt) (rO X.K gtP) := OpR.imp' op_gt fun _ _ _ _ q => cmp_ok q
theorem p_ge : OpR X (compareOp .GtE) (rO X.K geP) := OpR.imp' op_ge fun _ _ _ _ q => cmp_ok q
def isNP : P2 := fun x y h => match y with
  | .non => (match x with
    | .non => some (.bl true, h)
    | _ => some (.bl false, h))
  | _ => none
def notNP : P2 := fun x y h => match y with
  | .non => (match x with
    | .non => some (.bl false, h)
    | _ => some (.bl true, h))
  | _ => none
theorem RelV'.isNon {K : PySem.W.Frag} {rho : Rh} {h : Hd} {H : Hp} {d : D} {v : V} (r : RelV' K rho h H d v) : v = .non ↔ d = .non := by
  cases d with
  | non => rw [r.non]; simp
  | bl b => rw [r.bl]; simp
  | int b => rw [r.int]; simp
  | str b => rw [r.str]; simp
  | tup xs => obtain ⟨a, us, e, _⟩ := r.tup; rw [e]; simp
  | lv xs => simp only [RelV', RelD] at r; obtain ⟨a, us, e, _⟩ := r; rw [e]; simp
  | fl xs => simp only [RelV', RelD] at r; obtain ⟨a, us, e, _⟩ := r; rw [e]; simp
  | ref n => simp only [RelV', RelD] at r; rw [r.2]; simp
theorem p_isN : OpR X (compareOp .Is) (rO X.K isNP) := OpR.imp' op_isN fun x y H Q q => by
  obtain ⟨rho, h, dx, dy, R, rx, ry, po⟩ := q
  unfold isNP at po
  split at po
  · refine ⟨ry.non, ?_⟩
    split at po
    · rw [rx.non]; exact PostP.here po R (relBl _)
    · rename_i hn
      rw [decide_eq_false (fun z => hn (rx.isNon.mp z))]; exact PostP.here po R (relBl _)
  · exact po.elim
theorem p_notN : OpR X (compareOp .IsNot) (rO X.K notNP) := OpR.imp' op_notN fun x y H Q q => by
  obtain ⟨rho, h, dx, dy, R, rx, ry, po⟩ := q
  unfold notNP at po
  split at po
  · refine ⟨ry.non, ?_⟩
    split at po
    · rw [rx.non]; exact PostP.here po R (relBl _)
    · rename_i hn
      rw [decide_eq_false (fun z => hn (rx.isNon.mp z))]; exact PostP.here po R (relBl _)
  · exact po.elim
end

/-! ### == of data -/
mutual
def pyD : D → Option PyData
  | .non => some .none
  | .bl b => some (.bool b)
  | .int i => some (.int i)
  | .str x => some (.str x)
  | .tup xs => match pyDs xs with
    | some ds => some (.tuple ds)
    | none => none
  | .lv xs => match pyDs xs with
    | some ds => some (.list ds)
    | none => none
  | .fl xs => match pyDs xs with
    | some ds => some (.list ds)
    | none => none
  | .ref _ => none
def pyDs : List D → Option (List PyData)
  | [] => some []
  | d :: ds => match pyD d, pyDs ds with
    | some p, some ps => some (p :: ps)
    | _, _ => none
end
section
variable {K : PySem.W.Frag} {rho : Rh} {h : Hd} {H : Hp}
mutual
theorem pyD_ok : ∀ (d : D) (v : V) (B : Nat) (p : PyData), RelD K rho h B H d v → pyD d = some p → Dp K H v p
  | .non, v, B, p, r, e => by simp only [RelD] at r; simp only [pyD, Option.some.injEq] at e; subst r e; exact .non
  | .bl b, v, B, p, r, e => by simp only [RelD] at r; simp only [pyD, Option.some.injEq] at e; subst r e; exact .bl b
  | .int b, v, B, p, r, e => by simp only [RelD] at r; simp only [pyD, Option.some.injEq] at e; subst r e; exact .int b
  | .str b, v, B, p, r, e => by simp only [RelD] at r; simp only [pyD, Option.some.injEq] at e; subst r e; exact .str b
  | .tup xs, v, B, p, r, e => by
    simp only [RelD] at r
    obtain ⟨a, us, e1, e2, e3⟩ := r
    simp only [pyD] at e
    cases q : pyDs xs with
    | none => rw [q] at e; cases e
    | some ds => rw [q] at e; cases e; subst e1; exact .tup e2 (pyDs_ok xs us B ds e3 q)
  | .lv xs, v, B, p, r, e => by
    simp only [RelD] at r
    obtain ⟨a, us, e1, e2, e3⟩ := r
    simp only [pyD] at e
    cases q : pyDs xs with
    | none => rw [q] at e; cases e
    | some ds => rw [q] at e; cases e; subst e1; exact .lst (.inl (.inl e2.1)) (pyDs_ok xs us B ds e3 q)
  | .fl xs, v, B, p, r, e => by
    simp only [RelD] at r
    obtain ⟨a, us, e1, e2, e3⟩ := r
    simp only [pyD] at e
    cases q : pyDs xs with
    | none => rw [q] at e; cases e
    | some ds =>
      rw [q] at e; cases e; subst e1
      refine .lst ?_ (pyDs_ok xs us B ds e3 q)
      rcases e2 with e2 | e2
      · exact .inl (.inr e2)
      · exact .inr e2
  | .ref n, v, B, p, r, e => by simp [pyD] at e
theorem pyDs_ok : ∀ (ds : List D) (vs : List V) (B : Nat) (ps : List PyData), RelDs K rho h B H ds vs → pyDs ds = some ps → DpAll K H vs ps
  | [], vs, B, ps, r, e => by simp only [RelDs] at r; simp only [pyDs, Option.some.injEq] at e; subst r e; exact .nil
  | d :: ds, vs, B, ps, r, e => by
    simp only [RelDs] at r
    obtain ⟨v, rr, e1, e2, e3⟩ := r
    simp only [pyDs] at e
    cases q1 : pyD d with
    | none => rw [q1] at e; simp at e
    | some p =>
      cases q2 : pyDs ds with
      | none => rw [q1, q2] at e; simp at e
      | some ps' => rw [q1, q2] at e; cases e; subst e1; exact .cons (pyD_ok d v B p e2 q1) (pyDs_ok ds rr B ps' e3 q2)
end
/-- data as it stands: a cell is read -/
def pyR (d : D) (h : Hd) : Option PyData := match d with
  | .ref n => match h[n]? with
    | some (.lst xs) => (pyDs xs).map .list
    | _ => none
  | d => pyD d
theorem pyR_ok (R : Rel K rho h H) {d : D} {v : V} {p : PyData} (r : RelV' K rho h H d v) (e : pyR d h = some p) : Dp K H v p := by
  have other : pyD d = some p → Dp K H v p := fun q => pyD_ok d v _ p r q
  cases d with
  | ref n =>
    simp only [pyR] at e
    cases q : h[n]? with
    | none => rw [q] at e; cases e
    | some o =>
      cases o with
      | dead => rw [q] at e; cases e
      | lst xs =>
        rw [q] at e
        simp only at e
        cases q2 : pyDs xs with
        | none => rw [q2] at e; cases e
        | some ds =>
          rw [q2] at e
          cases e
          obtain ⟨us, a, b⟩ := R.cellL q
          simp only [RelV', RelD] at r
          rw [r.2]
          exact .lst (.inl (.inl a)) (pyDs_ok xs us _ ds b q2)
  | _ => exact other e
end
def eqP (neg : Bool) : P2 := fun x y h => match pyR x h, pyR y h with
  | some a, some b => if SeqAt.shaped a && SeqAt.shaped b then some (.bl (if neg then !PyData.eqv a b else PyData.eqv a b), h) else none
  | _, _ => none
section
variable {X : Cx}
theorem p_eq (hu : X.A.units + 64 < cLine) : OpR X (compareOp .Eq) (rO X.K (eqP false)) := OpR.imp' (op_eqD hu) fun x y H Q q => by
  obtain ⟨rho, h, dx, dy, R, rx, ry, po⟩ := q
  unfold eqP at po
  split at po
  · rename_i a b qa qb
    by_cases hs : (SeqAt.shaped a && SeqAt.shaped b) = true
    · simp only [hs, if_true] at po
      rw [Bool.and_eq_true] at hs
      exact ⟨a, b, pyR_ok R rx qa, pyR_ok R ry qb, hs.1, hs.2, PostP.here po R (relBl _)⟩
    · simp only [hs] at po; exact po.elim
  · exact po.elim
theorem p_ne (hu : X.A.units + 64 < cLine) : OpR X (compareOp .NotEq) (rO X.K (eqP true)) := OpR.imp' (op_neD hu) fun x y H Q q => by
  obtain ⟨rho, h, dx, dy, R, rx, ry, po⟩ := q
  unfold eqP at po
  split at po
  · rename_i a b qa qb
    by_cases hs : (SeqAt.shaped a && SeqAt.shaped b) = true
    · simp only [hs, if_true] at po
      rw [Bool.and_eq_true] at hs
      exact ⟨a, b, pyR_ok R rx qa, pyR_ok R ry qb, hs.1, hs.2, PostP.here po R (relBl _)⟩
    · simp only [hs] at po; exact po.elim
  · exact po.elim
end

/-! ### calls -/
def lenP : PL := fun ds h => match ds with
  | [.str z] => if z.length ≤ sizeLine then some (.int z.length, h) else none
  | [d] => match asS d h with
    | some xs => some (.int xs.length, h)
    | none => none
  | _ => none
def absP : PL := fun ds h => match ds with
  | [.int i] => some (.int (if i < 0 then -i else i), h)
  | _ => none
def intP : PL := fun ds h => match ds with
  | [.int i] => some (.int i, h)
  | [.bl k] => some (.int (if k then 1 else 0), h)
  | _ => none
def min2P : PL := fun ds h => match ds with
  | [.int i, .int j] => some (.int (if j < i then j else i), h)
  | _ => none
def max2P : PL := fun ds h => match ds with
  | [.int i, .int j] => some (.int (if j > i then j else i), h)
  | _ => none
def listP (m : Bool) : PL := fun ds h => match ds with
  | [d] => match asS d h with
    | some xs => mkL m xs h
    | none => none
  | _ => none
def tupleP : PL := fun ds h => match ds with
  | [.tup xs] => some (.tup xs, h)
  | [d] => match asL d h with
    | some xs => some (.tup xs, h)
    | none => none
  | _ => none
def intsOf : List D → Option (List Int)
  | [] => some []
  | .int i :: ds => (intsOf ds).map (i :: ·)
  | _ :: _ => none
def blsOf : List D → Option (List Bool)
  | [] => some []
  | .bl i :: ds => (blsOf ds).map (i :: ·)
  | _ :: _ => none
def sumP : PL := fun ds h => match ds with
  | [d] => match (asL d h).bind intsOf with
    | some ns => some (.int ns.sum, h)
    | none => none
  | _ => none
def allP : PL := fun ds h => match ds with
  | [d] => match (asL d h).bind blsOf with
    | some ns => some (.bl (ns.all id), h)
    | none => none
  | _ => none
def anyP : PL := fun ds h => match ds with
  | [d] => match (asL d h).bind blsOf with
    | some ns => some (.bl (ns.any id), h)
    | none => none
  | _ => none
section
variable {K : PySem.W.Frag} {rho : Rh} {h : Hd} {H : Hp}
theorem rel1 {d : D} {xs : List V} (r : RelVs' K rho h H [d] xs) : ∃ v, xs = [v] ∧ RelV' K rho h H d v := by
  simp only [RelVs', RelDs] at r
  obtain ⟨v, rr, e1, r1, e2⟩ := r
  subst e2
  exact ⟨v, e1, r1⟩
theorem rel2 {d e : D} {xs : List V} (r : RelVs' K rho h H [d, e] xs) : ∃ v w, xs = [v, w] ∧ RelV' K rho h H d v ∧ RelV' K rho h H e w := by
  simp only [RelVs', RelDs] at r
  obtain ⟨v, rr, e1, r1, w, rr2, e2, r2, e3⟩ := r
  subst e3 e2
  exact ⟨v, w, e1, r1, r2⟩
theorem intsOf_ok : ∀ {ds : List D} {us : List V} {ns : List Int} {B : Nat}, RelDs K rho h B H ds us → intsOf ds = some ns → us = ns.map V.int
  | [], us, ns, B, r, e => by simp only [RelDs] at r; simp only [intsOf, Option.some.injEq] at e; subst r e; rfl
  | .int i :: ds, us, ns, B, r, e => by
    simp only [RelDs, RelD] at r
    obtain ⟨v, rr, e1, e2, e3⟩ := r
    simp only [intsOf] at e
    cases q : intsOf ds with
    | none => rw [q] at e; cases e
    | some ms => rw [q] at e; cases e; rw [e1, e2, intsOf_ok e3 q]; rfl
  | .non :: ds, us, ns, B, r, e => by simp [intsOf] at e
  | .bl _ :: ds, us, ns, B, r, e => by simp [intsOf] at e
  | .str _ :: ds, us, ns, B, r, e => by simp [intsOf] at e
  | .tup _ :: ds, us, ns, B, r, e => by simp [intsOf] at e
  | .lv _ :: ds, us, ns, B, r, e => by simp [intsOf] at e
  | .fl _ :: ds, us, ns, B, r, e => by simp [intsOf] at e
  | .ref _ :: ds, us, ns, B, r, e => by simp [intsOf] at e
theorem blsOf_ok : ∀ {ds : List D} {us : List V} {ns : List Bool} {B : Nat}, RelDs K rho h B H ds us → blsOf ds = some ns → us = ns.map V.bl
  | [], us, ns, B, r, e => by simp only [RelDs] at r; simp only [blsOf, Option.some.injEq] at e; subst r e; rfl
  | .bl i :: ds, us, ns, B, r, e => by
    simp only [RelDs, RelD] at r
    obtain ⟨v, rr, e1, e2, e3⟩ := r
    simp only [blsOf] at e
    cases q : blsOf ds with
    | none => rw [q] at e; cases e
    | some ms => rw [q] at e; cases e; rw [e1, e2, blsOf_ok e3 q]; rfl
  | .non :: ds, us, ns, B, r, e => by simp [blsOf] at e
  | .int _ :: ds, us, ns, B, r, e => by simp [blsOf] at e
  | .str _ :: ds, us, ns, B, r, e => by simp [blsOf] at e
  | .tup _ :: ds, us, ns, B, r, e => by simp [blsOf] at e
  | .lv _ :: ds, us, ns, B, r, e => by simp [blsOf] at e
  | .fl _ :: ds, us, ns, B, r, e => by simp [blsOf] at e
  | .ref _ :: ds, us, ns, B, r, e => by simp [blsOf] at e
end
section
variable {X : Cx}
theorem c_len : CallR X (.builtin "len") (rC X.K lenP) := CallR.imp' (call_len_str.or call_len_seq) fun xs H Q q => by
  obtain ⟨rho, h, ds, R, r, po⟩ := q
  unfold lenP at po
  split at po
  · split at po
    · rename_i hl
      obtain ⟨v, e, r⟩ := rel1 r
      exact .inl ⟨_, by rw [e, r.str], hl, PostP.here po R (relInt _)⟩
    · exact po.elim
  · rename_i d hne
    cases qa : asS d h with
    | none => rw [qa] at po; exact po.elim
    | some ys =>
      rw [qa] at po
      obtain ⟨v, e, r⟩ := rel1 r
      obtain ⟨a, us, e1, e2, e3⟩ := asS_ok R r qa
      subst e1
      exact .inr ⟨a, us, e, e2, by rw [← RelDs.length e3]; exact PostP.here po R (relInt _)⟩
  · exact po.elim
theorem c_abs : CallR X (.builtin "abs") (rC X.K absP) := CallR.imp' call_abs fun xs H Q q => by
  obtain ⟨rho, h, ds, R, r, po⟩ := q
  unfold absP at po
  split at po
  · obtain ⟨v, e, r⟩ := rel1 r
    exact ⟨_, by rw [e, r.int], PostP.here po R (relInt _)⟩
  · exact po.elim
theorem c_int : CallR X (.type "int") (rC X.K intP) := CallR.imp' call_int1 fun xs H Q q => by
  obtain ⟨rho, h, ds, R, r, po⟩ := q
  unfold intP at po
  split at po
  · obtain ⟨v, e, r⟩ := rel1 r
    exact .inl ⟨_, by rw [e, r.int], PostP.here po R (relInt _)⟩
  · obtain ⟨v, e, r⟩ := rel1 r
    exact .inr ⟨_, by rw [e, r.bl], PostP.here po R (relInt _)⟩
  · exact po.elim
theorem c_min2 (hc : X.calm = true) : CallR X (.builtin "min") (rC X.K min2P) := CallR.imp' (call_min2 hc) fun xs H Q q => by
  obtain ⟨rho, h, ds, R, r, po⟩ := q
  unfold min2P at po
  split at po
  · obtain ⟨v, w, e, r1, r2⟩ := rel2 r
    exact ⟨_, _, by rw [e, r1.int, r2.int], PostP.here po R (relInt _)⟩
  · exact po.elim
theorem c_max2 (hc : X.calm = true) : CallR X (.builtin "max") (rC X.K max2P) := CallR.imp' (call_max2 hc) fun xs H Q q => by
  obtain ⟨rho, h, ds, R, r, po⟩ := q
  unfold max2P at po
  split at po
  · obtain ⟨v, w, e, r1, r2⟩ := rel2 r
    exact ⟨_, _, by rw [e, r1.int, r2.int], PostP.here po R (relInt _)⟩
  · exact po.elim
theorem c_list (m : Bool) : CallR X (.type "list") (rC X.K (listP m)) := CallR.imp' call_list_of fun xs H Q q => by
  obtain ⟨rho, h, ds, R, r, po⟩ := q
  unfold listP at po
  split at po
  · rename_i d
    cases qa : asS d h with
    | none => rw [qa] at po; exact po.elim
    | some ys =>
      rw [qa] at po
      obtain ⟨v, e, r⟩ := rel1 r
      obtain ⟨a, us, e1, e2, e3⟩ := asS_ok R r qa
      subst e1
      exact ⟨a, us, e, e2, fun l nl => post_mkL R e3 po nl⟩
  · exact po.elim
theorem c_tuple : CallR X (.type "tuple") (rC X.K tupleP) := CallR.imp' call_tuple_of fun xs H Q q => by
  obtain ⟨rho, h, ds, R, r, po⟩ := q
  unfold tupleP at po
  split at po
  · obtain ⟨v, e, r⟩ := rel1 r
    have r0 := r
    obtain ⟨a, us, e1, e2, e3⟩ := r.tup
    subst e1
    exact ⟨a, us, e, .inr ⟨e2, PostP.here po R r0⟩⟩
  · rename_i d hne
    cases qa : asL d h with
    | none => rw [qa] at po; exact po.elim
    | some ys =>
      rw [qa] at po
      obtain ⟨v, e, r⟩ := rel1 r
      obtain ⟨a, us, e1, e2, e3⟩ := asL_ok R r qa
      subst e1
      exact ⟨a, us, e, .inl ⟨e2, fun l nl => post_tup R e3 po nl⟩⟩
  · exact po.elim
theorem c_sum (hc : X.calm = true) : CallR X (.builtin "sum") (rC X.K sumP) := CallR.imp' (cr_sum hc) fun xs H Q q => by
  obtain ⟨rho, h, ds, R, r, po⟩ := q
  unfold sumP at po
  split at po
  · rename_i d
    cases qa : asL d h with
    | none => rw [qa] at po; exact po.elim
    | some ys =>
      rw [qa] at po
      simp only [Option.bind_some] at po
      cases qi : intsOf ys with
      | none => rw [qi] at po; exact po.elim
      | some ns =>
        rw [qi] at po
        obtain ⟨v, e, r⟩ := rel1 r
        obtain ⟨a, us, e1, e2, e3⟩ := asL_ok R r qa
        subst e1
        exact ⟨a, ns, e, by rw [← intsOf_ok e3 qi]; exact e2, PostP.here po R (relInt _)⟩
  · exact po.elim
theorem c_all (hc : X.calm = true) : CallR X (.builtin "all") (rC X.K allP) := CallR.imp' (cr_all hc) fun xs H Q q => by
  obtain ⟨rho, h, ds, R, r, po⟩ := q
  unfold allP at po
  split at po
  · rename_i d
    cases qa : asL d h with
    | none => rw [qa] at po; exact po.elim
    | some ys =>
      rw [qa] at po
      simp only [Option.bind_some] at po
      cases qi : blsOf ys with
      | none => rw [qi] at po; exact po.elim
      | some ns =>
        rw [qi] at po
        obtain ⟨v, e, r⟩ := rel1 r
        obtain ⟨a, us, e1, e2, e3⟩ := asL_ok R r qa
        subst e1
        exact ⟨a, ns, e, by rw [← blsOf_ok e3 qi]; exact e2, PostP.here po R (relBl _)⟩
  · exact po.elim
theorem c_any (hc : X.calm = true) : CallR X (.builtin "any") (rC X.K anyP) := CallR.imp' (cr_any hc) fun xs H Q q => by
  obtain ⟨rho, h, ds, R, r, po⟩ := q
  unfold anyP at po
  split at po
  · rename_i d
    cases qa : asL d h with
    | none => rw [qa] at po; exact po.elim
    | some ys =>
      rw [qa] at po
      simp only [Option.bind_some] at po
      cases qi : blsOf ys with
      | none => rw [qi] at po; exact po.elim
      | some ns =>
        rw [qi] at po
        obtain ⟨v, e, r⟩ := rel1 r
        obtain ⟨a, us, e1, e2, e3⟩ := asL_ok R r qa
        subst e1
        exact ⟨a, ns, e, by rw [← blsOf_ok e3 qi]; exact e2, PostP.here po R (relBl _)⟩
  · exact po.elim
end

/-! ### list(range(..)), tuple(range(..)) -/
theorem rgV_rel {K : PySem.W.Frag} {rho : Rh} {h : Hd} {H : Hp} {B : Nat} : ∀ (n : Nat) (a : Int), RelDs K rho h B H (rangeL a n) ((List.range n).map fun i => V.int (a + (i : Nat)))
  | 0, a => by simp [rangeL, RelDs]
  | n + 1, a => by
    rw [List.range_succ_eq_map]
    simp only [rangeL, RelDs, RelD, List.map_cons, List.map_map]
    refine ⟨.int a, _, by simp; rfl, rfl, ?_⟩
    have := rgV_rel (K := K) (rho := rho) (h := h) (H := H) (B := B) n (a + 1)
    have e : ((fun i : Nat => V.int (a + (i : Nat))) ∘ Nat.succ) = fun i : Nat => V.int (a + 1 + (i : Nat)) := by
      funext i; simp only [Function.comp]; congr 1; omega
    rw [e]; exact this
def rgOkB (a b : Int) : Bool := in62 a && in62 b && decide ((b - a).toNat ≤ 2 ^ 24)
theorem rgOkB_ok {a b : Int} (e : rgOkB a b = true) : RgOk a b := by
  unfold rgOkB at e
  rw [Bool.and_eq_true, Bool.and_eq_true] at e
  exact ⟨(in62_ok e.1.1).1, (in62_ok e.1.1).2, (in62_ok e.1.2).1, (in62_ok e.1.2).2, of_decide_eq_true e.2⟩
/-- the two ends of a range -/
abbrev RF := Ev → Hd → Res (Int × Int)
abbrev pR (Q : Int → Int → Hp → Prop) : PG' (Int × Int) := fun p _ _ H => Q p.1 p.2 H
def tR (K : PySem.W.Frag) (mg : Str → Option Value) (W : WX) (f : RF) : L2.St → Hp → (Int → Int → Hp → Prop) → Prop := tG K mg W f pR
def rg1 (f : EF) : RF := fun s h => (f s h).bind fun d h1 => match d with
  | .int n => .ok (0, n) h1
  | _ => .fail
def rg2 (f g : EF) : RF := fun s h => (f s h).bind fun d h1 => (g s h1).bind fun e h2 => match d, e with
  | .int n, .int m => .ok (n, m) h2
  | _, _ => .fail
def e_lrg (m : Bool) (f : RF) : EF := fun s h => (f s h).bind fun p h1 => if rgOkB p.1 p.2 then lift (mkL m (rangeL p.1 (p.2 - p.1).toNat) h1) else .fail
def e_trg (f : RF) : EF := fun s h => (f s h).bind fun p h1 => if rgOkB p.1 p.2 then .ok (.tup (rangeL p.1 (p.2 - p.1).toNat)) h1 else .fail
section
variable {X : Cx} {W : WX} {a b e : Expr} {fa fb : EF} {p pos : Pos} {f : RF}
theorem PRg.imp {t t' : L2.St → Hp → (Int → Int → Hp → Prop) → Prop} (p : PRg X e t) (i : ∀ σ H Q, t' σ H Q → t σ H Q) : PRg X e t' := fun pins s σ H Q I q => p pins s σ H Q I (i σ H Q q)
theorem rg_1 (hm : X.mg "range" = none) (ha : SE X W a fa) (hg : Gl X "range" := by rfl) (na : starEach [a] X.env = (false, eval a X.env) :: starEach [] X.env := by rfl) : PRg X (.Call (.Name "range" p) [a] [] pos) (tR X.K X.mg W (rg1 fa)) :=
  PRg.imp (prg_1 hg hm ha na) fun σ H Q q => by
    obtain ⟨rho, h, s, R, S, po⟩ := q
    refine step R S po fun rho1 h1 H1 d e1 R1 S1 po1 v r => ?_
    cases d with
    | int n => exact ⟨n, r.int, PostG.ok po1 R1⟩
    | _ => exact po1.elim
theorem rg_2 (hm : X.mg "range" = none) (ha : SE X W a fa) (hb : SE X W b fb) (hg : Gl X "range" := by rfl) (na : starEach [a, b] X.env = (false, eval a X.env) :: starEach [b] X.env := by rfl)
    (nb : starEach [b] X.env = (false, eval b X.env) :: starEach [] X.env := by rfl) (hp : (backTo pos (starEach [b] X.env)).any (·.1) = false := by rfl) : PRg X (.Call (.Name "range" p) [a, b] [] pos) (tR X.K X.mg W (rg2 fa fb)) :=
  PRg.imp (prg_2 hg hm ha hb na nb hp) fun σ H Q q => by
    obtain ⟨rho, h, s, R, S, po⟩ := q
    refine step R S po fun rho1 h1 H1 d e1 R1 S1 po1 v r => step R1 S1 po1 fun rho2 h2 H2 d2 e2 R2 S2 po2 v2 r2 => ?_
    cases d with
    | int n =>
      cases d2 with
      | int m => exact ⟨n, m, r.int, r2.int, PostG.ok po2 R2⟩
      | _ => exact po2.elim
    | _ => exact po2.elim
theorem r_lrg (m : Bool) (hc : X.calm = true) (hm : X.mg "list" = none) (he : PRg X e (tR X.K X.mg W f)) (hg : Gl X "list" := by rfl) (na : starEach [e] X.env = (false, eval e X.env) :: starEach [] X.env := by rfl) : SE X W (.Call (.Name "list" p) [e] [] pos) (e_lrg m f) :=
  PE.imp (pe_listRg hc hg hm he na) fun σ H Q q => by
    obtain ⟨rho, h, s, R, S, po⟩ := q
    refine step R S po fun rho1 h1 H1 pr e1 R1 S1 po1 => ?_
    by_cases hs : rgOkB pr.1 pr.2 = true
    · simp only [hs, if_true] at po1
      exact ⟨rgOkB_ok hs, fun q nq => post_mkL R1 (rgV_rel _ _) (PostP.of po1) nq⟩
    · simp only [hs] at po1; exact po1.elim
theorem r_trg (hc : X.calm = true) (hm : X.mg "tuple" = none) (he : PRg X e (tR X.K X.mg W f)) (hg : Gl X "tuple" := by rfl) (na : starEach [e] X.env = (false, eval e X.env) :: starEach [] X.env := by rfl) : SE X W (.Call (.Name "tuple" p) [e] [] pos) (e_trg f) :=
  PE.imp (pe_tupRg hc hg hm he na) fun σ H Q q => by
    obtain ⟨rho, h, s, R, S, po⟩ := q
    refine step R S po fun rho1 h1 H1 pr e1 R1 S1 po1 => ?_
    by_cases hs : rgOkB pr.1 pr.2 = true
    · simp only [hs, if_true] at po1
      refine ⟨rgOkB_ok hs, fun q nq => ?_⟩
      exact post_tup R1 (rgV_rel _ _) (fun rho' H' v e R' rr => po1 rho' H' e R' v rr) nq
    · simp only [hs] at po1; exact po1.elim
end

/-! ### subscripts, slices -/
def ixP : P2 := fun x y h => match y with
  | .int i => (match x with
    | .str z => if z.length ≤ sizeLine then (match atI z.cps.toList i with
      | some c => some (.str ⟨#[c]⟩, h)
      | none => none) else none
    | x => match asS x h with
      | some xs => (match atI xs i with
        | some d => some (d, h)
        | none => none)
      | none => none)
  | _ => none
def cutD (xs : List D) (lo hi : Option Int) : List D := (xs.drop (HT.sIx xs.length 0 lo)).take (HT.sIx xs.length xs.length hi - HT.sIx xs.length 0 lo)
theorem atI_rel {K : PySem.W.Frag} {rho : Rh} {h : Hd} {H : Hp} {ds : List D} {us : List V} {i : Int} {d : D} (r : RelVs' K rho h H ds us) (e : atI ds i = some d) : ∃ v, atI us i = some v ∧ RelV' K rho h H d v := by
  unfold atI at e ⊢
  rw [← RelDs.length r]
  cases q : ixN ds.length i with
  | none => rw [q] at e; cases e
  | some j => rw [q] at e; exact RelDs.get r e
section
variable {X : Cx}
theorem p_ix : IxR X (rO X.K ixP) := fun value slice pins s σ H x y v u Q I rx ry q hs => ix_seq value slice pins s σ H x y v u Q I rx ry (by
  obtain ⟨rho, h, dx, dy, R, rx, ry, po⟩ := q
  unfold ixP at po
  split at po
  · rename_i i
    split at po
    · rename_i z
      split at po
      · rename_i hl
        split at po
        · rename_i c hc
          exact .inr (.inr ⟨z, i, c, rx.str, ry.int, hl, hc, PostP.here po R (relStr _)⟩)
        · exact po.elim
      · exact po.elim
    · rename_i hne
      cases qa : asS dx h with
      | none => rw [qa] at po; exact po.elim
      | some xs =>
        rw [qa] at po
        simp only at po
        cases qi : atI xs i with
        | none => rw [qi] at po; exact po.elim
        | some d =>
          rw [qi] at po
          obtain ⟨a, us, e1, e2, e3⟩ := asS_ok R rx qa
          obtain ⟨w, w1, w2⟩ := atI_rel e3 qi
          rcases e2 with e2 | e2
          · exact .inl ⟨a, us, i, w, e1, ry.int, e2, w1, PostP.here po R w2⟩
          · exact .inr (.inl ⟨a, us, i, w, e1, ry.int, e2, w1, PostP.here po R w2⟩)
  · exact po.elim) hs
end
/-- a part of a slice -/
abbrev OF := Ev → Hd → Res (Option Int)
abbrev pO (Q : Option Int → Hp → Prop) : PG' (Option Int) := fun o _ _ H => Q o H
def o_none : OF := fun _ h => .ok none h
def o_some (f : EF) : OF := fun s h => (f s h).bind fun d h1 => match d with
  | .int i => .ok (some i) h1
  | _ => .fail
def slP (m : Bool) (d : D) (lo hi : Option Int) (h : Hd) : PR := match d with
  | .tup xs => some (.tup (cutD xs lo hi), h)
  | d => match asL d h with
    | some xs => mkL m (cutD xs lo hi) h
    | none => none
def e_slice (m : Bool) (f : EF) (lo hi : OF) : EF := fun s h => (f s h).bind fun d h1 => (lo s h1).bind fun l h2 => (hi s h2).bind fun u h3 => lift (slP m d l u h3)
def e_rev (m : Bool) (f : EF) : EF := fun s h => (f s h).bind fun d h1 => match d with
  | .tup xs => .ok (.tup xs.reverse) h1
  | d => match asL d h1 with
    | some xs => lift (mkL m xs.reverse h1)
    | none => .fail
section
variable {X : Cx} {W : WX} {e : Expr} {lo hi : Option Expr} {fe : EF} {fl fh : OF} {p2 pos : Pos}
theorem PO.imp {e : Option Expr} {t t' : TO} (p : PO X e t) (i : ∀ σ H Q, t' σ H Q → t σ H Q) : PO X e t' := ⟨fun pins s σ H Q I q => p.run pins s σ H Q I (i σ H Q q)⟩
theorem ro_none : PO X none (tG X.K X.mg W o_none pO) := PO.imp po_none fun σ H Q q => by
  obtain ⟨rho, h, s, R, S, po⟩ := q
  exact PostG.ok po R
theorem ro_some (he : SE X W e fe) : PO X (some e) (tG X.K X.mg W (o_some fe) pO) := PO.imp (po_some he) fun σ H Q q => by
  obtain ⟨rho, h, s, R, S, po⟩ := q
  refine step R S po fun rho1 h1 H1 d e1 R1 S1 po1 v r => ?_
  cases d with
  | int i => exact ⟨i, r.int, PostG.ok po1 R1⟩
  | _ => exact po1.elim
theorem sl_D (m : Bool) : SlR X (fun x lo hi H Q => ∃ rho h d, Rel X.K rho h H ∧ RelV' X.K rho h H d x ∧ PostP X.K rho h H (slP m d lo hi h) Q) := by
  have key := (sl_tupA (X := X)).or sl_list
  intro pins s σ H x v vl vu lo hi sl Q I rx hs pl pu q
  refine key pins s σ H x v vl vu lo hi sl Q I rx hs pl pu ?_
  obtain ⟨rho, h, d, R, r, po⟩ := q
  unfold slP at po
  split at po
  · rename_i xs
    have r0 := r
    obtain ⟨a, us, e1, e2, e3⟩ := r.tup
    have hl := RelDs.length e3
    refine .inl ⟨a, us, e1, e2, fun z => ?_, fun z p np => ?_⟩
    · have : cutD xs lo hi = xs := by unfold cutD; rw [hl, z.1, z.2, ← hl]; simp
      rw [this] at po
      rw [← e1]; exact PostP.here po R r0
    · refine post_tup R (us := cutV us lo hi) ?_ po np
      unfold cutD cutV
      rw [hl]
      exact RelDs.take _ (RelDs.drop _ e3)
  · rename_i hne
    cases qa : asL d h with
    | none => rw [qa] at po; exact po.elim
    | some xs =>
      rw [qa] at po
      obtain ⟨a, us, e1, e2, e3⟩ := asL_ok R r qa
      refine .inr ⟨a, us, e1, e2, fun p np => post_mkL R ?_ po np⟩
      unfold cutD cutV
      rw [RelDs.length e3]
      exact RelDs.take _ (RelDs.drop _ e3)
theorem r_slice (m : Bool) (he : SE X W e fe) (hl : PO X lo (tG X.K X.mg W fl pO)) (hh : PO X hi (tG X.K X.mg W fh pO)) : SE X W (.Subscript e (.Slice lo hi none p2) pos) (e_slice m fe fl fh) := PE.imp (pe_slice (sl_D m) he hl hh) fun σ H Q q => by
  obtain ⟨rho, h, s, R, S, po⟩ := q
  exact step R S po fun rho1 h1 H1 d e1 R1 S1 po1 v r => step R1 S1 po1 fun rho2 h2 H2 l e2 R2 S2 po2 => step R2 S2 po2 fun rho3 h3 H3 u e3 R3 S3 po3 => ⟨rho3, h3, d, R3, (e2.trans e3).v r, PostP.of po3⟩
theorem PE.or' {t u t' : TE} (p : PE X e t) (q : PE X e u) (i : ∀ σ H Q, t' σ H Q → t σ H Q ∨ u σ H Q) : PE X e t' := ⟨fun pins s σ H R I z => (i σ H R z).elim (p.run pins s σ H R I) (q.run pins s σ H R I)⟩
theorem r_rev (m : Bool) {k : Nat} {p1 p2 p3 : Pos} (he : SE X W e fe) : SE X W (.Subscript e (.Slice none none (some (.UnaryOp .USub (.Constant (.int 1) k p1) p2)) p3) pos) (e_rev m fe) := by
  refine PE.or' (pe_revL he) (pe_revT he) fun σ H Q q => ?_
  obtain ⟨rho, h, s, R, S, po⟩ := q
  unfold e_rev at po
  cases qf : fe s h with
  | fail => rw [qf] at po; exact po.elim
  | exc x h1 => rw [qf] at po; exact .inl ⟨rho, h, s, R, S, by rw [qf]; exact po⟩
  | ok d h1 =>
    rw [qf] at po
    simp only [Res.bind] at po
    split at po
    · refine .inr ⟨rho, h, s, R, S, ?_⟩
      rw [qf]
      intro rho1 H1 e1 R1 v r
      obtain ⟨a, us, w1, w2, w3⟩ := r.tup
      exact ⟨a, us, w1, w2, fun p np => post_tup R1 (RelDs.reverse w3) (fun rho' H' v e R' rr => po rho' H' (e1.trans e) R' v rr) np⟩
    · refine .inl ⟨rho, h, s, R, S, ?_⟩
      rw [qf]
      intro rho1 H1 e1 R1 v r
      cases qa : asL d h1 with
      | none => rw [qa] at po; exact po.elim
      | some xs =>
        rw [qa] at po
        obtain ⟨a, us, w1, w2, w3⟩ := asL_ok R1 r qa
        exact ⟨a, us, w1, w2, fun p np => post_mkL R1 (RelDs.reverse w3) (PostP.of (PostG.ext e1 po)) np⟩
end

/-! ### stores and methods of lists -/
def setP (o i v : D) (h : Hd) : Option Hd := match o, i with
  | .ref n, .int k => match h[n]? with
    | some (.lst xs) => (match ixN xs.length k with
      | some j => if noRef v then some (h.set n (.lst (xs.set j v))) else none
      | none => none)
    | _ => none
  | _, _ => none
theorem RelC.cell {K : PySem.W.Frag} {rho : Rh} {h : Hd} {H : Hp} {n : Nat} {xs : List D} (R : Rel K rho h H) (e : h[n]? = some (.lst xs)) : ∃ us, H (rho n) = some (.lst us) ∧ RelDs K rho h n H xs us := R.cell n _ e
theorem noref_at {K : PySem.W.Frag} {rho : Rh} {h : Hd} {H : Hp} {d : D} {v : V} {B : Nat} (n : noRef d = true) (r : RelV' K rho h H d v) : RelD K rho h B H d v := RelD.noref (fun _ q => q) d v _ _ n r
section
variable {X : Cx}
theorem p_set : PSet X (rS X.K setP) := fun pins s σ H o i v ov iv u Q I ro ri rv q => set_list pins s σ H o i v ov iv u Q I ro ri rv (by
  obtain ⟨rho, h, d0, d1, d2, R, r0, r1, r2, h', e, k⟩ := q
  unfold setP at e
  split at e
  · rename_i n kk
    split at e
    · rename_i xs qx
      split at e
      · rename_i j qj
        split at e
        · rename_i nr
          cases e
          obtain ⟨us, a, b⟩ := RelC.cell R qx
          simp only [RelV', RelD] at r0
          obtain ⟨x, R'⟩ := setCell R qx a (RelDs.set (noref_at nr r2) j b)
          exact ⟨rho n, us, kk, j, r0.2, r1.int, a, by rw [← RelDs.length b]; exact qj, k _ _ x R'⟩
        · cases e
      · cases e
    · cases e
  · cases e)
end
def appendP : PM := fun x ds h => match x, ds with
  | .ref n, [d] => (match h[n]? with
    | some (.lst xs) => if noRef d && decide (xs.length < sizeLine) then some (.non, h.set n (.lst (xs ++ [d]))) else none
    | _ => none)
  | _, _ => none
def extendP : PM := fun x ds h => match x, ds with
  | .ref n, [.lv ys] => (match h[n]? with
    | some (.lst xs) => if noRefs ys && decide (xs.length + ys.length ≤ sizeLine) then some (.non, h.set n (.lst (xs ++ ys))) else none
    | _ => none)
  | _, _ => none
def popP : PM := fun x ds h => match x, ds with
  | .ref n, [] => (match h[n]? with
    | some (.lst xs) => (match xs[xs.length - 1]? with
      | some d => some (d, h.set n (.lst xs.dropLast))
      | none => none)
    | _ => none)
  | .ref n, [.int i] => (match h[n]? with
    | some (.lst xs) => (match ixN xs.length i with
      | some k => (match xs[k]? with
        | some d => if in63 i then some (d, h.set n (.lst (xs.eraseIdx k))) else none
        | none => none)
      | none => none)
    | _ => none)
  | _, _ => none
theorem RelDs.dropLast {K : PySem.W.Frag} {rho : Rh} {h : Hd} {H : Hp} {B : Nat} {ds : List D} {us : List V} (r : RelDs K rho h B H ds us) : RelDs K rho h B H ds.dropLast us.dropLast := by
  rw [List.dropLast_eq_take, List.dropLast_eq_take, RelDs.length r]
  exact RelDs.take _ r
theorem RelDs.eraseIdx {K : PySem.W.Frag} {rho : Rh} {h : Hd} {H : Hp} {B : Nat} {ds : List D} {us : List V} (k : Nat) (r : RelDs K rho h B H ds us) : RelDs K rho h B H (ds.eraseIdx k) (us.eraseIdx k) := by
  rw [List.eraseIdx_eq_take_drop_succ, List.eraseIdx_eq_take_drop_succ]
  exact RelDs.append (RelDs.take _ r) (RelDs.drop _ r)
section
variable {X : Cx} {W : WX} {o e : Expr} {es : List Expr} {fo : EF} {fa : AF} {name : Str} {id T : String} {apos cpos : Pos} {g : PM}
theorem MtR.imp' {r r' : V → List V → Hp → VK → Prop} (p : MtR X id r) (i : ∀ x xs H Q, r' x xs H Q → r x xs H Q) : MtR X id r' := fun pins s σ H x xs v us Q I rx rv q => p pins s σ H x xs v us Q I rx rv (i x xs H Q q)
/-- the receiver is a list -/
def lstTy (d : D) (h : Hd) : Bool := (asL d h).isSome
theorem lstTy_ok {K : PySem.W.Frag} {rho : Rh} {h : Hd} {H : Hp} (R : Rel K rho h H) {d : D} {v : V} (r : RelV' K rho h H d v) (e : lstTy d h = true) : tyV K "list" v H := by
  unfold lstTy at e
  cases q : asL d h with
  | none => rw [q] at e; cases e
  | some xs =>
    obtain ⟨a, us, e1, e2, e3⟩ := asL_ok R r q
    subst e1
    exact .inl ⟨rfl, us, e2⟩
def e_lm (g : PM) (o : EF) (a : AF) : EF := fun s h => (o s h).bind fun x h1 => if lstTy x h1 then (a s h1).bind fun xs h2 => lift (g x xs h2) else .fail
theorem r_lm (slot : Slot "list" name id) (hty : typeOf (.builtin id) = pure (.type "method_descriptor")) (hm : MtR X id (rM X.K g)) (ho : SE X W o fo) (ha : SA X W (e :: es) fa)
    (hbase : attributeBase o name X.env (eval o X.env) = eval o X.env := by rfl)
    (hfew : ((backTo cpos (starEach (e :: es) X.env)).all (fun x => !x.1) && (backToKw cpos (keywordEach [] X.env)).all (fun x => x.1.isSome)
      && decide ((e :: es).length + ([] : List Keyword).length + (if ([] : List Keyword).isEmpty then 0 else 1) < 30)) = true := by rfl)
    (hline : (apos.endLine == cpos.line) = true := by rfl) (hs : starEach (e :: es) X.env = (false, eval e X.env) :: starEach es X.env := by rfl) (hplain : (backTo cpos (starEach es X.env)).any (·.1) = false := by rfl) :
    SE X W (.Call (.Attribute o name apos) (e :: es) [] cpos) (e_lm g fo fa) := PE.imp (pe_bm PySem.F.plainAttrs_list slot hty hm ho ha hbase hfew hline hs hplain) fun σ H Q q => by
  obtain ⟨rho, h, s, R, S, po⟩ := q
  refine step R S po fun rho1 h1 H1 d e1 R1 S1 po1 v r => ?_
  by_cases hl : lstTy d h1 = true
  · simp only [hl, if_true] at po1
    exact ⟨lstTy_ok R1 r hl, step R1 S1 po1 fun rho2 h2 H2 ds e2 R2 S2 po2 vs rs => ⟨rho2, h2, d, ds, R2, e2.v r, rs, PostP.of po2⟩⟩
  · simp only [hl] at po1; exact po1.elim
theorem r_lm0 (slot : Slot "list" name id) (hty : typeOf (.builtin id) = pure (.type "method_descriptor")) (hm : MtR X id (rM X.K g)) (ho : SE X W o fo)
    (hbase : attributeBase o name X.env (eval o X.env) = eval o X.env := by rfl) (hline : (apos.endLine == cpos.line) = true := by rfl) :
    SE X W (.Call (.Attribute o name apos) [] [] cpos) (e_lm g fo a_nil) := PE.imp (pe_bm0 PySem.F.plainAttrs_list slot hty hm ho hbase hline) fun σ H Q q => by
  obtain ⟨rho, h, s, R, S, po⟩ := q
  refine step R S po fun rho1 h1 H1 d e1 R1 S1 po1 v r => ?_
  by_cases hl : lstTy d h1 = true
  · simp only [hl, if_true] at po1
    exact ⟨lstTy_ok R1 r hl, rho1, h1, d, [], R1, r, by simp only [RelVs', RelDs], PostP.of po1⟩
  · simp only [hl] at po1; exact po1.elim
theorem m_append : MtR X "list.append" (rM X.K appendP) := MtR.imp' mt_append fun x xs H Q q => by
  obtain ⟨rho, h, d, ds, R, r, rs, po⟩ := q
  unfold appendP at po
  split at po
  · rename_i n d'
    split at po
    · rename_i ys qx
      by_cases hl : (noRef d' && decide (ys.length < sizeLine)) = true
      · simp only [hl, if_true] at po
        rw [Bool.and_eq_true] at hl
        obtain ⟨us, a, b⟩ := RelC.cell R qx
        simp only [RelV', RelD] at r
        obtain ⟨v, e, rv⟩ := rel1 rs
        have one : RelDs X.K rho h n H [d'] [v] := by simp only [RelDs]; exact ⟨v, [], rfl, noref_at hl.1 rv, rfl⟩
        obtain ⟨x', R'⟩ := setCell R qx a (RelDs.append b one)
        exact ⟨rho n, us, v, r.2, e, a, by rw [← RelDs.length b]; exact of_decide_eq_true hl.2, po rho _ _ x' R' relNon⟩
      · simp only [hl] at po; exact po.elim
    · exact po.elim
  · exact po.elim
theorem m_extend : MtR X "list.extend" (rM X.K extendP) := MtR.imp' mt_extend fun x xs H Q q => by
  obtain ⟨rho, h, d, ds, R, r, rs, po⟩ := q
  unfold extendP at po
  split at po
  · rename_i n ws
    split at po
    · rename_i ys qx
      by_cases hl : (noRefs ws && decide (ys.length + ws.length ≤ sizeLine)) = true
      · simp only [hl, if_true] at po
        rw [Bool.and_eq_true] at hl
        obtain ⟨us, a, b⟩ := RelC.cell R qx
        simp only [RelV', RelD] at r
        obtain ⟨v, e, rv⟩ := rel1 rs
        simp only [RelV', RelD] at rv
        obtain ⟨c, zs, f1, f2, f3⟩ := rv
        subst f1
        obtain ⟨x', R'⟩ := setCell R qx a (RelDs.append b (RelDs.noref (fun _ q => q) _ _ _ _ hl.1 f3))
        exact ⟨rho n, c, us, zs, r.2, e, a, f2.1, by rw [← RelDs.length b, ← RelDs.length f3]; exact of_decide_eq_true hl.2, po rho _ _ x' R' relNon⟩
      · simp only [hl] at po; exact po.elim
    · exact po.elim
  · exact po.elim
theorem m_pop : MtR X "list.pop" (rM X.K popP) := by
  have key : MtR X "list.pop" (fun x xs H Q => rPop x xs H Q ∨ rPopAt x xs H Q) := MtR.or mt_pop mt_popAt
  refine MtR.imp' key fun x xs H Q q => ?_
  obtain ⟨rho, h, d, ds, R, r, rs, po⟩ := q
  unfold popP at po
  split at po
  · rename_i n
    split at po
    · rename_i ys qx
      split at po
      · rename_i dl ql
        obtain ⟨us, a, b⟩ := RelC.cell R qx
        have hn : n < h.length := (List.getElem?_eq_some_iff.mp qx).1
        simp only [RelV', RelD] at r
        simp only [RelVs', RelDs] at rs
        obtain ⟨x', R'⟩ := setCell R qx a (RelDs.dropLast b)
        obtain ⟨v, w1, w2⟩ := RelDs.get b ql
        refine .inl ⟨rho n, us, v, r.2, rs, a, by rw [← RelDs.length b]; exact w1, po rho _ _ x' R' ?_⟩
        exact RelD.mono x' (by simp; omega) (Nat.le_of_lt hn) _ _ w2
      · exact po.elim
    · exact po.elim
  · rename_i n i
    split at po
    · rename_i ys qx
      split at po
      · rename_i k qk
        split at po
        · rename_i dl ql
          have hi63 : in63 i = true := by
            cases q : in63 i with
            | true => rfl
            | false => simp only [q] at po; exact po.elim
          simp only [hi63, if_true] at po
          unfold in63 at hi63
          rw [Bool.and_eq_true] at hi63
          obtain ⟨us, a, b⟩ := RelC.cell R qx
          have hn : n < h.length := (List.getElem?_eq_some_iff.mp qx).1
          simp only [RelV', RelD] at r
          obtain ⟨v0, e0, rv⟩ := rel1 rs
          obtain ⟨x', R'⟩ := setCell R qx a (RelDs.eraseIdx k b)
          obtain ⟨v, w1, w2⟩ := RelDs.get b ql
          obtain ⟨z1, z2, z3, z4⟩ := ixN_seq qk
          refine .inr ⟨rho n, us, i, k, v, r.2, by rw [e0, rv.int], a, ?_, ?_, by rw [← RelDs.length b]; exact z1, w1, po rho _ _ x' R' ?_⟩
          · exact of_decide_eq_true hi63.1
          · exact of_decide_eq_true hi63.2
          · exact RelD.mono x' (by simp; omega) (Nat.le_of_lt hn) _ _ w2
        · exact po.elim
      · exact po.elim
    · exact po.elim
  · exact po.elim
end
end Mini
namespace Mini
open PySem PySem.Spec PyProof.Rows L2

/-! ### isinstance -/
def tyS (d : D) : String := match d with
  | .non => "NoneType"
  | .bl _ => "bool"
  | .int _ => "int"
  | .str _ => "str"
  | .tup _ => "tuple"
  | .lv _ => "list"
  | .fl _ => "list"
  | .ref _ => "list"
def tyOk (d : D) (h : Hd) : Bool := match d with
  | .ref n => live h n
  | _ => true
def isTy (T : String) (t : String) : Bool := t == T || (T == "int" && t == "bool")
def KitOk (T : String) : Prop := ∀ t ∈ ["NoneType", "bool", "int", "str", "tuple", "list"], kitB t T = some (isTy T t)
theorem tyS_mem (d : D) : tyS d ∈ ["NoneType", "bool", "int", "str", "tuple", "list"] := by cases d <;> simp [tyS]
theorem tyX_ok {K : PySem.W.Frag} {rho : Rh} {h : Hd} {H : Hp} (R : Rel K rho h H) {d : D} {v : V} (r : RelV' K rho h H d v) (e : tyOk d h = true) : TyX K H v (.type (tyS d)) := by
  cases d with
  | non => rw [r.non]; exact .base .non
  | bl b => rw [r.bl]; exact .base (.bl b)
  | int b => rw [r.int]; exact .base (.int b)
  | str b => rw [r.str]; exact .base (.str b)
  | tup xs =>
    obtain ⟨a, us, e1, e2, e3⟩ := r.tup
    subst e1
    rcases e2 with (e2 | ⟨o, e2⟩) | ⟨o, its, n, e2, c, _⟩
    · exact .base (.tup e2)
    · exact .fTuple e2
    · exact .kTuple e2 c
  | lv xs =>
    simp only [RelV', RelD] at r
    obtain ⟨a, us, e1, e2, e3⟩ := r
    subst e1
    exact .base (.lst e2.1)
  | fl xs =>
    simp only [RelV', RelD] at r
    obtain ⟨a, us, e1, e2, e3⟩ := r
    subst e1
    rcases e2 with ⟨o, e2⟩ | ⟨o, its, n, e2, c, _⟩
    · exact .base (.frz e2)
    · exact .kList e2 c
  | ref n =>
    obtain ⟨us, q⟩ := R.at e
    simp only [RelV', RelD] at r
    rw [r.2]
    exact .base (.lst q)
def e_isi (ts : List String) (f : EF) : EF := fun s h => (f s h).bind fun d h1 => if tyOk d h1 then .ok (.bl (ts.any fun T => isTy T (tyS d))) h1 else .fail
theorem kitAny_ok {K : PySem.W.Frag} {t : String} (ht : t ∈ ["NoneType", "bool", "int", "str", "tuple", "list"]) : ∀ ts : List String, (∀ T ∈ ts, KitOk T) → PySem.W.kitAny K (.type t) (ts.map Value.type) = some (ts.any fun T => isTy T t)
  | [], _ => kitAny_nil
  | T :: ts, h => by
    have h1 : PySem.W.kitOne K (.type t) (.type T) = some (isTy T t) := kit_ty (h T (by simp) t ht)
    have ih := kitAny_ok (K := K) ht ts fun U hU => h U (by simp [hU])
    rw [List.map_cons]
    refine kitAny_cons h1 (fun q => ?_) (fun q => ?_)
    · rw [List.any_cons, q, Bool.false_or]; exact ih
    · rw [List.any_cons, q, Bool.true_or]
section
variable {X : Cx} {W : WX} {e : Expr} {fe : EF} {p q pos : Pos}
theorem r_isi {T : Str} {Ts : String} (hm : X.mg "isinstance" = none) (he : SE X W e fe) (hT : X.mg T = none) (hv : bootBuiltins T = some (.type Ts)) (hk : KitOk Ts) (hg : Gl X "isinstance" := by rfl) (hgT : Gl X T := by rfl) (hn : T ≠ "__name__" := by decide) (hdb : (T == ("__debug__" : Str)) = false := by decide)
    (hs : starEach [e, .Name T q] X.env = (false, eval e X.env) :: starEach [.Name T q] X.env := by rfl) (hs2 : starEach [.Name T q] X.env = (false, eval (.Name T q) X.env) :: starEach [] X.env := by rfl) (hpl : (backTo pos (starEach [.Name T q] X.env)).any (·.1) = false := by rfl) :
    SE X W (.Call (.Name "isinstance" p) [e, .Name T q] [] pos) (e_isi [Ts] fe) :=
  PE.imp (pe_callB call_isi hg hm PyProof.Rows.boot_isinstance (pa_cons he (pa_cons (pe_bltn (v := .ty Ts) hgT hT hv rfl hn hdb) pa_nil hs2) hs) (by decide) (by decide) hs hpl) fun σ H Q z => by
    obtain ⟨rho, h, s, R, S, po⟩ := z
    refine step R S po fun rho1 h1 H1 d e1 R1 S1 po1 v r => ?_
    by_cases ht : tyOk d h1 = true
    · simp only [ht, if_true] at po1
      refine ⟨v, .ty Ts, .type (tyS d), .type Ts, isTy Ts (tyS d), rfl, .ty Ts, tyX_ok R1 r ht, kit_ty (hk _ (tyS_mem d)), ?_⟩
      have := PostG.ok po1 R1 _ (relBl _)
      simpa using this
    · simp only [ht] at po1; exact po1.elim
theorem r_isi2 {T U : Str} {Ts Us : String} {q1 q2 : Pos} {k : Nat} (hm : X.mg "isinstance" = none) (he : SE X W e fe) (hT : X.mg T = none) (hv : bootBuiltins T = some (.type Ts)) (hk : KitOk Ts) (hU : X.mg U = none) (hvU : bootBuiltins U = some (.type Us)) (hkU : KitOk Us)
    (hg : Gl X "isinstance" := by rfl) (hgT : Gl X T := by rfl) (hgU : Gl X U := by rfl) (hn : T ≠ "__name__" := by decide) (hdb : (T == ("__debug__" : Str)) = false := by decide) (hnU : U ≠ "__name__" := by decide) (hdbU : (U == ("__debug__" : Str)) = false := by decide)
    (hs : starEach [e, .Tuple [.Name T q1, .Name U q2] k q] X.env = (false, eval e X.env) :: starEach [.Tuple [.Name T q1, .Name U q2] k q] X.env := by rfl)
    (hs2 : starEach [.Tuple [.Name T q1, .Name U q2] k q] X.env = (false, eval (.Tuple [.Name T q1, .Name U q2] k q) X.env) :: starEach [] X.env := by rfl)
    (hs3 : starEach [.Name T q1, .Name U q2] X.env = (false, eval (.Name T q1) X.env) :: starEach [.Name U q2] X.env := by rfl) (hs4 : starEach [.Name U q2] X.env = (false, eval (.Name U q2) X.env) :: starEach [] X.env := by rfl)
    (hpl : (backTo pos (starEach [.Tuple [.Name T q1, .Name U q2] k q] X.env)).any (·.1) = false := by rfl) :
    SE X W (.Call (.Name "isinstance" p) [e, .Tuple [.Name T q1, .Name U q2] k q] [] pos) (e_isi [Ts, Us] fe) :=
  PE.imp (pe_callB call_isiT hg hm PyProof.Rows.boot_isinstance (pa_cons he (pa_cons (pe_tup (pa_cons (pe_bltn (v := .ty Ts) hgT hT hv rfl hn hdb) (pa_cons (pe_bltn (v := .ty Us) hgU hU hvU rfl hnU hdbU) pa_nil hs4) hs3)) pa_nil hs2) hs) (by decide) (by decide) hs hpl) fun σ H Q z => by
    obtain ⟨rho, h, s, R, S, po⟩ := z
    refine step R S po fun rho1 h1 H1 d e1 R1 S1 po1 v r => ?_
    by_cases ht : tyOk d h1 = true
    · simp only [ht, if_true] at po1
      refine ⟨by show 2 ≤ sizeLine; decide, fun p np => ?_⟩
      have x := Ext.upd R1 np (.tup [.ty Ts, .ty Us])
      have R2 := R1.upd np (.tup [.ty Ts, .ty Us])
      refine ⟨v, p, [.ty Ts, .ty Us], .type (tyS d), [.type Ts, .type Us], _, rfl, upd_same, .cons (.ty Ts) (.cons (.ty Us) .nil), tyX_ok R2 (x.v r) ht, kitAny_ok (tyS_mem d) [Ts, Us] (fun V hV => ?_), ?_⟩
      · simp at hV
        rcases hV with hV | hV <;> subst hV
        · exact hk
        · exact hkU
      · exact po1 rho1 _ x R2 _ (relBl _)
    · simp only [ht] at po1; exact po1.elim
end
theorem kit_int : KitOk "int" := by unfold KitOk; decide +kernel
theorem kit_bool : KitOk "bool" := by unfold KitOk; decide +kernel
theorem kit_str : KitOk "str" := by unfold KitOk; decide +kernel
theorem kit_list : KitOk "list" := by unfold KitOk; decide +kernel
theorem kit_tuple : KitOk "tuple" := by unfold KitOk; decide +kernel

/-! ### in, not in -/
def flatD (d : D) : Bool := match d with
  | .non | .bl _ | .int _ | .str _ => true
  | _ => false
def eqFD : D → D → Bool
  | .non, .non => true
  | .bl a, .bl b => a == b
  | .bl a, .int b => (if a then 1 else 0) == b
  | .int a, .bl b => a == (if b then 1 else 0)
  | .int a, .int b => a == b
  | .str a, .str b => a == b
  | _, _ => false
theorem flat_ok {K : PySem.W.Frag} {rho : Rh} {h : Hd} {H : Hp} {B : Nat} {d : D} {v : V} (r : RelD K rho h B H d v) (f : flatD d = true) : flatV v = true := by
  cases d <;> simp only [RelD] at r <;> first | (subst r; rfl) | (simp [flatD] at f)
theorem eqFD_ok {K : PySem.W.Frag} {rho : Rh} {h : Hd} {H : Hp} {B C : Nat} {d e : D} {v w : V} (r : RelD K rho h B H d v) (q : RelD K rho h C H e w) (f : flatD d = true) (g : flatD e = true) : eqV v w = eqFD d e := by
  cases d <;> simp only [RelD] at r <;> first | (simp [flatD] at f; done) | (subst r; cases e <;> simp only [RelD] at q <;> first | (simp [flatD] at g; done) | (subst q; rfl))
theorem flats_ok {K : PySem.W.Frag} {rho : Rh} {h : Hd} {H : Hp} {B : Nat} : ∀ {ds : List D} {us : List V}, RelDs K rho h B H ds us → ds.all flatD = true → us.all flatV = true
  | [], us, r, f => by simp only [RelDs] at r; subst r; rfl
  | d :: ds, us, r, f => by
    simp only [RelDs] at r
    obtain ⟨v, rr, e1, e2, e3⟩ := r
    simp only [List.all_cons, Bool.and_eq_true] at f
    subst e1
    simp only [List.all_cons, Bool.and_eq_true]
    exact ⟨flat_ok e2 f.1, flats_ok e3 f.2⟩
theorem inV_ok {K : PySem.W.Frag} {rho : Rh} {h : Hd} {H : Hp} {B C : Nat} {x : D} {v : V} (rx : RelD K rho h C H x v) (fx : flatD x = true) : ∀ {ds : List D} {us : List V}, RelDs K rho h B H ds us → ds.all flatD = true → inV v us = ds.any fun y => eqFD y x
  | [], us, r, f => by simp only [RelDs] at r; subst r; rfl
  | d :: ds, us, r, f => by
    simp only [RelDs] at r
    obtain ⟨w, rr, e1, e2, e3⟩ := r
    simp only [List.all_cons, Bool.and_eq_true] at f
    subst e1
    have ih := inV_ok rx fx e3 f.2
    unfold inV at ih ⊢
    rw [List.any_cons, List.any_cons, ih, eqFD_ok e2 rx f.1 fx]
def inP (neg : Bool) : P2 := fun x y h => match asS y h with
  | some ys => if flatD x && ys.all flatD then some (.bl (if neg then !(ys.any fun z => eqFD z x) else ys.any fun z => eqFD z x), h) else
      match pyR x h, pyR y h with
      | some d, some (.list ds) => if SeqAt.shaped d && SeqAt.shaped (.list ds) then some (.bl (if neg then !(ds.any fun z => PyData.eqv z d) else ds.any fun z => PyData.eqv z d), h) else none
      | _, _ => none
  | none => none
theorem in_ok {K : PySem.W.Frag} {neg : Bool} {x y : V} {H : Hp} {Q : VK} (q : rO K (inP neg) x y H Q) : rIn K neg x y H Q ∨ (∃ d ds, Dp K H x d ∧ Dp K H y (.list ds) ∧ SeqAt.shaped d = true ∧ SeqAt.shaped (.list ds) = true ∧ Q (.bl (if neg then !(ds.any fun z => PyData.eqv z d) else ds.any fun z => PyData.eqv z d)) H) := by
  obtain ⟨rho, h, dx, dy, R, rx, ry, po⟩ := q
  unfold inP at po
  split at po
  · rename_i ys qy
    by_cases hf : (flatD dx && ys.all flatD) = true
    · simp only [hf, if_true] at po
      rw [Bool.and_eq_true] at hf
      obtain ⟨a, us, e1, e2, e3⟩ := asS_ok R ry qy
      refine .inl ⟨a, us, e1, e2, flat_ok rx hf.1, flats_ok e3 hf.2, ?_⟩
      rw [inV_ok rx hf.1 e3 hf.2]
      exact PostP.here po R (relBl _)
    · simp only [hf] at po
      split at po
      · exact absurd (by assumption) Bool.false_ne_true
      · split at po
        · rename_i d ds qd qds
          by_cases hs : (SeqAt.shaped d && SeqAt.shaped (.list ds)) = true
          · simp only [hs, if_true] at po
            rw [Bool.and_eq_true] at hs
            exact .inr ⟨d, ds, pyR_ok R rx qd, pyR_ok R ry qds, hs.1, hs.2, PostP.here po R (relBl _)⟩
          · simp only [hs] at po; exact po.elim
        · exact po.elim
  · exact po.elim
section
variable {X : Cx}
theorem p_in (hu : X.A.units + 65 < cLine) : OpR X (compareOp .In) (rO X.K (inP false)) := OpR.imp' (op_in_seq.or (op_inD hu)) fun x y H Q q => (in_ok q).imp id fun ⟨d, ds, a, b, c, e, f⟩ => ⟨d, ds, a, b, c, e, by simpa using f⟩
theorem p_notIn (hu : X.A.units + 65 < cLine) : OpR X (compareOp .NotIn) (rO X.K (inP true)) := OpR.imp' (op_notIn_seq.or (op_notInD hu)) fun x y H Q q => (in_ok q).imp id fun ⟨d, ds, a, b, c, e, f⟩ => ⟨d, ds, a, b, c, e, by simpa using f⟩
end
end Mini
namespace Mini
open PySem PySem.Spec PyProof.Rows L2
theorem room65 {k : Nat} {A : Around} (r : Room k A) : A.units + 65 < cLine := by have := r.un; omega
section
variable {P : Program} {w : World} {K : PySem.W.Frag} {mg : Str → Option Value} {base : Heap}
/-- a def that hands out cells of its own -/
theorem fn_okR {x qual : Str} {st : Stmt} {f : Addr} {fd : FuncData} {N ps : List Str} {k : Nat} {b : SF} (F : Fun K x qual st f fd) (S : FnScope N ps (defScope st))
    (hb : ∀ (cdv : Value) (A : Around) (outer : List Env) (s : Shared) (H : Hp) (E : XK), Room k (A.deeper (envOfC qual (defScope st) s.heap.objs.size f cdv)) →
      SSs (cxOf (L2.CX P w) P w K mg base N qual (defScope st) f cdv A outer s H E) (fun cls d _ H => E cls d H) (defBody st) b) : FnOk P w K mg base (L2.CX P w) (k + 1) f fd ps (spM K mg (runB ps.length N.length b)) := by
  refine F.okX S (fun vs H Q E h => ?_) fun cdv A outer s H vs Q E hr h => ⟨_, hb cdv A outer s H E hr, ?_⟩
  · obtain ⟨rho, h, ds, R, r, po⟩ := h
    by_cases q : ds.length = ps.length
    · rw [← RelDs.length r]; exact q
    · unfold runB at po; simp only [q, if_false] at po; exact po.elim
  obtain ⟨rho, h, ds, R, r, po⟩ := h
  refine ⟨rho, h, ds.map some ++ List.replicate (N.length - ds.length) none, R, RelS.start r, ?_⟩
  unfold runB at po
  by_cases q : ds.length = ps.length
  · simp only [q, if_true] at po
    rw [← q] at po
    cases qb : b (ds.map some ++ List.replicate (N.length - ds.length) none) h with
    | fail => rw [qb] at po; exact po
    | exc x h' => rw [qb] at po; exact po.elim
    | ok fl h' =>
      rw [qb] at po
      cases fl with
      | nx s1 => exact fun rho' H' e R' σ' S' => po rho' H' e R' _ relNon
      | rt d => exact fun rho' H' e R' v r' => po rho' H' e R' v r'
      | bk s1 => exact po.elim
      | ct s1 => exact po.elim
      | ex x s1 => exact fun rho' H' e R' σ' cls dd S' rx => po rho' H' cls dd e R' rx
  · simp only [q, if_false] at po; exact po.elim
end
/-- the law's promise: a list of at most 63 ints is handed in, True comes out -/
def spLaw (K : PySem.W.Frag) : Sp := fun vs H Q _ => ∃ (a : Addr) (ns : List Int), vs = [.ref a] ∧ ns.length ≤ 63 ∧ Only H ∧ SqL K H a (ns.map V.int) ∧ ∀ v H', v = V.bl true → Q v H'
theorem relInts {K : PySem.W.Frag} {rho : Rh} {h : Hd} {H : Hp} {B : Nat} : ∀ ns : List Int, RelDs K rho h B H (ns.map D.int) (ns.map V.int)
  | [] => by simp [RelDs]
  | n :: ns => by
    simp only [List.map_cons, RelDs, RelD]
    exact ⟨_, _, rfl, rfl, relInts ns⟩
theorem spLaw_ok {K : PySem.W.Frag} {mg : Str → Option Value} {m : MF} {vs : List V} {H : Hp} {Q : VK} {E : XK} (spec : ∀ ns : List Int, ns.length ≤ 63 → ∃ h, m [.fl (ns.map D.int)] [] = .ok (.bl true) h) (z : spLaw K vs H Q E) : spM K mg m vs H Q E := by
  obtain ⟨a, ns, e, hl, hO, hS, k⟩ := z
  obtain ⟨h', e'⟩ := spec ns hl
  have nl : ∀ m, live ([] : Hd) m = true → False := fun m q => by simp [live] at q
  refine ⟨⟨fun _ => a, fun _ => False⟩, [], [.fl (ns.map D.int)], ⟨fun m n q => (nl m q).elim, fun m o q => by simp at q, fun a z => z.elim, fun m q => (nl m q).elim⟩, ?_, ?_⟩
  · subst e
    simp only [RelVs', RelDs, RelD]
    refine ⟨.ref a, [], rfl, ⟨a, ns.map V.int, rfl, ?_, relInts ns⟩, rfl⟩
    rcases hS with (q | q) | q
    · rcases hO a with o | ⟨ob, xs, o⟩
      · rw [q] at o; cases o
      · rw [q] at o; cases o
    · exact .inl q
    · exact .inr q
  · rw [e']
    intro rho' H' x R' v r
    exact k v H' r.bl
end Mini
namespace Mini
open PySem PySem.Spec PyProof.Rows L2
/-! ### comprehensions of two clauses -/
def lcM2 (p : Pat) (tt : TF) (i1 : AF) (own1 : List Nat) (p1 : Pat) (tt1 : TF) (te : EF) (s0 : Ev) : List D → List D → Hd → Option (List D × Hd)
  | [], acc, h => some (acc, h)
  | d :: r, acc, h => match patD p d s0 with
    | some s1 => (match tt s1 h with
      | .ok true h1 => (match i1 s1 h1 with
        | .ok items h2 => (match lcM p1 tt1 te (wipeD s1 own1) items acc h2 with
          | some (acc', h3) => lcM2 p tt i1 own1 p1 tt1 te s0 r acc' h3
          | none => none)
        | _ => none)
      | .ok false h1 => lcM2 p tt i1 own1 p1 tt1 te s0 r acc h1
      | _ => none)
    | none => none
def endL (r : Option (List D × Hd)) : Res D := match r with
  | some (ys, h2) => Res.ok (.lv ys) h2
  | none => Res.fail
def e_lc2 (own : List Nat) (i : AF) (p : Pat) (tt : TF) (i1 : AF) (own1 : List Nat) (p1 : Pat) (tt1 : TF) (te : EF) : EF := fun s h => (i s h).bind fun items h1 => endL (lcM2 p tt i1 own1 p1 tt1 te (wipeD s own) items [] h1)
theorem drop_cons {l : List D} {i : Nat} {d : D} (h : l[i]? = some d) : l.drop i = d :: l.drop (i + 1) := by
  have hl := (List.getElem?_eq_some_iff.mp h).1
  rw [List.drop_eq_getElem_cons hl]
  congr 1
  exact (List.getElem?_eq_some_iff.mp h).2
theorem tE.lc2 {K : PySem.W.Frag} {mg : Str → Option Value} {W : WX} {own own1 : List Nat} {fi fi1 : AF} {p p1 : Pat} {tt tt1 : TF} {te : EF} (hp : ∀ i ∈ patI p, i ∈ own) (hp1 : ∀ i ∈ patI p1, i ∈ own1) {σ : L2.St} {H : Hp} {Q : VK} (q : tE K mg W (e_lc2 own fi p tt fi1 own1 p1 tt1 te) σ H Q) :
    tLc2 (tI K mg W fi) (patG K p) (tT K mg W0 tt) (tI K mg W0 fi1) (patG K p1) (tT K mg W0 tt1) (tE K mg W0 te) own own1 σ H Q := by
  obtain ⟨rho, h, s, R, S, po⟩ := q
  refine step R S po fun rho0 h0 H0 items e0 R0 S0 po0 J sv => fun Dl np => ?_
  refine ⟨fun i k H => i + k = items.length ∧ ∃ rho h acc us, Ext K rho0 h0 H0 rho h H ∧ rho.Z Dl ∧ Rel K rho h H ∧ H Dl = some (.lst us) ∧ RelVs' K rho h H acc us ∧
      PostG K mg (fun c d H' => W c d σ H') rho0 h0 H0 (endL (lcM2 p tt fi1 own1 p1 tt1 te (wipeD s own) (items.drop i) acc h)) (pE K Q), ?_, fun i k H q => ?_⟩
  · exact ⟨items.length, by simp, zAdd rho0 Dl, h0, [], [], Ext.zin R0 np, .inr rfl, R0.zin np, upd_same, by simp only [RelVs', RelDs], by simpa using po0⟩
  · obtain ⟨hk, rho1, h1, acc, us, x1, hz, R1, hD, ra, po1⟩ := q
    have nD : ∀ m, live h1 m = true → rho1 m ≠ Dl := fun m hm q => R1.zc m hm (q ▸ hz)
    obtain ⟨s1, s2⟩ := sv rho1 h1 H x1.z R1 i
    cases hi : items[i]? with
    | none =>
      have hl : items.length ≤ i := List.getElem?_eq_none_iff.mp hi
      rw [List.drop_eq_nil_of_le hl] at po1
      refine .inl ⟨s2 hl, po1 (zDel rho1 Dl) H (Ext.zdel R0 x1 np) R1.zdel _ ?_⟩
      simp only [RelV', RelD]
      exact ⟨Dl, us, rfl, ⟨hD, fun z => z.2 rfl, nD⟩, RelDs.zdel _ _ _ ra⟩
    | some d =>
      have hl : i < items.length := (List.getElem?_eq_some_iff.mp hi).1
      rw [drop_cons hi] at po1
      obtain ⟨go, yl⟩ := s1 d hi
      refine .inr ⟨go, fun H' => ∃ rho h acc us, Ext K rho0 h0 H0 rho h H' ∧ rho.Z Dl ∧ Rel K rho h H' ∧ H' Dl = some (.lst us) ∧ RelVs' K rho h H' acc us ∧
          PostG K mg (fun c d H' => W c d σ H') rho0 h0 H0 (endL (lcM2 p tt fi1 own1 p1 tt1 te (wipeD s own) (items.drop (i + 1)) acc h)) (pE K Q),
        fun H' z => ⟨k - 1, by omega, by omega, z⟩, fun x H2 y => ?_⟩
      obtain ⟨e2, R2, r⟩ := yl x H2 y
      have hD2 := e2.kp _ _ hD nD
      simp only [lcM2] at po1
      cases q : patD p d (wipeD s own) with
      | none => simp only [q] at po1; exact po1.elim
      | some s1' =>
        simp only [q] at po1
        have x2 := x1.trans e2
        obtain ⟨σ', S', z, wp⟩ := patG_ok p d x (wipeD s own) s1' (wipe σ own) r (RelS.wipe (x2.s S0) own) q
        refine z _ ⟨by rw [wp own hp, wipe_wipe], rho1, h1, s1', R2, S', ?_⟩
        cases qt : tt s1' h1 with
        | fail => simp only [qt] at po1; exact po1.elim
        | exc _ _ => simp only [qt] at po1; exact po1.elim
        | ok c h2 =>
          simp only [qt] at po1
          intro rho3 H3 e3 R3
          have hz3 : rho3.Z Dl := e3.zi _ hz
          have hD3 := e3.kp _ _ hD2 nD
          have nD3 : ∀ m, live h2 m = true → rho3 m ≠ Dl := fun m hm q => R3.zc m hm (q ▸ hz3)
          cases c with
          | false => exact iteF ⟨rho3, h2, acc, us, x2.trans e3, hz3, R3, hD3, (e2.trans e3).vs ra, po1⟩
          | true =>
            refine iteT ⟨rho3, h2, s1', R3, e3.s S', ?_⟩
            cases qi : fi1 s1' h2 with
            | fail => simp only [qi] at po1; exact po1.elim
            | exc _ _ => simp only [qi] at po1; exact po1.elim
            | ok its h3 =>
              simp only [qi] at po1
              intro rho4 H4 e4 R4 J1 sv1
              have S4 := e4.s (e3.s S')
              have hD4 := e4.kp _ _ hD3 nD3
              have hz4 : rho4.Z Dl := e4.zi _ hz3
              have ra4 := (e2.trans (e3.trans e4)).vs ra
              have x4 := x2.trans (e3.trans e4)
              refine ⟨fun j k H => j + k = its.length ∧ ∃ rho h acc us, ExtZ K rho4 h3 H4 rho h H ∧ rho.Z Dl ∧ Ext K rho0 h0 H0 rho h H ∧ Rel K rho h H ∧ H Dl = some (.lst us) ∧ RelVs' K rho h H acc us ∧
                  PostG K mg (fun c d H' => W c d σ H') rho0 h0 H0 (endL (match lcM p1 tt1 te (wipeD s1' own1) (its.drop j) acc h with
                    | some (acc', h3) => lcM2 p tt fi1 own1 p1 tt1 te (wipeD s own) (items.drop (i + 1)) acc' h3
                    | none => none)) (pE K Q), ⟨its.length, by simp, rho4, h3, acc, us, Ext.refl.z, hz4, x4, R4, hD4, ra4, by simpa using po1⟩, fun j k H q => ?_⟩
              obtain ⟨hk1, rho5, h5, acc5, us5, x5, hz5, X5, R5, hD5, ra5, po5⟩ := q
              have nD5 : ∀ m, live h5 m = true → rho5 m ≠ Dl := fun m hm q => R5.zc m hm (q ▸ hz5)
              obtain ⟨t1, t2⟩ := sv1 rho5 h5 H x5 R5 j
              cases hj : its[j]? with
              | none =>
                have hl : its.length ≤ j := List.getElem?_eq_none_iff.mp hj
                rw [List.drop_eq_nil_of_le hl] at po5
                exact .inl ⟨t2 hl, rho5, h5, acc5, us5, X5, hz5, R5, hD5, ra5, po5⟩
              | some d1 =>
                have hl : j < its.length := (List.getElem?_eq_some_iff.mp hj).1
                rw [drop_cons hj] at po5
                obtain ⟨go1, yl1⟩ := t1 d1 hj
                refine .inr ⟨go1, fun H' => ∃ rho h acc us, ExtZ K rho4 h3 H4 rho h H' ∧ rho.Z Dl ∧ Ext K rho0 h0 H0 rho h H' ∧ Rel K rho h H' ∧ H' Dl = some (.lst us) ∧ RelVs' K rho h H' acc us ∧
                    PostG K mg (fun c d H' => W c d σ H') rho0 h0 H0 (endL (match lcM p1 tt1 te (wipeD s1' own1) (its.drop (j + 1)) acc h with
                      | some (acc', h3) => lcM2 p tt fi1 own1 p1 tt1 te (wipeD s own) (items.drop (i + 1)) acc' h3
                      | none => none)) (pE K Q),
                  fun H' z => ⟨k - 1, by omega, by omega, z⟩, fun x H6 y => ?_⟩
                obtain ⟨e6, R6, r1⟩ := yl1 x H6 y
                have hD6 := e6.kp _ _ hD5 nD5
                simp only [lcM] at po5
                cases q1 : patD p1 d1 (wipeD s1' own1) with
                | none => simp only [q1] at po5; exact po5.elim
                | some s2' =>
                  simp only [q1] at po5
                  obtain ⟨σ2, S2, z2, wp2⟩ := patG_ok p1 d1 x (wipeD s1' own1) s2' (wipe σ' own1) r1 (RelS.wipe ((x5.trans e6.z).s S4) own1) q1
                  refine z2 _ ⟨by rw [wp2 own1 hp1, wipe_wipe], rho5, h5, s2', R6, S2, ?_⟩
                  cases qt1 : tt1 s2' h5 with
                  | fail => simp only [qt1] at po5; exact po5.elim
                  | exc _ _ => simp only [qt1] at po5; exact po5.elim
                  | ok c1 h6 =>
                    simp only [qt1] at po5
                    intro rho7 H7 e7 R7
                    have hz7 : rho7.Z Dl := e7.zi _ hz5
                    have hD7 := e7.kp _ _ hD6 nD5
                    cases c1 with
                    | false => exact iteF ⟨rho7, h6, acc5, us5, x5.trans (e6.trans e7).z, hz7, X5.trans (e6.trans e7), R7, hD7, (e6.trans e7).vs ra5, po5⟩
                    | true =>
                      refine iteT ⟨rho7, h6, s2', R7, e7.s S2, ?_⟩
                      cases qe : te s2' h6 with
                      | fail => simp only [qe] at po5; exact po5.elim
                      | exc _ _ => simp only [qe] at po5; exact po5.elim
                      | ok yv h8 =>
                        simp only [qe] at po5
                        intro rho8 H8 e8 R8 v rv
                        have nD7 : ∀ m, live h6 m = true → rho7 m ≠ Dl := fun m hm q => R7.zc m hm (q ▸ hz7)
                        have hD8 := e8.kp _ _ hD7 nD7
                        have hz8 : rho8.Z Dl := e8.zi _ hz7
                        have ra8 := (e6.trans (e7.trans e8)).vs ra5
                        by_cases hlen : acc5.length < sizeLine
                        · simp only [hlen, if_true] at po5
                          refine ⟨us5, hD8, by rw [← RelDs.length ra5]; exact hlen, rho8, h8, acc5 ++ [yv], us5 ++ [v], ?_, hz8, (X5.trans (e6.trans (e7.trans e8))).over np, R8.grow hD8 hz8, upd_same, ?_, po5⟩
                          · exact (x5.trans (e6.trans (e7.trans e8)).z).grow hD4 hz4
                          · refine RelDs.append (RelDs.grow hD8 hz8 _ _ _ ra8) ?_
                            simp only [RelDs]
                            exact ⟨v, [], rfl, RelD.grow hD8 hz8 _ _ _ rv, rfl⟩
                        · simp only [hlen, if_false] at po5; exact po5.elim
section
variable {X : Cx} {W : WX} {elt tg iter tg1 iter1 : Expr} {ifs ifs1 : List Expr} {scope : Scope} {own : List (Str × Nat)} {pos : Pos} {fi fi1 : AF} {p p1 : Pat} {tt tt1 : TF} {te : EF}
/-- what the second clause asks of its parts -/
structure Blk2 (X : Cx) (scope : Scope) (tg iter : Expr) (ifs : List Expr) (fi : AF) (p : Pat) (tt : TF) : Prop where
  hi : ∀ (s : Shared) (H : Hp) (C : Addr) (cl : List (Str × Addr)) (fp : List Addr), SI (X.blk s H scope (compEnvC scope cl C X.env) fp) W0 tg iter fi
  hg : ∀ (s : Shared) (H : Hp) (C : Addr) (cl : List (Str × Addr)) (fp : List Addr), SG (X.blk s H scope (compEnvC scope cl C X.env) fp) tg p
  ht : ∀ (s : Shared) (H : Hp) (C : Addr) (cl : List (Str × Addr)) (fp : List Addr), PTs (X.blk s H scope (compEnvC scope cl C X.env) fp) ifs (tT X.K X.mg W0 tt)
theorem r_lc2 {oi oi1 : List Nat} (hN : X.N.Nodup) (hc : X.calm = true) (hi : SI X W tg iter fi) (ok : BlkOk X.N X.env.scope scope own) (b : Blk X scope tg ifs elt p tt te) (b1 : Blk2 X scope tg1 iter1 ifs1 fi1 p1 tt1) (hp : ∀ i ∈ patI p, i ∈ oi) (hp1 : ∀ i ∈ patI p1, i ∈ oi1) (hv : ∀ i ∈ oi1, i ∈ oi)
    (ho : own.map (·.2) = oi := by rfl) (hs : ∀ x, foldedSetIterable iter X.env x = pure x := by intro _; rfl) (hs1 : ∀ env x, foldedSetIterable iter1 env x = pure x := by intro _ _; rfl) :
    SE X W (.ListComp elt [⟨tg, iter, ifs, 0⟩, ⟨tg1, iter1, ifs1, 0⟩] scope pos) (e_lc2 oi fi p tt fi1 oi1 p1 tt1 te) := by
  subst ho
  exact PE.imp (pe_lc2 hc hN hi ok hv b.hg b.ht b1.hi b1.hg b1.ht b.he hs hs1) fun _ _ _ h => tE.lc2 hp hp1 h
theorem r_setLc2 {oi oi1 : List Nat} {i : Nat} {y : Str} {py spos : Pos} (hN : X.N.Nodup) (hc : X.calm = true) (hi : SI X W tg iter fi) (ok : BlkOk X.N X.env.scope scope own) (b : Blk X scope tg ifs elt p tt te) (b1 : Blk2 X scope tg1 iter1 ifs1 fi1 p1 tt1) (hp : ∀ i ∈ patI p, i ∈ oi) (hp1 : ∀ i ∈ patI p1, i ∈ oi1) (hv : ∀ i ∈ oi1, i ∈ oi)
    (hsw : swapsWith (.ListComp elt [⟨tg, iter, ifs, 0⟩, ⟨tg1, iter1, ifs1, 0⟩] scope pos) (some (.Name y py)) spos.line X.env = pure true) (ho : own.map (·.2) = oi := by rfl) (hy : X.N[i]? = some y := by rfl) (hyl : X.env.scope.names.lookup y = some .local := by rfl) (hs : ∀ x, foldedSetIterable iter X.env x = pure x := by intro _; rfl) (hs1 : ∀ env x, foldedSetIterable iter1 env x = pure x := by intro _ _; rfl) :
    SS X W (.Assign [.Name y py] (.ListComp elt [⟨tg, iter, ifs, 0⟩, ⟨tg1, iter1, ifs1, 0⟩] scope pos) spos) (s_set i (e_lc2 oi fi p tt fi1 oi1 p1 tt1 te)) := by
  subst ho
  exact PS.imp (ps_setLc2 hc hN hy hyl hsw hi ok hv b.hg b.ht b1.hi b1.hg b1.ht b.he hs hs1) fun E σ H h => by
    obtain ⟨rho, h, s, R, S, po⟩ := h
    exact tE.lc2 (W := W) hp hp1 (stepS R S po fun rho1 h1 H1 x e1 R1 S1 po1 v r => PostG.ok po1 R1 _ (S1.set r i))
end
/-! ### ranges with a step -/
def rangeC (lo c : Int) : Nat → List D
  | 0 => []
  | n + 1 => .int lo :: rangeC (lo + c) c n
theorem rangeC_length : ∀ (n : Nat) (lo c : Int), (rangeC lo c n).length = n
  | 0, _, _ => rfl
  | n + 1, lo, c => by simp [rangeC, rangeC_length n]
theorem rangeC_get : ∀ (n i : Nat) (lo c : Int) (d : D), (rangeC lo c n)[i]? = some d → d = .int (lo + i * c) ∧ i < n
  | 0, i, lo, c, d, e => by simp [rangeC] at e
  | n + 1, 0, lo, c, d, e => by simp [rangeC] at e; subst e; simp
  | n + 1, i + 1, lo, c, d, e => by
    simp only [rangeC, List.getElem?_cons_succ] at e
    obtain ⟨a, b⟩ := rangeC_get n i (lo + c) c d e
    refine ⟨?_, by omega⟩
    rw [a]; congr 1
    rw [show (((i + 1 : Nat) : Int)) = (i : Int) + 1 by omega, Int.add_mul, Int.one_mul]; omega
theorem serves_rangeC {K : PySem.W.Frag} {rho : Rh} {h : Hd} {H : Hp} (lo c : Int) (n : Nat) : Serves K (Itc lo c n) (rangeC lo c n) rho h H := by
  intro rho' h' H' e R i
  refine ⟨fun d hd => ?_, fun hl => by rw [rangeC_length] at hl; exact hl⟩
  obtain ⟨a, b⟩ := rangeC_get n i lo c d hd
  subst a
  exact ⟨b, fun x H2 ⟨q1, q2⟩ => by subst q1 q2; exact ⟨Ext.refl, R, relInt _⟩⟩
def i_rng3 (a : AF) : AF := fun s h => (a s h).bind fun ds h1 => match ds with
  | [.int i, .int j, .int c] => if c ≠ 0 ∧ c.natAbs < 1073741824 ∧ Builtin.Range.small i j c = true then .ok (rangeC i c (Builtin.Range.rangeSize i j c).toNat) h1 else .fail
  | _ => .fail
theorem rangeSize_nn {i j c : Int} (hc : c ≠ 0) : 0 ≤ Builtin.Range.rangeSize i j c := by
  unfold Builtin.Range.rangeSize
  split
  · split
    · have := Int.ediv_nonneg (a := j - i - 1) (b := c) (by omega) (by omega); omega
    · omega
  · split
    · have := Int.ediv_nonneg (a := i - j - 1) (b := -c) (by omega) (by omega); omega
    · omega
section
variable {X : Cx} {W : WX} {tg a b c : Expr} {p pos : Pos} {fa : AF}
theorem ri_range3 (hm : X.mg "range" = none) (ha : SA X W [a, b, c] fa) (hg : Gl X "range" := by rfl) (hs : starEach [a, b, c] X.env = (false, eval a X.env) :: starEach [b, c] X.env := by rfl) (hpl : (backTo pos (starEach [b, c] X.env)).any (·.1) = false := by rfl) :
    SI X W tg (.Call (.Name "range" p) [a, b, c] [] pos) (i_rng3 fa) := PI.imp (pi_range3 hg hm ha hs hpl) fun σ H Q q => by
  obtain ⟨rho, h, s, R, S, po⟩ := q
  refine step R S po fun rho1 h1 H1 ds e1 R1 S1 po1 vs r => ?_
  split at po1
  · rename_i i j c
    by_cases q : c ≠ 0 ∧ c.natAbs < 1073741824 ∧ Builtin.Range.small i j c = true
    · rw [if_pos q] at po1
      simp only [RelVs', RelDs, RelD] at r
      obtain ⟨v, rr, e2, e3, v2, rr2, e4, e5, v3, rr3, e6, e7, e8⟩ := r
      subst e8 e7 e6 e5 e4 e3
      exact ⟨i, j, c, _, e2, ⟨q.1, q.2.1, q.2.2, (Int.toNat_of_nonneg (rangeSize_nn q.1)).symm⟩, PostG.ok po1 R1 _ (serves_rangeC i c _)⟩
    · rw [if_neg q] at po1; exact po1.elim
  · exact po1.elim
end
/-! ### sorted -/
def insK (k : D → Int) (d : D) : List D → List D
  | [] => [d]
  | e :: r => if k d ≤ k e then d :: e :: r else e :: insK k d r
def sortK (k : D → Int) : List D → List D
  | [] => []
  | d :: r => insK k d (sortK k r)
theorem insK_perm (k : D → Int) (d : D) : ∀ l, (insK k d l).Perm (d :: l)
  | [] => .refl _
  | e :: r => by
    unfold insK
    split
    · exact .refl _
    · exact ((insK_perm k d r).cons e).trans (.swap d e r)
theorem sortK_perm (k : D → Int) : ∀ l, (sortK k l).Perm l
  | [] => .refl _
  | d :: r => (insK_perm k d _).trans ((sortK_perm k r).cons d)
theorem insK_sorted (k : D → Int) (d : D) : ∀ l, l.Pairwise (fun a b => k a ≤ k b) → (insK k d l).Pairwise (fun a b => k a ≤ k b)
  | [], _ => by simp [insK]
  | e :: r, h => by
    rw [List.pairwise_cons] at h
    unfold insK
    split
    · rename_i q
      rw [List.pairwise_cons]
      refine ⟨fun b hb => ?_, List.pairwise_cons.mpr h⟩
      rcases List.mem_cons.mp hb with rfl | hb
      · exact q
      · exact Int.le_trans q (h.1 b hb)
    · rename_i q
      rw [List.pairwise_cons]
      refine ⟨fun b hb => ?_, insK_sorted k d r h.2⟩
      rcases List.mem_cons.mp ((insK_perm k d r).mem_iff.mp hb) with rfl | hb
      · omega
      · exact h.1 b hb
theorem sortK_sorted (k : D → Int) : ∀ l, (sortK k l).Pairwise (fun a b => k a ≤ k b)
  | [] => by simp [sortK]
  | d :: r => insK_sorted k d _ (sortK_sorted k r)
theorem sortK_uniq {k : D → Int} {ds es : List D} (p : es.Perm ds) (s : es.Pairwise (fun a b => k a ≤ k b)) (inj : ∀ a ∈ ds, ∀ b ∈ ds, k a = k b → a = b) : es = sortK k ds :=
  List.Perm.eq_of_pairwise (le := fun a b => k a ≤ k b) (fun a b ha hb h1 h2 => inj a (p.mem_iff.mp ha) b ((sortK_perm k ds).mem_iff.mp hb) (Int.le_antisymm h1 h2)) s (sortK_sorted k ds) (p.trans (sortK_perm k ds).symm)
section
variable {K : PySem.W.Frag} {rho : Rh} {h : Hd} {H : Hp} {B : Nat}
theorem RelDs.lift {us us' : List V} (p : us'.Perm us) : ∀ {ds : List D}, RelDs K rho h B H ds us → ∃ es, es.Perm ds ∧ RelDs K rho h B H es us' := by
  induction p with
  | nil => intro ds r; exact ⟨ds, .refl _, r⟩
  | cons x p ih =>
    intro ds r
    cases ds with
    | nil => simp only [RelDs] at r; cases r
    | cons d ds =>
      simp only [RelDs] at r
      obtain ⟨v, rr, e1, e2, e3⟩ := r
      cases e1
      obtain ⟨es, p1, p2⟩ := ih e3
      exact ⟨d :: es, p1.cons d, by simp only [RelDs]; exact ⟨_, _, rfl, e2, p2⟩⟩
  | swap x y l =>
    intro ds r
    match ds, r with
    | [], r => simp only [RelDs] at r; cases r
    | [d], r => simp only [RelDs] at r; obtain ⟨v, rr, e1, e2, e3⟩ := r; cases e1; cases e3
    | d :: e :: ds, r =>
      simp only [RelDs] at r
      obtain ⟨v, rr, e1, e2, v', rr', e3, e4, e5⟩ := r
      cases e1
      cases e3
      exact ⟨e :: d :: ds, .swap d e ds, by simp only [RelDs]; exact ⟨_, _, rfl, e4, _, _, rfl, e2, e5⟩⟩
  | trans p q ih1 ih2 =>
    intro ds r
    obtain ⟨es, a, b⟩ := ih2 r
    obtain ⟨fs, c, d⟩ := ih1 b
    exact ⟨fs, c.trans a, d⟩
end
def keyI (d : D) : Int := match d with
  | .int i => i
  | _ => 0
def tupI (d : D) : Option (List Int) := match d with
  | .tup xs => intsOf xs
  | _ => none
def bdB (ns : List Int) : Bool := ns.all fun m => decide (0 ≤ m) && decide (m < 1000000)
def tupOk (n : Nat) (x : D) : Bool := match tupI x with
  | some ns => ns.length == n && bdB ns
  | none => false
def keyT (x : D) : Int := TS.code 1000000 ((tupI x).getD [])
def sortedP (m : Bool) : PL := fun ds h => match ds with
  | [d] => match asL d h with
    | some xs => (match intsOf xs with
      | some _ => mkL m (sortK keyI xs) h
      | none => (match xs with
        | x :: _ => if 1 ≤ ((tupI x).getD []).length ∧ xs.length < 64 ∧ xs.all (tupOk ((tupI x).getD []).length) = true then mkL m (sortK keyT xs) h else none
        | [] => none))
    | none => none
  | _ => none
theorem bdB_ok {ns : List Int} (e : bdB ns = true) : TS.Bd 1000000 ns := by
  unfold bdB at e
  rw [List.all_eq_true] at e
  intro m hm
  have := e m hm
  rw [Bool.and_eq_true] at this
  exact ⟨of_decide_eq_true this.1, of_decide_eq_true this.2⟩
theorem code_inj {B : Int} : ∀ (a b : List Int), a.length = b.length → TS.Bd B a → TS.Bd B b → TS.code B a = TS.code B b → a = b
  | [], [], _, _, _, _ => rfl
  | [], _ :: _, h, _, _, _ => by simp at h
  | _ :: _, [], h, _, _, _ => by simp at h
  | x :: a, y :: b, hl, ha, hb, e => by
    have hl' : a.length = b.length := by simpa using hl
    have hxy : x = y := by
      rcases Int.lt_trichotomy x y with q | q | q
      · have := TS.code_lt hl' ha.tail hb.tail q; omega
      · exact q
      · have := TS.code_lt hl'.symm hb.tail ha.tail q; omega
    subst hxy
    have e2 : TS.code B a = TS.code B b := by
      simp only [TS.code, hl'] at e
      omega
    rw [code_inj a b hl' ha.tail hb.tail e2]
theorem intsOf_mem : ∀ {xs : List D} {ns : List Int}, intsOf xs = some ns → ∀ x ∈ xs, ∃ i, x = .int i
  | [], ns, e, x, hx => by simp at hx
  | .int i :: xs, ns, e, x, hx => by
    simp only [intsOf] at e
    cases q : intsOf xs with
    | none => rw [q] at e; cases e
    | some ms =>
      rcases List.mem_cons.mp hx with rfl | hx
      · exact ⟨i, rfl⟩
      · exact intsOf_mem q x hx
  | .non :: xs, ns, e, x, hx => by simp [intsOf] at e
  | .bl _ :: xs, ns, e, x, hx => by simp [intsOf] at e
  | .str _ :: xs, ns, e, x, hx => by simp [intsOf] at e
  | .tup _ :: xs, ns, e, x, hx => by simp [intsOf] at e
  | .lv _ :: xs, ns, e, x, hx => by simp [intsOf] at e
  | .fl _ :: xs, ns, e, x, hx => by simp [intsOf] at e
  | .ref _ :: xs, ns, e, x, hx => by simp [intsOf] at e
theorem intsOf_map : ∀ {xs : List D} {ns : List Int}, intsOf xs = some ns → xs = ns.map D.int
  | [], ns, e => by simp only [intsOf, Option.some.injEq] at e; subst e; rfl
  | .int i :: xs, ns, e => by
    simp only [intsOf] at e
    cases q : intsOf xs with
    | none => rw [q] at e; cases e
    | some ms => rw [q] at e; cases e; rw [intsOf_map q]; rfl
  | .non :: xs, ns, e => by simp [intsOf] at e
  | .bl _ :: xs, ns, e => by simp [intsOf] at e
  | .str _ :: xs, ns, e => by simp [intsOf] at e
  | .tup _ :: xs, ns, e => by simp [intsOf] at e
  | .lv _ :: xs, ns, e => by simp [intsOf] at e
  | .fl _ :: xs, ns, e => by simp [intsOf] at e
  | .ref _ :: xs, ns, e => by simp [intsOf] at e
theorem tupOk_inj {n : Nat} {a b : D} (ha : tupOk n a = true) (hb : tupOk n b = true) (e : keyT a = keyT b) : a = b := by
  unfold tupOk at ha hb
  unfold keyT at e
  cases qa : tupI a with
  | none => rw [qa] at ha; cases ha
  | some x =>
    cases qb : tupI b with
    | none => rw [qb] at hb; cases hb
    | some y =>
      rw [qa] at ha e
      rw [qb] at hb e
      simp only [Bool.and_eq_true, beq_iff_eq] at ha hb
      have := code_inj x y (ha.1.trans hb.1.symm) (bdB_ok ha.2) (bdB_ok hb.2) e
      subst this
      unfold tupI at qa qb
      split at qa
      · split at qb
        · rw [intsOf_map qa, intsOf_map qb]
        · cases qb
      · cases qa
section
variable {X : Cx}
theorem c_sorted (m : Bool) : CallR X (.builtin "sorted") (rC X.K (sortedP m)) := by
  intro pins s σ H xs us Q I rx q
  obtain ⟨rho, h, ds, R, r, po⟩ := q
  unfold sortedP at po
  split at po
  · rename_i d
    cases qa : asL d h with
    | none => rw [qa] at po; exact po.elim
    | some ys =>
      rw [qa] at po
      simp only at po
      obtain ⟨v, e, r⟩ := rel1 r
      obtain ⟨a, ws, e1, e2, e3⟩ := asL_ok R r qa
      subst e1
      cases qi : intsOf ys with
      | some ns =>
        rw [qi] at po
        simp only at po
        refine cr_sortedI pins s σ H xs us Q I rx ⟨a, ns, e, by rw [← intsOf_ok e3 qi]; exact e2, fun ns' p hp hs hn => ?_⟩
        rw [intsOf_ok e3 qi] at e3
        obtain ⟨es, p1, p2⟩ := RelDs.lift (hp.map V.int) e3
        refine post_mkL R (xs := sortK keyI ys) ?_ po hn
        have ee : es = ns'.map D.int := by
          have : intsOf es = some ns' := by
            have al : ∀ x ∈ es, ∃ i, x = .int i := fun x hx => intsOf_mem qi x (p1.mem_iff.mp hx)
            clear p1 po hs hp
            induction es generalizing ns' with
            | nil =>
              simp only [RelDs] at p2
              cases ns' with
              | nil => rfl
              | cons _ _ => cases p2
            | cons x es ih =>
              obtain ⟨i, rfl⟩ := al x (by simp)
              simp only [RelDs, RelD] at p2
              obtain ⟨v, rr, e1, e2, e3⟩ := p2
              cases ns' with
              | nil => cases e1
              | cons n ns' =>
                simp only [List.map_cons, List.cons.injEq] at e1
                obtain ⟨e4, e5⟩ := e1
                subst e5
                rw [← e4] at e2
                cases e2
                simp only [intsOf, ih _ e3 fun x hx => al x (by simp [hx])]
                rfl
          exact intsOf_map this
        have so : es.Pairwise (fun a b => keyI a ≤ keyI b) := by
          rw [ee, List.pairwise_map]
          exact hs
        rw [← sortK_uniq p1 so fun a ha b hb e => by
          obtain ⟨i, rfl⟩ := intsOf_mem qi a ha
          obtain ⟨j, rfl⟩ := intsOf_mem qi b hb
          simp only [keyI] at e
          rw [e]]
        exact p2
      | none =>
        rw [qi] at po
        simp only at po
        cases ys with
        | nil => exact po.elim
        | cons x ys =>
          simp only at po
          by_cases c : 1 ≤ ((tupI x).getD []).length ∧ (x :: ys).length < 64 ∧ (x :: ys).all (tupOk ((tupI x).getD []).length) = true
          · rw [if_pos c] at po
            generalize ((tupI x).getD []).length = n at c
            obtain ⟨c1, c2, c3⟩ := c
            rw [List.all_eq_true] at c3
            have tv : ∀ (z : D) (v : V), tupOk n z = true → RelV' X.K rho h H z v → ∃ ns, TupI X.K H v ns ∧ ns.length = n ∧ TS.Bd 1000000 ns ∧ TS.code 1000000 ns = keyT z := by
              intro z v hz rz
              unfold tupOk at hz
              cases qz : tupI z with
              | none => rw [qz] at hz; cases hz
              | some ns =>
                rw [qz] at hz
                simp only [Bool.and_eq_true, beq_iff_eq] at hz
                refine ⟨ns, ?_, hz.1, bdB_ok hz.2, by unfold keyT; rw [qz]; rfl⟩
                unfold tupI at qz
                split at qz
                · obtain ⟨t, ts, q1, q2, q3⟩ := rz.tup
                  exact ⟨t, q1, by rw [← intsOf_ok q3 qz]; exact q2⟩
                · cases qz
            have mem : ∀ (l : List D) (vs : List V), RelVs' X.K rho h H l vs → ∀ v ∈ vs, ∃ z ∈ l, RelV' X.K rho h H z v := by
              intro l
              induction l with
              | nil => intro vs r v hv; simp only [RelVs', RelDs] at r; subst r; simp at hv
              | cons z l ih =>
                intro vs r v hv
                simp only [RelVs', RelDs] at r
                obtain ⟨w, rr, e1, e2, e3⟩ := r
                subst e1
                rcases List.mem_cons.mp hv with rfl | hv
                · exact ⟨z, by simp, e2⟩
                · obtain ⟨y, a, b⟩ := ih rr e3 v hv
                  exact ⟨y, by simp [a], b⟩
            refine cr_sortT (d := n) (B := 1000000) c1 pins s σ H xs us Q I rx ⟨a, ws, e, e2, by rw [← RelDs.length e3]; exact c2, fun v hv => ?_, fun vs p hp hs hn => ?_⟩
            · obtain ⟨z, hz, rz⟩ := mem _ _ e3 v hv
              obtain ⟨ns, t1, t2, t3, _⟩ := tv z v (c3 z hz) rz
              exact ⟨ns, t1, t2, t3⟩
            · obtain ⟨es, p1, p2⟩ := RelDs.lift hp e3
              refine post_mkL R (xs := sortK keyT (x :: ys)) ?_ po hn
              have so : es.Pairwise (fun a b => keyT a ≤ keyT b) := by
                have al : ∀ z ∈ es, tupOk n z = true := fun z hz => c3 z (p1.mem_iff.mp hz)
                clear p1 hp po
                induction es generalizing vs with
                | nil => exact .nil
                | cons z es ih =>
                  simp only [RelDs] at p2
                  obtain ⟨w, rr, f1, f2, f3⟩ := p2
                  subst f1
                  rw [List.pairwise_cons] at hs
                  rw [List.pairwise_cons]
                  refine ⟨fun y hy => ?_, ih rr hs.2 f3 fun z hz => al z (by simp [hz])⟩
                  obtain ⟨k, hk⟩ := List.mem_iff_getElem?.mp hy
                  obtain ⟨u, u1, u2⟩ := RelDs.get f3 hk
                  obtain ⟨n1, t1, _, _, t2⟩ := tv z w (al z (by simp)) f2
                  obtain ⟨n2, t3, _, _, t4⟩ := tv y u (al y (by simp [hy])) u2
                  rw [← t2, ← t4]
                  exact hs.1 u (List.mem_of_getElem? u1) n1 n2 t1 t3
              rw [← sortK_uniq p1 so fun a ha b hb e => tupOk_inj (c3 a ha) (c3 b hb) e]
              exact p2
          · rw [if_neg c] at po; exact po.elim
  · exact po.elim
end
/-- a comprehension within a comprehension -/
theorem blkOk_in {X : Cx} {s : Shared} {H : Hp} {scope0 : Scope} {cl : List (Str × Addr)} {C : Addr} {fp : List Addr} {N : List Str} {sc scope : Scope} {own : List (Str × Nat)} (h : blkC N (relS scope0 sc) scope own = true) (hN : X.N = N := by rfl) (hsc : X.env.scope = sc := by rfl) :
    BlkOk (X.blk s H scope0 (compEnvC scope0 cl C X.env) fp).N (X.blk s H scope0 (compEnvC scope0 cl C X.env) fp).env.scope scope own := by
  subst hN hsc
  exact blkOk_by h
end Mini
namespace Mini
open PySem L2
/-! ### running mirrors -/
@[simp] theorem bind_ok {α β : Type} (a : α) (h : Hd) (k : α → Hd → Res β) : (Res.ok a h).bind k = k a h := id rfl
@[simp] theorem bindE_ok {α : Type} (a : α) (h : Hd) (s : Ev) (k : α → Hd → Res Fl) : bindE (.ok a h) s k = k a h := id rfl
@[simp] theorem lift_some {α : Type} (d : α) (h : Hd) : lift (some (d, h)) = .ok d h := id rfl
theorem whileM_succ (t : TF) (b : SF) (n : Nat) (s : Ev) (h : Hd) : whileM t b (n + 1) s h = bindE (t s h) s fun c h1 => if c then (match b s h1 with
    | .ok (.nx s2) h2 => whileM t b n s2 h2
    | .ok (.ct s2) h2 => whileM t b n s2 h2
    | .ok (.bk s2) h2 => .ok (.nx s2) h2
    | r => r) else .ok (.nx s) h1 := rfl
/-- a for loop: an invariant by the turn; a turn goes on, or leaves the loop with what is wanted -/
theorem for_wp {p : Pat} {b : SF} {Q : Res Fl → Prop} (I : Nat → Ev → Hd → Prop) (items : List D) (s : Ev) (h : Hd) (h0 : I 0 s h)
    (hs : ∀ (i : Nat) (d : D) (s : Ev) (h : Hd), items[i]? = some d → I i s h → ∃ s1, patD p d s = some s1 ∧
      ((∃ s2 h2, b s1 h = .ok (.nx s2) h2 ∧ I (i + 1) s2 h2) ∨ (∃ s2 h2, b s1 h = .ok (.ct s2) h2 ∧ I (i + 1) s2 h2) ∨ (∃ s2 h2, b s1 h = .ok (.bk s2) h2 ∧ Q (.ok (.nx s2) h2)) ∨ (∃ d h2, b s1 h = .ok (.rt d) h2 ∧ Q (.ok (.rt d) h2))))
    (hd : ∀ s h, I items.length s h → Q (.ok (.nx s) h)) : Q (forM p b items s h) := by
  suffices H : ∀ (l : List D) (i : Nat) (s : Ev) (h : Hd), items.drop i = l → i ≤ items.length → I i s h → Q (forM p b l s h) from H items 0 s h rfl (Nat.zero_le _) h0
  intro l
  induction l with
  | nil =>
    intro i s h e hi q
    have : i = items.length := by
      have := congrArg List.length e
      simp at this; omega
    subst this
    exact hd s h q
  | cons d r ih =>
    intro i s h e hi q
    have hd' : items[i]? = some d := by
      have := congrArg (fun l => l[0]?) e
      simpa using this
    have hl : i < items.length := (List.getElem?_eq_some_iff.mp hd').1
    have er : items.drop (i + 1) = r := by
      have := congrArg List.tail e
      simpa using this
    obtain ⟨s1, e1, c⟩ := hs i d s h hd' q
    simp only [forM, e1]
    rcases c with ⟨s2, h2, e2, q2⟩ | ⟨s2, h2, e2, q2⟩ | ⟨s2, h2, e2, q2⟩ | ⟨d', h2, e2, q2⟩
    · rw [e2]; exact ih (i + 1) s2 h2 er hl q2
    · rw [e2]; exact ih (i + 1) s2 h2 er hl q2
    · rw [e2]; exact q2
    · rw [e2]; exact q2
/-- a while loop: I with a number that falls at each turn -/
theorem while_wp {t : TF} {b : SF} {Q : Res Fl → Prop} (I : Nat → Ev → Hd → Prop)
    (hs : ∀ (k : Nat) (s : Ev) (h : Hd), I k s h → (∃ h1, t s h = .ok false h1 ∧ Q (.ok (.nx s) h1)) ∨ (∃ h1, t s h = .ok true h1 ∧
      ((∃ s2 h2 k', b s h1 = .ok (.nx s2) h2 ∧ k' < k ∧ I k' s2 h2) ∨ (∃ s2 h2 k', b s h1 = .ok (.ct s2) h2 ∧ k' < k ∧ I k' s2 h2) ∨ (∃ s2 h2, b s h1 = .ok (.bk s2) h2 ∧ Q (.ok (.nx s2) h2)) ∨ (∃ d h2, b s h1 = .ok (.rt d) h2 ∧ Q (.ok (.rt d) h2))))) :
    ∀ (n k : Nat) (s : Ev) (h : Hd), k < n → I k s h → Q (whileM t b n s h)
  | 0, k, s, h, hk, q => by omega
  | n + 1, k, s, h, hk, q => by
    rw [whileM_succ]
    rcases hs k s h q with ⟨h1, e1, q1⟩ | ⟨h1, e1, c⟩
    · rw [e1]; exact q1
    · rw [e1]
      simp only [bindE_ok, if_true]
      rcases c with ⟨s2, h2, k', e2, lk, q2⟩ | ⟨s2, h2, k', e2, lk, q2⟩ | ⟨s2, h2, e2, q2⟩ | ⟨d', h2, e2, q2⟩
      · rw [e2]; exact while_wp I hs n k' s2 h2 (by omega) q2
      · rw [e2]; exact while_wp I hs n k' s2 h2 (by omega) q2
      · rw [e2]; exact q2
      · rw [e2]; exact q2
/-- a comprehension whose parts leave the heap: filter and map -/
theorem lc_pure {p : Pat} {tt : TF} {te : EF} {s0 : Ev} {h : Hd} (g : D → Bool) (f : D → D) : ∀ (items acc : List D), (∀ d ∈ items, ∃ s1, patD p d s0 = some s1 ∧ tt s1 h = .ok (g d) h ∧ (g d = true → te s1 h = .ok (f d) h)) →
    acc.length + items.length ≤ sizeLine → lcM p tt te s0 items acc h = some (acc ++ (items.filter g).map f, h)
  | [], acc, _, _ => by simp [lcM]
  | d :: r, acc, hp, hl => by
    obtain ⟨s1, e1, e2, e3⟩ := hp d (by simp)
    have ih := fun acc hl => lc_pure g f r acc (fun d hd => hp d (by simp [hd])) hl
    simp only [List.length_cons] at hl
    simp only [lcM, e1, e2]
    cases q : g d with
    | false => simp only; rw [ih acc (by omega)]; simp [q]
    | true =>
      simp only [e3 q]
      rw [if_pos (by omega), ih _ (by simp; omega)]
      simp [q]
/-- .. with an invariant of the heap (draws): what is made so far and what is left -/
theorem lc_wp {p : Pat} {tt : TF} {te : EF} {s0 : Ev} {Q : Option (List D × Hd) → Prop} (I : Nat → List D → Hd → Prop) (items : List D) (h : Hd) (h0 : I 0 [] h)
    (hs : ∀ (i : Nat) (d : D) (acc : List D) (h : Hd), items[i]? = some d → I i acc h → ∃ s1, patD p d s0 = some s1 ∧
      ((∃ h1, tt s1 h = .ok false h1 ∧ I (i + 1) acc h1) ∨ (∃ h1 y h2, tt s1 h = .ok true h1 ∧ te s1 h1 = .ok y h2 ∧ acc.length < sizeLine ∧ I (i + 1) (acc ++ [y]) h2)))
    (hd : ∀ acc h, I items.length acc h → Q (some (acc, h))) : Q (lcM p tt te s0 items [] h) := by
  suffices H : ∀ (l : List D) (i : Nat) (acc : List D) (h : Hd), items.drop i = l → i ≤ items.length → I i acc h → Q (lcM p tt te s0 l acc h) from H items 0 [] h rfl (Nat.zero_le _) h0
  intro l
  induction l with
  | nil =>
    intro i acc h e hi q
    have : i = items.length := by
      have := congrArg List.length e
      simp at this; omega
    subst this
    exact hd acc h q
  | cons d r ih =>
    intro i acc h e hi q
    have hd' : items[i]? = some d := by
      have := congrArg (fun l => l[0]?) e
      simpa using this
    have hl : i < items.length := (List.getElem?_eq_some_iff.mp hd').1
    have er : items.drop (i + 1) = r := by
      have := congrArg List.tail e
      simpa using this
    obtain ⟨s1, e1, c⟩ := hs i d acc h hd' q
    simp only [lcM, e1]
    rcases c with ⟨h1, e2, q2⟩ | ⟨h1, y, h2, e2, e3, hl2, q2⟩
    · rw [e2]; exact ih (i + 1) acc h1 er hl q2
    · rw [e2]; simp only [e3, if_pos hl2]; exact ih (i + 1) _ h2 er hl q2

@[simp] theorem addP_int (m : Bool) (i j : Int) (h : Hd) : addP m (.int i) (.int j) h = some (.int (i + j), h) := id rfl
@[simp] theorem subP_int (i j : Int) (h : Hd) : subP (.int i) (.int j) h = some (.int (i - j), h) := id rfl
@[simp] theorem negP_int (i : Int) (h : Hd) : negP (.int i) h = some (.int (-i), h) := id rfl
@[simp] theorem iaddP_int (i j : Int) (h : Hd) : iaddP (.int i) (.int j) h = some (.int (i + j), h) := id rfl
@[simp] theorem ltP_int (i j : Int) (h : Hd) : ltP (.int i) (.int j) h = some (.bl (decide (i < j)), h) := id rfl
@[simp] theorem leP_int (i j : Int) (h : Hd) : leP (.int i) (.int j) h = some (.bl (decide (i ≤ j)), h) := id rfl
@[simp] theorem gtP_int (i j : Int) (h : Hd) : gtP (.int i) (.int j) h = some (.bl (decide (j < i)), h) := id rfl
@[simp] theorem geP_int (i j : Int) (h : Hd) : geP (.int i) (.int j) h = some (.bl (decide (j ≤ i)), h) := id rfl
theorem modP_int {i j : Int} (hj : 0 < j) (h : Hd) : modP (.int i) (.int j) h = some (.int (i % j), h) := by simp [modP, hj]
theorem seq_nx {a b : SF} {s s1 : Ev} {h h1 : Hd} (e : a s h = .ok (.nx s1) h1) : s_seq a b s h = b s1 h1 := by simp [s_seq, e]
theorem seq_rt {a b : SF} {s : Ev} {h h1 : Hd} {d : D} (e : a s h = .ok (.rt d) h1) : s_seq a b s h = .ok (.rt d) h1 := by simp [s_seq, e]
/-- a def whose body returns -/
theorem fn_rt {np n : Nat} {b : SF} {ds : List D} {h h' : Hd} {d : D} (s0 : Ev) (d' : D) (e : b s0 h = .ok (.rt d) h') (hs : sealD h.length d h' = some d') (h0 : ds.map some ++ List.replicate (n - ds.length) none = s0 := by rfl) (hl : ds.length = np := by rfl) : fnM np n b ds h = .ok d' (h'.take h.length) := by
  unfold fnM runB
  rw [if_pos hl, h0, e]
  simp only [sealR, hs]
/-! ### the box of draws -/
def BoxAt (h : Hd) (b n : Nat) : Prop := ∃ x y z : Int, h[b]? = some (.lst [.int x, .int y, .int z]) ∧ 0 ≤ x ∧ 0 ≤ y ∧ y < 2 ^ 63 ∧ 0 ≤ z ∧ z ≤ n
/-- from h to h' only draws were made: at most k -/
structure Drawn (b : Nat) (h h' : Hd) (n k : Nat) : Prop where
  len : h'.length = h.length
  oth : ∀ m, m ≠ b → h'[m]? = h[m]?
  box : BoxAt h' b (n + k)
theorem Drawn.trans {b : Nat} {h h1 h2 : Hd} {n k j : Nat} (x : Drawn b h h1 n k) (y : Drawn b h1 h2 (n + k) j) : Drawn b h h2 n (k + j) :=
  ⟨y.len.trans x.len, fun m hm => (y.oth m hm).trans (x.oth m hm), by rw [← Nat.add_assoc]; exact y.box⟩
theorem BoxAt.mono {h : Hd} {b n m : Nat} (x : BoxAt h b n) (hm : n ≤ m) : BoxAt h b m := by
  obtain ⟨a, c, d, e, f, g, i, j, k⟩ := x
  exact ⟨a, c, d, e, f, g, i, j, by omega⟩
theorem Drawn.mono {b : Nat} {h h' : Hd} {n k j : Nat} (x : Drawn b h h' n k) (hk : k ≤ j) : Drawn b h h' n j := ⟨x.len, x.oth, x.box.mono (by omega)⟩
theorem Drawn.refl {b : Nat} {h : Hd} {n : Nat} (x : BoxAt h b n) : Drawn b h h n 0 := ⟨rfl, fun _ _ => rfl, x⟩
theorem BoxAt.lt {h : Hd} {b n : Nat} (x : BoxAt h b n) : b < h.length := by
  obtain ⟨_, _, _, e, _⟩ := x
  exact (List.getElem?_eq_some_iff.mp e).1
theorem in64_of {i : Int} (h1 : -(2 ^ 64) < i) (h2 : i < 2 ^ 64) : in64 i = true := by unfold in64; rw [decide_eq_true h1, decide_eq_true h2]; rfl
end Mini
namespace Mini
open PySem L2
/-! ### one step at a time -/
section
variable {s s1 : Ev} {h h1 h2 h3 : Hd} {d d1 d2 d3 : D} {f f1 f2 f3 : EF} {a k : AF} {t t2 : TF} {b1 b2 : SF}
theorem op_ok {g : P2} (e1 : f1 s h = .ok d1 h1) (e2 : f2 s h1 = .ok d2 h2) (e3 : g d1 d2 h2 = some (d, h3)) : e_op g f1 f2 s h = .ok d h3 := by simp only [e_op, e1, e2, bind_ok, e3, lift_some]
theorem un_ok {g : P1} (e1 : f1 s h = .ok d1 h1) (e3 : g d1 h1 = some (d, h3)) : e_un g f1 s h = .ok d h3 := by simp only [e_un, e1, bind_ok, e3, lift_some]
theorem a1_ok (e1 : f1 s h = .ok d1 h1) : a_cons f1 a_nil s h = .ok [d1] h1 := by simp only [a_cons, a_nil, e1, bind_ok]
theorem a2_ok (e1 : f1 s h = .ok d1 h1) (e2 : f2 s h1 = .ok d2 h2) : a_cons f1 (a_cons f2 a_nil) s h = .ok [d1, d2] h2 := by simp only [a_cons, a_nil, e1, e2, bind_ok]
theorem a3_ok (e1 : f1 s h = .ok d1 h1) (e2 : f2 s h1 = .ok d2 h2) (e3 : f3 s h2 = .ok d3 h3) : a_cons f1 (a_cons f2 (a_cons f3 a_nil)) s h = .ok [d1, d2, d3] h3 := by simp only [a_cons, a_nil, e1, e2, e3, bind_ok]
theorem call_ok {g : PL} {ds : List D} (e1 : a s h = .ok ds h1) (e3 : g ds h1 = some (d, h2)) : e_call g a s h = .ok d h2 := by simp only [e_call, e1, bind_ok, e3, lift_some]
theorem own_ok {m : MF} {ds : List D} (e1 : a s h = .ok ds h1) (e3 : m ds h1 = .ok d h2) : e_own m a s h = .ok d h2 := by simp only [e_own, e1, bind_ok, e3]
theorem ownK_ok {m : MF} {np nk : Nat} {perm : List Nat} {ds es fs : List D} (e1 : a s h = .ok ds h1) (e2 : k s h1 = .ok es h2) (e3 : m fs h2 = .ok d h3) (hp : permL np nk perm ds es = fs := by rfl) : e_ownK m np nk perm a k s h = .ok d h3 := by simp only [e_ownK, e1, e2, bind_ok, hp, e3]
theorem lst_ok {ds : List D} (e1 : a s h = .ok ds h1) (hl : ds.length ≤ sizeLine) : e_lst false a s h = .ok (.lv ds) h1 := by simp only [e_lst, e1, bind_ok, if_pos hl, mkL, Bool.false_eq_true, if_false, lift_some]
theorem lstM_ok {ds : List D} (e1 : a s h = .ok ds h1) (hl : ds.length ≤ sizeLine) : e_lst true a s h = .ok (.ref h1.length) (h1 ++ [.lst ds]) := by simp only [e_lst, e1, bind_ok, if_pos hl, mkL, if_true, lift_some]
theorem tup_ok {ds : List D} (e1 : a s h = .ok ds h1) (hl : ds.length ≤ sizeLine) : e_tup a s h = .ok (.tup ds) h1 := by simp only [e_tup, e1, bind_ok, if_pos hl]
theorem var_ok {i : Nat} (e : s[i]? = some (some d) := by rfl) : e_var i s h = .ok d h := by simp only [e_var, e]
theorem b_ok {c : Bool} (e1 : f s h = .ok (.bl c) h1) : t_b f s h = .ok c h1 := by simp only [t_b, e1, bind_ok]
theorem tru_ok {c : Bool} (e1 : f s h = .ok (.bl c) h1) : t_tru f s h = .ok c h1 := by simp only [t_tru, e1, bind_ok, truD]
theorem not_ok {c : Bool} (e1 : t s h = .ok c h1) : t_not t s h = .ok (!c) h1 := by simp only [t_not, e1, bind_ok]
theorem or_f (e1 : t s h = .ok false h1) : t_or t t2 s h = t2 s h1 := by simp only [t_or, e1, bind_ok, Bool.false_eq_true, if_false]
theorem or_t (e1 : t s h = .ok true h1) : t_or t t2 s h = .ok true h1 := by simp only [t_or, e1, bind_ok, if_true]
theorem and_f (e1 : t s h = .ok false h1) : t_and t t2 s h = .ok false h1 := by simp [t_and, e1]
theorem and_t (e1 : t s h = .ok true h1) : t_and t t2 s h = t2 s h1 := by simp [t_and, e1]
theorem eand_t (e1 : f1 s h = .ok (.bl true) h1) : e_and f1 f2 s h = f2 s h1 := by simp only [e_and, e1, bind_ok]
theorem eand_f (e1 : f1 s h = .ok (.bl false) h1) : e_and f1 f2 s h = .ok (.bl false) h1 := by simp only [e_and, e1, bind_ok]
theorem set_ok {i : Nat} (e1 : f s h = .ok d h1) : s_set i f s h = .ok (.nx (s.set i (some d))) h1 := by simp only [s_set, e1, bindE_ok]
theorem ret_ok (e1 : f s h = .ok d h1) : s_ret f s h = .ok (.rt d) h1 := by simp only [s_ret, e1, bindE_ok]
theorem if_f (e1 : t s h = .ok false h1) : s_if t b1 b2 s h = b2 s h1 := by simp only [s_if, e1, bindE_ok, Bool.false_eq_true, if_false]
theorem if_t (e1 : t s h = .ok true h1) : s_if t b1 b2 s h = b1 s h1 := by simp only [s_if, e1, bindE_ok, if_true]
theorem for_ok {i : AF} {p : Pat} {items : List D} (e1 : i s h = .ok items h1) : s_for i p b1 s h = forM p b1 items s h1 := by simp only [s_for, e1, bindE_ok]
theorem par_ok {i j : Nat} (e1 : a s h = .ok [d1, d2] h1) : s_par i j a s h = .ok (.nx ((s.set i (some d1)).set j (some d2))) h1 := by simp only [s_par, e1, bindE_ok]
theorem seq_then {r : Res Fl} (e1 : b1 s h = .ok (.nx s1) h1) (e2 : b2 s1 h1 = r) : s_seq b1 b2 s h = r := (seq_nx e1).trans e2
theorem take_self {h : Hd} : h.take h.length = h := List.take_of_length_le (Nat.le_refl _)
theorem fn_rt' {np n : Nat} {b : SF} {ds : List D} {h : Hd} {d : D} (s0 : Ev) (e : b s0 h = .ok (.rt d) h) (hs : noRef d = true) (h0 : ds.map some ++ List.replicate (n - ds.length) none = s0 := by rfl) (hl : ds.length = np := by rfl) : fnM np n b ds h = .ok d h := by
  have hd : sealD h.length d h = some d := by
    cases d with
    | ref k => simp [noRef] at hs
    | _ => simp only [sealD, hs, if_true]
  have r := fn_rt (np := np) (n := n) (b := b) (ds := ds) (h := h) (h' := h) s0 d e hd h0 hl
  rw [take_self] at r
  exact r
theorem eif_t (e1 : t s h = .ok true h1) : e_if t f1 f2 s h = f1 s h1 := by simp only [e_if, e1, bind_ok, if_true]
theorem eif_f (e1 : t s h = .ok false h1) : e_if t f1 f2 s h = f2 s h1 := by simp only [e_if, e1, bind_ok, Bool.false_eq_true, if_false]
theorem c_ok : e_c d s h = .ok d h := rfl
theorem nil_ok : s_nil s h = .ok (.nx s) h := rfl
end
end Mini
namespace PySem
open AutoSeq1
/-- xs.extend(t), t a tuple, whatever its dict and slots -/
theorem meets_extendT (l b : Addr) (xs ys : Array Value) (n m : Nat) (dct : Option Addr) (sl : Array (Option Value)) (hs0 : ¬(!xs.isEmpty && Builtin.List.listTooLong (xs.size + ys.size)) = true) (hs1 : xs.size ≤ sizeLine) (hs2 : xs.size + ys.size ≤ sizeLine + 1) :
    Meets (Builtin.«list.extend» ⟨[.ref l, .ref b], []⟩) (fun _ R s => s.heap.get? l = some { cls := .type "list", dict := none, data := .seq xs n, slots := #[] } ∧ s.heap.get? b = some { cls := .type "tuple", dict := dct, data := .seq ys m, slots := sl } ∧ R (.ok (.ret Value.none)) { s with heap := s.heap.update l (Obj.mapSeq fun x => x ++ ys), toks := s.toks }) :=
  .of_wp fun prog w A R s q => by
    obtain ⟨hp, g, d, tk, os⟩ := s
    obtain ⟨hl, hb, q⟩ := q
    have f1 := idx_int
    have f2 := sub_tuple_tuple
    have f3 := sub_list_list
    have f4 := sub_tuple_list
    have f5 := sub_list_tuple
    have hz : (xs ++ ys).size ≤ sizeLine + 1 := by rw [Array.size_append]; exact hs2
    wp_walk using (wpAny_updateSeq hl rfl (hz := hs1) (_hz' := hz)), wpAny_loadPart' hl, wpAny_loadPart' hb
    exact ⟨_, rfl, q⟩
end PySem
namespace Mini
open PySem PySem.Spec PyProof.Rows L2
/-! ### min and max of one tuple of ints (a list of ints has them in the library) -/
theorem reads_ints {h : Heap} : ∀ {ns : List Int} {its : List Value}, Vals (ns.map V.int) its → ReadsAll h its (ns.map PyData.int) []
  | [], its, r => by cases r; exact .nil
  | n :: ns, its, r => by
    cases r with
    | cons r rr =>
      obtain ⟨t, rfl⟩ := r
      exact ReadsAll.cons (as := []) (bs := []) (.int n t) (reads_ints rr)
theorem alike_ints (ns : List Int) : PySem.W.AlikeAll (ns.map PyData.int) := by
  refine ⟨fun x hx y hy => ?_, fun x hx => ?_⟩
  · obtain ⟨a, _, rfl⟩ := List.mem_map.mp hx
    obtain ⟨b, _, rfl⟩ := List.mem_map.mp hy
    rfl
  · obtain ⟨a, _, rfl⟩ := List.mem_map.mp hx
    intro e; cases e
theorem depth_ints : ∀ ns : List Int, PyData.depthAll (ns.map PyData.int) = 0
  | [] => by simp [PyData.depthAll]
  | x :: xs => by simp only [List.map_cons, PyData.depthAll, PyData.depth, depth_ints xs]; rfl
def rMinT (K : PySem.W.Frag) : List V → Hp → VK → Prop := fun vs H Q => ∃ (a : Addr) (n : Int) (ns : List Int), vs = [V.ref a] ∧ SqT K H a ((n :: ns).map V.int) ∧ Q (.int (ns.foldl min n)) H
def rMaxT (K : PySem.W.Frag) : List V → Hp → VK → Prop := fun vs H Q => ∃ (a : Addr) (n : Int) (ns : List Int), vs = [V.ref a] ∧ SqT K H a ((n :: ns).map V.int) ∧ Q (.int (ns.foldl max n)) H
section
variable {X : Cx}
theorem cr_minT (hc : X.calm = true) (hu : X.A.units + 1 < cLine) : CallR X (.builtin "min") (rMinT X.K) := by
  intro pins s σ H vs us Q I r h
  obtain ⟨a, n, ns, rfl, hs, q⟩ := h
  obtain ⟨its, rv, ht, _⟩ := I.tuple hs
  rw [Vals.ref1 r]
  refine PySem.W.min_tuple_data (vs := its.toArray) (x := .int n) (xs := ns.map PyData.int) (as := []) (I.ok.hd hc) ht (by simpa using reads_ints rv) (alike_ints (n :: ns)) (by have := depth_ints (n :: ns); simp only [List.map_cons] at this; rw [this]; omega) fun i v h' tk bs hv rd hk => ?_
  rw [PySem.W.minD_ints] at rd
  cases rd with
  | int i t => exact ⟨.int _, H, I.kept hk, ⟨_, rfl⟩, q⟩
theorem cr_maxT (hc : X.calm = true) (hu : X.A.units + 1 < cLine) : CallR X (.builtin "max") (rMaxT X.K) := by
  intro pins s σ H vs us Q I r h
  obtain ⟨a, n, ns, rfl, hs, q⟩ := h
  obtain ⟨its, rv, ht, _⟩ := I.tuple hs
  rw [Vals.ref1 r]
  refine PySem.W.max_tuple_data (vs := its.toArray) (x := .int n) (xs := ns.map PyData.int) (as := []) (I.ok.hd hc) ht (by simpa using reads_ints rv) (alike_ints (n :: ns)) (by have := depth_ints (n :: ns); simp only [List.map_cons] at this; rw [this]; omega) fun i v h' tk bs hv rd hk => ?_
  rw [PySem.W.maxD_ints] at rd
  cases rd with
  | int i t => exact ⟨.int _, H, I.kept hk, ⟨_, rfl⟩, q⟩
end
theorem foldl_min_mem : ∀ (ns : List Int) (n : Int), ns.foldl min n ∈ n :: ns ∧ ∀ y ∈ n :: ns, ns.foldl min n ≤ y
  | [], n => by simp
  | m :: ns, n => by
    obtain ⟨a, b⟩ := foldl_min_mem ns (min n m)
    have h1 := b (min n m) (by simp)
    simp only [List.foldl_cons]
    refine ⟨?_, fun y hy => ?_⟩
    · rcases List.mem_cons.mp a with e | e
      · rw [e]
        by_cases q : n ≤ m
        · rw [Int.min_eq_left q]; simp
        · rw [Int.min_eq_right (by omega)]; simp
      · simp [e]
    · rcases List.mem_cons.mp hy with rfl | hy
      · omega
      · rcases List.mem_cons.mp hy with rfl | hy
        · omega
        · exact b y (by simp [hy])
theorem foldl_max_mem : ∀ (ns : List Int) (n : Int), ns.foldl max n ∈ n :: ns ∧ ∀ y ∈ n :: ns, y ≤ ns.foldl max n
  | [], n => by simp
  | m :: ns, n => by
    obtain ⟨a, b⟩ := foldl_max_mem ns (max n m)
    have h1 := b (max n m) (by simp)
    simp only [List.foldl_cons]
    refine ⟨?_, fun y hy => ?_⟩
    · rcases List.mem_cons.mp a with e | e
      · rw [e]
        by_cases q : n ≤ m
        · rw [Int.max_eq_right q]; simp
        · rw [Int.max_eq_left (by omega)]; simp
      · simp [e]
    · rcases List.mem_cons.mp hy with rfl | hy
      · omega
      · rcases List.mem_cons.mp hy with rfl | hy
        · omega
        · exact b y (by simp [hy])
def minP : PL := fun ds h => match ds with
  | [d] => match (asS d h).bind intsOf with
    | some (n :: ns) => some (.int (ns.foldl min n), h)
    | _ => none
  | _ => none
def maxP : PL := fun ds h => match ds with
  | [d] => match (asS d h).bind intsOf with
    | some (n :: ns) => some (.int (ns.foldl max n), h)
    | _ => none
  | _ => none
section
variable {X : Cx}
theorem c_min (hu : X.A.units + 1 < cLine) (hc : X.calm = true) : CallR X (.builtin "min") (rC X.K minP) := CallR.imp' ((cr_min hc).or (cr_minT hc hu)) fun xs H Q q => by
  obtain ⟨rho, h, ds, R, r, po⟩ := q
  unfold minP at po
  split at po
  · rename_i d
    cases qa : asS d h with
    | none => rw [qa] at po; exact po.elim
    | some ys =>
      rw [qa] at po
      simp only [Option.bind_some] at po
      split at po
      · rename_i n ns qi
        obtain ⟨v, e, r⟩ := rel1 r
        obtain ⟨a, us, e1, e2, e3⟩ := asS_ok R r qa
        subst e1
        have eu := intsOf_ok e3 qi
        subst eu
        have po' := PostP.here po R (relInt _)
        rcases e2 with e2 | e2
        · refine .inl ⟨a, n :: ns, e, e2, by simp, fun m hm hy => ?_⟩
          obtain ⟨f1, f2⟩ := foldl_min_mem ns n
          have : m = ns.foldl min n := Int.le_antisymm (hy _ f1) (f2 m hm)
          rw [this]
          exact po'
        · exact .inr ⟨a, n, ns, e, e2, po'⟩
      · exact po.elim
  · exact po.elim
theorem c_max (hu : X.A.units + 1 < cLine) (hc : X.calm = true) : CallR X (.builtin "max") (rC X.K maxP) := CallR.imp' ((cr_max hc).or (cr_maxT hc hu)) fun xs H Q q => by
  obtain ⟨rho, h, ds, R, r, po⟩ := q
  unfold maxP at po
  split at po
  · rename_i d
    cases qa : asS d h with
    | none => rw [qa] at po; exact po.elim
    | some ys =>
      rw [qa] at po
      simp only [Option.bind_some] at po
      split at po
      · rename_i n ns qi
        obtain ⟨v, e, r⟩ := rel1 r
        obtain ⟨a, us, e1, e2, e3⟩ := asS_ok R r qa
        subst e1
        have eu := intsOf_ok e3 qi
        subst eu
        have po' := PostP.here po R (relInt _)
        rcases e2 with e2 | e2
        · refine .inl ⟨a, n :: ns, e, e2, by simp, fun m hm hy => ?_⟩
          obtain ⟨f1, f2⟩ := foldl_max_mem ns n
          have : m = ns.foldl max n := Int.le_antisymm (f2 m hm) (hy _ f1)
          rw [this]
          exact po'
        · exact .inr ⟨a, n, ns, e, e2, po'⟩
      · exact po.elim
  · exact po.elim
end
/-! ### extend by a list or a tuple -/
def rExtT (K : PySem.W.Frag) : V → List V → Hp → VK → Prop := fun x vs H Q => ∃ l b xs zs, x = .ref l ∧ vs = [.ref b] ∧ H l = some (.lst xs) ∧ SqT K H b zs ∧ xs.length + zs.length ≤ sizeLine ∧ Q .non (upd H l (.lst (xs ++ zs)))
section
variable {X : Cx}
theorem mt_extT : MtM X "list.extend" (rExtT X.K) := by
  intro pins s σ H x vs v us Q I rx rv q
  obtain ⟨l, b, xs, zs, rfl, rfl, hH, hB, hz, q⟩ := q
  cases rx
  obtain ⟨u, rfl, ru⟩ := rv.one
  cases ru
  obtain ⟨z, its, n, r, hl, e⟩ := I.lstM hH
  obtain ⟨its2, r2, ⟨⟨oc, od, dt, osl⟩, ho, hc, m, hd⟩, hz2⟩ := I.tuple hB
  replace hc : oc = .type "tuple" := hc
  replace hd : dt = .seq its2.toArray m := hd
  subst hc hd
  have hl2 : zs.length = its2.length := r2.length
  have hsz : its.toArray.size + its2.toArray.size ≤ sizeLine := by rw [List.size_toArray, List.size_toArray]; omega
  have hlong : ¬ (!its.toArray.isEmpty && Builtin.List.listTooLong (its.toArray.size + its2.toArray.size)) = true := by
    rw [notLongL hsz, Bool.and_false]
    exact Bool.false_ne_true
  refine call_meets F.slot_list_extend ⟨_, e, rfl⟩ F.entry_list_extend (F.args_list_extend_2 _ _) (meets_extendT l b its.toArray its2.toArray n m od osl hlong (by rw [List.size_toArray]; omega) (by omega)) ⟨e, ho, ?_⟩
  refine ⟨.non, _, I.lset (its' := its ++ its2) hH e (by simp) (r.append r2) ?_, rfl, q⟩
  rw [List.length_append]
  omega
end
def notFl (d : D) : Bool := match d with
  | .fl _ => false
  | _ => true
def extP : PM := fun x ds h => match x, ds with
  | .ref n, [d] => (match h[n]?, asV d with
    | some (.lst xs), some (_, ys) => if notFl d && noRefs ys && decide (xs.length + ys.length ≤ sizeLine) then some (.non, h.set n (.lst (xs ++ ys))) else none
    | _, _ => none)
  | _, _ => none
section
variable {X : Cx}
theorem m_ext : MtR X "list.extend" (rM X.K extP) := MtR.imp' (MtR.or mt_extend mt_extT) fun x xs H Q q => by
  obtain ⟨rho, h, d, ds, R, r, rs, po⟩ := q
  unfold extP at po
  split at po
  · rename_i n e
    split at po
    · rename_i ys l ws qx qa
      by_cases hl : (notFl e && noRefs ws && decide (ys.length + ws.length ≤ sizeLine)) = true
      · rw [if_pos hl] at po
        rw [Bool.and_eq_true, Bool.and_eq_true] at hl
        obtain ⟨us, a, b⟩ := RelC.cell R qx
        simp only [RelV', RelD] at r
        obtain ⟨v, ev, rv⟩ := rel1 rs
        cases e with
        | lv zs =>
          simp only [asV, Option.some.injEq, Prod.mk.injEq] at qa
          obtain ⟨_, rfl⟩ := qa
          simp only [RelV', RelD] at rv
          obtain ⟨c, vs, f1, f2, f3⟩ := rv
          subst f1
          obtain ⟨x', R'⟩ := setCell R qx a (RelDs.append b (RelDs.noref (fun _ q => q) _ _ _ _ hl.1.2 f3))
          exact .inl ⟨rho n, c, us, vs, r.2, ev, a, f2.1, by rw [← RelDs.length b, ← RelDs.length f3]; exact of_decide_eq_true hl.2, po rho _ _ x' R' relNon⟩
        | tup zs =>
          simp only [asV, Option.some.injEq, Prod.mk.injEq] at qa
          obtain ⟨_, rfl⟩ := qa
          obtain ⟨c, vs, f1, f2, f3⟩ := rv.tup
          subst f1
          obtain ⟨x', R'⟩ := setCell R qx a (RelDs.append b (RelDs.noref (fun _ q => q) _ _ _ _ hl.1.2 f3))
          exact .inr ⟨rho n, c, us, vs, r.2, ev, a, f2, by rw [← RelDs.length b, ← RelDs.length f3]; exact of_decide_eq_true hl.2, po rho _ _ x' R' relNon⟩
        | fl zs => exact absurd hl.1.1 (by simp [notFl])
        | _ => simp [asV] at qa
      · rw [if_neg hl] at po; exact po.elim
    · exact po.elim
  · exact po.elim
end
theorem room1 {k : Nat} {A : Around} (r : Room k A) : A.units + 1 < cLine := by have := r.un; omega
end Mini
namespace Mini
open PySem PySem.Spec PyProof.Rows L2
/-! ### is of bools; a, b, c = x, y, z -/
def isBP : P2 := fun x y h => match x, y with
  | .bl a, .bl b => some (.bl (decide (a = b)), h)
  | _, _ => none
def notBP : P2 := fun x y h => match x, y with
  | .bl a, .bl b => some (.bl (!decide (a = b)), h)
  | _, _ => none
theorem p_isB {X : Cx} : OpR X (compareOp .Is) (rO X.K isBP) := OpR.imp' op_isBl fun x y H Q q => by
  obtain ⟨rho, h, dx, dy, R, rx, ry, po⟩ := q
  unfold isBP at po
  split at po
  · exact ⟨_, _, rx.bl, ry.bl, PostP.here po R (relBl _)⟩
  · exact po.elim
theorem p_notB {X : Cx} : OpR X (compareOp .IsNot) (rO X.K notBP) := OpR.imp' op_notBl fun x y H Q q => by
  obtain ⟨rho, h, dx, dy, R, rx, ry, po⟩ := q
  unfold notBP at po
  split at po
  · exact ⟨_, _, rx.bl, ry.bl, PostP.here po R (relBl _)⟩
  · exact po.elim
def s_par3 (i j l : Nat) (a : AF) : SF := fun s h => bindE (a s h) s fun ds h1 => match ds with
  | [x, y, z] => .ok (.nx (((s.set i (some x)).set j (some y)).set l (some z))) h1
  | _ => .fail
theorem r_par3 {X : Cx} {W : WX} {pos : Pos} {i j l : Nat} {x y z : Str} {a b c : Expr} {fa : AF} {px py pz pt : Pos} {kt k2 pt2} (hN : X.N.Nodup) (hc : X.calm = true) (ha : SA X W [a, b, c] fa) (hi : X.N[i]? = some x := by rfl) (hj : X.N[j]? = some y := by rfl) (hl : X.N[l]? = some z := by rfl)
    (hij : i ≠ j := by decide) (hil : i ≠ l := by decide) (hjl : j ≠ l := by decide) (hx : X.env.scope.names.lookup x = some .local := by rfl) (hy : X.env.scope.names.lookup y = some .local := by rfl) (hz : X.env.scope.names.lookup z = some .local := by rfl)
    (hw : swappedStores [.Tuple [.Name x px, .Name y py, .Name z pz] kt pt] (.Tuple [a, b, c] k2 pt2) X.env = pure (some [x, y, z]) := by rfl)
    (hs : swapsWithSole [.Tuple [.Name x px, .Name y py, .Name z pz] kt pt] (.Tuple [a, b, c] k2 pt2) pos.line X.env = pure false := by rfl) :
    SS X W (.Assign [.Tuple [.Name x px, .Name y py, .Name z pz] kt pt] (.Tuple [a, b, c] k2 pt2) pos) (s_par3 i j l fa) := PS.imp (ps_par3 hc hN hi hj hl hij hil hjl hx hy hz ha hw hs) fun E σ H h => by
  obtain ⟨rho, h, s, R, S, po⟩ := h
  refine stepS R S po fun rho1 h1 H1 ds e1 R1 S1 po1 vs r => ?_
  match ds, po1, r with
  | [d1, d2, d3], po1, r =>
    simp only [RelVs', RelDs] at r
    obtain ⟨v, rr, e1, r1, w, rr2, e2, r2, u, rr3, e3, r3, e4⟩ := r
    subst e4 e3 e2
    exact ⟨v, w, u, e1, PostG.ok po1 R1 _ (((S1.set r1 i).set r2 j).set r3 l)⟩
  | [], po1, r => exact po1.elim
  | [_], po1, r => exact po1.elim
  | [_, _], po1, r => exact po1.elim
  | _ :: _ :: _ :: _ :: _, po1, r => exact po1.elim
theorem par3_ok {s : Ev} {h h1 : Hd} {d1 d2 d3 : D} {a : AF} {i j l : Nat} (e1 : a s h = .ok [d1, d2, d3] h1) : s_par3 i j l a s h = .ok (.nx (((s.set i (some d1)).set j (some d2)).set l (some d3))) h1 := by simp only [s_par3, e1, bindE_ok]
/-! ### a == b == c == d -/
section
variable {X : Cx} {W : WX} {pos : Pos} {a b c d : Expr} {fa fb fc fd : EF} {ta tb tc td : TE}
def tChain3 (r r' r2 : R2) (ta tb tc td : TE) : TE := fun σ H Q => ta σ H fun x H1 => tb σ H1 fun y H2 => r x y H2 fun z H3 => ∃ k, z = .bl k ∧
  (if k = true then tc σ H3 fun w' H4 => r' y w' H4 fun z2 H5 => ∃ k2, z2 = .bl k2 ∧ (if k2 = true then td σ H5 fun u' H6 => r2 w' u' H6 Q else Q (.bl false) H5) else Q (.bl false) H3)
theorem pe_chain3 {op op' op2 : CmpOp} {r r' r2 : R2} (ho : OpR X (compareOp op) r) (ho' : OpR X (compareOp op') r') (ho2 : OpR X (compareOp op2) r2) (ha : PE X a ta) (hb : PE X b tb) (hc : PE X c tc) (hd : PE X d td)
    (hm : lastMarks [op, op', op2] [b, c, d] = false := by with_unfolding_all rfl) : PE X (.Compare a [op, op', op2] [b, c, d] pos) (tChain3 r r' r2 ta tb tc td) := by
  refine ⟨fun pins s σ H Q I h => ?_⟩
  refine Compare_chain (thn (ha.run pins s σ H _ I h) fun v s1 ⟨x, H1, I1, r1, q1⟩ => chain_link (thn (hb.run pins s1 σ H1 _ I1 q1) fun u s2 ⟨y, H2, I2, r2', q2⟩ =>
    thn (ho pins s2 σ H2 x y v u _ I2 r1 r2' q2) fun d' s3 ⟨z, H3, I3, r3, k, e, q3⟩ => ?_)) hm
  subst e
  cases r3
  refine wpAny_truthy_bool ?_
  cases k with
  | false => exact ite_ff ⟨.bl false, H3, I3, rfl, q3⟩
  | true =>
    refine ite_tt (chain_link (thn (hc.run pins s3 σ H3 _ I3 q3) fun w' s4 ⟨z', H4, I4, r4, q4⟩ => thn (ho' pins s4 σ H4 y z' u w' _ I4 r2' r4 q4) fun d2 s5 ⟨z2, H5, I5, r5, k2, e2, q5⟩ => ?_))
    subst e2
    cases r5
    refine wpAny_truthy_bool ?_
    cases k2 with
    | false => exact ite_ff ⟨.bl false, H5, I5, rfl, q5⟩
    | true => exact ite_tt (chain_last (thn (hd.run pins s5 σ H5 _ I5 q5) fun u2 s6 ⟨z6, H6, I6, r6, q6⟩ => ho2 pins s6 σ H6 z' z6 w' u2 Q I6 r4 r6 q6))
theorem pt_chain3 {op op' op2 : CmpOp} {r r' r2 : R2} (ho : OpR X (compareOp op) r) (ho' : OpR X (compareOp op') r') (ho2 : OpR X (compareOp op2) r2) (ha : PE X a ta) (hb : PE X b tb) (hc : PE X c tc) (hd : PE X d td)
    (hm : lastMarks [op, op', op2] [b, c, d] = false := by with_unfolding_all rfl) : PT X (.Compare a [op, op', op2] [b, c, d] pos) (tTest (tChain3 r r' r2 ta tb tc td)) := by
  refine ⟨fun pins s σ H Q I h => ?_⟩
  refine isTrue_chain (thn (ha.run pins s σ H _ I h) fun v s1 ⟨x, H1, I1, r1, q1⟩ => test_link (thn (hb.run pins s1 σ H1 _ I1 q1) fun u s2 ⟨y, H2, I2, r2', q2⟩ =>
    thn (ho pins s2 σ H2 x y v u _ I2 r1 r2' q2) fun d' s3 ⟨z, H3, I3, r3, k, e, q3⟩ => ?_)) hm
  subst e
  cases r3
  refine wpAny_truthy_bool ?_
  cases k with
  | false =>
    obtain ⟨k', e', q'⟩ := q3
    cases e'
    exact ite_ff ⟨H3, I3, q'⟩
  | true =>
    refine ite_tt (test_link (thn (hc.run pins s3 σ H3 _ I3 q3) fun w' s4 ⟨z', H4, I4, r4, q4⟩ => thn (ho' pins s4 σ H4 y z' u w' _ I4 r2' r4 q4) fun d2 s5 ⟨z2, H5, I5, r5, k2, e2, q5⟩ => ?_))
    subst e2
    cases r5
    refine wpAny_truthy_bool ?_
    cases k2 with
    | false =>
      obtain ⟨k', e', q'⟩ := q5
      cases e'
      exact ite_ff ⟨H5, I5, q'⟩
    | true =>
      refine ite_tt (test_last (thn (hd.run pins s5 σ H5 _ I5 q5) fun u2 s6 ⟨z6, H6, I6, r6, q6⟩ => thn (ho2 pins s6 σ H6 z' z6 w' u2 _ I6 r4 r6 q6) fun d3 s7 ⟨z7, H7, I7, r7, k3, e3, q7⟩ => ?_))
      subst e3
      cases r7
      exact wpAny_truthy_bool ⟨H7, I7, q7⟩
def e_link (g : P2) (y : D) (c : EF) (k : D → Hd → Res D) : EF := fun s h => (c s h).bind fun w h1 => (lift (g y w h1)).bind fun z h2 => match z with
  | .bl true => k w h2
  | .bl false => .ok (.bl false) h2
  | _ => .fail
def e_chain3 (g g' g2 : P2) (a b c d : EF) : EF := fun s h => (a s h).bind fun x h1 => e_link g x b (fun y h2 => e_link g' y c (fun w h3 => (d s h3).bind fun v h4 => lift (g2 w v h4)) s h2) s h1
theorem tE.link {K : PySem.W.Frag} {mg : Str → Option Value} {g : P2} {σ : L2.St} {H : Hp} {Q : VK} {rho : Rh} {h : Hd} {s : Ev} {y : D} {v : V} {k : D → Hd → Res D} {P : V → Hp → VK → Prop} (R : Rel K rho h H) (S : RelS K rho h H s σ) (r : RelV' K rho h H y v)
    (po : PostG K mg (fun c d H' => W c d σ H') rho h H (e_link g y fb k s h) (pE K Q))
    (hk : ∀ rho' h' H' w u, Ext K rho h H rho' h' H' → Rel K rho' h' H' → RelV' K rho' h' H' w u → PostG K mg (fun c d H' => W c d σ H') rho' h' H' (k w h') (pE K Q) → P u H' Q) :
    tE K mg W fb σ H fun u H2 => rO K g v u H2 fun z H3 => ∃ c, z = .bl c ∧ (if c = true then P u H3 Q else Q (.bl false) H3) := by
  refine step R S po fun rho2 h2 H2 w e2 R2 S2 po2 u ru => ⟨rho2, h2, y, w, R2, e2.v r, ru, ?_⟩
  have po3 := PostG.bind po2
  cases q : g y w h2 with
  | none => rw [q] at po3; exact po3
  | some dz =>
    obtain ⟨z, h3⟩ := dz
    rw [q] at po3
    intro rho3 H3 w' e3 R3 rw
    have po4 := po3 rho3 H3 e3 R3
    cases z with
    | bl c =>
      refine ⟨c, rw.bl, ?_⟩
      cases c with
      | true => exact iteT (hk rho3 h3 H3 w u (e2.trans e3) R3 (e3.v ru) po4)
      | false => exact iteF (PostG.ok po4 R3 _ (relBl false))
    | _ => exact po4.elim
theorem tE.chain3 {K : PySem.W.Frag} {mg : Str → Option Value} {g g' g2 : P2} {σ : L2.St} {H : Hp} {Q : VK} (h : tE K mg W (e_chain3 g g' g2 fa fb fc fd) σ H Q) : tChain3 (rO K g) (rO K g') (rO K g2) (tE K mg W fa) (tE K mg W fb) (tE K mg W fc) (tE K mg W fd) σ H Q := by
  obtain ⟨rho, h, s, R, S, po⟩ := h
  refine step R S po fun rho1 h1 H1 x e1 R1 S1 po1 v r => ?_
  refine tE.link (P := fun u H2 Q => tE K mg W fc σ H2 fun u' H4 => rO K g' u u' H4 fun z2 H5 => ∃ k2, z2 = .bl k2 ∧ (if k2 = true then tE K mg W fd σ H5 fun u3 H6 => rO K g2 u' u3 H6 Q else Q (.bl false) H5)) R1 S1 r po1 fun rho2 h2 H2 w u e2 R2 ru po2 => ?_
  refine tE.link (P := fun u' H5 Q => tE K mg W fd σ H5 fun u3 H6 => rO K g2 u' u3 H6 Q) R2 (e2.s S1) ru po2 fun rho3 h3 H3 w3 u3 e3 R3 ru3 po3 => ?_
  exact step R3 ((e2.trans e3).s S1) po3 fun rho4 h4 H4 z e4 R4 S4 po5 t rt => ⟨rho4, h4, w3, z, R4, e4.v ru3, rt, PostP.of po5⟩
theorem r_chain3 {op op' op2 : CmpOp} {g g' g2 : P2} (ho : OpR X (compareOp op) (rO X.K g)) (ho' : OpR X (compareOp op') (rO X.K g')) (ho2 : OpR X (compareOp op2) (rO X.K g2)) (ha : SE X W a fa) (hb : SE X W b fb) (hc : SE X W c fc) (hd : SE X W d fd)
    (hm : lastMarks [op, op', op2] [b, c, d] = false := by with_unfolding_all rfl) : SE X W (.Compare a [op, op', op2] [b, c, d] pos) (e_chain3 g g' g2 fa fb fc fd) := PE.imp (pe_chain3 ho ho' ho2 ha hb hc hd hm) fun _ _ _ h => tE.chain3 h
theorem r_tchain3 {op op' op2 : CmpOp} {g g' g2 : P2} (ho : OpR X (compareOp op) (rO X.K g)) (ho' : OpR X (compareOp op') (rO X.K g')) (ho2 : OpR X (compareOp op2) (rO X.K g2)) (ha : SE X W a fa) (hb : SE X W b fb) (hc : SE X W c fc) (hd : SE X W d fd)
    (hm : lastMarks [op, op', op2] [b, c, d] = false := by with_unfolding_all rfl) : ST X W (.Compare a [op, op', op2] [b, c, d] pos) (t_b (e_chain3 g g' g2 fa fb fc fd)) := PT.imp (pt_chain3 ho ho' ho2 ha hb hc hd hm) fun _ _ _ h => by
  have z := tE.asB h
  obtain ⟨rho, h, s, R, S, po⟩ := z
  exact tE.chain3 ⟨rho, h, s, R, S, po⟩
end
theorem link_ok {g : P2} {y w d : D} {c : EF} {k : D → Hd → Res D} {s : Ev} {h h1 : Hd} {r : Res D} (e1 : c s h = .ok w h1) (e2 : g y w h1 = some (.bl true, h1)) (e3 : k w h1 = r) : e_link g y c k s h = r := by
  simp only [e_link, e1, bind_ok, e2, lift_some]; exact e3
theorem chain3_ok {g g' g2 : P2} {d1 d2 d3 d4 d : D} {f1 f2 f3 f4 : EF} {s : Ev} {h : Hd} (e1 : f1 s h = .ok d1 h) (e2 : f2 s h = .ok d2 h) (p1 : g d1 d2 h = some (.bl true, h)) (e3 : f3 s h = .ok d3 h) (p2 : g' d2 d3 h = some (.bl true, h)) (e4 : f4 s h = .ok d4 h) (p3 : g2 d3 d4 h = some (d, h)) : e_chain3 g g' g2 f1 f2 f3 f4 s h = .ok d h := by
  simp only [e_chain3, e1, bind_ok, e_link, e2, p1, lift_some, e3, p2, e4, p3]
end Mini
namespace Mini
open PySem PySem.Spec PyProof.Rows L2
/-! ### sorted of data: a list or a tuple -/
section
variable {prog : Program} {w : World} {A : Around} {E : Value → Shared → Prop} {s : Shared}
theorem collect_tup {l : Addr} {vs : List Value} {Q : List Value → Shared → Prop} (hl : IsTup s.heap l vs.toArray)
    (h : Q vs { s with heap := (s.heap.push (seqObj "list" #[] 0)).update s.heap.objs.size (Obj.mapSeq (· ++ vs.toArray)) }) (hsz : vs.length ≤ sizeLine) :
    wpAny (model prog w) A (collect (.ref l)) Q E s := by
  obtain ⟨o, ho, hc, n, hd⟩ := id hl
  unfold collect
  refine wpAny_bind (wpAny_runValue (codeAny_builtin entry_proto_collect' ?_))
  show wpAny _ _ (do again (.builtin "list.__iadd__" ⟨[← newList [], .ref l], []⟩)) _ _ s
  refine wpAny_bind (wpAny_newList (wpAny_pure ⟨Code.quiet_builtin _ (by decide +kernel), codeAny_builtin entry_list_iadd' ?_⟩))
  show wpAny _ _ (Builtin.List.listExtendWith (.ref s.heap.objs.size) (.ref l) (.ref s.heap.objs.size)) _ _ { s with heap := s.heap.push (seqObj "list" #[] 0) }
  unfold Builtin.List.listExtendWith
  have ho' : (s.heap.push (seqObj "list" #[] 0)).get? l = some o := Heap.get?_push_of_some _ ho
  refine wpAny_bind (wpAny_typeOf (T := "tuple") ⟨o, ho', hc⟩ ?_)
  have ht : (Value.type "tuple" == Value.type "tuple") = true := by rfl
  rw [if_pos (by rw [ht]; simp)]
  refine wpAny_bind (listItems_at ho' hd ?_)
  refine wpAny_bind (listItems_at (xs := #[]) (n := 0) (Heap.get?_push_size _ rfl) rfl ?_)
  rw [if_neg (by simp)]
  refine wpAny_bind (listUpdate_at (xs := #[]) (n := 0) (Heap.get?_push_size _ rfl) rfl ?_ (Nat.zero_le _) (by show (#[] ++ vs.toArray).size ≤ sizeLine + 1; simp only [Array.size_append, List.size_toArray, List.length_nil]; omega))
  refine wpAny_pure ?_
  show wpAny (model prog w) A (do
      let o ← load s.heap.objs.size
      match o.data with
      | .seq xs _ => pure xs.toList
      | _ => unsupported "internal:collect") Q E { s with heap := (s.heap.push (seqObj "list" #[] 0)).update s.heap.objs.size (Obj.mapSeq (· ++ vs.toArray)) }
  refine wpAny_bind (wpAny_load (get?_update_seq (Heap.get?_push_size _ rfl) _) ?_)
  show wpAny _ _ (pure ((#[] : Array Value) ++ vs.toArray).toList) Q E _
  rw [show ((#[] : Array Value) ++ vs.toArray).toList = vs by simp]
  exact wpAny_pure h
theorem sorted_of_sortT {l : Addr} {vs : List Value} {Q : Value → Shared → Prop} (hl : IsTup s.heap l vs.toArray) (hL : vs.length ≤ sizeLine)
    (body : ∀ E' : Value → Shared → Prop, wpAny (model prog w) A.in1.in1 (Builtin.«list.sort» ⟨[.ref (s.heap.objs.size + 1)], []⟩) (fun f s' => f = .done (.ret .none) ∧ Q (.ref (s.heap.objs.size + 1)) s') E' { s with heap := PySem.W.copyHeap s.heap vs }) :
    wpAny (model prog w) A (call (.builtin "sorted") [.ref l]) Q E s := by
  refine Calls.call_function_entry kind_sorted plain_sorted entry_sorted (args_sorted1 _) ?_
  unfold Builtin.«sorted»
  refine wpAny_bind (m := checkCount "sorted" 1 1 _) (wpAny_pure ?_)
  refine wpAny_bind (collect_tup hl ?_ hL)
  refine wpAny_bind (wpAny_newList ?_ hL)
  have hsz : ((s.heap.push (seqObj "list" #[] 0)).update s.heap.objs.size (Obj.mapSeq (· ++ vs.toArray))).objs.size = s.heap.objs.size + 1 := by
    rw [Heap.size_update, size_push']
  show wpAny _ _ _ _ _ { s with heap := PySem.W.copyHeap s.heap vs }
  rw [hsz]
  refine wpAny_bind (wpAny_holding (wpAny_call_entry slot_list_sort ⟨_, PySem.W.copyHeap_at s.heap vs, rfl⟩ entry_list_sort ?body (args_list_sort _)))
  case body =>
    show wpAny (model prog w) A.in1.in1 (Builtin.«list.sort» ⟨[.ref (s.heap.objs.size + 1)], []⟩) _ _ _
    refine wpAny_mono (body _) (fun f s' hf => ?_) fun _ _ e => e
    obtain ⟨rfl, hq⟩ := hf
    exact ⟨_, rfl, wpAny_pure ⟨_, rfl, hq⟩⟩
theorem sorted_dataT {β : Type} {vs : List Value} {bs : List β} {enc : β → PyData} {R : Value → β → Prop} {l : Addr} {Q : Value → Shared → Prop} (hl : IsTup s.heap l vs.toArray) (e : PySem.W.EachIs R vs bs) (er : PySem.W.EachIs (fun v b => ∃ as, Reads s.heap v (enc b) as) vs bs) (hal : PySem.W.AllAlike (bs.map enc)) (hk : PySem.W.Sortable (bs.map enc)) (hL : bs.length ≤ sizeLine)
    (hu : ∀ b, b ∈ bs → A.units + 2 + (enc b).depth < cLine) (h : ∀ out, out.length = bs.length → PySem.W.EachIs R out (bs.mergeSort (PySem.W.dataLe false enc)) → Q (.ref (s.heap.objs.size + 1)) { s with heap := sortedAll s.heap vs (List.toArray out) }) :
    wpAny (model prog w) A (call (.builtin "sorted") [.ref l]) Q E s := by
  have er' : PySem.W.EachIs (fun v b => ∃ as, Reads (PySem.W.sortingHeap (PySem.W.copyHeap s.heap vs) (s.heap.objs.size + 1) vs) v (enc b) as) vs bs := er.mono fun _ _ ⟨as, r⟩ => ⟨as, PyProof.Rows.Reads.keeps (fun _ _ => PySem.W.sorting_copy_old) r⟩
  exact sorted_of_sortT hl (by rw [e.length]; exact hL) fun _ => PySem.W.list_sort_vals (s := { s with heap := PySem.W.copyHeap s.heap vs }) (PySem.W.copyHeap_at s.heap vs)
    (PySem.W.SortsAt.data (s := { s with heap := PySem.W.sortingHeap (PySem.W.copyHeap s.heap vs) (s.heap.objs.size + 1) vs }) (PySem.W.each_map (R := fun v d => ∃ as, Reads (PySem.W.sortingHeap (PySem.W.copyHeap s.heap vs) (s.heap.objs.size + 1) vs) v d as) enc er') hal hk (PySem.W.bound_map hu)) (by rw [e.length]; exact hL)
    ⟨rfl, h _ (by rw [PySem.W.sortVals_length false rfl]; exact e.length) (PySem.W.sortVals_data false e er' hal)⟩
end
def rSortD (K : PySem.W.Frag) : List V → Hp → VK → Prop := fun vs H Q => ∃ (a : Addr) (us : List V) (ps : List PyData), vs = [V.ref a] ∧ (SqL K H a us ∨ SqT K H a us) ∧ DpAll K H us ps ∧ PySem.W.AllAlike ps ∧ PySem.W.Sortable ps ∧ (∀ d ∈ ps, d.depth ≤ 60) ∧
  ∀ p : Addr, H p = none → Q (.ref p) (upd H p (.lst (((us.zip ps).mergeSort (PySem.W.dataLe false (fun b : V × PyData => b.2))).map (·.1))))
theorem zip_snd : ∀ {us : List V} {ps : List PyData} {K : PySem.W.Frag} {H : Hp}, DpAll K H us ps → (us.zip ps).map (·.2) = ps ∧ us.length = ps.length
  | _, _, _, _, .nil => ⟨rfl, rfl⟩
  | _, _, _, _, .cons _ h => by
    obtain ⟨a, b⟩ := zip_snd h
    simp only [List.zip_cons_cons, List.map_cons, a, List.length_cons, b, and_self]
theorem each_zip {X : Cx} {pins : List (Addr × Obj)} {σ : L2.St} {H : Hp} {s : Shared} (I : L2.Inv X pins σ H s) : ∀ {us : List V} {ps : List PyData} {its : List Value}, DpAll X.K H us ps → Vals us its → PySem.W.EachIs (fun u (b : V × PyData) => RelV b.1 u) its (us.zip ps) ∧ PySem.W.EachIs (fun u (b : V × PyData) => ∃ as, Reads s.heap u b.2 as) its (us.zip ps)
  | _, _, _, .nil, r => by cases r; exact ⟨.nil, .nil⟩
  | _, _, _, .cons h1 h2, r => by
    cases r with
    | cons r1 r2 =>
      obtain ⟨a, b⟩ := each_zip I h2 r2
      exact ⟨.cons r1 a, .cons (Dp.reads I _ _ _ h1 r1) b⟩
theorem vals_each : ∀ {its : List Value} {bs : List (V × PyData)}, PySem.W.EachIs (fun u (b : V × PyData) => RelV b.1 u) its bs → Vals (bs.map (·.1)) its
  | _, _, .nil => .nil
  | _, _, .cons h t => .cons h (vals_each t)
section
variable {X : Cx}
theorem cr_sortD (hu : X.A.units + 65 < cLine) : CallR X (.builtin "sorted") (rSortD X.K) := by
  intro pins s σ H vs us' Q I r h
  obtain ⟨a, us, ps, rfl, hs, hd, hal, hk, hdp, q⟩ := h
  rw [Vals.ref1 r]
  obtain ⟨e1, e2⟩ := zip_snd hd
  have fin : ∀ its : List Value, Vals us its → us.length ≤ sizeLine → ∀ out : List Value, out.length = (us.zip ps).length → PySem.W.EachIs (fun u (b : V × PyData) => RelV b.1 u) out ((us.zip ps).mergeSort (PySem.W.dataLe false (fun b : V × PyData => b.2))) → EP X pins σ Q (.ref (s.heap.objs.size + 1)) { s with heap := sortedAll s.heap its (List.toArray out) } := fun its rv hz out ho eo => by
    obtain ⟨ep, he'⟩ := PyProof.Rows.sortedAll_at s.heap its out.toArray
    have hlen : (((us.zip ps).mergeSort (PySem.W.dataLe false (fun b : V × PyData => b.2))).map (·.1)).length ≤ sizeLine := by
      rw [List.length_map, List.length_mergeSort, List.length_zip, e2, Nat.min_self, ← e2]; exact hz
    exact ⟨.ref _, upd H (s.heap.objs.size + 1) (.lst (((us.zip ps).mergeSort (PySem.W.dataLe false (fun b : V × PyData => b.2))).map (·.1))), I.laid (t' := s.toks) (fun _ _ => PyProof.Rows.sortedAll_old) (Nat.le_succ _) ⟨hlen, out, ep, vals_each eo, he'⟩, rfl, q _ (I.hok.fresh (Nat.le_succ _))⟩
  have dep : ∀ b, b ∈ us.zip ps → X.A.units + 2 + (b.2).depth < cLine := fun b hb => by
    have : b.2 ∈ (us.zip ps).map (·.2) := List.mem_map.mpr ⟨b, hb, rfl⟩
    rw [e1] at this
    have := hdp _ this
    omega
  have hl : us.length = (us.zip ps).length := by rw [List.length_zip, e2, Nat.min_self]
  rcases hs with hs | hs
  · obtain ⟨its, rv, hl', hz⟩ := I.list hs
    obtain ⟨ea, eb⟩ := each_zip I hd rv
    exact PySem.W.sorted_data (enc := fun b : V × PyData => b.2) hl'.isList ea eb (by rw [e1]; exact hal) (by rw [e1]; exact hk) (by rw [← hl]; exact hz) dep (fin its rv hz)
  · obtain ⟨its, rv, hl', hz⟩ := I.tuple hs
    obtain ⟨ea, eb⟩ := each_zip I hd rv
    exact sorted_dataT (enc := fun b : V × PyData => b.2) hl' ea eb (by rw [e1]; exact hal) (by rw [e1]; exact hk) (by rw [← hl]; exact hz) dep (fin its rv hz)
end
def alikeB (ps : List PyData) : Bool := ps.all fun d => ps.all fun d' => PySem.W.alike d d'
def tupNE : PyData → Bool
  | .tuple (_ :: _) => true
  | _ => false
def plainB : PyData → Bool
  | .none => false
  | .tuple _ => false
  | _ => true
def sortableB (ps : List PyData) : Bool := ps.all tupNE || ps.all plainB
def pyOf (d : D) : PyData := (pyD d).getD .none
def sortL (xs : List D) : List D := xs.mergeSort (PySem.W.dataLe false pyOf)
/-- sorted -/
def sortP (m : Bool) : PL := fun ds h => match ds with
  | [d] => (match asS d h with
    | some xs => (match pyDs xs with
      | some ps => if alikeB ps && sortableB ps && ps.all (fun p => decide (p.depth ≤ 60)) then mkL m (sortL xs) h else none
      | none => none)
    | none => none)
  | _ => none
theorem sortable_of {ps : List PyData} (h : sortableB ps = true) : PySem.W.Sortable ps := by
  unfold sortableB at h
  rw [Bool.or_eq_true, List.all_eq_true, List.all_eq_true] at h
  rcases h with h | h
  · refine .inl fun d hd => ?_
    have := h d hd
    unfold tupNE at this
    split at this
    · exact ⟨_, _, rfl⟩
    · cases this
  · refine .inr fun d hd => ?_
    have := h d hd
    unfold plainB at this
    split at this
    · cases this
    · cases this
    · rename_i h1 h2
      exact ⟨fun e => h1 e, fun xs e => h2 xs e⟩
theorem alike_of {ps : List PyData} (h : alikeB ps = true) : PySem.W.AllAlike ps := by
  unfold alikeB at h
  rw [List.all_eq_true] at h
  intro d hd d' hd'
  have := h d hd
  rw [List.all_eq_true] at this
  exact this d' hd'
theorem pyDs_pyOf : ∀ {xs : List D} {ps : List PyData}, pyDs xs = some ps → xs.map pyOf = ps ∧ xs.length = ps.length
  | [], ps, e => by simp only [pyDs, Option.some.injEq] at e; subst e; exact ⟨rfl, rfl⟩
  | d :: xs, ps, e => by
    simp only [pyDs] at e
    cases q1 : pyD d with
    | none => rw [q1] at e; cases e
    | some p =>
      cases q2 : pyDs xs with
      | none => rw [q1, q2] at e; cases e
      | some qs =>
        rw [q1, q2] at e
        simp only [Option.some.injEq] at e
        subst e
        obtain ⟨a, b⟩ := pyDs_pyOf q2
        exact ⟨by simp only [List.map_cons, a, pyOf, q1, Option.getD_some], by simp [b]⟩
/-- three lists side by side -/
theorem zip3 {K : PySem.W.Frag} {rho : Rh} {h : Hd} {H : Hp} {B : Nat} : ∀ {xs : List D} {us : List V}, RelDs K rho h B H xs us → (∀ b ∈ xs.zip us, RelD K rho h B H b.1 b.2) ∧ (xs.zip us).map (·.1) = xs ∧ (xs.zip us).map (·.2) = us
  | [], us, e => by simp only [RelDs] at e; subst e; exact ⟨fun b hb => by simp at hb, rfl, rfl⟩
  | d :: xs, us, e => by
    simp only [RelDs] at e
    obtain ⟨v, r, rfl, e2, e3⟩ := e
    obtain ⟨a, b, c⟩ := zip3 e3
    refine ⟨fun p hp => ?_, by simp only [List.zip_cons_cons, List.map_cons, b], by simp only [List.zip_cons_cons, List.map_cons, c]⟩
    rcases List.mem_cons.mp hp with rfl | hp
    · exact e2
    · exact a p hp
theorem rel_of_zip {K : PySem.W.Frag} {rho : Rh} {h : Hd} {H : Hp} {B : Nat} : ∀ {L : List (D × V)}, (∀ b ∈ L, RelD K rho h B H b.1 b.2) → RelDs K rho h B H (L.map (·.1)) (L.map (·.2))
  | [], _ => by simp only [List.map_nil, RelDs]
  | b :: L, hb => by
    simp only [List.map_cons, RelDs]
    exact ⟨_, _, rfl, hb b (by simp), rel_of_zip fun c hc => hb c (by simp [hc])⟩
theorem sortL_zip {xs : List D} {us : List V} (w2 : (xs.zip us).map (·.1) = xs) : sortL xs = ((xs.zip us).mergeSort (PySem.W.dataLe false (fun b : D × V => pyOf b.1))).map (·.1) := by
  have := List.map_mergeSort (r := PySem.W.dataLe false (fun b : D × V => pyOf b.1)) (s := PySem.W.dataLe false pyOf) (f := fun b : D × V => b.1) (l := xs.zip us) (fun _ _ _ _ => rfl)
  rw [this, w2]
  rfl
theorem zip_pyOf : ∀ {xs : List D} {us : List V}, xs.length = us.length → us.zip (xs.map pyOf) = (xs.zip us).map fun b => (b.2, pyOf b.1)
  | [], us, _ => by simp
  | x :: xs, [], l => by simp at l
  | x :: xs, u :: us, l => by simp only [List.map_cons, List.zip_cons_cons]; rw [zip_pyOf (by simpa using l)]
theorem sort_zip {xs : List D} {us : List V} {ps : List PyData} (y1 : xs.map pyOf = ps) (l : xs.length = us.length) : ((us.zip ps).mergeSort (PySem.W.dataLe false (fun b : V × PyData => b.2))).map (·.1) = ((xs.zip us).mergeSort (PySem.W.dataLe false (fun b : D × V => pyOf b.1))).map (·.2) := by
  rw [← y1, zip_pyOf l]
  have := List.map_mergeSort (r := PySem.W.dataLe false (fun b : D × V => pyOf b.1)) (s := PySem.W.dataLe false (fun b : V × PyData => b.2)) (f := fun b : D × V => (b.2, pyOf b.1)) (l := xs.zip us) (fun _ _ _ _ => rfl)
  rw [← this, List.map_map]
  rfl
section
variable {X : Cx}
theorem c_sort (m : Bool) (hu : X.A.units + 65 < cLine) : CallR X (.builtin "sorted") (rC X.K (sortP m)) := by
  intro pins s σ H vs us' Q I rx q
  obtain ⟨rho, h, ds, R, r, po⟩ := q
  unfold sortP at po
  split at po
  · rename_i d
    cases qa : asS d h with
    | none => rw [qa] at po; exact po.elim
    | some xs =>
      rw [qa] at po
      simp only at po
      cases qp : pyDs xs with
      | none => rw [qp] at po; exact po.elim
      | some ps =>
        rw [qp] at po
        simp only at po
        split at po
        · rename_i hc
          rw [Bool.and_eq_true, Bool.and_eq_true] at hc
          obtain ⟨v, e, r⟩ := rel1 r
          obtain ⟨a, us, e1, e2, e3⟩ := asS_ok R r qa
          subst e1
          have hd : DpAll X.K H us ps := pyDs_ok xs us _ ps e3 qp
          obtain ⟨z1, z2⟩ := zip_snd hd
          obtain ⟨y1, y2⟩ := pyDs_pyOf qp
          obtain ⟨w1, w2, w3⟩ := zip3 e3
          refine cr_sortD hu pins s σ H vs us' Q I rx ⟨a, us, ps, e, e2, hd, alike_of hc.1.1, sortable_of hc.1.2, fun d hd => ?_, fun p hp => ?_⟩
          · have := List.all_eq_true.mp hc.2 d hd
            simpa using this
          · refine post_mkL R (xs := sortL xs) ?_ po hp
            have k1 := sortL_zip (us := us) w2
            have k2 := sort_zip (us := us) y1 (by rw [y2, z2])
            rw [k1, k2]
            exact rel_of_zip fun b hb => w1 b ((List.mergeSort_perm _ _).mem_iff.mp hb)
        · exact po.elim
  · exact po.elim
end
end Mini
namespace Mini
open PySem PySem.Spec PyProof.Rows L2
/-! ### sorted(set(xs)), xs a list of fewer than 64 tuples of ints -/
theorem perm_map_inv {α β : Type} {k : α → β} {l m : List β} (p : l.Perm m) : ∀ L : List α, m = L.map k → ∃ L1 : List α, L1.Perm L ∧ l = L1.map k := by
  induction p with
  | nil => intro L e; exact ⟨[], by rw [List.map_eq_nil_iff.mp e.symm], rfl⟩
  | cons x p ih =>
    intro L e
    cases L with
    | nil => cases e
    | cons a L =>
      simp only [List.map_cons, List.cons.injEq] at e
      obtain ⟨L1, p1, e1⟩ := ih L e.2
      exact ⟨a :: L1, p1.cons a, by rw [List.map_cons, e.1, e1]⟩
  | swap x y l =>
    intro L e
    match L, e with
    | a :: b :: L, e =>
      simp only [List.map_cons, List.cons.injEq] at e
      exact ⟨b :: a :: L, .swap _ _ _, by rw [List.map_cons, List.map_cons, e.1, e.2.1, e.2.2]⟩
  | trans p q ih1 ih2 =>
    intro L e
    obtain ⟨L2, p2, e2⟩ := ih2 L e
    obtain ⟨L1, p1, e1⟩ := ih1 L2 e2
    exact ⟨L1, p1.trans p2, e1⟩
theorem lt_tups (a b : List Int) : PySem.W.dataLt (.tuple (a.map PyData.int)) (.tuple (b.map PyData.int)) = decide (a < b) := by
  rw [PySem.W.dataLt_tuple]
  exact PySem.W.dataLt_ints a b
abbrev encT (q : Addr × List Int) : PyData := .tuple (q.2.map PyData.int)
section
variable {P : Program} {w : World} {A : Around} {E : Value → Shared → Prop} {s : Shared}
theorem each_refs {h : Heap} {a : Addr} : ∀ {L : List (Addr × List Int)}, (∀ q ∈ L, TS.TupInts h (.ref q.1) q.2) → PySem.W.EachIs (fun v (q : Addr × List Int) => v = Value.ref q.1) (L.map fun q => Value.ref q.1) L ∧ PySem.W.EachIs (fun v (q : Addr × List Int) => ∃ as, Reads h v (encT q) as ∧ a ∉ as) (L.map fun q => Value.ref q.1) L
  | [], _ => ⟨.nil, .nil⟩
  | q :: L, hq => by
    obtain ⟨x, y⟩ := each_refs (a := a) (L := L) fun r hr => hq r (by simp [hr])
    obtain ⟨b, items, e, ⟨o, ho, hc, n, hd⟩, hi⟩ := hq q (by simp)
    refine ⟨.cons rfl x, .cons ⟨[], ?_, by simp⟩ y⟩
    show Reads h (Value.ref q.1) (encT q) []
    rw [e]
    exact Reads.tuple ho hc hd (hi.reads h)
theorem each_out : ∀ {out : List Value} {L : List (Addr × List Int)}, PySem.W.EachIs (fun v (q : Addr × List Int) => v = Value.ref q.1) out L → out = L.map fun q => Value.ref q.1
  | _, _, .nil => rfl
  | _, _, .cons h t => by rw [List.map_cons, h, each_out t]
theorem sorted_setD {a : Addr} {L : List (Addr × List Int)} {es : Array (Int × Value)} {ep : Nat} {t : SetTable} {Q : Value → Shared → Prop} (R : SetTR P w s.heap a L es ep t) (hh : A.handled = none) (hu : A.units + 65 < cLine) (ne : ∀ q ∈ L, q.2 ≠ [])
    (hQ : ∀ s' p (out : Array Value) (c : Nat) (L' : List (Addr × List Int)), (∀ b o, s.heap.get? b = some o → s'.heap.get? b = some o) → s'.gens = s.gens → s'.os = s.os → s.heap.objs.size ≤ p →
      s'.heap.get? p = some (seqObj "list" out c) → out.toList = L'.map (fun q => Value.ref q.1) → L'.Perm L → L'.Pairwise (fun q r => ¬ r.2 < q.2) → Q (.ref p) s') :
    wpAny (model P w) A (call (.builtin "sorted") [.ref a]) Q E s := by
  obtain ⟨o, ho, hex, hd⟩ := R.ob
  have hsz := R.size
  have hfew := R.few
  apply Calls.call_function_entry kind_sorted plain_sorted entry_sorted (args_sorted1 _)
  unfold Builtin.«sorted»
  apply wpAny_bind (m := checkCount "sorted" 1 1 _)
  apply wpAny_pure
  apply wpAny_bind
  refine collect_set (A := A.in1) hh ⟨o, ho, hex.1, hd⟩ R.fits (by unfold scanBound; omega) R.tab.ris R.led fun s1 vs k1 hz g1 o1 pm => ?_
  have hes : es.toList.map (·.2) = L.map fun q => Value.ref q.1 := by rw [R.rows]; unfold rowsOf; rw [List.map_map]; rfl
  rw [hes] at pm
  obtain ⟨L1, pL, rfl⟩ := perm_map_inv pm L rfl
  have hl : L1.length < 64 := by rw [pL.length_eq]; exact hfew
  refine wpAny_bind (wpAny_newList ?_ (by rw [sizeLine_eq, List.length_map]; omega))
  have hoL : (s1.heap.push (seqObj "list" (L1.map fun q => Value.ref q.1).toArray 0)).get? s1.heap.objs.size = some (seqObj "list" (L1.map fun q => Value.ref q.1).toArray 0) := Heap.get?_push_size _ rfl
  have tk : ∀ q ∈ L1, TS.TupInts (s1.heap.push (seqObj "list" (L1.map fun q => Value.ref q.1).toArray 0)) (.ref q.1) q.2 := fun q hq => tupInts_of (P := P) (w := w) (isT_keep (R.tup q (pL.mem_iff.mp hq)) fun b u e => Heap.get?_push_of_some _ (k1 b u e))
  obtain ⟨ea, eb⟩ := each_refs (a := s1.heap.objs.size) tk
  have al : PySem.W.AllAlike (L1.map encT) := PySem.W.AllAlike.of fun x y => by simp only [PySem.W.alike]; exact PySem.W.alike_ints _ _
  have so : PySem.W.Sortable (L1.map encT) := .inl fun d hd => by
    obtain ⟨q, hq, rfl⟩ := List.mem_map.mp hd
    have := ne q (pL.mem_iff.mp hq)
    cases z : q.2 with
    | nil => exact absurd z this
    | cons x r => exact ⟨.int x, r.map .int, by simp only [encT, z, List.map_cons]⟩
  have dp : ∀ q : Addr × List Int, (encT q).depth ≤ 1 := fun q => by simp only [encT, PyData.depth, PySem.W.depth_ints]; omega
  refine wpAny_bind (wpAny_holding (PySem.W.list_sort_data (s := { s1 with heap := s1.heap.push (seqObj "list" (L1.map fun q => Value.ref q.1).toArray 0) }) hoL ea eb al so (by rw [sizeLine_eq]; omega) (fun q _ => by have := dp q; have h1 : A.in1.units ≤ A.units + 1 := Nat.le_refl _; omega) fun out ol eo => ?_))
  obtain ⟨c, hc⟩ := sortedHeap_at (vs := L1.map fun q => Value.ref q.1) (out := out.toArray) hoL
  have pm2 : (L1.mergeSort (PySem.W.dataLe false encT)).Perm L := (List.mergeSort_perm _ _).trans pL
  have pw : (L1.mergeSort (PySem.W.dataLe false encT)).Pairwise (fun q r => ¬ r.2 < q.2) := by
    have := PySem.W.sort_pairwise (PySem.W.sortLe_total (PyProof.Rows.listOrd PyProof.Rows.itemOrd) false fun b : Addr × List Int => PySem.W.keyToks (encT b)) L1
    refine this.imp fun {q r} z => ?_
    have z : (!PySem.W.dataLt (encT r) (encT q)) = true := z
    rw [lt_tups] at z
    simpa using z
  refine wpAny_pure ⟨_, rfl, hQ _ s1.heap.objs.size out.toArray c _ (fun b u e => ?_) g1 o1 hz hc (by simpa using each_out eo) pm2 pw⟩
  have q := k1 b u e
  have hlt := Heap.lt_size q
  show (sortedHeap (s1.heap.push (seqObj "list" (L1.map fun q => Value.ref q.1).toArray 0)) s1.heap.objs.size (L1.map fun q => Value.ref q.1) out.toArray).get? b = some u
  rw [sortedHeap_old (Nat.ne_of_lt hlt) (by rw [size_push']; exact Nat.lt_succ_of_lt hlt)]
  exact Heap.get?_push_of_some _ q
end
def rSortSet (K : PySem.W.Frag) (P : Program) (w : World) : List V → Hp → VK → Prop := fun vs H Q => ∃ (a : Addr) (L : List (Addr × List Int)), vs = [V.ref a] ∧ H a = some (SetTO P w a L) ∧ (∀ p ∈ L, SqT K H p.1 (p.2.map V.int)) ∧ (∀ p ∈ L, p.2 ≠ []) ∧
  ∀ (L' : List (Addr × List Int)) (p : Addr), L'.Perm L → (L'.map (·.2)).Nodup → L'.length < 64 → L'.Pairwise (fun q r => ¬ r.2 < q.2) → H p = none → Q (.ref p) (upd H p (.lst (L'.map fun q => V.ref q.1)))
section
variable {X : Cx}
theorem cr_sortSet (hc : X.calm = true) (hu : X.A.units + 65 < cLine) : CallR X (.builtin "sorted") (rSortSet X.K X.prog X.w) := by
  intro pins s σ H vs us Q I r h
  obtain ⟨a, L, rfl, ha, hk, hne, q⟩ := h
  obtain ⟨es, ep, t, R⟩ := SetT0.full (I.hok a _ ha).1 fun p hp => I.isT (hk p hp)
  rw [Vals.ref1 r]
  refine sorted_setD R (I.ok.hd hc) hu hne fun s' p out c L' k g o hp hg hout pm pw => ?_
  have hfew : L'.length < 64 := by rw [pm.length_eq]; exact R.few
  have hn : H p = none := I.hok.fresh hp
  have J : L2.Inv X pins σ (upd H p (.lst (L'.map fun q => V.ref q.1))) { s with heap := s'.heap, gens := s'.gens, drawn := s'.drawn, toks := s'.toks } :=
    I.call (ch := []) (Un.laid k hp hn) (I.hok.laid k hp ⟨by rw [List.length_map, sizeLine_eq]; omega, out.toList, c, by rw [hout]; exact vals_of_refs L', hg⟩) (by rw [g]; exact I.bare) (fun _ z => nomatch z)
  have e : s' = { s with heap := s'.heap, gens := s'.gens, drawn := s'.drawn, toks := s'.toks } := by
    cases s'; cases s; cases o; rfl
  rw [e]
  exact ⟨.ref p, _, J, rfl, q L' p pm ((pm.map (·.2)).nodup_iff.mpr R.nd) hfew pw hn⟩
end
/-! the fused mirror -/
def tupsOf : List D → Option (List (List Int))
  | [] => some []
  | .tup xs :: r => (match intsOf xs, tupsOf r with
    | some ns, some ks => some (ns :: ks)
    | _, _ => none)
  | _ :: _ => none
def dedup : List (List Int) → List (List Int)
  | [] => []
  | a :: L => if a ∈ dedup L then dedup L else a :: dedup L
theorem mem_dedup {x : List Int} : ∀ {L : List (List Int)}, x ∈ dedup L ↔ x ∈ L
  | [] => by simp [dedup]
  | a :: L => by
    unfold dedup
    split
    · rename_i q
      rw [mem_dedup, List.mem_cons]
      exact ⟨.inr, fun z => z.elim (fun e => e ▸ mem_dedup.mp q) id⟩
    · rw [List.mem_cons, List.mem_cons, mem_dedup]
theorem dedup_nodup : ∀ L : List (List Int), (dedup L).Nodup
  | [] => by simp [dedup]
  | a :: L => by
    unfold dedup
    split
    · exact dedup_nodup L
    · rename_i q
      exact List.nodup_cons.mpr ⟨q, dedup_nodup L⟩
def setL (ks : List (List Int)) : List (List Int) := (dedup ks).mergeSort (fun a b => !decide (b < a))
theorem setL_sorted (ks : List (List Int)) : (setL ks).Pairwise fun a b => ¬ b < a := by
  have := List.pairwise_mergeSort (le := fun a b : List Int => !decide (b < a)) (fun a b c h1 h2 => by
    simp only [Bool.not_eq_true', decide_eq_false_iff_not] at h1 h2 ⊢
    exact List.not_lt.mpr (List.le_trans (List.not_lt.mp h1) (List.not_lt.mp h2))) (fun a b => by
    simp only [Bool.or_eq_true, Bool.not_eq_true', decide_eq_false_iff_not]
    rcases List.le_total a b with q | q
    · exact .inl (List.not_lt.mpr q)
    · exact .inr (List.not_lt.mpr q)) (dedup ks)
  exact this.imp fun h => by simpa using h
theorem mem_setL {ks : List (List Int)} {x : List Int} : x ∈ setL ks ↔ x ∈ ks := by
  unfold setL; rw [(List.mergeSort_perm _ _).mem_iff, mem_dedup]
theorem setL_nodup (ks : List (List Int)) : (setL ks).Nodup := (List.mergeSort_perm _ _).nodup_iff.mpr (dedup_nodup ks)
theorem setL_uniq {ks L : List (List Int)} (nd : L.Nodup) (so : L.Pairwise fun a b => ¬ b < a) (m : ∀ x, x ∈ L ↔ x ∈ ks) : L = setL ks :=
  List.Perm.eq_of_pairwise (le := fun a b => ¬ b < a) (fun a b _ _ h1 h2 => List.le_antisymm (List.not_lt.mp h1) (List.not_lt.mp h2)) so (setL_sorted ks) ((List.perm_ext_iff_of_nodup nd (setL_nodup ks)).mpr fun x => by rw [m x, mem_setL])
def ssetP (m : Bool) (d : D) (h : Hd) : PR := match asL d h with
  | some xs => (match tupsOf xs with
    | some ks => if ks.length < 64 ∧ (ks.all fun a => !a.isEmpty) = true then mkL m ((setL ks).map fun ns => .tup (ns.map D.int)) h else none
    | none => none)
  | none => none
def e_sset (m : Bool) (f : EF) : EF := fun s h => (f s h).bind fun d h1 => lift (ssetP m d h1)
section
variable {K : PySem.W.Frag} {rho : Rh} {h : Hd} {H : Hp}
theorem tups_ok : ∀ {xs : List D} {us : List V} {ks : List (List Int)} {B : Nat}, RelDs K rho h B H xs us → tupsOf xs = some ks → ∃ L : List (Addr × List Int), us = L.map (fun p => V.ref p.1) ∧ L.map (·.2) = ks ∧ ∀ p ∈ L, SqT K H p.1 (p.2.map V.int)
  | [], us, ks, B, r, e => by simp only [RelDs] at r; simp only [tupsOf, Option.some.injEq] at e; subst r e; exact ⟨[], rfl, rfl, fun p hp => by simp at hp⟩
  | .tup zs :: xs, us, ks, B, r, e => by
    simp only [RelDs] at r
    obtain ⟨v, rr, e1, e2, e3⟩ := r
    simp only [tupsOf] at e
    cases q1 : intsOf zs with
    | none => rw [q1] at e; cases e
    | some ns =>
      cases q2 : tupsOf xs with
      | none => rw [q1, q2] at e; cases e
      | some k2 =>
        rw [q1, q2] at e
        simp only [Option.some.injEq] at e
        subst e
        obtain ⟨L, f1, f2, f3⟩ := tups_ok e3 q2
        simp only [RelD] at e2
        obtain ⟨a, ws, g1, g2, g3⟩ := e2
        refine ⟨(a, ns) :: L, by rw [e1, f1, g1]; rfl, by rw [List.map_cons, f2], fun p hp => ?_⟩
        rcases List.mem_cons.mp hp with rfl | hp
        · rw [← intsOf_ok g3 q1]; exact g2
        · exact f3 p hp
  | .non :: xs, us, ks, B, r, e => by simp [tupsOf] at e
  | .bl _ :: xs, us, ks, B, r, e => by simp [tupsOf] at e
  | .int _ :: xs, us, ks, B, r, e => by simp [tupsOf] at e
  | .str _ :: xs, us, ks, B, r, e => by simp [tupsOf] at e
  | .lv _ :: xs, us, ks, B, r, e => by simp [tupsOf] at e
  | .fl _ :: xs, us, ks, B, r, e => by simp [tupsOf] at e
  | .ref _ :: xs, us, ks, B, r, e => by simp [tupsOf] at e
theorem rel_tups {B : Nat} : ∀ {L : List (Addr × List Int)}, (∀ p ∈ L, SqT K H p.1 (p.2.map V.int)) → RelDs K rho h B H (L.map fun p => D.tup (p.2.map D.int)) (L.map fun p => V.ref p.1)
  | [], _ => by simp only [List.map_nil, RelDs]
  | p :: L, hp => by
    simp only [List.map_cons, RelDs]
    refine ⟨_, _, rfl, ?_, rel_tups fun q hq => hp q (by simp [hq])⟩
    simp only [RelD]
    refine ⟨_, _, rfl, hp p (by simp), ?_⟩
    have allI : ∀ (ns : List Int), RelDs K rho h B H (ns.map D.int) (ns.map V.int) := fun ns => by
      induction ns with
      | nil => simp only [List.map_nil, RelDs]
      | cons n ns ih => simp only [List.map_cons, RelDs]; exact ⟨_, _, rfl, by simp only [RelD], ih⟩
    exact allI p.2
end
section
variable {X : Cx} {W : WX} {p1 p2 q pos : Pos} {e : Expr} {f : EF}
theorem r_sset (m : Bool) (hu : X.A.units + 65 < cLine) (hc : X.calm = true) (hm1 : X.mg "sorted" = none) (hm2 : X.mg "set" = none) (ha : SE X W e f) (hg1 : Gl X "sorted" := by rfl) (hg2 : Gl X "set" := by rfl)
    (he2 : starEach [e] X.env = (false, eval e X.env) :: starEach [] X.env := by rfl) (he1 : starEach [Expr.Call (.Name "set" p2) [e] [] q] X.env = (false, eval (Expr.Call (.Name "set" p2) [e] [] q) X.env) :: starEach [] X.env := by rfl)
    (hp1 : (backTo pos (starEach [] X.env)).any (·.1) = false := by rfl) (hp2 : (backTo q (starEach [] X.env)).any (·.1) = false := by rfl) :
    SE X W (.Call (.Name "sorted" p1) [.Call (.Name "set" p2) [e] [] q] [] pos) (e_sset m f) := by
  have inner := pe_callTy (p := p2) (pos := q) (x := "set") (T := "set") (cr_setOfT (X := X) hc (by omega)) hg2 hm2 PyProof.Rows.boot_set (pa_cons ha pa_nil he2) (by decide) (by decide) he2 hp2
  have outer := pe_callB (p := p1) (pos := pos) (x := "sorted") (id := "sorted") (cr_sortSet (X := X) hc hu) hg1 hm1 PyProof.Rows.boot_sorted (pa_cons inner pa_nil he1) (by decide) (by decide) he1 hp1
  refine PE.imp outer fun σ H Q hh => ?_
  obtain ⟨rho, h, s, R, S, po⟩ := hh
  refine step R S po fun rho1 h1 H1 d e1 R1 S1 po1 v r => ?_
  show rSetOfT X.K X.prog X.w [v] H1 fun v2 H2 => rSortSet X.K X.prog X.w [v2] H2 Q
  cases qa : asL d h1 with
  | none => simp only [ssetP, qa] at po1; exact po1.elim
  | some xs =>
    cases qt : tupsOf xs with
    | none => simp only [ssetP, qa, qt] at po1; exact po1.elim
    | some ks =>
      simp only [ssetP, qa, qt] at po1
      split at po1
      · rename_i hk
        obtain ⟨a, us, g1, g2, g3⟩ := asL_ok R1 r qa
        subst g1
        obtain ⟨L0, f1, f2, f3⟩ := tups_ok g3 qt
        have len : L0.length = ks.length := by rw [← f2, List.length_map]
        refine ⟨a, L0, rfl, by rw [← f1]; exact g2, f3, by omega, fun a2 L hn s1 s2 => ?_⟩
        have up := Ext.upd R1 hn (SetTO X.prog X.w a2 L)
        have R2 := Rel.upd R1 hn (SetTO X.prog X.w a2 L)
        refine ⟨a2, L, rfl, upd_same, fun p hp => up.sqT (f3 p (s1 p hp)), fun p hp e => ?_, fun L' p pm nd few pw hp => ?_⟩
        · have := List.all_eq_true.mp hk.2 p.2 (by rw [← f2]; exact List.mem_map.mpr ⟨p, s1 p hp, rfl⟩)
          rw [e] at this
          cases this
        · have eL : L'.map (·.2) = setL ks := setL_uniq nd (by rw [List.pairwise_map]; exact pw) fun x => by
            rw [(pm.map (·.2)).mem_iff]
            constructor
            · intro hx
              obtain ⟨p, hp, rfl⟩ := List.mem_map.mp hx
              rw [← f2]
              exact List.mem_map.mpr ⟨p, s1 p hp, rfl⟩
            · intro hx
              rw [← f2] at hx
              obtain ⟨p, hp, rfl⟩ := List.mem_map.mp hx
              exact s2 p hp
          have po2 := PostP.of (PostG.ext up po1)
          rw [← eL, List.map_map] at po2
          exact post_mkL R2 (rel_tups fun p hp => up.sqT (f3 p (s1 p (pm.mem_iff.mp hp)))) po2 hp
      · exact po1.elim
end
end Mini
namespace Mini
open PySem PySem.Spec PyProof.Rows L2
/-! ### a list that is handed out stays a cell -/
section
variable {K : PySem.W.Frag} {rho rho2 : Rh} {h h2 : Hd} {H : Hp}
/-- the cells are told otherwise: the same values stand for the same -/
theorem RelD.recell (hz : ∀ a, rho2.Z a → rho.Z a) {n : Nat} (hf : ∀ m, m < n → rho2 m = rho m) (hl : ∀ m, live h2 m = true → ∃ m', live h m' = true ∧ rho2 m = rho m') (d : D) : ∀ (v : V) (B : Nat), B ≤ n → RelD K rho h B H d v → RelD K rho2 h2 B H d v := by
  refine D.rec (motive_1 := fun d => ∀ (v : V) (B : Nat), B ≤ n → RelD K rho h B H d v → RelD K rho2 h2 B H d v)
    (motive_2 := fun ds => ∀ (vs : List V) (B : Nat), B ≤ n → RelDs K rho h B H ds vs → RelDs K rho2 h2 B H ds vs) ?_ ?_ ?_ ?_ ?_ ?_ ?_ ?_ ?_ ?_ d
  · intro v B hB e; simp only [RelD] at e ⊢; exact e
  · intro b v B hB e; simp only [RelD] at e ⊢; exact e
  · intro b v B hB e; simp only [RelD] at e ⊢; exact e
  · intro b v B hB e; simp only [RelD] at e ⊢; exact e
  · intro xs ih v B hB e
    simp only [RelD] at e ⊢
    obtain ⟨a, ws, e1, e2, e3⟩ := e
    exact ⟨a, ws, e1, e2, ih ws B hB e3⟩
  · intro xs ih v B hB e
    simp only [RelD] at e ⊢
    obtain ⟨a, ws, e1, e2, e3⟩ := e
    refine ⟨a, ws, e1, ?_, ih ws B hB e3⟩
    obtain ⟨e2, z, k⟩ := e2
    refine ⟨e2, fun q => z (hz a q), fun m hm => ?_⟩
    obtain ⟨m', q1, q2⟩ := hl m hm
    rw [q2]; exact k m' q1
  · intro xs ih v B hB e
    simp only [RelD] at e ⊢
    obtain ⟨a, ws, e1, e2, e3⟩ := e
    exact ⟨a, ws, e1, e2, ih ws B hB e3⟩
  · intro k v B hB e
    simp only [RelD] at e ⊢
    exact ⟨e.1, by rw [hf k (Nat.lt_of_lt_of_le e.1 hB)]; exact e.2⟩
  · intro vs B hB e; simp only [RelDs] at e ⊢; exact e
  · intro d ds i1 i2 vs B hB e
    simp only [RelDs] at e ⊢
    obtain ⟨v, r, e1, e2, e3⟩ := e
    exact ⟨v, r, e1, i1 v B hB e2, i2 r B hB e3⟩
theorem RelDs.recell (hz : ∀ a, rho2.Z a → rho.Z a) {n : Nat} (hf : ∀ m, m < n → rho2 m = rho m) (hl : ∀ m, live h2 m = true → ∃ m', live h m' = true ∧ rho2 m = rho m') : ∀ (ds : List D) (vs : List V) (B : Nat), B ≤ n → RelDs K rho h B H ds vs → RelDs K rho2 h2 B H ds vs
  | [], vs, B, hB, e => by simp only [RelDs] at e ⊢; exact e
  | d :: ds, vs, B, hB, e => by
    simp only [RelDs] at e ⊢
    obtain ⟨v, r, e1, e2, e3⟩ := e
    exact ⟨v, r, e1, RelD.recell hz hf hl d v B hB e2, RelDs.recell hz hf hl ds r B hB e3⟩
theorem noRef_up {B B' : Nat} (hh : ∀ m, live h m = true → live h m = true) {d : D} {v : V} (n : noRef d = true) (r : RelD K rho h B H d v) : RelD K rho h B' H d v := RelD.noref (fun _ q => q) d v _ _ n r
end
/-- cell k put at place n -/
def reAt (rho : Rh) (n : Nat) (a : Addr) : Rh := ⟨fun m => if m = n then a else rho m, rho.Z⟩
theorem reAt_same {rho : Rh} {n : Nat} {a : Addr} : reAt rho n a n = a := by simp [reAt]
theorem reAt_ne {rho : Rh} {n m : Nat} {a : Addr} (h : m ≠ n) : reAt rho n a m = rho m := by simp [reAt, h]
theorem live_snoc {h : Hd} {xs : List D} {n m : Nat} (hn : n ≤ h.length) (e : live (h.take n ++ [.lst xs]) m = true) : (m < n ∧ live h m = true) ∨ m = n := by
  have hl := live_lt e
  have len : (h.take n).length = n := by rw [List.length_take, Nat.min_eq_left hn]
  rw [List.length_append, len] at hl
  simp only [List.length_cons, List.length_nil] at hl
  by_cases q : m = n
  · exact .inr q
  · have hm : m < n := by omega
    refine .inl ⟨hm, ?_⟩
    unfold live at e ⊢
    rw [List.getElem?_append_left (by rw [len]; exact hm), List.getElem?_take_of_lt hm] at e
    exact e
section
variable {K : PySem.W.Frag} {rho : Rh} {h : Hd} {H : Hp}
theorem Rel.keep (R : Rel K rho h H) {n k : Nat} (hn : n ≤ h.length) (hk : n ≤ k) {xs : List D} (q : h[k]? = some (.lst xs)) (hx : noRefs xs = true) :
    Rel K (reAt rho n (rho k)) (h.take n ++ [.lst xs]) H := by
  have lk : live h k = true := by unfold live; rw [q]
  have len : (h.take n).length = n := by rw [List.length_take, Nat.min_eq_left hn]
  have hf : ∀ m, m < n → reAt rho n (rho k) m = rho m := fun m hm => reAt_ne (by omega)
  have hl : ∀ m, live (h.take n ++ [.lst xs]) m = true → ∃ m', live h m' = true ∧ reAt rho n (rho k) m = rho m' := fun m hm => by
    rcases live_snoc hn hm with ⟨a, b⟩ | e
    · exact ⟨m, b, hf m a⟩
    · exact ⟨k, lk, by rw [e]; exact reAt_same⟩
  refine ⟨fun m m' hm hm' e => ?_, fun m o e => ?_, R.zd, fun m hm => ?_⟩
  · rcases live_snoc hn hm with ⟨a, b⟩ | c <;> rcases live_snoc hn hm' with ⟨a', b'⟩ | c'
    · rw [hf m a, hf m' a'] at e; exact R.inj m m' b b' e
    · rw [c', hf m a, reAt_same] at e
      have := R.inj m k b lk e
      omega
    · rw [c, hf m' a', reAt_same] at e
      have := R.inj k m' lk b' e
      omega
    · omega
  · by_cases hm : m < n
    · rw [List.getElem?_append_left (by rw [len]; exact hm), List.getElem?_take_of_lt hm] at e
      have c := R.cell m o e
      cases o with
      | dead => trivial
      | lst ys =>
        obtain ⟨us, a, b⟩ := c
        exact ⟨us, by rw [hf m hm]; exact a, RelDs.recell (rho := rho) (h := h) (rho2 := reAt rho n (rho k)) (fun _ z => z) hf hl _ _ _ (Nat.le_of_lt hm) b⟩
    · have hm' : m = n := by
        have := (List.getElem?_eq_some_iff.mp e).1
        rw [List.length_append, len] at this
        simp only [List.length_cons, List.length_nil] at this
        omega
      subst hm'
      rw [List.getElem?_append_right (by rw [len]; exact Nat.le_refl _), len, Nat.sub_self] at e
      simp only [List.getElem?_cons_zero, Option.some.injEq] at e
      subst e
      obtain ⟨us, a, b⟩ := R.cellL q
      refine ⟨us, by rw [reAt_same]; exact a, ?_⟩
      have b0 : RelDs K rho h m H xs us := RelDs.noref (fun _ q => q) _ _ _ _ hx b
      exact RelDs.recell (rho := rho) (h := h) (rho2 := reAt rho m (rho k)) (fun _ z => z) hf hl _ _ _ (Nat.le_refl _) b0
  · obtain ⟨m', a, b⟩ := hl m hm
    rw [b]
    exact R.zc m' a
theorem Ext.keep {h0 : Hd} {rho0 : Rh} {H0 : Hp} (x : Ext K rho0 h0 H0 rho h H) {k : Nat} (hk : h0.length ≤ k) {xs : List D} (q : h[k]? = some (.lst xs)) : Ext K rho0 h0 H0 (reAt rho h0.length (rho k)) (h.take h0.length ++ [.lst xs]) H where
  le := by rw [List.length_append, List.length_take, Nat.min_eq_left x.le]; omega
  ag := fun m hm => by rw [reAt_ne (by omega)]; exact x.ag m hm
  lv := fun m hm e => by
    rcases live_snoc x.le e with ⟨a, b⟩ | c
    · exact x.lv m hm b
    · omega
  fr := fun m hm e => by
    rcases live_snoc x.le e with ⟨a, b⟩ | c
    · omega
    · rw [c, reAt_same]; exact x.fr k hk (by unfold live; rw [q])
  kp := x.kp
  tp := x.tp
  fz := x.fz
  dm := x.dm
  zi := x.zi
  zo := x.zo
end
def cellR (n : Nat) : Res D → Res D
  | .ok (.ref k) h => if k < n then .fail else match h[k]? with
    | some (.lst xs) => if noRefs xs then .ok (.ref n) (h.take n ++ [.lst xs]) else .fail
    | _ => .fail
  | _ => .fail
def fnC (np n : Nat) (b : SF) : MF := fun ds h => cellR h.length (runB np n b ds h)
section
variable {P : Program} {w : World} {K : PySem.W.Frag} {mg : Str → Option Value} {base : Heap}
theorem fn_okC {x qual : Str} {st : Stmt} {f : Addr} {fd : FuncData} {N ps : List Str} {k : Nat} {b : SF} (F : Fun K x qual st f fd) (S : FnScope N ps (defScope st))
    (hb : ∀ (cdv : Value) (A : Around) (outer : List Env) (s : Shared) (H : Hp) (E : XK), Room k (A.deeper (envOfC qual (defScope st) s.heap.objs.size f cdv)) →
      SSs (cxOf (L2.CX P w) P w K mg base N qual (defScope st) f cdv A outer s H E) (fun cls d _ H => E cls d H) (defBody st) b) : FnOk P w K mg base (L2.CX P w) (k + 1) f fd ps (spM K mg (fnC ps.length N.length b)) := by
  refine F.okX S (fun vs H Q E h => ?_) fun cdv A outer s H vs Q E hr h => ⟨_, hb cdv A outer s H E hr, ?_⟩
  · obtain ⟨rho, h, ds, R, r, po⟩ := h
    by_cases q : ds.length = ps.length
    · rw [← RelDs.length r]; exact q
    · unfold fnC runB at po; simp only [q, if_false] at po; exact po.elim
  obtain ⟨rho, h, ds, R, r, po⟩ := h
  refine ⟨rho, h, ds.map some ++ List.replicate (N.length - ds.length) none, R, RelS.start r, ?_⟩
  unfold fnC runB at po
  by_cases q : ds.length = ps.length
  · simp only [q, if_true] at po
    rw [← q] at po
    cases qb : b (ds.map some ++ List.replicate (N.length - ds.length) none) h with
    | fail => rw [qb] at po; exact po
    | exc x h' => rw [qb] at po; exact po.elim
    | ok fl h' =>
      rw [qb] at po
      cases fl with
      | nx s1 => exact po.elim
      | rt d =>
        cases d with
        | ref k =>
          simp only [cellR] at po
          by_cases hk : k < h.length
          · rw [if_pos hk] at po; exact po.elim
          · rw [if_neg hk] at po
            cases qk : h'[k]? with
            | none => rw [qk] at po; exact po.elim
            | some o =>
              rw [qk] at po
              cases o with
              | dead => exact po.elim
              | lst xs =>
                simp only at po
                by_cases hx : noRefs xs = true
                · rw [if_pos hx] at po
                  intro rho' H' e R' v r'
                  have hk' : h.length ≤ k := Nat.not_lt.mp hk
                  refine po (reAt rho' h.length (rho' k)) H' (e.keep hk' qk) (R'.keep e.le hk' qk hx) v ?_
                  simp only [RelV', RelD] at r' ⊢
                  refine ⟨by rw [List.length_append, List.length_take, Nat.min_eq_left e.le]; simp, ?_⟩
                  rw [reAt_same]; exact r'.2
                · rw [if_neg hx] at po; exact po.elim
        | _ => exact po.elim
      | bk s1 => exact po.elim
      | ct s1 => exact po.elim
      | ex x s1 => exact po.elim
  · simp only [q, if_false] at po; exact po.elim
end
end Mini
namespace Mini
open PySem PySem.Spec PyProof.Rows L2
/-! ### a comprehension whose list becomes a cell -/
section
variable {K : PySem.W.Frag} {rho rho2 : Rh} {h h2 : Hd} {H : Hp}
theorem RelD.recell2 (hz : ∀ a, rho2.Z a → rho.Z a) {n : Nat} (hf : ∀ m, m < n → rho2 m = rho m) (hl : ∀ m, live h2 m = true → (∃ m', live h m' = true ∧ rho2 m = rho m') ∨ rho.Z (rho2 m)) (d : D) : ∀ (v : V) (B : Nat), B ≤ n → RelD K rho h B H d v → RelD K rho2 h2 B H d v := by
  refine D.rec (motive_1 := fun d => ∀ (v : V) (B : Nat), B ≤ n → RelD K rho h B H d v → RelD K rho2 h2 B H d v)
    (motive_2 := fun ds => ∀ (vs : List V) (B : Nat), B ≤ n → RelDs K rho h B H ds vs → RelDs K rho2 h2 B H ds vs) ?_ ?_ ?_ ?_ ?_ ?_ ?_ ?_ ?_ ?_ d
  · intro v B hB e; simp only [RelD] at e ⊢; exact e
  · intro b v B hB e; simp only [RelD] at e ⊢; exact e
  · intro b v B hB e; simp only [RelD] at e ⊢; exact e
  · intro b v B hB e; simp only [RelD] at e ⊢; exact e
  · intro xs ih v B hB e
    simp only [RelD] at e ⊢
    obtain ⟨a, ws, e1, e2, e3⟩ := e
    exact ⟨a, ws, e1, e2, ih ws B hB e3⟩
  · intro xs ih v B hB e
    simp only [RelD] at e ⊢
    obtain ⟨a, ws, e1, ⟨e2, z, k⟩, e3⟩ := e
    refine ⟨a, ws, e1, ⟨e2, fun q => z (hz a q), fun m hm => ?_⟩, ih ws B hB e3⟩
    rcases hl m hm with ⟨m', q1, q2⟩ | q
    · rw [q2]; exact k m' q1
    · intro e; rw [e] at q; exact z q
  · intro xs ih v B hB e
    simp only [RelD] at e ⊢
    obtain ⟨a, ws, e1, e2, e3⟩ := e
    exact ⟨a, ws, e1, e2, ih ws B hB e3⟩
  · intro k v B hB e
    simp only [RelD] at e ⊢
    exact ⟨e.1, by rw [hf k (Nat.lt_of_lt_of_le e.1 hB)]; exact e.2⟩
  · intro vs B hB e; simp only [RelDs] at e ⊢; exact e
  · intro d ds i1 i2 vs B hB e
    simp only [RelDs] at e ⊢
    obtain ⟨v, r, e1, e2, e3⟩ := e
    exact ⟨v, r, e1, i1 v B hB e2, i2 r B hB e3⟩
theorem RelDs.recell2 (hz : ∀ a, rho2.Z a → rho.Z a) {n : Nat} (hf : ∀ m, m < n → rho2 m = rho m) (hl : ∀ m, live h2 m = true → (∃ m', live h m' = true ∧ rho2 m = rho m') ∨ rho.Z (rho2 m)) : ∀ (ds : List D) (vs : List V) (B : Nat), B ≤ n → RelDs K rho h B H ds vs → RelDs K rho2 h2 B H ds vs
  | [], vs, B, hB, e => by simp only [RelDs] at e ⊢; exact e
  | d :: ds, vs, B, hB, e => by
    simp only [RelDs] at e ⊢
    obtain ⟨v, r, e1, e2, e3⟩ := e
    exact ⟨v, r, e1, RelD.recell2 hz hf hl d v B hB e2, RelDs.recell2 hz hf hl ds r B hB e3⟩
/-- the place of the new cell -/
def zCell (rho : Rh) (n : Nat) (a : Addr) : Rh := ⟨fun m => if m = n then a else rho m, fun b => rho.Z b ∧ b ≠ a⟩
theorem zCell_same {n : Nat} {a : Addr} : zCell rho n a n = a := by simp [zCell]
theorem zCell_ne {n m : Nat} {a : Addr} (q : m ≠ n) : zCell rho n a m = rho m := by simp [zCell, q]
theorem live_add {xs : List D} {m : Nat} (e : live (h ++ [.lst xs]) m = true) : (m < h.length ∧ live h m = true) ∨ m = h.length := by
  rcases live_app e with q | q
  · exact .inl ⟨live_lt q, q⟩
  · exact .inr q
theorem Rel.zcell (R : Rel K rho h H) {a : Addr} (hz : rho.Z a) {xs : List D} {us : List V} (hD : H a = some (.lst us)) (ra : RelVs' K rho h H xs us) : Rel K (zCell rho h.length a) (h ++ [.lst xs]) H := by
  have nD : ∀ m, live h m = true → rho m ≠ a := fun m hm q => R.zc m hm (q ▸ hz)
  have hf : ∀ m, m < h.length → zCell rho h.length a m = rho m := fun m hm => zCell_ne (by omega)
  have hl : ∀ m, live (h ++ [.lst xs]) m = true → (∃ m', live h m' = true ∧ zCell rho h.length a m = rho m') ∨ rho.Z (zCell rho h.length a m) := fun m hm => by
    rcases live_add hm with ⟨q1, q2⟩ | q
    · exact .inl ⟨m, q2, hf m q1⟩
    · exact .inr (by rw [q, zCell_same]; exact hz)
  refine ⟨fun m m' hm hm' e => ?_, fun m o e => ?_, fun b q => R.zd b q.1, fun m hm => ?_⟩
  · rcases live_add hm with ⟨q1, q2⟩ | q <;> rcases live_add hm' with ⟨q1', q2'⟩ | q'
    · rw [hf m q1, hf m' q1'] at e; exact R.inj m m' q2 q2' e
    · rw [hf m q1, q', zCell_same] at e; exact absurd e (nD m q2)
    · rw [hf m' q1', q, zCell_same] at e; exact absurd e.symm (nD m' q2')
    · omega
  · by_cases hm : m < h.length
    · rw [List.getElem?_append_left hm] at e
      have c := R.cell m o e
      cases o with
      | dead => trivial
      | lst ys =>
        obtain ⟨ws, p1, p2⟩ := c
        exact ⟨ws, by rw [hf m hm]; exact p1, RelDs.recell2 (rho2 := zCell rho h.length a) (fun b (q : rho.Z b ∧ b ≠ a) => q.1) hf hl _ _ _ (Nat.le_of_lt hm) p2⟩
    · have hm' : m = h.length := by
        have := (List.getElem?_eq_some_iff.mp e).1
        simp only [List.length_append, List.length_cons, List.length_nil] at this
        omega
      subst hm'
      rw [List.getElem?_append_right (Nat.le_refl _), Nat.sub_self] at e
      simp only [List.getElem?_cons_zero, Option.some.injEq] at e
      subst e
      exact ⟨us, by rw [zCell_same]; exact hD, RelDs.recell2 (rho2 := zCell rho h.length a) (fun b (q : rho.Z b ∧ b ≠ a) => q.1) hf hl _ _ _ (Nat.le_refl _) ra⟩
  · rcases live_add hm with ⟨q1, q2⟩ | q
    · rw [hf m q1]; exact fun z => R.zc m q2 z.1
    · rw [q, zCell_same]; exact fun z => z.2 rfl
theorem Ext.zcell {rho0 : Rh} {h0 : Hd} {H0 : Hp} (x : Ext K rho0 h0 H0 (zDel rho a) h H) (np : H0 a = none) {xs : List D} : Ext K rho0 h0 H0 (zCell rho h.length a) (h ++ [.lst xs]) H where
  le := by rw [List.length_append]; have := x.le; omega
  ag := fun m hm => by rw [zCell_ne (by have := x.le; omega)]; exact x.ag m hm
  lv := fun m hm e => by
    rcases live_add e with ⟨q1, q2⟩ | q
    · exact x.lv m hm q2
    · have := x.le; omega
  fr := fun m hm e => by
    rcases live_add e with ⟨q1, q2⟩ | q
    · rw [zCell_ne (by omega)]; exact x.fr m hm q2
    · rw [q, zCell_same]; exact np
  kp := x.kp
  tp := x.tp
  fz := x.fz
  dm := x.dm
  zi := x.zi
  zo := x.zo
end
def cellL (r : Option (List D × Hd)) : Res D := match r with
  | some (ys, h2) => Res.ok (.ref h2.length) (h2 ++ [.lst ys])
  | none => Res.fail
def e_lcC (own : List Nat) (i : AF) (p : Pat) (tt : TF) (te : EF) : EF := fun s h => (i s h).bind fun items h1 => cellL (lcM p tt te (wipeD s own) items [] h1)
theorem tE.lcC {K : PySem.W.Frag} {mg : Str → Option Value} {W : WX} {own : List Nat} {fi : AF} {p : Pat} {tt : TF} {te : EF} (hp : ∀ i ∈ patI p, i ∈ own) {σ : L2.St} {H : Hp} {Q : VK} (q : tE K mg W (e_lcC own fi p tt te) σ H Q) :
    tLc (tI K mg W fi) (patG K p) (tT K mg W0 tt) (tE K mg W0 te) own σ H Q := by
  obtain ⟨rho, h, s, R, S, po⟩ := q
  refine step R S po fun rho0 h0 H0 items e0 R0 S0 po0 J sv => fun Dl np => ?_
  refine ⟨fun i k H => i + k = items.length ∧ ∃ rho h acc us, Ext K rho0 h0 H0 rho h H ∧ rho.Z Dl ∧ Rel K rho h H ∧ H Dl = some (.lst us) ∧ RelVs' K rho h H acc us ∧
      PostG K mg (fun c d H' => W c d σ H') rho0 h0 H0 (cellL (lcM p tt te (wipeD s own) (items.drop i) acc h)) (pE K Q), ?_, fun i k H q => ?_⟩
  · exact ⟨items.length, by simp, zAdd rho0 Dl, h0, [], [], Ext.zin R0 np, .inr rfl, R0.zin np, upd_same, by simp only [RelVs', RelDs], by simpa using po0⟩
  · obtain ⟨hk, rho1, h1, acc, us, x1, hz, R1, hD, ra, po1⟩ := q
    have nD : ∀ m, live h1 m = true → rho1 m ≠ Dl := fun m hm q => R1.zc m hm (q ▸ hz)
    obtain ⟨s1, s2⟩ := sv rho1 h1 H x1.z R1 i
    cases hi : items[i]? with
    | none =>
      have hl : items.length ≤ i := List.getElem?_eq_none_iff.mp hi
      rw [List.drop_eq_nil_of_le hl] at po1
      refine .inl ⟨s2 hl, po1 (zCell rho1 h1.length Dl) H ((Ext.zdel R0 x1 np).zcell np) (R1.zcell hz hD ra) _ ?_⟩
      simp only [RelV', RelD]
      exact ⟨by simp, by rw [zCell_same]⟩
    | some d =>
      have hl : i < items.length := (List.getElem?_eq_some_iff.mp hi).1
      have ed : items.drop i = d :: items.drop (i + 1) := by
        rw [List.drop_eq_getElem_cons hl]
        congr 1
        exact (List.getElem?_eq_some_iff.mp hi).2
      rw [ed] at po1
      obtain ⟨go, yl⟩ := s1 d hi
      refine .inr ⟨go, fun H' => ∃ rho h acc us, Ext K rho0 h0 H0 rho h H' ∧ rho.Z Dl ∧ Rel K rho h H' ∧ H' Dl = some (.lst us) ∧ RelVs' K rho h H' acc us ∧
          PostG K mg (fun c d H' => W c d σ H') rho0 h0 H0 (cellL (lcM p tt te (wipeD s own) (items.drop (i + 1)) acc h)) (pE K Q),
        fun H' z => ⟨k - 1, by omega, by omega, z⟩, fun x H2 y => ?_⟩
      obtain ⟨e2, R2, r⟩ := yl x H2 y
      have hD2 := e2.kp _ _ hD nD
      simp only [lcM] at po1
      cases q : patD p d (wipeD s own) with
      | none => simp only [q] at po1; exact po1.elim
      | some s1' =>
        simp only [q] at po1
        have x2 := x1.trans e2
        obtain ⟨σ', S', z, wp⟩ := patG_ok p d x (wipeD s own) s1' (wipe σ own) r (RelS.wipe (x2.s S0) own) q
        refine z _ ⟨by rw [wp own hp, wipe_wipe], rho1, h1, s1', R2, S', ?_⟩
        cases qt : tt s1' h1 with
        | fail => simp only [qt] at po1; exact po1.elim
        | exc _ _ => simp only [qt] at po1; exact po1.elim
        | ok c h2 =>
          simp only [qt] at po1
          intro rho3 H3 e3 R3
          have hz3 : rho3.Z Dl := e3.zi _ hz
          have hD3 := e3.kp _ _ hD2 nD
          cases c with
          | false => exact iteF ⟨rho3, h2, acc, us, x2.trans e3, hz3, R3, hD3, (e2.trans e3).vs ra, po1⟩
          | true =>
            refine iteT ⟨rho3, h2, s1', R3, e3.s S', ?_⟩
            cases qe : te s1' h2 with
            | fail => simp only [qe] at po1; exact po1.elim
            | exc _ _ => simp only [qe] at po1; exact po1.elim
            | ok yv h3 =>
              simp only [qe] at po1
              intro rho4 H4 e4 R4 v rv
              have nD3 : ∀ m, live h2 m = true → rho3 m ≠ Dl := fun m hm q => R3.zc m hm (q ▸ hz3)
              have hD4 := e4.kp _ _ hD3 nD3
              have hz4 : rho4.Z Dl := e4.zi _ hz3
              have ra4 := (e2.trans (e3.trans e4)).vs ra
              by_cases hlen : acc.length < sizeLine
              · simp only [hlen, if_true] at po1
                refine ⟨us, hD4, by rw [← RelDs.length ra]; exact hlen, rho4, h3, acc ++ [yv], us ++ [v], (x2.trans (e3.trans e4)).over np, hz4, R4.grow hD4 hz4, upd_same, ?_, po1⟩
                refine RelDs.append (RelDs.grow hD4 hz4 _ _ _ ra4) ?_
                simp only [RelDs]
                exact ⟨v, [], rfl, RelD.grow hD4 hz4 _ _ _ rv, rfl⟩
              · simp only [hlen, if_false] at po1; exact po1.elim
section
variable {X : Cx} {W : WX} {elt tg iter : Expr} {ifs : List Expr} {scope : Scope} {own : List (Str × Nat)} {pos : Pos} {fi : AF} {p : Pat} {tt : TF} {te : EF}
theorem r_lcC {oi : List Nat} (hN : X.N.Nodup) (hc : X.calm = true) (hi : SI X W tg iter fi) (ok : BlkOk X.N X.env.scope scope own) (b : Blk X scope tg ifs elt p tt te) (hp : ∀ i ∈ patI p, i ∈ oi) (ho : own.map (·.2) = oi := by rfl) (hs : ∀ x, foldedSetIterable iter X.env x = pure x := by intro _; rfl) :
    SE X W (.ListComp elt [⟨tg, iter, ifs, 0⟩] scope pos) (e_lcC oi fi p tt te) := PE.imp (pe_lc hc hN hi ok b.hg b.ht b.he hs) fun _ _ _ h => by subst ho; exact tE.lcC hp h
theorem r_setLcC {oi : List Nat} {i : Nat} {y : Str} {py spos : Pos} (hN : X.N.Nodup) (hc : X.calm = true) (hi : SI X W tg iter fi) (ok : BlkOk X.N X.env.scope scope own) (b : Blk X scope tg ifs elt p tt te) (hp : ∀ i ∈ patI p, i ∈ oi)
    (hsw : swapsWith (.ListComp elt [⟨tg, iter, ifs, 0⟩] scope pos) (some (.Name y py)) spos.line X.env = pure true) (ho : own.map (·.2) = oi := by rfl) (hy : X.N[i]? = some y := by rfl) (hyl : X.env.scope.names.lookup y = some .local := by rfl) (hs : ∀ x, foldedSetIterable iter X.env x = pure x := by intro _; rfl) :
    SS X W (.Assign [.Name y py] (.ListComp elt [⟨tg, iter, ifs, 0⟩] scope pos) spos) (s_set i (e_lcC oi fi p tt te)) := PS.imp (ps_setLc hc hN hy hyl hsw hi ok b.hg b.ht b.he hs) fun E σ H h => by
  subst ho
  obtain ⟨rho, h, s, R, S, po⟩ := h
  exact tE.lcC (W := W) hp (stepS R S po fun rho1 h1 H1 x e1 R1 S1 po1 v r => PostG.ok po1 R1 _ (S1.set r i))
end
/-! ### lending: while a test or a plain value is worked out, all cells are looked on as lists by value -/
mutual
def fzD (h : Hd) : D → D
  | .tup xs => .tup (fzDs h xs)
  | .lv xs => .lv (fzDs h xs)
  | .fl xs => .fl (fzDs h xs)
  | .ref n => match h[n]? with
    | some (.lst xs) => .lv xs
    | _ => .ref n
  | d => d
def fzDs (h : Hd) : List D → List D
  | [] => []
  | d :: ds => fzD h d :: fzDs h ds
end
mutual
/-- a value with no list in it -/
def plainD : D → Bool
  | .tup xs => plainDs xs
  | .lv _ => false
  | .fl _ => false
  | .ref _ => false
  | _ => true
def plainDs : List D → Bool
  | [] => true
  | d :: ds => plainD d && plainDs ds
end
def deadO : O → Bool
  | .dead => true
  | _ => false
def flatO : O → Bool
  | .dead => true
  | .lst xs => noRefs xs
def fzH (h : Hd) : Hd := h.map fun _ => .dead
def fzS (h : Hd) (s : Ev) : Ev := s.map fun o => o.map (fzD h)
def lendF {α : Type} (ok : α → Bool) (f : Ev → Hd → Res α) : Ev → Hd → Res α := fun s h => if h.all flatO then
    match f (fzS h s) (fzH h) with
    | .ok a h2 => if h2.all deadO && ok a then .ok a h else .fail
    | _ => .fail
  else .fail
theorem fzH_live {h : Hd} {m : Nat} : live (fzH h) m = false := by
  unfold live fzH
  rw [List.getElem?_map]
  cases h[m]? <;> rfl
theorem dead_live {h : Hd} (q : h.all deadO = true) {m : Nat} : live h m = false := by
  unfold live
  cases e : h[m]? with
  | none => rfl
  | some o =>
    cases o with
    | dead => rfl
    | lst xs =>
      have := List.all_eq_true.mp q _ (List.mem_of_getElem? e)
      cases this
section
variable {K : PySem.W.Frag} {rho rho2 : Rh} {h h2 : Hd} {H H2 : Hp}
mutual
theorem RelD.fz (R : Rel K rho h H) (fl : h.all flatO = true) {B : Nat} : ∀ (d : D) (v : V), RelD K rho h B H d v → RelD K rho (fzH h) B H (fzD h d) v
  | .non, v, e => by simp only [fzD, RelD] at e ⊢; exact e
  | .bl b, v, e => by simp only [fzD, RelD] at e ⊢; exact e
  | .int i, v, e => by simp only [fzD, RelD] at e ⊢; exact e
  | .str z, v, e => by simp only [fzD, RelD] at e ⊢; exact e
  | .tup xs, v, e => by
    simp only [fzD, RelD] at e ⊢
    obtain ⟨a, us, e1, e2, e3⟩ := e
    exact ⟨a, us, e1, e2, RelDs.fz R fl xs us e3⟩
  | .lv xs, v, e => by
    simp only [fzD, RelD] at e ⊢
    obtain ⟨a, us, e1, ⟨e2, z, n⟩, e3⟩ := e
    exact ⟨a, us, e1, ⟨e2, z, fun m hm => by rw [fzH_live] at hm; cases hm⟩, RelDs.fz R fl xs us e3⟩
  | .fl xs, v, e => by
    simp only [fzD, RelD] at e ⊢
    obtain ⟨a, us, e1, e2, e3⟩ := e
    exact ⟨a, us, e1, e2, RelDs.fz R fl xs us e3⟩
  | .ref n, v, e => by
    have hl : ∀ m, live (fzH h) m = true → live h m = true := fun m hm => by rw [fzH_live] at hm; cases hm
    simp only [RelD] at e
    unfold fzD
    cases q : h[n]? with
    | none => simp only [RelD]; exact e
    | some o =>
      cases o with
      | dead => simp only [RelD]; exact e
      | lst xs =>
        obtain ⟨us, a, b⟩ := R.cell n _ q
        have nx : noRefs xs = true := List.all_eq_true.mp fl _ (List.mem_of_getElem? q)
        have lv : live h n = true := by unfold live; rw [q]
        simp only [RelD]
        exact ⟨rho n, us, e.2, ⟨a, R.zc n lv, fun m hm => by rw [fzH_live] at hm; cases hm⟩, RelDs.noref hl _ _ _ _ nx b⟩
theorem RelDs.fz (R : Rel K rho h H) (fl : h.all flatO = true) {B : Nat} : ∀ (ds : List D) (us : List V), RelDs K rho h B H ds us → RelDs K rho (fzH h) B H (fzDs h ds) us
  | [], us, e => by simp only [fzDs, RelDs] at e ⊢; exact e
  | d :: ds, us, e => by
    simp only [fzDs, RelDs] at e ⊢
    obtain ⟨v, r, e1, e2, e3⟩ := e
    exact ⟨v, r, e1, RelD.fz R fl d v e2, RelDs.fz R fl ds r e3⟩
end
mutual
theorem RelD.plain {B B' : Nat} : ∀ (d : D) (v : V), plainD d = true → RelD K rho h2 B H d v → RelD K rho h B' H d v
  | .non, v, p, e => by simp only [RelD] at e ⊢; exact e
  | .bl b, v, p, e => by simp only [RelD] at e ⊢; exact e
  | .int i, v, p, e => by simp only [RelD] at e ⊢; exact e
  | .str z, v, p, e => by simp only [RelD] at e ⊢; exact e
  | .tup xs, v, p, e => by
    simp only [RelD] at e ⊢
    obtain ⟨a, us, e1, e2, e3⟩ := e
    exact ⟨a, us, e1, e2, RelDs.plain xs us (by simpa only [plainD] using p) e3⟩
  | .lv xs, v, p, e => by simp only [plainD] at p; cases p
  | .fl xs, v, p, e => by simp only [plainD] at p; cases p
  | .ref n, v, p, e => by simp only [plainD] at p; cases p
theorem RelDs.plain {B B' : Nat} : ∀ (ds : List D) (us : List V), plainDs ds = true → RelDs K rho h2 B H ds us → RelDs K rho h B' H ds us
  | [], us, p, e => by simp only [RelDs] at e ⊢; exact e
  | d :: ds, us, p, e => by
    simp only [plainDs, Bool.and_eq_true] at p
    simp only [RelDs] at e ⊢
    obtain ⟨v, r, e1, e2, e3⟩ := e
    exact ⟨v, r, e1, RelD.plain d v p.1 e2, RelDs.plain ds r p.2 e3⟩
end
theorem Rel.lend (R : Rel K rho h H) : Rel K rho (fzH h) H where
  inj := fun m n hm _ _ => by rw [fzH_live] at hm; cases hm
  cell := fun m o e => by
    unfold fzH at e
    rw [List.getElem?_map] at e
    cases q : h[m]? with
    | none => rw [q] at e; cases e
    | some o' => rw [q] at e; cases e; trivial
  zd := R.zd
  zc := fun m hm => by rw [fzH_live] at hm; cases hm
theorem fzH_len : (fzH h).length = h.length := by unfold fzH; rw [List.length_map]
theorem RelS.fz (R : Rel K rho h H) (fl : h.all flatO = true) {s : Ev} {σ : L2.St} (S : RelS K rho h H s σ) : RelS K rho (fzH h) H (fzS h s) σ := by
  refine ⟨by unfold fzS; rw [List.length_map]; exact S.1, fun i d e => ?_⟩
  unfold fzS at e
  rw [List.getElem?_map] at e
  cases q : s[i]? with
  | none => rw [q] at e; cases e
  | some o =>
    rw [q] at e
    cases o with
    | none => cases e
    | some d' =>
      cases e
      obtain ⟨v, a, b⟩ := S.2 i d' q
      refine ⟨v, a, ?_⟩
      show RelD K rho (fzH h) (fzH h).length H (fzD h d') v
      rw [fzH_len]
      exact RelD.fz R fl d' v b
theorem Ext.unlend (x : Ext K rho (fzH h) H rho2 h2 H2) : Ext K rho h H rho2 h H2 where
  le := Nat.le_refl _
  ag := fun m hm => x.ag m (by rw [fzH_len]; exact hm)
  lv := fun _ _ e => e
  fr := fun m hm e => absurd (live_lt e) (Nat.not_lt.mpr hm)
  kp := fun a o e _ => x.kp a o e fun m hm => by rw [fzH_live] at hm; cases hm
  tp := x.tp
  fz := x.fz
  dm := x.dm
  zi := x.zi
  zo := x.zo
theorem Rel.unlend (R : Rel K rho h H) (x : Ext K rho (fzH h) H rho2 h2 H2) (R2 : Rel K rho2 h2 H2) : Rel K rho2 h H2 where
  inj := fun m n hm hn e => by
    rw [x.unlend.ag m (live_lt hm), x.unlend.ag n (live_lt hn)] at e
    exact R.inj m n hm hn e
  cell := fun m o e => by
    have c := R.cell m o e
    have hm := (List.getElem?_eq_some_iff.mp e).1
    cases o with
    | dead => trivial
    | lst xs =>
      obtain ⟨us, a, b⟩ := c
      refine ⟨us, ?_, RelDs.mono x.unlend (Nat.le_refl _) (Nat.le_of_lt hm) _ _ b⟩
      rw [x.unlend.ag m hm]
      exact x.kp _ _ a fun m' hm' => by rw [fzH_live] at hm'; cases hm'
  zd := R2.zd
  zc := fun m hm z => by
    rw [x.unlend.ag m (live_lt hm)] at z
    obtain ⟨us, a⟩ := R.at hm
    rcases x.zo _ z with q | q
    · exact R.zc m hm q
    · rw [a] at q; cases q
theorem PostG.lend {α : Type} {mg : Str → Option Value} {W : XK} {ok : α → Bool} {f : Ev → Hd → Res α} {P : PG' α} {s : Ev} (R : Rel K rho h H) (fl : h.all flatO = true) (po : PostG K mg W rho h H (lendF ok f s h) P)
    (hP : ∀ a rho' h' H', ok a = true → P a rho' h H' → P a rho' h' H') : PostG K mg W rho (fzH h) H (f (fzS h s) (fzH h)) P := by
  unfold lendF at po
  rw [if_pos fl] at po
  cases q : f (fzS h s) (fzH h) with
  | fail => rw [q] at po; exact po
  | exc x h' => rw [q] at po; exact po.elim
  | ok a h2 =>
    rw [q] at po
    simp only at po
    by_cases hh : (h2.all deadO && ok a) = true
    · rw [if_pos hh] at po
      rw [Bool.and_eq_true] at hh
      intro rho' H' e R'
      exact hP a rho' h2 H' hh.2 (po rho' H' e.unlend (R.unlend e R'))
    · rw [if_neg hh] at po; exact po.elim
end
def t_lend (f : TF) : TF := lendF (fun _ => true) f
def e_lend (f : EF) : EF := lendF plainD f
theorem lend_flat {α : Type} {K : PySem.W.Frag} {mg : Str → Option Value} {W : XK} {rho : Rh} {h : Hd} {H : Hp} {ok : α → Bool} {f : Ev → Hd → Res α} {P : PG' α} {s : Ev} (po : PostG K mg W rho h H (lendF ok f s h) P) : h.all flatO = true := by
  by_cases fl : h.all flatO = true
  · exact fl
  · unfold lendF at po; rw [if_neg fl] at po; exact po.elim
section
variable {X : Cx} {W : WX} {e : Expr}
theorem r_tlend {f : TF} (ht : ST X W e f) : ST X W e (t_lend f) := PT.imp ht fun σ H Q q => by
  obtain ⟨rho, h, s, R, S, po⟩ := q
  have fl := lend_flat po
  exact ⟨rho, fzH h, fzS h s, R.lend, S.fz R fl, PostG.lend R fl po fun _ _ _ _ _ z => z⟩
theorem r_lend {f : EF} (ht : SE X W e f) : SE X W e (e_lend f) := PE.imp ht fun σ H Q q => by
  obtain ⟨rho, h, s, R, S, po⟩ := q
  have fl := lend_flat po
  exact ⟨rho, fzH h, fzS h s, R.lend, S.fz R fl, PostG.lend R fl po fun a _ _ _ pl z v r => z v (RelD.plain a v pl r)⟩
end
end Mini
namespace Mini
open PySem PySem.Spec PyProof.Rows L2
/-! ### the mirrors -/
abbrev n_is_number : List Str := ["thing"]
def b_is_number : SF :=
  (s_ret (e_and (e_isi ["int"] (e_var 0)) (e_not (e_isi ["bool"] (e_var 0)))))
def m_is_number : MF := fnM 1 1 b_is_number
abbrev n_cross : List Str := ["one", "other", "person"]
def b_cross : SF :=
  (s_ret (e_op (eqP false) (e_call lenP (a_cons (e_lc [2] (i_seq (e_var 1)) (.nm 2) (t_b (e_chain ltP ltP (e_call minP (a_cons (e_var 0) a_nil)) (e_var 2) (e_call maxP (a_cons (e_var 0) a_nil)))) (e_var 2)) a_nil)) (e_c (D.int 1))))
def m_cross : MF := fnM 2 3 b_cross
abbrev n_are_crossed : List Str := ["pairs", "place", "pair", "other"]
def x_are_crossed_f0 : SF :=
  (s_if (t_tru (e_call anyP (a_cons (e_lc [3] (i_seq (e_slice false (e_var 0) (o_some (e_op (addP false) (e_var 1) (e_c (D.int 1)))) o_none)) (.nm 3) t_yes (e_own m_cross (a_cons (e_var 2) (a_cons (e_var 3) a_nil)))) a_nil)))
      (s_ret (e_c (D.bl true)))
      s_nil)
def b_are_crossed : SF :=
  (s_seq (s_for (i_enum (a_cons (e_var 0) a_nil)) (.tp [(.nm 1), (.nm 2)])
      x_are_crossed_f0)
    (s_ret (e_c (D.bl false))))
def m_are_crossed : MF := fnM 1 4 b_are_crossed
abbrev n_arms : List Str := ["arrangement", "partner", "person"]
def b_arms : SF :=
  (s_ret (e_lc [2, 1] (i_enum (a_cons (e_var 0) a_nil)) (.tp [(.nm 2), (.nm 1)]) (t_b (e_op ltP (e_var 2) (e_var 1))) (e_tup (a_cons (e_var 2) (a_cons (e_var 1) a_nil)))))
def m_arms : MF := fnM 1 3 b_arms
abbrev n_is_paired : List Str := ["thing", "person", "partner"]
def x_is_paired_f0 : SF :=
  (s_if (t_or (t_not (t_tru (e_own m_is_number (a_cons (e_var 2) a_nil)))) (t_or (t_not (t_b (e_chain leP ltP (e_c (D.int 0)) (e_var 2) (e_call lenP (a_cons (e_var 0) a_nil))))) (t_b (e_op (eqP false) (e_var 2) (e_var 1)))))
      (s_ret (e_c (D.bl false)))
      s_nil)
def b_is_paired : SF :=
  (s_seq (s_for (i_enum (a_cons (e_var 0) a_nil)) (.tp [(.nm 1), (.nm 2)])
      x_is_paired_f0)
    (s_ret (e_call allP (a_cons (e_lc [1, 2] (i_enum (a_cons (e_var 0) a_nil)) (.tp [(.nm 1), (.nm 2)]) t_yes (e_op (eqP false) (e_op ixP (e_var 0) (e_var 2)) (e_var 1))) a_nil))))
def m_is_paired : MF := fnM 1 3 b_is_paired
abbrev n_is_arrangement : List Str := ["thing"]
def b_is_arrangement : SF :=
  (s_ret (e_and (e_isi ["tuple"] (e_var 0)) (e_and (e_own m_is_paired (a_cons (e_var 0) a_nil)) (e_not (e_own m_are_crossed (a_cons (e_own m_arms (a_cons (e_var 0) a_nil)) a_nil))))))
def m_is_arrangement : MF := fnM 1 1 b_is_arrangement
abbrev n_look_same : List Str := ["one", "other"]
def b_look_same : SF :=
  (s_if (t_b (e_op (eqP true) (e_call lenP (a_cons (e_var 0) a_nil)) (e_call lenP (a_cons (e_var 1) a_nil))))
      s_never
      s_nil)
def m_look_same : MF := fnM 2 2 b_look_same
abbrev n_is_lesser : List Str := ["arrangement", "person"]
def b_is_lesser : SF :=
  (s_ret (e_and (e_chain leP ltP (e_c (D.int 0)) (e_var 1) (e_call lenP (a_cons (e_var 0) a_nil))) (e_op gtP (e_op ixP (e_var 0) (e_var 1)) (e_var 1))))
def m_is_lesser : MF := fnM 2 2 b_is_lesser
abbrev n_new_arms : List Str := ["arrangement", "exchange", "one", "other", "first", "second", "third", "last"]
def b_new_arms : SF :=
  (s_seq (s_asg (.tp [(.nm 2), (.nm 3)]) (e_var 1))
    (s_seq (s_asg (.tp [(.nm 4), (.nm 5), (.nm 6), (.nm 7)]) (e_call (sortP false) (a_cons (e_lst false (a_cons (e_var 2) (a_cons (e_var 3) (a_cons (e_op ixP (e_var 0) (e_var 2)) (a_cons (e_op ixP (e_var 0) (e_var 3)) a_nil))))) a_nil)))
    (s_seq (s_if (t_b (e_op (eqP false) (e_op ixP (e_var 0) (e_var 4)) (e_var 5)))
      (s_ret (e_lst false (a_cons (e_tup (a_cons (e_var 4) (a_cons (e_var 7) a_nil))) (a_cons (e_tup (a_cons (e_var 5) (a_cons (e_var 6) a_nil))) a_nil))))
      s_nil)
    (s_ret (e_lst false (a_cons (e_tup (a_cons (e_var 4) (a_cons (e_var 5) a_nil))) (a_cons (e_tup (a_cons (e_var 6) (a_cons (e_var 7) a_nil))) a_nil)))))))
def m_new_arms : MF := fnM 2 8 b_new_arms
abbrev n_is_possible : List Str := ["arrangement", "exchange", "made", "others", "arm", "other"]
def b_is_possible : SF :=
  (s_seq (s_set 2 (e_own m_new_arms (a_cons (e_var 0) (a_cons (e_var 1) a_nil))))
    (s_seq (s_set 3 (e_lc [4] (i_seq (e_own m_arms (a_cons (e_var 0) a_nil))) (.nm 4) (t_b (e_op (inP true) (e_op ixP (e_var 4) (e_c (D.int 0))) (e_var 1))) (e_var 4)))
    (s_ret (e_not (e_call anyP (a_cons (e_lc2 [4, 5] (i_seq (e_var 2)) (.nm 4) t_yes (i_seq (e_var 3)) [5] (.nm 5) t_yes (e_own m_cross (a_cons (e_var 4) (a_cons (e_var 5) a_nil)))) a_nil))))))
def m_is_possible : MF := fnM 2 6 b_is_possible
abbrev n_exchanges : List Str := ["arrangement", "found", "lesser", "place", "one", "arm", "other"]
def x_exchanges_f0 : SF :=
  (s_expr (e_lm extP (e_var 1) (a_cons (e_lc [6] (i_seq (e_slice false (e_var 2) (o_some (e_op (addP false) (e_var 3) (e_c (D.int 1)))) o_none)) (.nm 6) (t_tru (e_own m_is_possible (a_cons (e_var 0) (a_cons (e_tup (a_cons (e_var 4) (a_cons (e_var 6) a_nil))) a_nil)))) (e_tup (a_cons (e_var 4) (a_cons (e_var 6) a_nil)))) a_nil)))
def b_exchanges : SF :=
  (s_seq (s_par 1 2 (a_cons (e_lst true a_nil) (a_cons (e_lc [5] (i_seq (e_own m_arms (a_cons (e_var 0) a_nil))) (.nm 5) t_yes (e_op ixP (e_var 5) (e_c (D.int 0)))) a_nil)))
    (s_seq (s_for (i_enum (a_cons (e_var 2) a_nil)) (.tp [(.nm 3), (.nm 4)])
      x_exchanges_f0)
    (s_ret (e_var 1))))
def m_exchanges : MF := fnM 1 7 b_exchanges
abbrev n_changed : List Str := ["arrangement", "exchange", "found", "one", "other"]
def x_changed_f0 : SF :=
  (s_asgT (g_tup 2 (g_cons (g_sub setP (e_var 2) (e_var 3)) (g_cons (g_sub setP (e_var 2) (e_var 4)) g_nil))) (e_tup (a_cons (e_var 4) (a_cons (e_var 3) a_nil))))
def b_changed : SF :=
  (s_seq (s_set 2 (e_call (listP true) (a_cons (e_var 0) a_nil)))
    (s_seq (s_for (i_seq (e_own m_new_arms (a_cons (e_var 0) (a_cons (e_var 1) a_nil)))) (.tp [(.nm 3), (.nm 4)])
      x_changed_f0)
    (s_ret (e_call tupleP (a_cons (e_var 2) a_nil)))))
def m_changed : MF := fnM 2 5 b_changed
abbrev n_exchanged : List Str := ["arrangement", "exchange", "person"]
def x_exchanged_f0 : SF :=
  (s_if (t_not (t_tru (e_own m_is_lesser (a_cons (e_var 0) (a_cons (e_var 2) a_nil)))))
      s_never
      s_nil)
def b_exchanged : SF :=
  (s_seq (s_for (i_seq (e_var 1)) (.nm 2)
      x_exchanged_f0)
    (s_seq (s_if (t_or (t_b (e_op geP (e_op ixP (e_var 1) (e_c (D.int 0))) (e_op ixP (e_var 1) (e_c (D.int 1))))) (t_not (t_tru (e_own m_is_possible (a_cons (e_var 0) (a_cons (e_var 1) a_nil))))))
      s_never
      s_nil)
    (s_ret (e_own m_changed (a_cons (e_var 0) (a_cons (e_var 1) a_nil))))))
def m_exchanged : MF := fnM 2 3 b_exchanged
abbrev n_walk : List Str := ["arrangement", "place", "found"]
def x_walk_w0 : SF :=
  (s_seq (s_set 1 (e_op ixP (e_var 0) (e_op modP (e_op (addP false) (e_var 1) (e_c (D.int 1))) (e_call lenP (a_cons (e_var 0) a_nil)))))
    (s_seq (s_if (t_b (e_op (eqP false) (e_var 1) (e_op ixP (e_var 2) (e_c (D.int 0)))))
      (s_ret (e_call tupleP (a_cons (e_call (sortP false) (a_cons (e_var 2) a_nil)) a_nil)))
      s_nil)
    (s_expr (e_lm appendP (e_var 2) (a_cons (e_var 1) a_nil)))))
def x_walk_t0 : TF :=
  (t_tru (e_c (D.bl true)))
def b_walk : SF :=
  (s_seq (s_set 2 (e_lst true (a_cons (e_var 1) a_nil)))
    (whileM x_walk_t0
      x_walk_w0 1000))
def m_walk : MF := fnM 2 3 b_walk
abbrev n_areas : List Str := ["arrangement", "place"]
def b_areas : SF :=
  (s_ret (e_sset false (e_lc [1] (i_rng1 (a_cons (e_call lenP (a_cons (e_var 0) a_nil)) a_nil)) (.nm 1) t_yes (e_own m_walk (a_cons (e_var 0) (a_cons (e_var 1) a_nil))))))
def m_areas : MF := fnM 1 2 b_areas
abbrev n_area_of : List Str := ["arrangement", "place"]
def b_area_of : SF :=
  (s_seq (s_if (t_not (t_b (e_chain leP ltP (e_c (D.int 0)) (e_var 1) (e_call lenP (a_cons (e_var 0) a_nil)))))
      s_never
      s_nil)
    (s_ret (e_own m_walk (a_cons (e_var 0) (a_cons (e_var 1) a_nil)))))
def m_area_of : MF := fnM 2 2 b_area_of
abbrev n_by_areas : List Str := ["people", "some", "listed", "found", "area", "place", "after"]
def x_by_areas_f0 : SF :=
  (s_asgT (g_sub setP (e_var 3) (e_op modP (e_op (addP false) (e_var 5) (e_c (D.int 1))) (e_var 0))) (e_var 6))
def x_by_areas_f1 : SF :=
  (s_for (i_zip (a_cons (e_var 4) (a_cons (e_op (addP false) (e_slice false (e_var 4) (o_some (e_c (D.int 1))) o_none) (e_slice false (e_var 4) o_none (o_some (e_c (D.int 1))))) a_nil))) (.tp [(.nm 5), (.nm 6)])
      x_by_areas_f0)
def b_by_areas : SF :=
  (s_seq (s_set 2 (e_call (sortP false) (a_cons (e_lc [4] (i_seq (e_var 1)) (.nm 4) t_yes (e_call tupleP (a_cons (e_call (sortP false) (a_cons (e_var 4) a_nil)) a_nil))) a_nil)))
    (s_seq (s_if (t_b (e_op (eqP true) (e_call (sortP false) (a_cons (e_lc2 [4, 5] (i_seq (e_var 2)) (.nm 4) t_yes (i_seq (e_var 4)) [5] (.nm 5) t_yes (e_var 5)) a_nil)) (e_lrg false (rg1 (e_var 0)))))
      (s_ret (e_c D.non))
      s_nil)
    (s_seq (s_set 3 (e_op (mulP true) (e_lst false (a_cons (e_c (D.int 0)) a_nil)) (e_var 0)))
    (s_seq (s_for (i_seq (e_var 2)) (.nm 4)
      x_by_areas_f1)
    (s_freeze 3 (s_seq (s_if (t_or (t_not (t_tru (e_own m_is_arrangement (a_cons (e_call tupleP (a_cons (e_var 3) a_nil)) a_nil)))) (t_b (e_op (eqP true) (e_own m_areas (a_cons (e_var 3) a_nil)) (e_var 2))))
      (s_ret (e_c D.non))
      s_nil)
    (s_ret (e_call tupleP (a_cons (e_var 3) a_nil)))))))))
def m_by_areas : MF := fnM 2 7 b_by_areas
abbrev n_ring_of : List Str := ["one", "other", "person", "found"]
def x_ring_of_w0 : SF :=
  (s_seq (s_expr (e_lm appendP (e_var 3) (a_cons (e_op ixP (e_var 1) (e_op ixP (e_var 3) (e_un negP (e_c (D.int 1))))) a_nil)))
    (s_expr (e_lm appendP (e_var 3) (a_cons (e_op ixP (e_var 0) (e_op ixP (e_var 3) (e_un negP (e_c (D.int 1))))) a_nil))))
def x_ring_of_t0 : TF :=
  (t_b (e_op (eqP true) (e_op ixP (e_var 1) (e_op ixP (e_var 3) (e_un negP (e_c (D.int 1))))) (e_var 2)))
def b_ring_of : SF :=
  (s_seq (s_set 3 (e_lst true (a_cons (e_var 2) (a_cons (e_op ixP (e_var 0) (e_var 2)) a_nil))))
    (s_seq (whileM x_ring_of_t0
      x_ring_of_w0 1000)
    (s_ret (e_call tupleP (a_cons (e_var 3) a_nil)))))
def m_ring_of : MF := fnM 3 4 b_ring_of
abbrev n_rings : List Str := ["one", "other", "found", "met", "person"]
def x_rings_f0 : SF :=
  (s_if (t_b (e_op (inP true) (e_var 4) (e_var 3)))
      (s_seq (s_expr (e_lm appendP (e_var 2) (a_cons (e_own m_ring_of (a_cons (e_var 0) (a_cons (e_var 1) (a_cons (e_var 4) a_nil)))) a_nil)))
    (s_expr (e_lm extP (e_var 3) (a_cons (e_op ixP (e_var 2) (e_un negP (e_c (D.int 1)))) a_nil))))
      s_nil)
def b_rings : SF :=
  (s_seq (s_expr (e_own m_look_same (a_cons (e_var 0) (a_cons (e_var 1) a_nil))))
    (s_seq (s_par 2 3 (a_cons (e_lst true a_nil) (a_cons (e_lst true a_nil) a_nil)))
    (s_seq (s_for (i_rng1 (a_cons (e_call lenP (a_cons (e_var 0) a_nil)) a_nil)) (.nm 4)
      x_rings_f0)
    (s_ret (e_var 2)))))
def m_rings : MF := fnM 2 5 b_rings
abbrev n_distance : List Str := ["one", "other"]
def b_distance : SF :=
  (s_ret (e_op subP (e_op fdivP (e_call lenP (a_cons (e_var 0) a_nil)) (e_c (D.int 2))) (e_call lenP (a_cons (e_own m_rings (a_cons (e_var 0) (a_cons (e_var 1) a_nil))) a_nil))))
def m_distance : MF := fnM 2 2 b_distance
abbrev n_law_cell_at : List Str := ["_law_script", "_law_k"]
def b_law_cell_at : SF :=
  (s_seq (s_if (t_b (e_op ltP (e_var 1) (e_call lenP (a_cons (e_var 0) a_nil))))
      (s_ret (e_op ixP (e_var 0) (e_var 1)))
      s_nil)
    (s_ret (e_c (D.int 0))))
def m_law_cell_at : MF := fnM 2 2 b_law_cell_at
abbrev n_law_box : List Str := ["_law_script", "_law_k", "_law_core"]
def b_law_box : SF :=
  (s_seq (s_set 2 (e_own m_law_cell_at (a_cons (e_var 0) (a_cons (e_var 1) a_nil))))
    (s_ret (e_lst true (a_cons (e_op (mulP false) (e_call absP (a_cons (e_var 2) a_nil)) (e_call intP (a_cons (e_op geP (e_call absP (a_cons (e_var 2) a_nil)) (e_op powP (e_c (D.int 10)) (e_c (D.int 18)))) a_nil))) (a_cons (e_op (addP false) (e_op (addP false) (e_op modP (e_var 2) (e_c (D.int 2305843009213693951))) (e_op (mulP false) (e_c (D.int 39373)) (e_var 1))) (e_c (D.int 29))) (a_cons (e_c (D.int 0)) a_nil))))))
def m_law_box : MF := runB 2 3 b_law_box
abbrev n_law_take : List Str := ["_law_box_here", "_law_below", "_law_found", "_law_once", "_law_twice"]
def b_law_take (self : MF) : SF :=
  (s_seq (s_if (t_b (e_op gtP (e_op ixP (e_var 0) (e_c (D.int 0))) (e_c (D.int 0))))
      (s_seq (s_set 2 (e_op modP (e_op ixP (e_var 0) (e_c (D.int 0))) (e_var 1)))
    (s_seq (s_asgT (g_sub setP (e_var 0) (e_c (D.int 0))) (e_op fdivP (e_op ixP (e_var 0) (e_c (D.int 0))) (e_var 1)))
    (s_ret (e_var 2))))
      s_nil)
    (s_seq (s_if (t_b (e_op gtP (e_var 1) (e_op powP (e_c (D.int 10)) (e_c (D.int 7)))))
      (s_ret (e_op modP (e_op (addP false) (e_own self (a_cons (e_var 0) (a_cons (e_op powP (e_c (D.int 10)) (e_c (D.int 7))) a_nil))) (e_op (mulP false) (e_op powP (e_c (D.int 10)) (e_c (D.int 7))) (e_own self (a_cons (e_var 0) (a_cons (e_op (addP false) (e_op fdivP (e_var 1) (e_op powP (e_c (D.int 10)) (e_c (D.int 7)))) (e_c (D.int 1))) a_nil))))) (e_var 1)))
      s_nil)
    (s_seq (s_asgT (g_sub setP (e_var 0) (e_c (D.int 2))) (e_op (addP false) (e_op ixP (e_var 0) (e_c (D.int 2))) (e_c (D.int 1))))
    (s_seq (s_set 3 (e_op modP (e_op (mulP false) (e_op (addP false) (e_op ixP (e_var 0) (e_c (D.int 1))) (e_op (mulP false) (e_c (D.int 48271)) (e_op ixP (e_var 0) (e_c (D.int 2))))) (e_op (addP false) (e_c (D.int 39373)) (e_op ixP (e_var 0) (e_c (D.int 2))))) (e_c (D.int 2147483647))))
    (s_seq (s_set 4 (e_op modP (e_op (mulP false) (e_op (addP false) (e_op (addP false) (e_var 3) (e_op ixP (e_var 0) (e_c (D.int 2)))) (e_op fdivP (e_op ixP (e_var 0) (e_c (D.int 1))) (e_c (D.int 1000003)))) (e_op (addP false) (e_op modP (e_var 3) (e_c (D.int 40009))) (e_c (D.int 7)))) (e_c (D.int 2147483629))))
    (s_ret (e_op modP (e_op fdivP (e_op modP (e_op (addP false) (e_op (mulP false) (e_var 4) (e_c (D.int 48271))) (e_var 3)) (e_c (D.int 2147483587))) (e_c (D.int 64))) (e_var 1))))))))
def r_law_take : Nat → MF
  | 0 => fun _ _ => .fail
  | n + 1 => fnM 2 5 (b_law_take (r_law_take n))
def m_law_take : MF := r_law_take 4
abbrev n_law_of : List Str := ["_law_box_here", "_law_pool"]
def b_law_of : SF :=
  (s_ret (e_op ixP (e_var 1) (e_own m_law_take (a_cons (e_var 0) (a_cons (e_call lenP (a_cons (e_var 1) a_nil)) a_nil)))))
def m_law_of : MF := fnM 2 2 b_law_of
abbrev n_law_hall : List Str := ["_law_box_here", "_law_few", "_law_hall_here", "_law_left", "_law_low", "_law_high", "_law_mate"]
def x_law_hall_w0 : SF :=
  (s_seq (s_asg (.tp [(.nm 4), (.nm 5)]) (e_lm popP (e_var 3) a_nil))
    (s_if (t_b (e_op ltP (e_var 4) (e_var 5)))
      (s_seq (s_set 6 (e_op (addP false) (e_op (addP false) (e_var 4) (e_c (D.int 1))) (e_op (mulP false) (e_c (D.int 2)) (e_own m_law_take (a_cons (e_var 0) (a_cons (e_op fdivP (e_op subP (e_var 5) (e_var 4)) (e_c (D.int 2))) a_nil))))))
    (s_seq (s_asgT (g_tup 2 (g_cons (g_sub setP (e_var 2) (e_var 4)) (g_cons (g_sub setP (e_var 2) (e_var 6)) g_nil))) (e_tup (a_cons (e_var 6) (a_cons (e_var 4) a_nil))))
    (s_set 3 (e_op (addP true) (e_var 3) (e_lst false (a_cons (e_tup (a_cons (e_op (addP false) (e_var 4) (e_c (D.int 1))) (a_cons (e_var 6) a_nil))) (a_cons (e_tup (a_cons (e_op (addP false) (e_var 6) (e_c (D.int 1))) (a_cons (e_var 5) a_nil))) a_nil)))))))
      s_nil))
def x_law_hall_t0 : TF :=
  (t_b (e_op (eqP true) (e_var 3) (e_lst false a_nil)))
def b_law_hall : SF :=
  (s_seq (s_par 2 3 (a_cons (e_op (mulP true) (e_lst false (a_cons (e_c (D.int 0)) a_nil)) (e_op (mulP false) (e_c (D.int 2)) (e_var 1))) (a_cons (e_lst true (a_cons (e_tup (a_cons (e_c (D.int 0)) (a_cons (e_op (mulP false) (e_c (D.int 2)) (e_var 1)) a_nil))) a_nil)) a_nil)))
    (s_seq (whileM x_law_hall_t0
      x_law_hall_w0 1000)
    (s_ret (e_call tupleP (a_cons (e_var 2) a_nil)))))
def m_law_hall : MF := fnM 2 7 b_law_hall
abbrev n_law_pairs : List Str := ["_law_hall_here", "_law_k", "_law_mate"]
def b_law_pairs : SF :=
  (s_ret (e_lc [1, 2] (i_enum (a_cons (e_var 0) a_nil)) (.tp [(.nm 1), (.nm 2)]) (t_b (e_op ltP (e_var 1) (e_var 2))) (e_tup (a_cons (e_var 1) (a_cons (e_var 2) a_nil)))))
def m_law_pairs : MF := fnM 1 3 b_law_pairs
abbrev n_law_crossed : List Str := ["_law_duo", "_law_its"]
def b_law_crossed : SF :=
  (s_ret (e_op (eqP true) (e_chain ltP ltP (e_call minP (a_cons (e_var 0) a_nil)) (e_op ixP (e_var 1) (e_c (D.int 0))) (e_call maxP (a_cons (e_var 0) a_nil))) (e_chain ltP ltP (e_call minP (a_cons (e_var 0) a_nil)) (e_op ixP (e_var 1) (e_c (D.int 1))) (e_call maxP (a_cons (e_var 0) a_nil)))))
def m_law_crossed : MF := fnM 2 2 b_law_crossed
abbrev n_law_clear : List Str := ["_law_duos", "_law_k", "_law_duo", "_law_its"]
def x_law_clear_f0 : SF :=
  (s_if (t_tru (e_call anyP (a_cons (e_lc [3] (i_seq (e_slice false (e_var 0) o_none (o_some (e_var 1)))) (.nm 3) t_yes (e_own m_law_crossed (a_cons (e_var 2) (a_cons (e_var 3) a_nil)))) a_nil)))
      (s_ret (e_c (D.bl false)))
      s_nil)
def b_law_clear : SF :=
  (s_seq (s_for (i_enum (a_cons (e_var 0) a_nil)) (.tp [(.nm 1), (.nm 2)])
      x_law_clear_f0)
    (s_ret (e_c (D.bl true))))
def m_law_clear : MF := fnM 1 4 b_law_clear
abbrev n_law_seated : List Str := ["_law_size", "_law_duos", "_law_hall_here", "_law_low", "_law_high"]
def x_law_seated_f0 : SF :=
  (s_asgT (g_tup 2 (g_cons (g_sub setP (e_var 2) (e_var 3)) (g_cons (g_sub setP (e_var 2) (e_var 4)) g_nil))) (e_tup (a_cons (e_var 4) (a_cons (e_var 3) a_nil))))
def b_law_seated : SF :=
  (s_seq (s_set 2 (e_op (mulP true) (e_lst false (a_cons (e_c (D.int 0)) a_nil)) (e_var 0)))
    (s_seq (s_for (i_seq (e_var 1)) (.tp [(.nm 3), (.nm 4)])
      x_law_seated_f0)
    (s_ret (e_call tupleP (a_cons (e_var 2) a_nil)))))
def m_law_seated : MF := fnM 2 5 b_law_seated
abbrev n_law_swapped : List Str := ["_law_hall_here", "_law_duo", "_law_a", "_law_b", "_law_c", "_law_d", "_law_made", "_law_rest", "_law_its"]
def b_law_swapped : SF :=
  (s_seq (s_asg (.tp [(.nm 2), (.nm 3), (.nm 4), (.nm 5)]) (e_call (sortP false) (a_cons (e_lst false (a_cons (e_op ixP (e_var 1) (e_c (D.int 0))) (a_cons (e_op ixP (e_var 1) (e_c (D.int 1))) (a_cons (e_op ixP (e_var 0) (e_op ixP (e_var 1) (e_c (D.int 0)))) (a_cons (e_op ixP (e_var 0) (e_op ixP (e_var 1) (e_c (D.int 1)))) a_nil))))) a_nil)))
    (s_seq (s_set 6 (e_if (t_b (e_op (eqP false) (e_op ixP (e_var 0) (e_var 2)) (e_var 3))) (e_lst false (a_cons (e_tup (a_cons (e_var 2) (a_cons (e_var 5) a_nil))) (a_cons (e_tup (a_cons (e_var 3) (a_cons (e_var 4) a_nil))) a_nil))) (e_lst false (a_cons (e_tup (a_cons (e_var 2) (a_cons (e_var 3) a_nil))) (a_cons (e_tup (a_cons (e_var 4) (a_cons (e_var 5) a_nil))) a_nil)))))
    (s_seq (s_set 7 (e_lc [8] (i_seq (e_own m_law_pairs (a_cons (e_var 0) a_nil))) (.nm 8) (t_b (e_op (inP true) (e_op ixP (e_var 8) (e_c (D.int 0))) (e_var 1))) (e_var 8)))
    (s_ret (e_if (t_tru (e_own m_law_clear (a_cons (e_op (addP false) (e_var 7) (e_var 6)) a_nil))) (e_own m_law_seated (a_cons (e_call lenP (a_cons (e_var 0) a_nil)) (a_cons (e_op (addP false) (e_var 7) (e_var 6)) a_nil))) (e_c D.non))))))
def m_law_swapped : MF := fnM 2 9 b_law_swapped
abbrev n_law_swaps : List Str := ["_law_hall_here", "_law_lows", "_law_found", "_law_k", "_law_its", "_law_high", "_law_low"]
def x_law_swaps_f0 : SF :=
  (s_expr (e_lm extP (e_var 2) (a_cons (e_lc [6] (i_seq (e_slice false (e_var 1) o_none (o_some (e_var 3)))) (.nm 6) (t_b (e_op notNP (e_own m_law_swapped (a_cons (e_var 0) (a_cons (e_tup (a_cons (e_var 6) (a_cons (e_var 4) a_nil))) a_nil))) (e_c D.non))) (e_tup (a_cons (e_var 6) (a_cons (e_var 4) a_nil)))) a_nil)))
def b_law_swaps : SF :=
  (s_seq (s_par 1 2 (a_cons (e_lc [6, 5] (i_seq (e_own m_law_pairs (a_cons (e_var 0) a_nil))) (.tp [(.nm 6), (.nm 5)]) t_yes (e_var 6)) (a_cons (e_lst true a_nil) a_nil)))
    (s_seq (s_for (i_enum (a_cons (e_var 1) a_nil)) (.tp [(.nm 3), (.nm 4)])
      x_law_swaps_f0)
    (s_ret (e_call (sortP false) (a_cons (e_var 2) a_nil)))))
def m_law_swaps : MF := fnM 1 7 b_law_swaps
abbrev n_law_strolled : List Str := ["_law_box_here", "_law_hall_here", "_law_turns", "_law_turn", "_law_duos"]
def x_law_strolled_f0 : SF :=
  (s_seq (s_set 4 (e_own m_law_swaps (a_cons (e_var 1) a_nil)))
    (s_if (t_b (e_op (eqP true) (e_var 4) (e_lst false a_nil)))
      (s_set 1 (e_own m_law_swapped (a_cons (e_var 1) (a_cons (e_own m_law_of (a_cons (e_var 0) (a_cons (e_var 4) a_nil))) a_nil))))
      s_nil))
def b_law_strolled : SF :=
  (s_seq (s_for (i_rng1 (a_cons (e_var 2) a_nil)) (.nm 3)
      x_law_strolled_f0)
    (s_ret (e_var 1)))
def m_law_strolled : MF := fnM 3 5 b_law_strolled
abbrev n_law_room_arms : List Str := ["_law_hall_here", "_law_room", "_law_size", "_law_space"]
def b_law_room_arms : SF :=
  (s_seq (s_set 2 (e_call lenP (a_cons (e_var 0) a_nil)))
    (s_ret (e_sset false (e_lc [3] (i_seq (e_var 1)) (.nm 3) t_yes (e_call tupleP (a_cons (e_call (sortP false) (a_cons (e_lst false (a_cons (e_op modP (e_op (addP false) (e_var 3) (e_c (D.int 1))) (e_var 2)) (a_cons (e_op ixP (e_var 0) (e_op modP (e_op (addP false) (e_var 3) (e_c (D.int 1))) (e_var 2))) a_nil))) a_nil)) a_nil))))))
def m_law_room_arms : MF := fnM 2 4 b_law_room_arms
abbrev n_law_swaps_due : List Str := ["_law_hall_here", "_law_rooms", "_law_found", "_law_room", "_law_lows", "_law_k", "_law_low", "_law_duo", "_law_its"]
def x_law_swaps_due_f0 : SF :=
  (s_expr (e_lm extP (e_var 2) (a_cons (e_lc [8] (i_seq (e_slice false (e_var 4) (o_some (e_op (addP false) (e_var 5) (e_c (D.int 1)))) o_none)) (.nm 8) t_yes (e_tup (a_cons (e_var 6) (a_cons (e_var 8) a_nil)))) a_nil)))
def x_law_swaps_due_f1 : SF :=
  (s_seq (s_set 4 (e_lc [7] (i_seq (e_own m_law_room_arms (a_cons (e_var 0) (a_cons (e_var 3) a_nil)))) (.nm 7) t_yes (e_op ixP (e_var 7) (e_c (D.int 0)))))
    (s_for (i_enum (a_cons (e_var 4) a_nil)) (.tp [(.nm 5), (.nm 6)])
      x_law_swaps_due_f0))
def b_law_swaps_due : SF :=
  (s_seq (s_set 2 (e_lst true a_nil))
    (s_seq (s_for (i_seq (e_var 1)) (.nm 3)
      x_law_swaps_due_f1)
    (s_ret (e_call (sortP false) (a_cons (e_var 2) a_nil)))))
def m_law_swaps_due : MF := fnM 2 9 b_law_swaps_due
abbrev n_law_swap_right : List Str := ["_law_hall_here", "_law_duo", "_law_before", "_law_later", "_law_gone", "_law_new", "_law_made", "_law_lost", "_law_parted", "_law_merged", "_law_room", "_law_a", "_law_b"]
def b_law_swap_right : SF :=
  (s_seq (s_asgT (g_tup 2 (g_cons (g_name 2) (g_cons (g_name 3) g_nil))) (e_tup (a_cons (e_own m_areas (a_cons (e_var 0) a_nil)) (a_cons (e_own m_areas (a_cons (e_own m_exchanged (a_cons (e_var 0) (a_cons (e_var 1) a_nil))) a_nil)) a_nil))))
    (s_seq (s_par 4 5 (a_cons (e_lc [10] (i_seq (e_var 2)) (.nm 10) (t_b (e_op (inP true) (e_var 10) (e_var 3))) (e_var 10)) (a_cons (e_lc [10] (i_seq (e_var 3)) (.nm 10) (t_b (e_op (inP true) (e_var 10) (e_var 2))) (e_var 10)) a_nil)))
    (s_seq (s_if (t_or (t_b (e_op (eqP true) (e_call lenP (a_cons (e_var 4) a_nil)) (e_c (D.int 3)))) (t_b (e_op (eqP true) (e_call lenP (a_cons (e_var 5) a_nil)) (e_c (D.int 3)))))
      (s_ret (e_c (D.bl false)))
      s_nil)
    (s_seq (s_set 6 (e_lc [11, 12] (i_zip (a_cons (e_var 5) (a_cons (e_op (addP false) (e_slice false (e_var 5) (o_some (e_c (D.int 1))) o_none) (e_slice false (e_var 5) o_none (o_some (e_c (D.int 1))))) a_nil))) (.tp [(.nm 11), (.nm 12)]) t_yes (e_call tupleP (a_cons (e_call (sortP false) (a_cons (e_op (addP false) (e_var 11) (e_var 12)) a_nil)) a_nil))))
    (s_seq (s_set 7 (e_lc [11, 12] (i_zip (a_cons (e_var 4) (a_cons (e_op (addP false) (e_slice false (e_var 4) (o_some (e_c (D.int 1))) o_none) (e_slice false (e_var 4) o_none (o_some (e_c (D.int 1))))) a_nil))) (.tp [(.nm 11), (.nm 12)]) t_yes (e_call tupleP (a_cons (e_call (sortP false) (a_cons (e_op (addP false) (e_var 11) (e_var 12)) a_nil)) a_nil))))
    (s_seq (s_par 8 9 (a_cons (e_lc [10] (i_seq (e_var 4)) (.nm 10) (t_b (e_op (inP false) (e_var 10) (e_var 6))) (e_var 10)) (a_cons (e_lc [10] (i_seq (e_var 5)) (.nm 10) (t_b (e_op (inP false) (e_var 10) (e_var 7))) (e_var 10)) a_nil)))
    (s_ret (e_and (e_op (eqP false) (e_call lenP (a_cons (e_var 8) a_nil)) (e_c (D.int 1))) (e_op (eqP false) (e_call lenP (a_cons (e_var 9) a_nil)) (e_c (D.int 1)))))))))))
def m_law_swap_right : MF := fnM 2 13 b_law_swap_right
abbrev n_law_hall_right : List Str := ["_law_box_here", "_law_hall_here", "_law_size", "_law_rooms", "_law_swaps_so", "_law_spaces", "_law_room", "_law_pairs_many", "_law_duo", "_law_goal", "_law_evens", "_law_its"]
def x_law_hall_right_f0 : SF :=
  (s_expr (e_lm extP (e_var 5) (a_cons (e_var 6) a_nil)))
def x_law_hall_right_f1 : SF :=
  (s_if (t_not (t_tru (e_own m_law_swap_right (a_cons (e_var 1) (a_cons (e_var 8) a_nil)))))
      (s_ret (e_c (D.bl false)))
      s_nil)
def b_law_hall_right : SF :=
  (s_seq (s_par3 2 3 4 (a_cons (e_call lenP (a_cons (e_var 1) a_nil)) (a_cons (e_own m_areas (a_cons (e_var 1) a_nil)) (a_cons (e_own m_exchanges (a_cons (e_var 1) a_nil)) a_nil))))
    (s_seq (s_set 5 (e_lst true a_nil))
    (s_seq (s_for (i_seq (e_var 3)) (.nm 6)
      x_law_hall_right_f0)
    (s_seq (s_if (t_or (t_b (e_op (eqP true) (e_call (sortP false) (a_cons (e_var 5) a_nil)) (e_lrg false (rg1 (e_var 2))))) (t_b (e_op (eqP true) (e_own m_by_areas (a_cons (e_var 2) (a_cons (e_var 3) a_nil))) (e_var 1))))
      (s_ret (e_c (D.bl false)))
      s_nil)
    (s_seq (s_set 7 (e_op fdivP (e_call sumP (a_cons (e_lc [6] (i_seq (e_var 3)) (.nm 6) t_yes (e_op (mulP false) (e_call lenP (a_cons (e_var 6) a_nil)) (e_op subP (e_call lenP (a_cons (e_var 6) a_nil)) (e_c (D.int 1))))) a_nil)) (e_c (D.int 2))))
    (s_seq (s_if (t_or (t_b (e_op (eqP true) (e_var 4) (e_own m_law_swaps_due (a_cons (e_var 1) (a_cons (e_var 3) a_nil))))) (t_b (e_op (eqP true) (e_call lenP (a_cons (e_var 4) a_nil)) (e_var 7))))
      (s_ret (e_c (D.bl false)))
      s_nil)
    (s_seq (s_if (t_not (t_tru (e_call allP (a_cons (e_lc [6] (i_seq (e_var 3)) (.nm 6) t_yes (e_op (eqP false) (e_call lenP (a_cons (e_own m_law_room_arms (a_cons (e_var 1) (a_cons (e_var 6) a_nil))) a_nil)) (e_call lenP (a_cons (e_var 6) a_nil)))) a_nil))))
      (s_ret (e_c (D.bl false)))
      s_nil)
    (s_seq (s_for (i_seq (e_op (addP false) (e_slice false (e_var 4) o_none (o_some (e_c (D.int 3)))) (e_slice false (e_var 4) (o_some (e_un negP (e_c (D.int 3)))) o_none))) (.nm 8)
      x_law_hall_right_f1)
    (s_seq (s_if (t_b (e_op (eqP true) (e_lc [8] (i_seq (e_own m_arms (a_cons (e_var 1) a_nil))) (.nm 8) (t_b (e_op (eqP true) (e_op (eqP false) (e_op subP (e_op ixP (e_var 8) (e_c (D.int 1))) (e_op ixP (e_var 8) (e_c (D.int 0)))) (e_c (D.int 1))) (e_op (eqP false) (e_own m_area_of (a_cons (e_var 1) (a_cons (e_op ixP (e_var 8) (e_c (D.int 0))) a_nil))) (e_slice false (e_var 8) o_none (o_some (e_c (D.int 1))))))) (e_var 8)) (e_lst false a_nil)))
      (s_ret (e_c (D.bl false)))
      s_nil)
    (s_seq (s_set 9 (e_own m_law_strolled (a_cons (e_var 0) (a_cons (e_var 1) (a_cons (e_op (addP false) (e_c (D.int 1)) (e_own m_law_take (a_cons (e_var 0) (a_cons (e_c (D.int 3)) a_nil)))) a_nil)))))
    (s_seq (s_set 10 (e_lc [11] (i_seq (e_tup (a_cons (e_var 1) (a_cons (e_var 9) a_nil)))) (.nm 11) t_yes (e_call lenP (a_cons (e_lc [6] (i_seq (e_own m_areas (a_cons (e_var 11) a_nil))) (.nm 6) (t_b (e_op (eqP false) (e_op modP (e_op ixP (e_var 6) (e_c (D.int 0))) (e_c (D.int 2))) (e_c (D.int 0)))) (e_var 6)) a_nil))))
    (s_ret (e_op (eqP false) (e_op modP (e_op subP (e_op ixP (e_var 10) (e_c (D.int 0))) (e_op ixP (e_var 10) (e_c (D.int 1)))) (e_c (D.int 2))) (e_op modP (e_own m_distance (a_cons (e_var 1) (a_cons (e_var 9) a_nil))) (e_c (D.int 2))))))))))))))))
def m_law_hall_right : MF := fnM 2 12 b_law_hall_right
abbrev n_law_right : List Str := ["_law_box_here", "_law_hall_here"]
def b_law_right : SF :=
  (s_seq (s_set 1 (e_own m_law_hall (a_cons (e_var 0) (a_cons (e_op (addP false) (e_c (D.int 1)) (e_own m_law_take (a_cons (e_var 0) (a_cons (e_c (D.int 12)) a_nil)))) a_nil))))
    (s_ret (e_and (e_own m_law_hall_right (a_cons (e_var 0) (a_cons (e_var 1) a_nil))) (e_own m_law_hall_right (a_cons (e_var 0) (a_cons (e_own m_law_strolled (a_cons (e_var 0) (a_cons (e_var 1) (a_cons (e_c (D.int 2)) a_nil)))) a_nil))))))
def m_law_right : MF := fnM 1 2 b_law_right
abbrev n_law : List Str := ["_law_script", "_law_k"]
def b_law : SF :=
  (s_ret (e_call allP (a_cons (e_lc [1] (i_rng1 (a_cons (e_op (addP false) (e_c (D.int 1)) (e_call min2P (a_cons (e_c (D.int 2)) (a_cons (e_call lenP (a_cons (e_var 0) a_nil)) a_nil)))) a_nil)) (.nm 1) t_yes (e_own m_law_right (a_cons (e_own m_law_box (a_cons (e_var 0) (a_cons (e_var 1) a_nil))) a_nil))) a_nil)))
def m_law : MF := fnM 1 2 b_law
end Mini
namespace Mini
open PySem L2
/-! ### data and draws: lemmas without mirrors -/
theorem take_set {h : Hd} {b : Nat} {o : O} : (h.set b o).take h.length = h.set b o := List.take_of_length_le (by simp)
theorem log2_small {n : Nat} (h : n ≤ 2 ^ 40) : n.log2 < 9000 := by
  by_cases h0 : n = 0
  · subst h0; decide
  · have h1 : n.log2 ≤ 40 := by
      have := Nat.log2_self_le h0
      have h2 : 2 ^ n.log2 ≤ 2 ^ 40 := Nat.le_trans this h
      exact (Nat.pow_le_pow_iff_right (by decide)).mp h2
    omega
theorem i48 : in64 48271 = true := by decide
def I (xs : List Int) : List D := xs.map D.int
theorem I_cons (x : Int) (xs : List Int) : I (x :: xs) = D.int x :: I xs := rfl
theorem I_def (xs : List Int) : xs.map D.int = I xs := rfl
@[simp] theorem I_len (xs : List Int) : (I xs).length = xs.length := by simp [I]
theorem I_get (xs : List Int) (i : Nat) : (I xs)[i]? = (xs[i]?).map D.int := by simp [I]
theorem mem_I {xs : List Int} {d : D} : d ∈ I xs ↔ ∃ x ∈ xs, D.int x = d := by simp [I]
theorem noRefs_I (xs : List Int) : noRefs (I xs) = true := by
  rw [noRefs_iff]; intro d hd; obtain ⟨a, _, rfl⟩ := mem_I.mp hd; rfl
theorem pyDs_I : ∀ xs : List Int, pyDs (I xs) = some (xs.map PyData.int)
  | [] => rfl
  | x :: xs => by simp only [I_cons, List.map_cons, pyDs, pyD]; rw [pyDs_I xs]
theorem canLay_I : ∀ xs : List Int, PyData.canLayAll0 (xs.map PyData.int) = true
  | [] => by simp [PyData.canLayAll0]
  | x :: xs => by simp only [List.map_cons, PyData.canLayAll0, PyData.canLay0, canLay_I xs, Bool.and_self]
theorem depth_I : ∀ xs : List Int, PyData.depthAll (xs.map PyData.int) = 0
  | [] => by simp [PyData.depthAll]
  | x :: xs => by simp only [List.map_cons, PyData.depthAll, PyData.depth, depth_I xs]; rfl
theorem shaped_tup_I (xs : List Int) : SeqAt.shaped (.tuple (xs.map PyData.int)) = true := by
  simp [SeqAt.shaped, PyData.canLay0, PyData.depth, canLay_I, depth_I]
theorem shaped_lst_I (xs : List Int) : SeqAt.shaped (.list (xs.map PyData.int)) = true := by
  simp [SeqAt.shaped, PyData.canLay0, PyData.depth, canLay_I, depth_I]
theorem shaped_int (i : Int) : SeqAt.shaped (.int i) = true := by simp [SeqAt.shaped, PyData.canLay0, PyData.depth]
theorem shaped_bool (i : Bool) : SeqAt.shaped (.bool i) = true := by simp [SeqAt.shaped, PyData.canLay0, PyData.depth]
theorem eqvAll_I : ∀ xs ys : List Int, PyData.eqvAll (xs.map PyData.int) (ys.map PyData.int) = decide (xs = ys)
  | [], [] => by simp [PyData.eqvAll]
  | [], y :: ys => by simp [PyData.eqvAll]
  | x :: xs, [] => by simp [PyData.eqvAll]
  | x :: xs, y :: ys => by
    simp only [List.map_cons, PyData.eqvAll, PyData.eqv, eqvAll_I xs ys, List.cons.injEq, Bool.decide_and]
    by_cases h : x = y <;> simp [h]
theorem eqP_tup (neg : Bool) (xs ys : List Int) (h : Hd) : eqP neg (.tup (I xs)) (.tup (I ys)) h = some (.bl (if neg then !decide (xs = ys) else decide (xs = ys)), h) := by
  simp only [eqP, pyR, pyD, pyDs_I, shaped_tup_I, Bool.and_self, if_true, PyData.eqv, eqvAll_I]
theorem eqP_lv (neg : Bool) (xs ys : List Int) (h : Hd) : eqP neg (.lv (I xs)) (.lv (I ys)) h = some (.bl (if neg then !decide (xs = ys) else decide (xs = ys)), h) := by
  simp only [eqP, pyR, pyD, pyDs_I, shaped_lst_I, Bool.and_self, if_true, PyData.eqv, eqvAll_I]
theorem eqP_int (neg : Bool) (i j : Int) (h : Hd) : eqP neg (.int i) (.int j) h = some (.bl (if neg then !decide (i = j) else decide (i = j)), h) := by
  simp only [eqP, pyR, pyD, shaped_int, Bool.and_self, if_true, PyData.eqv]
  have : (i == j) = decide (i = j) := by by_cases e : i = j <;> simp [e]
  rw [this]
theorem eqP_bl (neg : Bool) (i j : Bool) (h : Hd) : eqP neg (.bl i) (.bl j) h = some (.bl (if neg then !(i == j) else (i == j)), h) := by
  simp only [eqP, pyR, pyD, shaped_bool, Bool.and_self, if_true, PyData.eqv]
theorem sealD_tup_I (n : Nat) (xs : List Int) (h : Hd) : sealD n (.tup (I xs)) h = some (.tup (I xs)) := by simp [sealD, noRef, noRefs_I]
theorem sz63 {n : Nat} (h : n ≤ 1000) : n ≤ sizeLine := Nat.le_trans h (by decide)
theorem intsOf_I : ∀ xs : List Int, intsOf (I xs) = some xs
  | [] => rfl
  | x :: xs => by simp only [I_cons, intsOf]; rw [intsOf_I xs]; rfl
theorem blsOf_B : ∀ xs : List Bool, blsOf (xs.map D.bl) = some xs
  | [] => rfl
  | x :: xs => by simp only [List.map_cons, blsOf]; rw [blsOf_B xs]; rfl
theorem atI_I {xs : List Int} {i : Nat} {x : Int} (e : xs[i]? = some x) : atI (I xs) (i : Int) = some (.int x) := atI_nat (by rw [I_get, e]; rfl)
theorem ixN_nat {n : Nat} {i : Nat} (h : i < n) : ixN n (i : Int) = some i := by
  unfold ixN
  rw [if_pos (by omega), if_pos (by omega)]
  simp
theorem enumL_I : ∀ (xs : List Int) (k : Nat), enumL k (I xs) = (xs.zipIdx k).map fun p => D.tup [.int ((p.2 : Nat) : Int), .int p.1]
  | [], k => rfl
  | x :: xs, k => by simp only [I_cons, List.map_cons, enumL, List.zipIdx_cons]; rw [enumL_I xs (k + 1)]
theorem rangeL_eq : ∀ (n : Nat) (a : Int), rangeL a n = I ((List.range n).map fun i => a + ((i : Nat) : Int))
  | 0, a => rfl
  | n + 1, a => by
    rw [rangeL, rangeL_eq n (a + 1), List.range_succ_eq_map]
    simp only [I, List.map_cons, List.map_map]
    congr 1
    · simp
    · apply List.map_congr_left
      intro i _
      simp only [Function.comp]
      congr 1
      omega
def good : Nat → D → Prop
  | 0, .non => True
  | 0, .bl _ => True
  | 0, .int _ => True
  | 0, .str x => PyData.strOk x = true
  | 0, _ => False
  | _ + 1, .non => True
  | _ + 1, .bl _ => True
  | _ + 1, .int _ => True
  | _ + 1, .str x => PyData.strOk x = true
  | n + 1, .tup xs => xs.length ≤ 100000 ∧ ∀ x ∈ xs, good n x
  | n + 1, .lv xs => xs.length ≤ 100000 ∧ ∀ x ∈ xs, good n x
  | _ + 1, _ => False
theorem sz5 {n : Nat} (h : n ≤ 100000) : n ≤ sizeLine := Nat.le_trans h (by decide)
theorem zipL_self : ∀ xs : List D, zipL xs xs = xs.map fun x => D.tup [x, x]
  | [] => rfl
  | x :: xs => by simp [zipL, zipL_self xs]
theorem good_I (n : Nat) {xs : List Int} (h : xs.length ≤ 100000) : good (n + 1) (.tup (I xs)) := ⟨by simpa using h, fun x hx => by
  obtain ⟨a, _, rfl⟩ := mem_I.mp hx; cases n <;> exact trivial⟩
def NI (A : List Nat) : List D := A.map fun x => D.int ((x : Nat) : Int)
def PS (st : List (Nat × Nat)) : List D := st.map fun I => D.tup [.int ((I.1 : Nat) : Int), .int ((I.2 : Nat) : Int)]
@[simp] theorem NI_len (A : List Nat) : (NI A).length = A.length := by simp [NI]
@[simp] theorem PS_len (A : List (Nat × Nat)) : (PS A).length = A.length := by simp [PS]
theorem NI_I (A : List Nat) : NI A = I (A.map fun x => ((x : Nat) : Int)) := by simp [NI, I]
theorem pyDs_PS : ∀ st : List (Nat × Nat), pyDs (PS st) = some (st.map fun I => PyData.tuple [.int ((I.1 : Nat) : Int), .int ((I.2 : Nat) : Int)])
  | [] => rfl
  | x :: xs => by rw [show PS (x :: xs) = D.tup [.int ((x.1 : Nat) : Int), .int ((x.2 : Nat) : Int)] :: PS xs from rfl]; simp only [List.map_cons, pyDs, pyD]; rw [pyDs_PS xs]
theorem canLay_PS : ∀ st : List (Nat × Nat), PyData.canLayAll0 (st.map fun I => PyData.tuple [.int ((I.1 : Nat) : Int), .int ((I.2 : Nat) : Int)]) = true
  | [] => by simp [PyData.canLayAll0]
  | x :: xs => by simp [PyData.canLayAll0, PyData.canLay0, canLay_PS xs]
theorem depth_PS : ∀ st : List (Nat × Nat), PyData.depthAll (st.map fun I => PyData.tuple [.int ((I.1 : Nat) : Int), .int ((I.2 : Nat) : Int)]) ≤ 1
  | [] => by simp [PyData.depthAll]
  | x :: xs => by have := depth_PS xs; simp [PyData.depthAll, PyData.depth]; omega
theorem eqP_nil_PS {H : Hd} {q : Nat} {st : List (Nat × Nat)} (e : H[q]? = some (.lst (PS st))) : eqP true (.ref q) (.lv []) H = some (.bl (!st.isEmpty), H) := by
  have hs : SeqAt.shaped (.list (st.map fun I => PyData.tuple [.int ((I.1 : Nat) : Int), .int ((I.2 : Nat) : Int)])) = true := by
    have := depth_PS st
    simp [SeqAt.shaped, PyData.canLay0, PyData.depth, canLay_PS]
    omega
  have hs2 : SeqAt.shaped (.list []) = true := by simp [SeqAt.shaped, PyData.canLay0, PyData.depth, PyData.canLayAll0, PyData.depthAll]
  simp only [eqP, pyR, e, pyDs_PS, Option.map_some, pyD, pyDs, hs, hs2, Bool.and_self, if_true, PyData.eqv]
  cases st with
  | nil => simp [PyData.eqvAll]
  | cons x xs => simp [PyData.eqvAll]
theorem i2 : in64 2 = true := by decide
theorem l2log : Nat.log2 2 < 9000 := by decide
theorem patD_two (i j : Nat) (a b : D) (s : Ev) : patD (.tp [.nm i, .nm j]) (.tup [a, b]) s = some ((s.set i (some a)).set j (some b)) := by simp [patD, patDs, patN]
theorem mul2_int (j : Int) (h : Hd) : mulP false (.int 2) (.int j) h = some (.int (2 * j), h) := by simp [mulP, i2]
theorem div2_int (j : Int) (h : Hd) : fdivP (.int j) (.int 2) h = some (.int (j / 2), h) := by simp [fdivP, l2log]
theorem I_set (xs : List Int) (i : Nat) (v : Int) : (I xs).set i (D.int v) = I (xs.set i v) := by simp [I, List.map_set]
theorem setP_I {H : Hd} {q : Nat} {xs : List Int} {i : Nat} {v : Int} (e : H[q]? = some (.lst (I xs))) (hi : i < xs.length) : setP (.ref q) (.int (i : Nat)) (.int v) H = some (H.set q (.lst (I (xs.set i v)))) := by
  simp only [setP, e]
  rw [ixN_nat (by simpa using hi)]
  simp [noRef, I_set]
theorem set_last {α : Type} (h : List α) (x y : α) : (h ++ [x]).set h.length y = h ++ [y] := by
  rw [List.set_append_right _ _ (Nat.le_refl _)]; simp
theorem last_get {α : Type} (h : List α) (x : α) : (h ++ [x])[h.length]? = some x := by simp
theorem getD_some {xs : List Int} {i : Nat} (h : i < xs.length) : xs[i]? = some (xs.getD i 0) := by simp [List.getD_eq_getElem?_getD, h]
/-- an arrangement as the program gets it -/
def seqOf (l : Bool) (xs : List Int) : D := if l then .lv (I xs) else .tup (I xs)
theorem asS_seqOf (l : Bool) (xs : List Int) (h : Hd) : asS (seqOf l xs) h = some (I xs) := by cases l <;> rfl
theorem asV_seqOf (l : Bool) (xs : List Int) : ∃ k, asV (seqOf l xs) = some (k, I xs) := by cases l <;> exact ⟨_, rfl⟩
theorem lenP_seqOf (l : Bool) (xs : List Int) (h : Hd) : lenP [seqOf l xs] h = some (.int xs.length, h) := by cases l <;> simp [seqOf, lenP, asS, asL]
theorem listP_seqOf (m : Bool) (l : Bool) (xs : List Int) (h : Hd) : listP m [seqOf l xs] h = mkL m (I xs) h := by cases l <;> simp [seqOf, listP, asS, asL]
theorem tupleP_seqOf (l : Bool) (xs : List Int) (h : Hd) : tupleP [seqOf l xs] h = some (.tup (I xs), h) := by cases l <;> simp [seqOf, tupleP, asL]
theorem ixP_seqOf {l : Bool} {xs : List Int} {i : Nat} (h : Hd) (hi : i < xs.length) : ixP (seqOf l xs) (.int (i : Nat)) h = some (.int (xs.getD i 0), h) := by
  have := atI_I (getD_some hi)
  cases l <;> simp [seqOf, ixP, asS, asL, this]
theorem zeros_I (n : Nat) : (List.replicate n [D.int 0]).flatten = I (List.replicate n 0) := by
  induction n with
  | zero => rfl
  | succ n ih => simp only [List.replicate_succ, List.flatten_cons, ih, I_cons]; rfl
theorem in63_nat {n : Nat} (h : n ≤ 100000) : in63 (n : Int) = true := by unfold in63; rw [decide_eq_true (by omega), decide_eq_true (by omega)]; rfl
theorem in62_nat {n : Nat} (h : n ≤ 100000) : in62 (n : Int) = true := by unfold in62; rw [decide_eq_true (by omega), decide_eq_true (by omega)]; rfl
theorem zeros_mul {n : Nat} (hn : n ≤ 100000) (h : Hd) : mulP true (.lv [.int 0]) (.int (n : Nat)) h = some (.ref h.length, h ++ [.lst (I (List.replicate n 0))]) := by
  simp only [mulP, lstOf, in63_nat hn]
  have : ([D.int 0] : List D).length * (n : Int).toNat ≤ sizeLine := by simp only [List.length_cons, List.length_nil, Int.toNat_natCast]; exact sz5 (by omega)
  rw [decide_eq_true this]
  simp only [Bool.and_self, if_true, Int.toNat_natCast, zeros_I, mkL]
theorem rangeL_at {n i : Nat} (d : D) (e : (rangeL 0 n)[i]? = some d) : i < n ∧ d = .int i := by
  rw [rangeL_eq, I_get] at e
  rcases Nat.lt_or_ge i n with q | q
  · simp [q] at e; exact ⟨q, e.symm⟩
  · simp [q] at e
theorem rangeL_len (n : Nat) (a : Int) : (rangeL a n).length = n := by rw [rangeL_eq]; simp
theorem zeros_e {n i : Nat} (hn : n ≤ 100000) {s : Ev} {h : Hd} (hs : s[i]? = some (some (.int (n : Nat)))) : e_op (mulP true) (e_lst false (a_cons (e_c (D.int 0)) a_nil)) (e_var i) s h = .ok (.ref h.length) (h ++ [.lst (I (List.replicate n 0))]) := by
  have one : (1 : Nat) ≤ sizeLine := by decide
  simp -implicitDefEqProofs [e_op, e_lst, a_cons, a_nil, e_c, e_var, hs, mkL, one, zeros_mul hn]
theorem lc_int {own : List Nat} {i : AF} {v : Nat} {tt : TF} {te : EF} {s : Ev} {h h1 : Hd} {xs : List Int} (g : Int → Bool) (f : Int → Int) (hi : i s h = .ok (I xs) h1) (hl : xs.length ≤ 100000)
    (hp : ∀ x ∈ xs, tt ((wipeD s own).set v (some (.int x))) h1 = .ok (g x) h1 ∧ te ((wipeD s own).set v (some (.int x))) h1 = .ok (.int (f x)) h1) : e_lc own i (.nm v) tt te s h = .ok (.lv (I ((xs.filter g).map f))) h1 := by
  have k := lc_pure (p := .nm v) (tt := tt) (te := te) (s0 := wipeD s own) (h := h1) (fun d => match d with | .int x => g x | _ => false) (fun d => match d with | .int x => .int (f x) | d => d) (I xs) [] (by
    intro d hd
    obtain ⟨x, hx, rfl⟩ := mem_I.mp hd
    obtain ⟨a, b⟩ := hp x hx
    exact ⟨_, by simp only [patD], a, fun _ => b⟩) (by simp; exact sz5 hl)
  have e : ((I xs).filter (fun d => match d with | .int x => g x | _ => false)).map (fun d => match d with | .int x => .int (f x) | d => d) = I ((xs.filter g).map f) := by
    clear hi k hp hl
    induction xs with
    | nil => rfl
    | cons x xs ih =>
      rw [I_cons, List.filter_cons, List.filter_cons]
      cases q : g x with
      | true => simp only [q, if_true, List.map_cons, ih, I_cons]
      | false => simp only [q, Bool.false_eq_true, if_false]; exact ih
  rw [List.nil_append, e] at k
  unfold e_lc
  rw [hi, bind_ok, k]
theorem two_sz : (2 : Nat) ≤ sizeLine := by decide
theorem eight_sz : (8 : Nat) ≤ sizeLine := by decide
theorem good_two {n : Nat} {d : D} (g : good n d) : good (n + 1) (.lv [d, d]) := ⟨by simp, fun x hx => by
  simp at hx; subst hx; exact g⟩
theorem catP_lv {xs ys : List D} {h : Hd} (hl : xs.length + ys.length ≤ sizeLine) : addP false (.lv xs) (.lv ys) h = some (.lv (xs ++ ys), h) := by
  simp only [addP, lstOf, if_pos hl, mkL, Bool.false_eq_true, if_false]
theorem ixP_lv0 {xs : List D} {d : D} {h : Hd} (e : xs[0]? = some d) : ixP (.lv xs) (.int 0) h = some (d, h) := by
  have k : atI xs (0 : Int) = some d := atI_nat (j := 0) e
  simp only [ixP, asS, asL, k]
theorem Drawn.to {b : Nat} {h h1 h2 : Hd} {n k m j J : Nat} (x : Drawn b h h1 n k) (y : Drawn b h1 h2 m j) (hm : m + j ≤ n + J) : Drawn b h h2 n J :=
  ⟨y.len.trans x.len, fun q hq => (y.oth q hq).trans (x.oth q hq), y.box.mono hm⟩
theorem lcM_gen {α : Type} {v : Nat} {tt : TF} {te : EF} {s0 : Ev} {h : Hd} (mk : α → D) (g : α → Bool) (f : α → D) : ∀ (L : List α) (acc : List D), acc.length + L.length ≤ sizeLine →
    (∀ x ∈ L, tt (s0.set v (some (mk x))) h = .ok (g x) h ∧ (g x = true → te (s0.set v (some (mk x))) h = .ok (f x) h)) → lcM (.nm v) tt te s0 (L.map mk) acc h = some (acc ++ (L.filter g).map f, h)
  | [], acc, _, _ => by simp [lcM]
  | x :: L, acc, hl, hp => by
    obtain ⟨e1, e2⟩ := hp x (by simp)
    have ih := fun acc hl => lcM_gen (v := v) (tt := tt) (te := te) (s0 := s0) (h := h) mk g f L acc hl (fun y hy => hp y (by simp [hy]))
    simp only [List.length_cons] at hl
    simp only [List.map_cons, lcM, patD, e1]
    cases q : g x with
    | false => simp only; rw [ih acc (by omega)]; simp [q]
    | true =>
      simp only [e2 q]
      rw [if_pos (by omega), ih _ (by simp; omega)]
      simp [q]
/-- a comprehension over one name whose parts leave the heap -/
theorem lc_gen {α : Type} {own : List Nat} {i : AF} {v : Nat} {tt : TF} {te : EF} {s : Ev} {h h1 : Hd} {L : List α} (mk : α → D) (g : α → Bool) (f : α → D) (hi : i s h = .ok (L.map mk) h1) (hl : L.length ≤ 100000)
    (hp : ∀ x ∈ L, tt ((wipeD s own).set v (some (mk x))) h1 = .ok (g x) h1 ∧ (g x = true → te ((wipeD s own).set v (some (mk x))) h1 = .ok (f x) h1)) : e_lc own i (.nm v) tt te s h = .ok (.lv ((L.filter g).map f)) h1 := by
  unfold e_lc
  rw [hi, bind_ok, lcM_gen mk g f L [] (by simp; exact sz5 hl) hp]
  simp
/-- .. without a test -/
theorem lc_map {α : Type} {own : List Nat} {i : AF} {v : Nat} {te : EF} {s : Ev} {h h1 : Hd} {L : List α} (mk : α → D) (f : α → D) (hi : i s h = .ok (L.map mk) h1) (hl : L.length ≤ 100000)
    (hp : ∀ x ∈ L, te ((wipeD s own).set v (some (mk x))) h1 = .ok (f x) h1) : e_lc own i (.nm v) t_yes te s h = .ok (.lv (L.map f)) h1 := by
  rw [lc_gen mk (fun _ => true) f hi hl (fun x hx => ⟨rfl, fun _ => hp x hx⟩), List.filter_eq_self.mpr (fun _ _ => rfl)]
/-- lists of tuples of ints -/
def T2 (xss : List (List Int)) : List D := xss.map fun xs => D.tup (I xs)
@[simp] theorem T2_len (xss : List (List Int)) : (T2 xss).length = xss.length := by simp [T2]
theorem T2_app (a b : List (List Int)) : T2 (a ++ b) = T2 a ++ T2 b := by simp [T2]
theorem noRefs_T2 (xss : List (List Int)) : noRefs (T2 xss) = true := by
  rw [noRefs_iff]; intro d hd
  simp only [T2, List.mem_map] at hd
  obtain ⟨xs, _, rfl⟩ := hd
  simp only [noRef, noRefs_I]
theorem seq_lv {f : EF} {s : Ev} {h h1 : Hd} {xs : List D} (e : f s h = .ok (.lv xs) h1) : i_seq f s h = .ok xs h1 := by simp only [i_seq, e, bind_ok]
theorem seq_tup {f : EF} {s : Ev} {h h1 : Hd} {xs : List D} (e : f s h = .ok (.tup xs) h1) : i_seq f s h = .ok xs h1 := by simp only [i_seq, e, bind_ok]
theorem catT {xs ys : List D} {h : Hd} (hl : xs.length + ys.length ≤ 100000) : addP false (.tup xs) (.tup ys) h = some (.tup (xs ++ ys), h) := by
  simp only [addP, if_pos (sz5 hl)]
theorem tupleP_lv {xs : List D} {h : Hd} : tupleP [.lv xs] h = some (.tup xs, h) := by simp only [tupleP, asL]
theorem I_app (a b : List Int) : I (a ++ b) = I a ++ I b := by simp [I]
theorem one_sz : (1 : Nat) ≤ sizeLine := by decide
theorem pyDs_T2 : ∀ L : List (List Int), pyDs (T2 L) = some (L.map fun xs => PyData.tuple (xs.map PyData.int))
  | [] => rfl
  | x :: xs => by rw [show T2 (x :: xs) = D.tup (I x) :: T2 xs from rfl]; simp only [List.map_cons, pyDs, pyD, pyDs_I, Option.map_some]; rw [pyDs_T2 xs]
theorem canLay_T2 : ∀ L : List (List Int), PyData.canLayAll0 (L.map fun xs => PyData.tuple (xs.map PyData.int)) = true
  | [] => by simp [PyData.canLayAll0]
  | x :: xs => by simp [PyData.canLayAll0, PyData.canLay0, canLay_I, canLay_T2 xs]
theorem depth_T2 : ∀ L : List (List Int), PyData.depthAll (L.map fun xs => PyData.tuple (xs.map PyData.int)) ≤ 1
  | [] => by simp [PyData.depthAll]
  | x :: xs => by have := depth_T2 xs; simp [PyData.depthAll, PyData.depth, depth_I]; omega
theorem shaped_T2 (L : List (List Int)) : SeqAt.shaped (.list (L.map fun xs => PyData.tuple (xs.map PyData.int))) = true := by
  have := depth_T2 L
  simp [SeqAt.shaped, PyData.canLay0, PyData.depth, canLay_T2]
  omega
theorem any_T2 (x : List Int) : ∀ L : List (List Int), ((L.map fun xs => PyData.tuple (xs.map PyData.int)).any fun z => PyData.eqv z (.tuple (x.map PyData.int))) = decide (x ∈ L)
  | [] => by simp
  | y :: L => by
    rw [List.map_cons, List.any_cons, any_T2 x L]
    simp only [PyData.eqv, eqvAll_I]
    by_cases e : y = x
    · subst e; simp
    · have : ¬ x = y := fun q => e q.symm
      simp [e, this]
theorem inP_T2 (neg : Bool) (x : List Int) (L : List (List Int)) (h : Hd) : inP neg (.tup (I x)) (.lv (T2 L)) h = some (.bl (if neg then !decide (x ∈ L) else decide (x ∈ L)), h) := by
  have ff : flatD (.tup (I x)) = false := rfl
  simp only [inP, asS, asL, ff, Bool.false_and, Bool.false_eq_true, if_false, pyR, pyD, pyDs_I, pyDs_T2, Option.map_some, shaped_tup_I, shaped_T2, Bool.and_self, if_true, any_T2]
end Mini
namespace Mini
/-! ### arrangements, as plain lists -/
/-- n people; everybody the partner of their partner, nobody their own; no two arms cross -/
structure Arr (n : Nat) (A : List Nat) : Prop where
  len : A.length = n
  lt : ∀ p, p < n → A.getD p 0 < n
  ne : ∀ p, p < n → A.getD p 0 ≠ p
  inv : ∀ p, p < n → A.getD (A.getD p 0) 0 = p
  nc : ∀ p j, p < n → j < n → p < j → j < A.getD p 0 → p < A.getD j 0 ∧ A.getD j 0 < A.getD p 0
def Pend (st : List (Nat × Nat)) (p : Nat) : Prop := ∃ I ∈ st, I.1 ≤ p ∧ p < I.2
/-- the state of the drawing: A the partners so far, st the gaps that are left -/
structure HS (n : Nat) (A : List Nat) (st : List (Nat × Nat)) : Prop where
  len : A.length = n
  iv : ∀ I ∈ st, I.1 ≤ I.2 ∧ I.2 ≤ n ∧ (I.2 - I.1) % 2 = 0
  dj : st.Pairwise fun I J => I.2 ≤ J.1 ∨ J.2 ≤ I.1
  dn : ∀ p, p < n → ¬ Pend st p → A.getD p 0 < n ∧ ¬ Pend st (A.getD p 0) ∧ A.getD p 0 ≠ p ∧ A.getD (A.getD p 0) 0 = p
  nc : ∀ p j, p < n → j < n → ¬ Pend st p → ¬ Pend st j → p < j → j < A.getD p 0 → p < A.getD j 0 ∧ A.getD j 0 < A.getD p 0
  sp : ∀ p, p < n → ¬ Pend st p → p < A.getD p 0 → ∀ I ∈ st, I.1 < I.2 → (p < I.1 ∧ I.2 ≤ A.getD p 0) ∨ I.2 ≤ p ∨ A.getD p 0 < I.1
theorem HS.start (n : Nat) (he : n % 2 = 0) : HS n (List.replicate n 0) [(0, n)] where
  len := by simp
  iv := fun I hI => by simp at hI; subst hI; simp [he]
  dj := by simp
  dn := fun p hp q => absurd ⟨(0, n), by simp, Nat.zero_le _, hp⟩ q
  nc := fun p j hp _ q => absurd ⟨(0, n), by simp, Nat.zero_le _, hp⟩ q
  sp := fun p hp q => absurd ⟨(0, n), by simp, Nat.zero_le _, hp⟩ q
theorem HS.done {n : Nat} {A : List Nat} (x : HS n A []) : Arr n A := by
  have np : ∀ p, ¬ Pend [] p := fun p ⟨I, hI, _⟩ => by simp at hI
  exact ⟨x.len, fun p hp => (x.dn p hp (np p)).1, fun p hp => (x.dn p hp (np p)).2.2.1, fun p hp => (x.dn p hp (np p)).2.2.2, fun p j hp hj a b => x.nc p j hp hj (np p) (np j) a b⟩
theorem HS.drop {n : Nat} {A : List Nat} {st : List (Nat × Nat)} {a : Nat} (x : HS n A (st ++ [(a, a)])) : HS n A st := by
  have e : ∀ p, Pend (st ++ [(a, a)]) p ↔ Pend st p := fun p => by
    constructor
    · rintro ⟨I, hI, h1, h2⟩
      rcases List.mem_append.mp hI with h | h
      · exact ⟨I, h, h1, h2⟩
      · simp at h; subst h; simp at h1 h2; omega
    · rintro ⟨I, hI, h⟩
      exact ⟨I, List.mem_append_left _ hI, h⟩
  refine ⟨x.len, fun I hI => x.iv I (List.mem_append_left _ hI), (List.pairwise_append.mp x.dj).1, fun p hp q => ?_, fun p j hp hj q1 q2 => x.nc p j hp hj (by rw [e]; exact q1) (by rw [e]; exact q2), fun p hp q l I hI => x.sp p hp (by rw [e]; exact q) l I (List.mem_append_left _ hI)⟩
  have := x.dn p hp (by rw [e]; exact q)
  rw [e] at this
  exact this
theorem getD_set (A : List Nat) (i v j : Nat) (hi : i < A.length) : (A.set i v).getD j 0 = if i = j then v else A.getD j 0 := by
  by_cases h : i = j
  · subst h; simp [List.getD_eq_getElem?_getD, hi]
  · simp [List.getD_eq_getElem?_getD, List.getElem?_set_ne h, h]
theorem HS.step {n : Nat} {A : List Nat} {st : List (Nat × Nat)} {lo hi m : Nat} (x : HS n A (st ++ [(lo, hi)])) (hl : lo < m) (hm : m < hi) (he : (m - lo) % 2 = 1) :
    HS n ((A.set lo m).set m lo) (st ++ [(lo + 1, m), (m + 1, hi)]) := by
  have hiv := x.iv (lo, hi) (by simp)
  simp only at hiv
  obtain ⟨h1, h2, h3⟩ := hiv
  have dj := List.pairwise_append.mp x.dj
  have dis : ∀ J ∈ st, J.2 ≤ lo ∨ hi ≤ J.1 := fun J hJ => dj.2.2 J hJ (lo, hi) (by simp)
  have hlen := x.len
  have g : ∀ j, ((A.set lo m).set m lo).getD j 0 = if m = j then lo else if lo = j then m else A.getD j 0 := fun j => by
    rw [getD_set _ _ _ _ (by simp; omega), getD_set _ _ _ _ (by omega)]
  -- what was pending and is pending now
  have p1 : ∀ p, Pend (st ++ [(lo + 1, m), (m + 1, hi)]) p ↔ (Pend (st ++ [(lo, hi)]) p ∧ p ≠ lo ∧ p ≠ m) := fun p => by
    constructor
    · rintro ⟨I, hI, a, b⟩
      rcases List.mem_append.mp hI with h | h
      · have := dis I h
        have iv := x.iv I (List.mem_append_left _ h)
        exact ⟨⟨I, List.mem_append_left _ h, a, b⟩, by omega, by omega⟩
      · simp at h
        rcases h with h | h <;> (subst h; simp only at a b; exact ⟨⟨(lo, hi), by simp, by simp only; omega, by simp only; omega⟩, by omega, by omega⟩)
    · rintro ⟨⟨I, hI, a, b⟩, c, d⟩
      rcases List.mem_append.mp hI with h | h
      · exact ⟨I, List.mem_append_left _ h, a, b⟩
      · simp at h
        subst h
        simp only at a b
        by_cases q : p < m
        · exact ⟨(lo + 1, m), by simp, by simp only; omega, q⟩
        · exact ⟨(m + 1, hi), by simp, by simp only; omega, b⟩
  have plo : Pend (st ++ [(lo, hi)]) lo := ⟨(lo, hi), by simp, Nat.le_refl _, by simp only; omega⟩
  have pm : Pend (st ++ [(lo, hi)]) m := ⟨(lo, hi), by simp, by simp only; omega, by simp only; omega⟩
  have old : ∀ p, ¬ Pend (st ++ [(lo + 1, m), (m + 1, hi)]) p → p ≠ lo → p ≠ m → ¬ Pend (st ++ [(lo, hi)]) p := fun p q a b z => q ((p1 p).mpr ⟨z, a, b⟩)
  -- an old one's partner is neither lo nor m
  have part : ∀ p, p < n → ¬ Pend (st ++ [(lo, hi)]) p → A.getD p 0 ≠ lo ∧ A.getD p 0 ≠ m := fun p hp q => by
    have := (x.dn p hp q).2.1
    exact ⟨fun z => this (z ▸ plo), fun z => this (z ▸ pm)⟩
  refine ⟨by simp [hlen], fun I hI => ?_, ?_, fun p hp q => ?_, fun p j hp hj q1 q2 a b => ?_, fun p hp q a I hI c => ?_⟩
  · rcases List.mem_append.mp hI with h | h
    · exact x.iv I (List.mem_append_left _ h)
    · simp at h
      rcases h with h | h <;> (subst h; simp only; omega)
  · refine List.pairwise_append.mpr ⟨dj.1, by simp, fun I hI J hJ => ?_⟩
    have := dis I hI
    simp at hJ
    rcases hJ with h | h <;> (subst h; simp only; omega)
  · rw [g p]
    by_cases e1 : m = p
    · subst e1
      rw [if_pos rfl, g lo, if_neg (by omega), if_pos rfl, p1]
      exact ⟨by omega, fun z => z.2.1 rfl, by omega, rfl⟩
    · rw [if_neg e1]
      by_cases e2 : lo = p
      · subst e2
        rw [if_pos rfl, g m, if_pos rfl, p1]
        exact ⟨by omega, fun z => z.2.2 rfl, by omega, rfl⟩
      · rw [if_neg e2]
        have o := old p q (fun z => e2 z.symm) fun z => e1 z.symm
        have d := x.dn p hp o
        have pt := part p hp o
        rw [g, if_neg (fun z => pt.2 z.symm), if_neg (fun z => pt.1 z.symm), p1]
        exact ⟨d.1, fun z => d.2.1 z.1, d.2.2.1, d.2.2.2⟩
  · rw [g p] at b ⊢
    rw [g j]
    by_cases e1 : m = p
    · subst e1; rw [if_pos rfl] at b; omega
    · rw [if_neg e1] at b ⊢
      by_cases e2 : lo = p
      · subst e2
        rw [if_pos rfl] at b ⊢
        -- j lies strictly between lo and m: it is pending
        exact absurd ⟨(lo + 1, m), by simp, by simp only; omega, b⟩ q2
      · rw [if_neg e2] at b ⊢
        have o := old p q1 (fun z => e2 z.symm) fun z => e1 z.symm
        have s := x.sp p hp o (by omega) (lo, hi) (by simp) (by simp only; omega)
        simp only at s
        by_cases f1 : m = j
        · subst f1; rw [if_pos rfl]; omega
        · rw [if_neg f1]
          by_cases f2 : lo = j
          · subst f2; rw [if_pos rfl]; omega
          · rw [if_neg f2]
            exact x.nc p j hp hj o (old j q2 (fun z => f2 z.symm) fun z => f1 z.symm) a b
  · rw [g p] at a ⊢
    by_cases e1 : m = p
    · subst e1; rw [if_pos rfl] at a; omega
    · rw [if_neg e1] at a ⊢
      by_cases e2 : lo = p
      · subst e2
        rw [if_pos rfl]
        rcases List.mem_append.mp hI with h | h
        · have := dis I h
          omega
        · simp at h
          rcases h with h | h <;> (subst h; simp only at c ⊢; omega)
      · rw [if_neg e2] at a ⊢
        have o := old p q (fun z => e2 z.symm) fun z => e1 z.symm
        rcases List.mem_append.mp hI with h | h
        · exact x.sp p hp o a I (List.mem_append_left _ h) c
        · have s := x.sp p hp o a (lo, hi) (by simp) (by simp only; omega)
          simp only at s
          simp at h
          rcases h with h | h <;> (subst h; simp only at c ⊢; omega)
/-- the turns that are left -/
def weight (st : List (Nat × Nat)) : Nat := (st.map fun I => I.2 - I.1 + 1).sum
theorem weight_drop (st : List (Nat × Nat)) (a b : Nat) : weight (st ++ [(a, b)]) = weight st + (b - a + 1) := by simp [weight]
theorem weight_two (st : List (Nat × Nat)) (a b c d : Nat) : weight (st ++ [(a, b), (c, d)]) = weight st + (b - a + 1) + (d - c + 1) := by simp [weight]; omega
end Mini
namespace Mini
/-! ### exchanges, on plain functions -/
/-- strictly between p and q -/
def sd (p q r : Nat) : Bool := decide ((p < r ∧ r < q) ∨ (q < r ∧ r < p))
theorem sd_eq {p q r s t u : Nat} : (sd p q r = sd s t u) ↔ (((p < r ∧ r < q) ∨ (q < r ∧ r < p)) ↔ ((s < u ∧ u < t) ∨ (t < u ∧ u < s))) := by unfold sd; rw [decide_eq_decide]
theorem sd_true {p q r : Nat} : sd p q r = true ↔ ((p < r ∧ r < q) ∨ (q < r ∧ r < p)) := by unfold sd; rw [decide_eq_true_eq]
theorem sd_comm (p q r : Nat) : sd p q r = sd q p r := by rw [sd_eq]; omega
theorem sd_symm {p q r s : Nat} (h1 : p ≠ r) (h2 : p ≠ s) (h3 : q ≠ r) (h4 : q ≠ s) (h : sd p q r = sd p q s) : sd r s p = sd r s q := by
  rw [sd_eq] at h ⊢; omega
/-- n seats in pairs, each of an even and an odd one -/
structure Mt (n : Nat) (f : Nat → Nat) : Prop where
  lt : ∀ p, p < n → f p < n
  par : ∀ p, p < n → (f p + p) % 2 = 1
  inv : ∀ p, p < n → f (f p) = p
/-- .. and no two arms cross -/
structure Nc (n : Nat) (f : Nat → Nat) : Prop extends Mt n f where
  nc : ∀ p j, p < n → j < n → j ≠ p → j ≠ f p → sd p (f p) j = sd p (f p) (f j)
theorem Mt.ne {n : Nat} {f : Nat → Nat} (m : Mt n f) {p : Nat} (h : p < n) : f p ≠ p := fun e => by have := m.par p h; rw [e] at this; omega
theorem Mt.inj {n : Nat} {f : Nat → Nat} (m : Mt n f) {p q : Nat} (h : p < n) (h' : q < n) (e : f p = f q) : p = q := by rw [← m.inv p h, ← m.inv q h', e]
theorem Mt.flip {n : Nat} {f : Nat → Nat} (m : Mt n f) {p q : Nat} (h : p < n) (e : f p = q) : f q = p := by rw [← e]; exact m.inv p h
theorem Arr.par_iv {n : Nat} {A : List Nat} (x : Arr n A) : ∀ (k l r : Nat), r - l ≤ k → l ≤ r → r ≤ n → (∀ j, l ≤ j → j < r → l ≤ A.getD j 0 ∧ A.getD j 0 < r) → (r - l) % 2 = 0
  | 0, l, r, hk, hl, hr, _ => by omega
  | k + 1, l, r, hk, hl, hr, hc => by
    by_cases e : l = r
    · subst e; simp
    · have h1 := hc l (by omega) (by omega)
      have ne := x.ne l (by omega)
      have iv := x.inv l (by omega)
      generalize hm : A.getD l 0 = m at h1 ne iv
      have a1 := x.par_iv k (l + 1) m (by omega) (by omega) (by omega) fun j ja jb => by
        have := x.nc l j (by omega) (by omega) (by omega) (by omega)
        omega
      have a2 := x.par_iv k (m + 1) r (by omega) (by omega) (by omega) fun j ja jb => by
        have h2 := hc j (by omega) (by omega)
        have ij := x.inv j (by omega)
        have nl : A.getD j 0 ≠ l := fun e => by rw [e, hm] at ij; omega
        have nm : A.getD j 0 ≠ m := fun e => by rw [e, iv] at ij; omega
        refine ⟨?_, h2.2⟩
        rcases Nat.lt_or_ge (A.getD j 0) m with q | q
        · have := x.nc l (A.getD j 0) (by omega) (by omega) (by omega) (by omega)
          omega
        · omega
      omega
theorem Arr.par {n : Nat} {A : List Nat} (x : Arr n A) (p : Nat) (hp : p < n) : (A.getD p 0 + p) % 2 = 1 := by
  have key : ∀ p, p < n → p < A.getD p 0 → (A.getD p 0 + p) % 2 = 1 := fun p hp h => by
    have hl := x.lt p hp
    have := x.par_iv n (p + 1) (A.getD p 0) (by omega) (by omega) (by omega) fun j ja jb => by
      have := x.nc p j hp (by omega) (by omega) jb
      omega
    omega
  have ne := x.ne p hp
  rcases Nat.lt_or_ge p (A.getD p 0) with h | h
  · exact key p hp h
  · have := key (A.getD p 0) (x.lt p hp) (by rw [x.inv p hp]; omega)
    rw [x.inv p hp] at this
    omega
def fn (A : List Nat) : Nat → Nat := fun p => A.getD p 0
theorem Arr.Nc {n : Nat} {A : List Nat} (x : Arr n A) : Nc n (fn A) where
  lt := x.lt
  par := x.par
  inv := x.inv
  nc := fun p j hp hj h1 h2 => by
    have key : ∀ j, j < n → j ≠ p → j ≠ fn A p → sd p (fn A p) j = true → sd p (fn A p) (fn A j) = true := fun j hj h1 h2 h => by
      rw [sd_true] at h ⊢
      have ne := x.ne p hp
      have il := x.lt p hp
      have a := x.nc p j hp hj
      have b := x.nc (A.getD p 0) j il hj
      rw [x.inv p hp] at b
      simp only [fn] at h ⊢
      omega
    have ij := x.inv j hj
    have back := key (fn A j) (x.lt j hj) (fun e => h2 (by rw [← e]; exact ij.symm)) (fun e => h1 (by have := congrArg (fn A) e; simp only [fn] at this; rw [ij, x.inv p hp] at this; exact this))
    rw [show fn A (fn A j) = j from ij] at back
    cases q : sd p (fn A p) j with
    | true => rw [key j hj h1 h2 q]
    | false =>
      cases q' : sd p (fn A p) (fn A j) with
      | true => rw [back q'] at q; cases q
      | false => rfl
theorem Nc.arr {n : Nat} {A : List Nat} (hl : A.length = n) (x : Mini.Nc n (fn A)) : Arr n A where
  len := hl
  lt := x.lt
  ne := fun p hp => x.ne hp
  inv := x.inv
  nc := fun p j hp hj h1 h2 => by
    have := x.nc p j hp hj (by omega) (by simp only [fn]; omega)
    rw [sd_eq] at this
    simp only [fn] at this
    omega
/-- the parity follows -/
theorem Nc.of {n : Nat} {f : Nat → Nat} (lt : ∀ p, p < n → f p < n) (ne : ∀ p, p < n → f p ≠ p) (inv : ∀ p, p < n → f (f p) = p) (nc : ∀ p j, p < n → j < n → j ≠ p → j ≠ f p → sd p (f p) j = sd p (f p) (f j)) : Nc n f := by
  have e : ∀ p, p < n → fn ((List.range n).map f) p = f p := fun p hp => by simp [fn, List.getD_eq_getElem?_getD, hp]
  have A : Arr n ((List.range n).map f) := by
    refine ⟨by simp, fun p hp => ?_, fun p hp => ?_, fun p hp => ?_, fun p j hp hj h1 h2 => ?_⟩
    · have := e p hp; simp only [fn] at this; rw [this]; exact lt p hp
    · have := e p hp; simp only [fn] at this; rw [this]; exact ne p hp
    · have q := e p hp; have q2 := e (f p) (lt p hp); simp only [fn] at q q2; rw [q, q2]; exact inv p hp
    · have q := e p hp; have q2 := e j hj; simp only [fn] at q q2; rw [q] at h2 ⊢; rw [q2]
      have := nc p j hp hj (by omega) (by omega)
      rw [sd_eq] at this
      omega
  refine ⟨⟨lt, fun p hp => ?_, inv⟩, nc⟩
  have := A.par p hp
  have q := e p hp
  simp only [fn] at q
  rw [q] at this
  exact this
/-- the arms of x and y are given up, x and y shake hands, and so do the other two -/
def sw (f : Nat → Nat) (x y : Nat) : Nat → Nat := fun p => if p = x then y else if p = y then x else if p = f x then f y else if p = f y then f x else f p
section
variable {n : Nat} {f : Nat → Nat} {x y : Nat}
structure Four (n : Nat) (f : Nat → Nat) (x y : Nat) : Prop where
  mt : Mt n f
  hx : x < n
  hy : y < n
  ne : x ≠ y
  nf : f x ≠ y
theorem Four.nf' (F : Four n f x y) : f y ≠ x := fun e => F.nf (F.mt.flip F.hy e)
theorem Four.nff (F : Four n f x y) : f x ≠ f y := fun e => F.ne (F.mt.inj F.hx F.hy e)
theorem Four.s1 (F : Four n f x y) : sw f x y x = y := by simp [sw]
theorem Four.s2 (F : Four n f x y) : sw f x y y = x := by simp [sw, F.ne.symm]
theorem Four.s3 (F : Four n f x y) : sw f x y (f x) = f y := by simp [sw, F.mt.ne F.hx, F.nf]
theorem Four.s4 (F : Four n f x y) : sw f x y (f y) = f x := by simp [sw, F.nf', F.mt.ne F.hy, F.nff.symm]
theorem sw_oth {p : Nat} (h1 : p ≠ x) (h2 : p ≠ y) (h3 : p ≠ f x) (h4 : p ≠ f y) : sw f x y p = f p := by simp [sw, h1, h2, h3, h4]
theorem Four.cases (F : Four n f x y) (p : Nat) : p = x ∨ p = y ∨ p = f x ∨ p = f y ∨ (p ≠ x ∧ p ≠ y ∧ p ≠ f x ∧ p ≠ f y) := by omega
theorem Four.keep (F : Four n f x y) {p : Nat} (hp : p < n) (h : p ≠ x ∧ p ≠ y ∧ p ≠ f x ∧ p ≠ f y) : f p ≠ x ∧ f p ≠ y ∧ f p ≠ f x ∧ f p ≠ f y :=
  ⟨fun e => h.2.2.1 (F.mt.flip hp e).symm, fun e => h.2.2.2 (F.mt.flip hp e).symm, fun e => h.1 (F.mt.inj hp F.hx e), fun e => h.2.1 (F.mt.inj hp F.hy e)⟩
theorem Four.lt' (F : Four n f x y) : ∀ p, p < n → sw f x y p < n := fun p h => by
    have := F.mt.lt _ F.hx; have := F.mt.lt _ F.hy; have := F.hx; have := F.hy
    rcases F.cases p with rfl | rfl | rfl | rfl | q
    · rw [F.s1]; omega
    · rw [F.s2]; omega
    · rw [F.s3]; omega
    · rw [F.s4]; omega
    · rw [sw_oth q.1 q.2.1 q.2.2.1 q.2.2.2]; exact F.mt.lt p h
theorem Four.ne' (F : Four n f x y) : ∀ p, p < n → sw f x y p ≠ p := fun p h => by
    rcases F.cases p with rfl | rfl | rfl | rfl | q
    · rw [F.s1]; exact F.ne.symm
    · rw [F.s2]; exact F.ne
    · rw [F.s3]; exact F.nff.symm
    · rw [F.s4]; exact F.nff
    · rw [sw_oth q.1 q.2.1 q.2.2.1 q.2.2.2]; exact F.mt.ne h
theorem Four.inv' (F : Four n f x y) : ∀ p, p < n → sw f x y (sw f x y p) = p := fun p h => by
    rcases F.cases p with rfl | rfl | rfl | rfl | q
    · rw [F.s1, F.s2]
    · rw [F.s2, F.s1]
    · rw [F.s3, F.s4]
    · rw [F.s4, F.s3]
    · have k := F.keep h q
      rw [sw_oth q.1 q.2.1 q.2.2.1 q.2.2.2, sw_oth k.1 k.2.1 k.2.2.1 k.2.2.2]; exact F.mt.inv p h
theorem Four.mt' (F : Four n f x y) (hp : (x + y) % 2 = 1) : Mt n (sw f x y) where
  lt := F.lt'
  inv := F.inv'
  par := fun p h => by
    have := F.mt.par _ F.hx; have := F.mt.par _ F.hy
    rcases F.cases p with rfl | rfl | rfl | rfl | q
    · rw [F.s1]; omega
    · rw [F.s2]; omega
    · rw [F.s3]; omega
    · rw [F.s4]; omega
    · rw [sw_oth q.1 q.2.1 q.2.2.1 q.2.2.2]; exact F.mt.par p h
theorem Four.symm (F : Four n f x y) : Four n f y x := ⟨F.mt, F.hy, F.hx, F.ne.symm, F.nf'⟩
theorem Four.flip (F : Four n f x y) : Four n f (f x) (f y) := ⟨F.mt, F.mt.lt _ F.hx, F.mt.lt _ F.hy, F.nff, by rw [F.mt.inv _ F.hx]; exact F.nf'.symm⟩
/-- what the other arms see -/
theorem sw_nc (N : Nc n f) (F : Four n f x y) (h1 : ∀ j, j < n → j ≠ x ∧ j ≠ y ∧ j ≠ f x ∧ j ≠ f y → sd j (f j) x = sd j (f j) y) (h2 : sd x y (f x) = sd x y (f y)) : Nc n (sw f x y) := by
  refine Nc.of F.lt' F.ne' F.inv' ?_
  -- seen from an arm that stays
  have old : ∀ p j, p < n → j < n → p ≠ x ∧ p ≠ y ∧ p ≠ f x ∧ p ≠ f y → j ≠ p → j ≠ f p → sd p (f p) j = sd p (f p) (sw f x y j) := fun p j hp hj q n1 n2 => by
    have k := F.keep hp q
    have ax : sd p (f p) x = sd p (f p) (f x) := N.nc p x hp F.hx (Ne.symm q.1) (Ne.symm k.1)
    have ay : sd p (f p) y = sd p (f p) (f y) := N.nc p y hp F.hy (Ne.symm q.2.1) (Ne.symm k.2.1)
    have a := h1 p hp q
    rcases F.cases j with rfl | rfl | rfl | rfl | r
    · rw [F.s1]; exact a
    · rw [F.s2]; exact a.symm
    · rw [F.s3, ← ax, ← ay]; exact a
    · rw [F.s4, ← ax, ← ay]; exact a.symm
    · rw [sw_oth r.1 r.2.1 r.2.2.1 r.2.2.2]; exact N.nc p j hp hj n1 n2
  have h3 : sd (f x) (f y) x = sd (f x) (f y) y := sd_symm (Ne.symm (F.mt.ne F.hx)) F.nf'.symm F.nf.symm (Ne.symm (F.mt.ne F.hy)) h2
  have fx := F.mt.lt _ F.hx
  have fy := F.mt.lt _ F.hy
  -- seen from a new arm
  have new : ∀ p j, p < n → j < n → ¬ (p ≠ x ∧ p ≠ y ∧ p ≠ f x ∧ p ≠ f y) → (j ≠ x ∧ j ≠ y ∧ j ≠ f x ∧ j ≠ f y) → sd p (sw f x y p) j = sd p (sw f x y p) (f j) := fun p j hp hj q r => by
    have k := F.keep hj r
    have o := fun p hp n1 n2 => old j p hj hp r n1 n2
    rcases F.cases p with rfl | rfl | rfl | rfl | q'
    · rw [F.s1]; have := o p hp (Ne.symm r.1) (Ne.symm k.1); rw [F.s1] at this; exact sd_symm r.1 r.2.1 k.1 k.2.1 this
    · rw [F.s2]; have := o p hp (Ne.symm r.2.1) (Ne.symm k.2.1); rw [F.s2] at this; exact sd_symm r.2.1 r.1 k.2.1 k.1 this
    · rw [F.s3]; have := o _ hp (Ne.symm r.2.2.1) (Ne.symm k.2.2.1); rw [F.s3] at this; exact sd_symm r.2.2.1 r.2.2.2 k.2.2.1 k.2.2.2 this
    · rw [F.s4]; have := o _ hp (Ne.symm r.2.2.2) (Ne.symm k.2.2.2); rw [F.s4] at this; exact sd_symm r.2.2.2 r.2.2.1 k.2.2.2 k.2.2.1 this
    · exact absurd q' q
  intro p j hp hj n1 n2
  rcases F.cases j with rfl | rfl | rfl | rfl | r
  · rw [F.s1]
    rcases F.cases p with rfl | rfl | rfl | rfl | q
    · exact absurd rfl n1
    · exact absurd F.s2.symm n2
    · rw [F.s3]; exact h3
    · rw [F.s4, sd_comm, h3, sd_comm]
    · have := old p j hp hj q n1 (by rw [sw_oth q.1 q.2.1 q.2.2.1 q.2.2.2] at n2; exact n2); rw [F.s1] at this; rw [sw_oth q.1 q.2.1 q.2.2.1 q.2.2.2]; exact this
  · rw [F.s2]
    rcases F.cases p with rfl | rfl | rfl | rfl | q
    · exact absurd F.s1.symm n2
    · exact absurd rfl n1
    · rw [F.s3]; exact h3.symm
    · rw [F.s4, sd_comm, ← h3, sd_comm]
    · have := old p j hp hj q n1 (by rw [sw_oth q.1 q.2.1 q.2.2.1 q.2.2.2] at n2; exact n2); rw [F.s2] at this; rw [sw_oth q.1 q.2.1 q.2.2.1 q.2.2.2]; exact this
  · rw [F.s3]
    rcases F.cases p with rfl | rfl | rfl | rfl | q
    · rw [F.s1]; exact h2
    · rw [F.s2, sd_comm, h2, sd_comm]
    · exact absurd rfl n1
    · exact absurd F.s4.symm n2
    · have := old p _ hp hj q n1 (by rw [sw_oth q.1 q.2.1 q.2.2.1 q.2.2.2] at n2; exact n2); rw [F.s3] at this; rw [sw_oth q.1 q.2.1 q.2.2.1 q.2.2.2]; exact this
  · rw [F.s4]
    rcases F.cases p with rfl | rfl | rfl | rfl | q
    · rw [F.s1]; exact h2.symm
    · rw [F.s2, sd_comm, ← h2, sd_comm]
    · exact absurd F.s3.symm n2
    · exact absurd rfl n1
    · have := old p _ hp hj q n1 (by rw [sw_oth q.1 q.2.1 q.2.2.1 q.2.2.2] at n2; exact n2); rw [F.s4] at this; rw [sw_oth q.1 q.2.1 q.2.2.1 q.2.2.2]; exact this
  · rw [sw_oth r.1 r.2.1 r.2.2.1 r.2.2.2]
    by_cases q : p ≠ x ∧ p ≠ y ∧ p ≠ f x ∧ p ≠ f y
    · rw [sw_oth q.1 q.2.1 q.2.2.1 q.2.2.2] at n2 ⊢
      exact N.nc p j hp hj n1 n2
    · exact new p j hp hj q r
/-- an arm that shuts in whole arms alone -/
theorem sw_closed (N : Nc n f) (F : Four n f x y) (hc : ∀ j, j < n → sd x y j = true → sd x y (f j) = true) : Nc n (sw f x y) := by
  refine sw_nc N F (fun j hj q => ?_) ?_
  · have k := F.keep hj q
    have e : sd x y j = sd x y (f j) := by
      cases a : sd x y j with
      | true => rw [hc j hj a]
      | false =>
        cases b : sd x y (f j) with
        | true => have := hc _ (F.mt.lt j hj) b; rw [F.mt.inv j hj, a] at this; cases this
        | false => rfl
    exact sd_symm (Ne.symm q.1) (Ne.symm k.1) (Ne.symm q.2.1) (Ne.symm k.2.1) e
  · have nx : sd x y x = false := by cases a : sd x y x with | false => rfl | true => rw [sd_true] at a; omega
    have ny : sd x y y = false := by cases a : sd x y y with | false => rfl | true => rw [sd_true] at a; omega
    have a1 : sd x y (f x) = false := by
      cases a : sd x y (f x) with
      | false => rfl
      | true => have := hc _ (F.mt.lt _ F.hx) a; rw [F.mt.inv _ F.hx, nx] at this; cases this
    have a2 : sd x y (f y) = false := by
      cases a : sd x y (f y) with
      | false => rfl
      | true => have := hc _ (F.mt.lt _ F.hy) a; rw [F.mt.inv _ F.hy, ny] at this; cases this
    rw [a1, a2]
theorem Four.sw_comm (F : Four n f x y) : sw f y x = sw f x y := by
  funext p
  rcases F.cases p with rfl | rfl | rfl | rfl | q
  · rw [F.symm.s2, F.s1]
  · rw [F.symm.s1, F.s2]
  · rw [F.symm.s4, F.s3]
  · rw [F.symm.s3, F.s4]
  · rw [sw_oth q.2.1 q.1 q.2.2.2 q.2.2.1, sw_oth q.1 q.2.1 q.2.2.1 q.2.2.2]
theorem Four.sw_flip (F : Four n f x y) : sw f (f x) (f y) = sw f x y := by
  have e1 := F.mt.inv _ F.hx
  have e2 := F.mt.inv _ F.hy
  funext p
  rcases F.cases p with rfl | rfl | rfl | rfl | q
  · have := F.flip.s3; rw [e1, e2] at this; rw [this, F.s1]
  · have := F.flip.s4; rw [e1, e2] at this; rw [this, F.s2]
  · rw [F.flip.s1, F.s3]
  · rw [F.flip.s2, F.s4]
  · rw [sw_oth q.2.2.1 q.2.2.2 (by rw [e1]; exact q.1) (by rw [e2]; exact q.2.1), sw_oth q.1 q.2.1 q.2.2.1 q.2.2.2]
end
/-- the exchange of two arms, by their lesser people a < b -/
def ex (f : Nat → Nat) (a b : Nat) : Nat → Nat := if f a < b then sw f a (f b) else sw f a b
/-- a possible exchange -/
structure Ps (n : Nat) (f : Nat → Nat) (a b : Nat) : Prop where
  ab : a < b
  hb : b < n
  la : a < f a
  lb : b < f b
  nc : Nc n (ex f a b)
/-- any change of two arms that crosses none is an exchange -/
theorem sw_ps {n : Nat} {f : Nat → Nat} {x y : Nat} (N : Nc n f) (F : Four n f x y) (M : Nc n (sw f x y)) : ∃ a b, Ps n f a b ∧ ex f a b = sw f x y ∧ ((a = min x (f x) ∧ b = min y (f y)) ∨ (a = min y (f y) ∧ b = min x (f x))) := by
  have key : ∀ x y, Four n f x y → Nc n (sw f x y) → x < f x → min x (f x) < min y (f y) → Ps n f (min x (f x)) (min y (f y)) ∧ ex f (min x (f x)) (min y (f y)) = sw f x y := by
    intro x y F M lx lt
    have hfx := F.mt.lt _ F.hx
    have hfy := F.mt.lt _ F.hy
    have n1 := F.nf; have n2 := F.nf'; have n3 := F.nff; have n4 := F.ne; have n5 := F.mt.ne F.hy
    have c := M.nc x (f x) F.hx hfx (F.mt.ne F.hx) (by rw [F.s1]; exact F.nf)
    rw [F.s1, F.s3, sd_eq] at c
    rw [Nat.min_eq_left (Nat.le_of_lt lx)] at lt ⊢
    rcases Nat.lt_or_ge y (f y) with ly | ly
    · rw [Nat.min_eq_left (Nat.le_of_lt ly)] at lt ⊢
      have o := N.nc x y F.hx F.hy F.ne.symm F.nf.symm
      rw [sd_eq] at o
      have e : ex f x y = sw f x y := by unfold ex; rw [if_neg (by omega)]
      exact ⟨⟨lt, F.hy, lx, ly, by rw [e]; exact M⟩, e⟩
    · rw [Nat.min_eq_right ly] at lt ⊢
      have o := N.nc x y F.hx F.hy F.ne.symm F.nf.symm
      rw [sd_eq] at o
      have i2 := F.mt.inv _ F.hy
      have e : ex f x (f y) = sw f x y := by unfold ex; rw [if_pos (by omega), i2]
      exact ⟨⟨lt, hfy, lx, by rw [i2]; omega, by rw [e]; exact M⟩, e⟩
  have key2 : ∀ x y, Four n f x y → Nc n (sw f x y) → min x (f x) < min y (f y) → Ps n f (min x (f x)) (min y (f y)) ∧ ex f (min x (f x)) (min y (f y)) = sw f x y := by
    intro x y F M lt
    have := F.mt.ne F.hx
    have i1 := F.mt.inv _ F.hx
    have i2 := F.mt.inv _ F.hy
    rcases Nat.lt_or_ge x (f x) with lx | lx
    · exact key x y F M lx lt
    · have := key (f x) (f y) F.flip (by rw [F.sw_flip]; exact M) (by rw [i1]; omega) (by rw [i1, i2, Nat.min_comm, Nat.min_comm (f y)]; exact lt)
      rw [i1, i2, Nat.min_comm, Nat.min_comm (f y), F.sw_flip] at this
      exact this
  rcases Nat.lt_trichotomy (min x (f x)) (min y (f y)) with h | h | h
  · exact ⟨_, _, (key2 x y F M h).1, (key2 x y F M h).2, .inl ⟨rfl, rfl⟩⟩
  · exfalso
    have n1 := F.nf; have n2 := F.nf'; have n3 := F.nff; have n4 := F.ne
    omega
  · have := key2 y x F.symm (by rw [F.sw_comm]; exact M) h
    exact ⟨_, _, this.1, by rw [this.2, F.sw_comm], .inr ⟨rfl, rfl⟩⟩
end Mini
namespace Mini
/-! ### rings of two matchings -/
def itr (h : Nat → Nat) : Nat → Nat → Nat
  | 0, x => x
  | k + 1, x => h (itr h k x)
theorem itr_succ (h : Nat → Nat) : ∀ (k x : Nat), itr h (k + 1) x = itr h k (h x)
  | 0, _ => rfl
  | k + 1, x => by rw [itr, itr_succ h k x, itr]
theorem itr_add (h : Nat → Nat) (j : Nat) : ∀ (k x : Nat), itr h (j + k) x = itr h k (itr h j x)
  | 0, _ => rfl
  | k + 1, x => by rw [← Nat.add_assoc, itr, itr_add h j k x, itr]
/-- at most n different numbers below n -/
theorem nodup_le : ∀ (n : Nat) (L : List Nat), L.Nodup → (∀ x ∈ L, x < n) → L.length ≤ n
  | 0, L, _, h => by
    cases L with
    | nil => simp
    | cons x r => have := h x (by simp); omega
  | n + 1, L, nd, h => by
    by_cases q : n ∈ L
    · have := nodup_le n (L.erase n) (nd.erase n) fun x hx => by
        have := (List.Nodup.mem_erase_iff nd).mp hx
        have := h x this.2
        omega
      rw [List.length_erase_of_mem q] at this
      omega
    · have := nodup_le n L nd fun x hx => by
        have := h x hx
        have : x ≠ n := fun e => q (e ▸ hx)
        omega
      omega
theorem least_of {P : Nat → Prop} : ∀ (k : Nat), P k → ∃ j, j ≤ k ∧ P j ∧ ∀ i, i < j → ¬ P i := by
  intro k
  induction k using Nat.strongRecOn with
  | ind k ih =>
    intro h
    by_cases q : ∃ i, i < k ∧ P i
    · obtain ⟨i, hi, pi⟩ := q
      obtain ⟨j, a, b, c⟩ := ih i hi pi
      exact ⟨j, by omega, b, c⟩
    · exact ⟨k, Nat.le_refl _, h, fun i hi pi => q ⟨i, hi, pi⟩⟩
section
variable {n : Nat} {f g : Nat → Nat}
abbrev pi (f g : Nat → Nat) : Nat → Nat := fun x => g (f x)
theorem pi_lt (F : Mt n f) (G : Mt n g) {x : Nat} (h : x < n) : pi f g x < n := G.lt _ (F.lt _ h)
theorem itr_lt (F : Mt n f) (G : Mt n g) {x : Nat} (h : x < n) : ∀ k, itr (pi f g) k x < n
  | 0 => h
  | k + 1 => pi_lt F G (itr_lt F G h k)
theorem pi_inj (F : Mt n f) (G : Mt n g) {x y : Nat} (h : x < n) (h' : y < n) (e : pi f g x = pi f g y) : x = y := F.inj h h' (G.inj (F.lt _ h) (F.lt _ h') e)
theorem itr_inj (F : Mt n f) (G : Mt n g) {x y : Nat} (h : x < n) (h' : y < n) : ∀ k, itr (pi f g) k x = itr (pi f g) k y → x = y
  | 0, e => e
  | k + 1, e => itr_inj F G h h' k (pi_inj F G (itr_lt F G h k) (itr_lt F G h' k) e)
theorem pi_par (F : Mt n f) (G : Mt n g) {x : Nat} (h : x < n) : pi f g x % 2 = x % 2 := by
  have := F.par x h; have := G.par (f x) (F.lt x h); simp only [pi]; omega
theorem itr_par (F : Mt n f) (G : Mt n g) {x : Nat} (h : x < n) : ∀ k, itr (pi f g) k x % 2 = x % 2
  | 0 => rfl
  | k + 1 => by rw [itr, pi_par F G (itr_lt F G h k), itr_par F G h k]
/-- a way back -/
structure Per (f g : Nat → Nat) (x K : Nat) : Prop where
  pos : 1 ≤ K
  eq : itr (pi f g) K x = x
  mn : ∀ j, 1 ≤ j → j < K → itr (pi f g) j x ≠ x
theorem Per.ex (F : Mt n f) (G : Mt n g) {x : Nat} (h : x < n) : ∃ K, K ≤ n ∧ Per f g x K := by
  have ex : ∃ K, 1 ≤ K ∧ K ≤ n ∧ itr (pi f g) K x = x := by
    by_cases nd : ((List.range (n + 1)).map fun k => itr (pi f g) k x).Nodup
    · have := nodup_le n _ nd fun y hy => by
        obtain ⟨k, _, rfl⟩ := List.mem_map.mp hy
        exact itr_lt F G h k
      simp at this
      omega
    · rw [List.nodup_iff_pairwise_ne, List.pairwise_iff_getElem] at nd
      simp only [Classical.not_forall] at nd
      obtain ⟨i, j, hi, hj, hij, e⟩ := nd
      simp only [Classical.not_not, List.getElem_map, List.getElem_range] at e
      simp only [List.length_map, List.length_range] at hi hj
      refine ⟨j - i, by omega, by omega, ?_⟩
      rw [show j = (j - i) + i by omega, itr_add] at e
      exact (itr_inj F G h (itr_lt F G h _) i e).symm
  obtain ⟨K, k1, k2, k3⟩ := ex
  obtain ⟨j, a, b, c⟩ := least_of (P := fun K => 1 ≤ K ∧ itr (pi f g) K x = x) K ⟨k1, k3⟩
  exact ⟨j, by omega, b.1, b.2, fun i i1 i2 e => c i i2 ⟨i1, e⟩⟩
theorem Per.ne (F : Mt n f) (G : Mt n g) {x K : Nat} (h : x < n) (p : Per f g x K) {i j : Nat} (hij : i < j) (hj : j < K) : itr (pi f g) i x ≠ itr (pi f g) j x := fun e => by
  rw [show j = (j - i) + i by omega, itr_add] at e
  exact p.mn (j - i) (by omega) (by omega) (itr_inj F G h (itr_lt F G h _) i e).symm
theorem Per.mod (p : Per f g x K) : ∀ k, ∃ j, j < K ∧ itr (pi f g) k x = itr (pi f g) j x
  | 0 => ⟨0, p.pos, rfl⟩
  | k + 1 => by
    obtain ⟨j, hj, e⟩ := p.mod k
    by_cases q : j + 1 < K
    · exact ⟨j + 1, q, by rw [itr, itr, e]⟩
    · refine ⟨0, p.pos, ?_⟩
      have : j + 1 = K := by omega
      show pi f g (itr (pi f g) k x) = x
      rw [e]
      have q2 := p.eq
      rw [← this] at q2
      exact q2
/-- by arms of both -/
inductive Rc (f g : Nat → Nat) (x : Nat) : Nat → Prop where
  | rfl : Rc f g x x
  | f {y : Nat} : Rc f g x y → Rc f g x (f y)
  | g {y : Nat} : Rc f g x y → Rc f g x (g y)
theorem Rc.trans {x y z : Nat} (a : Rc f g x y) (b : Rc f g y z) : Rc f g x z := by
  induction b with
  | rfl => exact a
  | f _ ih => exact ih.f
  | g _ ih => exact ih.g
theorem Rc.lt (F : Mt n f) (G : Mt n g) {x y : Nat} (h : x < n) (a : Rc f g x y) : y < n := by
  induction a with
  | rfl => exact h
  | f _ ih => exact F.lt _ ih
  | g _ ih => exact G.lt _ ih
theorem Rc.symm (F : Mt n f) (G : Mt n g) {x y : Nat} (h : x < n) (a : Rc f g x y) : Rc f g y x := by
  induction a with
  | rfl => exact .rfl
  | @f y q ih =>
    have : Rc f g (f y) y := by have := (Rc.rfl (f := f) (g := g) (x := f y)).f; rw [F.inv y (q.lt F G h)] at this; exact this
    exact this.trans ih
  | @g y q ih =>
    have : Rc f g (g y) y := by have := (Rc.rfl (f := f) (g := g) (x := g y)).g; rw [G.inv y (q.lt F G h)] at this; exact this
    exact this.trans ih
theorem Rc.swap {x y : Nat} (a : Rc f g x y) : Rc g f x y := by
  induction a with
  | rfl => exact .rfl
  | f _ ih => exact ih.g
  | g _ ih => exact ih.f
theorem Rc.itr (x : Nat) : ∀ k, Rc f g x (itr (pi f g) k x)
  | 0 => .rfl
  | k + 1 => (Rc.itr x k).f.g
/-- the people of a ring, one after another -/
theorem rc_iff (F : Mt n f) (G : Mt n g) {x K : Nat} (h : x < n) (p : Per f g x K) {y : Nat} : Rc f g x y ↔ ∃ i, i < K ∧ (y = itr (pi f g) i x ∨ y = f (itr (pi f g) i x)) := by
  constructor
  · intro a
    induction a with
    | rfl => exact ⟨0, p.pos, .inl rfl⟩
    | @f y _ ih =>
      obtain ⟨i, hi, e | e⟩ := ih
      · exact ⟨i, hi, .inr (by rw [e])⟩
      · exact ⟨i, hi, .inl (by rw [e, F.inv _ (itr_lt F G h i)])⟩
    | @g y _ ih =>
      obtain ⟨i, hi, e | e⟩ := ih
      · cases i with
        | zero =>
          refine ⟨K - 1, by have := p.pos; omega, .inr ?_⟩
          have q := p.eq
          rw [show K = (K - 1) + 1 by have := p.pos; omega, Mini.itr] at q
          rw [e, show Mini.itr (pi f g) 0 x = x from rfl]
          exact G.flip (F.lt _ (itr_lt F G h _)) q
        | succ i =>
          refine ⟨i, by omega, .inr ?_⟩
          rw [e, Mini.itr]
          exact G.inv _ (F.lt _ (itr_lt F G h i))
      · have q := p.mod (i + 1)
        obtain ⟨j, hj, ej⟩ := q
        exact ⟨j, hj, .inl (by rw [← ej, e, Mini.itr])⟩
  · rintro ⟨i, _, e | e⟩
    · rw [e]; exact Rc.itr x i
    · rw [e]; exact (Rc.itr x i).f
/-! ### an exchange joins two rings or parts one -/
variable {x y : Nat}
theorem join_path (F : Four n f x y) (G : Mt n g) (hp : (x + y) % 2 = 1) (d : ¬ Rc f g x y) : Rc (sw f x y) g (f x) x := by
  obtain ⟨K, _, p⟩ := Per.ex F.mt G F.hx
  have key : ∀ i, 1 ≤ i → i ≤ K → Rc (sw f x y) g (f x) (itr (pi f g) i x) := by
    intro i
    induction i with
    | zero => intro h; omega
    | succ i ih =>
      intro _ hi
      by_cases q : i = 0
      · subst q; exact (Rc.rfl).g
      · have a := ih (by omega) (by omega)
        have l := itr_lt F.mt G F.hx i
        have pr := itr_par F.mt G F.hx i
        have px := F.mt.par _ F.hx
        have py := F.mt.par _ F.hy
        have e : sw f x y (itr (pi f g) i x) = f (itr (pi f g) i x) := sw_oth (p.mn i (by omega) (by omega)) (by omega) (by omega) (fun e => d (by
          have := (Rc.itr (f := f) (g := g) x i).f
          rw [e, F.mt.inv _ F.hy] at this
          exact this))
        have := a.f.g
        rw [e] at this
        exact this
  have := key K p.pos (Nat.le_refl _)
  rw [p.eq] at this
  exact this
/-- .. of different rings: they are joined -/
theorem join_iff (F : Four n f x y) (G : Mt n g) (hp : (x + y) % 2 = 1) (d : ¬ Rc f g x y) {a b : Nat} (ha : a < n) :
    Rc (sw f x y) g a b ↔ Rc f g a b ∨ (Rc f g a x ∧ Rc f g y b) ∨ (Rc f g a y ∧ Rc f g x b) := by
  have S := fun {u v : Nat} (h : u < n) (r : Rc f g u v) => r.symm F.mt G h
  have F' := F.mt' hp
  have j1 := join_path F G hp d
  have j2 := join_path F.symm G (by omega) (fun r => d (S F.hy r))
  rw [F.sw_comm] at j2
  have j1' := j1.symm F' G (F.mt.lt _ F.hx)
  have j2' := j2.symm F' G (F.mt.lt _ F.hy)
  have xy : Rc (sw f x y) g x y := by have := (Rc.rfl (f := sw f x y) (g := g) (x := x)).f; rw [F.s1] at this; exact this
  have yx : Rc (sw f x y) g y x := by have := (Rc.rfl (f := sw f x y) (g := g) (x := y)).f; rw [F.s2] at this; exact this
  have up : ∀ {a b : Nat}, Rc f g a b → Rc (sw f x y) g a b := by
    intro a b r
    induction r with
    | rfl => exact .rfl
    | g _ ih => exact ih.g
    | @f z _ ih =>
      rcases F.cases z with rfl | rfl | rfl | rfl | q
      · exact ih.trans j1'
      · exact ih.trans j2'
      · rw [F.mt.inv _ F.hx]; exact ih.trans j1
      · rw [F.mt.inv _ F.hy]; exact ih.trans j2
      · have := ih.f; rw [sw_oth q.1 q.2.1 q.2.2.1 q.2.2.2] at this; exact this
  constructor
  · intro r
    induction r with
    | rfl => exact .inl .rfl
    | @g z _ ih =>
      rcases ih with h | ⟨h1, h2⟩ | ⟨h1, h2⟩
      · exact .inl h.g
      · exact .inr (.inl ⟨h1, h2.g⟩)
      · exact .inr (.inr ⟨h1, h2.g⟩)
    | @f z _ ih =>
      have fx : Rc f g x (f x) := Rc.rfl.f
      have fy : Rc f g y (f y) := Rc.rfl.f
      rcases F.cases z with rfl | rfl | rfl | rfl | q
      · rw [F.s1]
        rcases ih with h | ⟨h1, h2⟩ | ⟨h1, h2⟩
        · exact .inr (.inl ⟨h, .rfl⟩)
        · exact .inr (.inl ⟨h1, .rfl⟩)
        · exact .inl h1
      · rw [F.s2]
        rcases ih with h | ⟨h1, h2⟩ | ⟨h1, h2⟩
        · exact .inr (.inr ⟨h, .rfl⟩)
        · exact .inl h1
        · exact .inr (.inr ⟨h1, .rfl⟩)
      · rw [F.s3]
        rcases ih with h | ⟨h1, h2⟩ | ⟨h1, h2⟩
        · have := h.f; rw [F.mt.inv _ F.hx] at this; exact .inr (.inl ⟨this, fy⟩)
        · exact .inr (.inl ⟨h1, fy⟩)
        · exact .inl (h1.trans fy)
      · rw [F.s4]
        rcases ih with h | ⟨h1, h2⟩ | ⟨h1, h2⟩
        · have := h.f; rw [F.mt.inv _ F.hy] at this; exact .inr (.inr ⟨this, fx⟩)
        · exact .inl (h1.trans fx)
        · exact .inr (.inr ⟨h1, fx⟩)
      · rw [sw_oth q.1 q.2.1 q.2.2.1 q.2.2.2]
        rcases ih with h | ⟨h1, h2⟩ | ⟨h1, h2⟩
        · exact .inl h.f
        · exact .inr (.inl ⟨h1, h2.f⟩)
        · exact .inr (.inr ⟨h1, h2.f⟩)
  · rintro (h | ⟨h1, h2⟩ | ⟨h1, h2⟩)
    · exact up h
    · exact ((up h1).trans xy).trans (up h2)
    · exact ((up h1).trans yx).trans (up h2)
/-- .. of one ring: it is parted -/
theorem part (F : Four n f x y) (G : Mt n g) (hp : (x + y) % 2 = 1) (r : Rc f g x y) : ¬ Rc (sw f x y) g (f x) x := by
  obtain ⟨K, _, p⟩ := Per.ex F.mt G F.hx
  obtain ⟨k, hk, e⟩ := (rc_iff F.mt G F.hx p).mp r
  have px := F.mt.par _ F.hx
  have py := F.mt.par _ F.hy
  have pr := itr_par F.mt G F.hx k
  have ek : y = f (itr (pi f g) k x) := by
    rcases e with e | e
    · rw [e] at hp; omega
    · exact e
  have ev : f y = itr (pi f g) k x := by rw [ek]; exact F.mt.inv _ (itr_lt F.mt G F.hx k)
  have k1 : 1 ≤ k := by
    rcases Nat.eq_zero_or_pos k with q | q
    · subst q; exact absurd ek.symm F.nf
    · exact q
  have key : ∀ z, Rc (sw f x y) g (f x) z → z = f x ∨ z = f y ∨ ∃ i, 1 ≤ i ∧ i < k ∧ (z = itr (pi f g) i x ∨ z = f (itr (pi f g) i x)) := by
    intro z a
    induction a with
    | rfl => exact .inl rfl
    | @f z _ ih =>
      rcases ih with rfl | rfl | ⟨i, i1, i2, e | e⟩
      · rw [F.s3]; exact .inr (.inl rfl)
      · rw [F.s4]; exact .inl rfl
      · have pi' := itr_par F.mt G F.hx i
        have : sw f x y z = f z := sw_oth (by rw [e]; exact p.mn i i1 (by omega)) (by rw [e]; omega) (by rw [e]; omega) (by rw [e, ev]; exact p.ne F.mt G F.hx i2 hk)
        rw [this]
        exact .inr (.inr ⟨i, i1, i2, .inr (by rw [e])⟩)
      · have pi' := itr_par F.mt G F.hx i
        have li := itr_lt F.mt G F.hx i
        have pf := F.mt.par _ li
        have : sw f x y z = f z := sw_oth (by rw [e]; omega) (by rw [e, ek]; exact fun q => p.ne F.mt G F.hx i2 hk (F.mt.inj li (itr_lt F.mt G F.hx k) q))
          (by rw [e]; exact fun q => p.mn i i1 (by omega) (F.mt.inj li F.hx q)) (by rw [e, ev]; omega)
        rw [this]
        exact .inr (.inr ⟨i, i1, i2, .inl (by rw [e, F.mt.inv _ li])⟩)
    | @g z _ ih =>
      have next : ∀ i, i < k → g (f (itr (pi f g) i x)) = f y ∨ ∃ j, 1 ≤ j ∧ j < k ∧ g (f (itr (pi f g) i x)) = itr (pi f g) j x := fun i hi => by
        by_cases q : i + 1 = k
        · left; rw [ev, ← q, itr]
        · exact .inr ⟨i + 1, by omega, by omega, rfl⟩
      have prev : ∀ i, 1 ≤ i → g (itr (pi f g) i x) = f (itr (pi f g) (i - 1) x) := fun i hi => by
        rw [show i = (i - 1) + 1 by omega, itr]
        exact G.inv _ (F.mt.lt _ (itr_lt F.mt G F.hx _))
      rcases ih with rfl | rfl | ⟨i, i1, i2, e | e⟩
      · rcases next 0 (by omega) with q | ⟨j, j1, j2, q⟩
        · exact .inr (.inl q)
        · exact .inr (.inr ⟨j, j1, j2, .inl q⟩)
      · rw [ev, prev k k1]
        by_cases q : k = 1
        · subst q; exact .inl rfl
        · exact .inr (.inr ⟨k - 1, by omega, by omega, .inr rfl⟩)
      · rw [e, prev i i1]
        by_cases q : i = 1
        · subst q; exact .inl rfl
        · exact .inr (.inr ⟨i - 1, by omega, by omega, .inr rfl⟩)
      · rw [e]
        rcases next i i2 with q | ⟨j, j1, j2, q⟩
        · exact .inr (.inl q)
        · exact .inr (.inr ⟨j, j1, j2, .inl q⟩)
  intro a
  rcases key x a with e | e | ⟨i, i1, i2, e | e⟩
  · exact F.mt.ne F.hx e.symm
  · exact F.nf' e.symm
  · exact p.mn i i1 (by omega) e.symm
  · have := itr_par F.mt G F.hx i
    have := F.mt.par _ (itr_lt F.mt G F.hx i)
    omega
/-! ### how many rings -/
open Classical in
/-- how many classes: their least members -/
noncomputable def cls (n : Nat) (R : Nat → Nat → Prop) : Nat := ((List.range n).filter fun p => decide (∀ q, q < p → ¬ R q p)).length
structure Eqv (n : Nat) (R : Nat → Nat → Prop) : Prop where
  refl : ∀ a, R a a
  lt : ∀ a b, a < n → R a b → b < n
  symm : ∀ a b, a < n → R a b → R b a
  trans : ∀ a b c, R a b → R b c → R a c
theorem filter_one {p q : Nat → Bool} {c : Nat} : ∀ (L : List Nat), L.Nodup → c ∈ L → (∀ x ∈ L, p x = (q x && decide (x ≠ c))) → q c = true → (L.filter p).length + 1 = (L.filter q).length
  | [], _, h, _, _ => by simp at h
  | a :: L, nd, h, hp, hq => by
    rw [List.nodup_cons] at nd
    by_cases e : a = c
    · subst e
      have r : L.filter p = L.filter q := List.filter_congr fun x hx => by
        rw [hp x (by simp [hx])]
        have : x ≠ a := fun e => nd.1 (e ▸ hx)
        simp [this]
      rw [List.filter_cons, List.filter_cons, hp a (by simp), hq, r]
      simp
    · have hc : c ∈ L := by
        rcases List.mem_cons.mp h with q | q
        · exact absurd q.symm e
        · exact q
      have ih := filter_one (p := p) (q := q) L nd.2 hc (fun x hx => hp x (by simp [hx])) hq
      rw [List.filter_cons, List.filter_cons, hp a (by simp)]
      cases q a with
      | true => simp [e]; omega
      | false => simpa using ih
open Classical in
theorem cls_join {R R' : Nat → Nat → Prop} (E : Eqv n R) {a b : Nat} (ha : a < n) (hb : b < n) (d : ¬ R a b) (h : ∀ u v, u < n → (R' u v ↔ R u v ∨ (R u a ∧ R b v) ∨ (R u b ∧ R a v))) : cls n R' + 1 = cls n R := by
  -- the least of each of the two classes
  obtain ⟨α, α1, α2, α3⟩ := least_of (P := fun q => R q a) a (E.refl a)
  obtain ⟨β, β1, β2, β3⟩ := least_of (P := fun q => R q b) b (E.refl b)
  have sy : ∀ {u v}, u < n → R u v → R v u := fun hu r => E.symm _ _ hu r
  have αβ : ¬ R α β := fun r => d (E.trans _ _ _ (sy (by omega) α2) (E.trans _ _ _ r β2))
  have key : ∀ (a b α β : Nat), a < n → b < n → α ≤ a → β ≤ b → R α a → R β b → (∀ i, i < α → ¬ R i a) → (∀ i, i < β → ¬ R i b) → ¬ R a b → α < β → (∀ u v, u < n → (R' u v ↔ R u v ∨ (R u a ∧ R b v) ∨ (R u b ∧ R a v))) → cls n R' + 1 = cls n R := by
    intro a b α β ha hb α1 β1 α2 β2 α3 β3 d lt h
    unfold cls
    refine filter_one (c := β) _ List.nodup_range (List.mem_range.mpr (by omega)) (fun x hx => ?_) (decide_eq_true fun q hq r => β3 q hq (E.trans _ _ _ r β2))
    have hx := List.mem_range.mp hx
    rw [← Bool.decide_and, decide_eq_decide]
    constructor
    · intro k
      refine ⟨fun q hq r => k q hq ((h q x (by omega)).mpr (.inl r)), fun e => ?_⟩
      subst e
      exact k α lt ((h α x (by omega)).mpr (.inr (.inl ⟨α2, sy (by omega) β2⟩)))
    · rintro ⟨k, ne⟩ q hq r
      rcases (h q x (by omega)).mp r with r | ⟨r1, r2⟩ | ⟨r1, r2⟩
      · exact k q hq r
      · -- x is of b's class: its least is β
        have : R β x := E.trans _ _ _ β2 r2
        rcases Nat.lt_trichotomy β x with z | z | z
        · exact k β z this
        · exact ne z.symm
        · exact β3 x z (E.trans _ _ _ (sy (by omega) this) β2)
      · have : R α x := E.trans _ _ _ α2 r2
        rcases Nat.lt_trichotomy α x with z | z | z
        · exact k α z this
        · subst z
          exact β3 q (by omega) r1
        · exact α3 x z (E.trans _ _ _ (sy (by omega) this) α2)
  rcases Nat.lt_trichotomy α β with z | z | z
  · exact key a b α β ha hb α1 β1 α2 β2 α3 β3 d z h
  · exact absurd (z ▸ E.refl α) αβ
  · exact key b a β α hb ha β1 α1 β2 α2 β3 α3 (fun r => d (sy hb r)) z fun u v hu => by rw [h u v hu]; exact ⟨fun q => q.elim .inl fun q => q.elim (fun q => .inr (.inr q)) fun q => .inr (.inl q), fun q => q.elim .inl fun q => q.elim (fun q => .inr (.inr q)) fun q => .inr (.inl q)⟩
theorem Rc.eqv (F : Mt n f) (G : Mt n g) : Eqv n (Rc f g) := ⟨fun _ => .rfl, fun _ _ h r => r.lt F G h, fun _ _ h r => r.symm F G h, fun _ _ _ a b => a.trans b⟩
noncomputable def cnt (n : Nat) (f g : Nat → Nat) : Nat := cls n (Rc f g)
theorem cls_congr {R R' : Nat → Nat → Prop} (h : ∀ u v, u < n → v < n → (R u v ↔ R' u v)) : cls n R = cls n R' := by
  unfold cls
  congr 1
  apply List.filter_congr
  intro p hp
  have hp := List.mem_range.mp hp
  rw [decide_eq_decide]
  constructor
  · exact fun k q hq r => k q hq ((h q p (by omega) hp).mpr r)
  · exact fun k q hq r => k q hq ((h q p (by omega) hp).mp r)
theorem cnt_comm : cnt n f g = cnt n g f := cls_congr fun _ _ _ _ => ⟨Rc.swap, Rc.swap⟩
theorem cnt_join (F : Four n f x y) (G : Mt n g) (hp : (x + y) % 2 = 1) (d : ¬ Rc f g x y) : cnt n (sw f x y) g + 1 = cnt n f g := cls_join (Rc.eqv F.mt G) F.hx F.hy d fun u v hu => join_iff F G hp d hu
theorem Four.back (F : Four n f x y) (hp : (x + y) % 2 = 1) : Four n (sw f x y) x (f x) ∧ sw (sw f x y) x (f x) = f := by
  have B : Four n (sw f x y) x (f x) := ⟨F.mt' hp, F.hx, F.mt.lt _ F.hx, (F.mt.ne F.hx).symm, by rw [F.s1]; exact F.nf.symm⟩
  refine ⟨B, ?_⟩
  funext p
  rcases F.cases p with rfl | rfl | rfl | rfl | q
  · exact B.s1
  · have := B.s3; rw [F.s1, F.s3] at this; exact this
  · rw [F.mt.inv _ F.hx]; exact B.s2
  · have := B.s4; rw [F.s3, F.s1] at this; rw [this, F.mt.inv _ F.hy]
  · rw [sw_oth q.1 q.2.2.1 (by rw [F.s1]; exact q.2.1) (by rw [F.s3]; exact q.2.2.2), sw_oth q.1 q.2.1 q.2.2.1 q.2.2.2]
theorem cnt_part (F : Four n f x y) (G : Mt n g) (hp : (x + y) % 2 = 1) (r : Rc f g x y) : cnt n (sw f x y) g = cnt n f g + 1 := by
  obtain ⟨B, e⟩ := F.back hp
  have px := F.mt.par _ F.hx
  have := cnt_join B G (by omega) fun z => part F G hp r (z.symm B.mt G F.hx)
  rw [e] at this
  omega
end
end Mini
namespace Mini
/-! ### distances -/
section
variable {n : Nat} {f f' g g' h : Nat → Nat} {a b x y : Nat}
abbrev Eqn (n : Nat) (f g : Nat → Nat) : Prop := ∀ p, p < n → f p = g p
theorem Rc.congr (F : Mt n f) (G : Mt n g) (e : Eqn n f f') (e' : Eqn n g g') (hx : x < n) (r : Rc f g x y) : Rc f' g' x y := by
  induction r with
  | rfl => exact .rfl
  | @f z q ih => rw [e z (q.lt F G hx)]; exact ih.f
  | @g z q ih => rw [e' z (q.lt F G hx)]; exact ih.g
theorem Mt.congr (F : Mt n f) (e : Eqn n f f') : Mt n f' where
  lt := fun p hp => by rw [← e p hp]; exact F.lt p hp
  par := fun p hp => by rw [← e p hp]; exact F.par p hp
  inv := fun p hp => by rw [← e p hp, ← e _ (F.lt p hp)]; exact F.inv p hp
theorem Nc.congr (F : Nc n f) (e : Eqn n f f') : Nc n f' := ⟨F.toMt.congr e, fun p j hp hj h1 h2 => by rw [← e p hp, ← e j hj]; rw [← e p hp] at h2; exact F.nc p j hp hj h1 h2⟩
theorem Eqn.symm (e : Eqn n f g) : Eqn n g f := fun p hp => (e p hp).symm
theorem cnt_congr (F : Mt n f) (G : Mt n g) (e : Eqn n f f') (e' : Eqn n g g') : cnt n f g = cnt n f' g' :=
  cls_congr fun u v hu hv => ⟨Rc.congr F G e e' hu, Rc.congr (F.congr e) (G.congr e') e.symm e'.symm hu⟩
/-- the exchange as a change of two arms -/
theorem Ps.sw (N : Nc n f) (p : Ps n f a b) : ∃ y, Four n f a y ∧ ex f a b = sw f a y ∧ (a + y) % 2 = 1 ∧ ((f a < b ∧ y = f b) ∨ (¬ f a < b ∧ y = b)) := by
  have ha : a < n := by have := p.ab; have := p.hb; omega
  have ab := p.ab
  have la := p.la
  have lb := p.lb
  have nf : f a ≠ b := fun e => by have := N.toMt.flip ha e; omega
  by_cases q : f a < b
  · have e : ex f a b = Mini.sw f a (f b) := by unfold ex; rw [if_pos q]
    have F : Four n f a (f b) := ⟨N.toMt, ha, N.lt _ p.hb, by omega, fun e => by have := N.toMt.inj ha p.hb e; omega⟩
    refine ⟨f b, F, e, ?_, .inl ⟨q, rfl⟩⟩
    have := p.nc.par a ha
    rw [e, F.s1] at this
    omega
  · have e : ex f a b = Mini.sw f a b := by unfold ex; rw [if_neg q]
    have F : Four n f a b := ⟨N.toMt, ha, p.hb, by omega, nf⟩
    refine ⟨b, F, e, ?_, .inr ⟨q, rfl⟩⟩
    have := p.nc.par a ha
    rw [e, F.s1] at this
    omega
theorem ps_step (N : Nc n f) (G : Mt n g) (p : Ps n f a b) : cnt n (ex f a b) g = cnt n f g + 1 ∨ cnt n (ex f a b) g + 1 = cnt n f g := by
  obtain ⟨y, F, e, hp, _⟩ := p.sw N
  rw [e]
  by_cases r : Rc f g a y
  · exact .inl (cnt_part F G hp r)
  · exact .inr (cnt_join F G hp r)
theorem near_ex (N : Nc n f) (M : Nc n g) (ne : ¬ Eqn n f g) : ∃ a b, Ps n f a b ∧ cnt n (ex f a b) g = cnt n f g + 1 := by
  -- the shortest arm of g that f lacks
  have some : ∃ k i, i < n ∧ f i ≠ g i ∧ i < g i ∧ g i - i = k := by
    simp only [Classical.not_forall] at ne
    obtain ⟨i, hi, e⟩ := ne
    rcases Nat.lt_or_ge i (g i) with q | q
    · exact ⟨_, i, hi, e, q, rfl⟩
    · have := M.toMt.ne hi
      refine ⟨_, g i, M.lt i hi, fun z => ?_, by rw [M.inv i hi]; omega, rfl⟩
      rw [M.inv i hi] at z
      exact e (N.toMt.flip (M.lt i hi) z)
  obtain ⟨k, hk⟩ := some
  obtain ⟨k, _, ⟨i, hi, e, lt, rfl⟩, mn⟩ := least_of (P := fun k => ∃ i, i < n ∧ f i ≠ g i ∧ i < g i ∧ g i - i = k) k hk
  have hg := M.lt i hi
  have inn : ∀ j, j < n → i < j → j < g i → f j = g j ∧ i < g j ∧ g j < g i := fun j hj h1 h2 => by
    have c := M.nc i j hi hj (by omega) (by omega)
    rw [sd_eq] at c
    have ij := M.inv j hj
    have nj := M.toMt.ne hj
    refine ⟨Classical.byContradiction fun z => ?_, by omega, by omega⟩
    rcases Nat.lt_or_ge j (g j) with q | q
    · exact mn (g j - j) (by omega) ⟨j, hj, z, q, rfl⟩
    · refine mn (j - g j) (by omega) ⟨g j, M.lt j hj, fun w => ?_, by rw [ij]; omega, by rw [ij]⟩
      rw [ij] at w
      exact z (N.toMt.flip (M.lt j hj) w)
  have F : Four n f i (g i) := ⟨N.toMt, hi, hg, by omega, e⟩
  have hp : (i + g i) % 2 = 1 := by have := M.par i hi; omega
  have C := sw_closed N F fun j hj s => by
    rw [sd_true] at s ⊢
    have := inn j hj (by omega) (by omega)
    omega
  obtain ⟨a, b, p, eab, _⟩ := sw_ps N F C
  refine ⟨a, b, p, ?_⟩
  rw [eab]
  exact cnt_part F M.toMt hp Rc.rfl.g
theorem nodup_sub : ∀ (L M : List Nat), L.Nodup → (∀ x ∈ L, x ∈ M) → L.length ≤ M.length
  | [], _, _, _ => by simp
  | a :: L, M, nd, h => by
    rw [List.nodup_cons] at nd
    have := nodup_sub L (M.erase a) nd.2 fun x hx => by
      have hm := h x (by simp [hx])
      have ne : x ≠ a := fun e => nd.1 (e ▸ hx)
      exact (List.mem_erase_of_ne ne).mpr hm
    have ha := h a (by simp)
    rw [List.length_erase_of_mem ha] at this
    have : 0 < M.length := List.length_pos_of_mem ha
    simp only [List.length_cons]
    omega
theorem filter_split (p : Nat → Bool) : ∀ L : List Nat, (L.filter p).length + (L.filter fun x => !p x).length = L.length
  | [] => rfl
  | a :: L => by
    have := filter_split p L
    cases q : p a <;> simp [q] <;> omega
theorem nodup_map {α β : Type} {k : α → β} : ∀ {L : List α}, L.Nodup → (∀ x ∈ L, ∀ y ∈ L, k x = k y → x = y) → (L.map k).Nodup
  | [], _, _ => by simp
  | a :: L, nd, inj => by
    rw [List.nodup_cons] at nd
    rw [List.map_cons, List.nodup_cons]
    refine ⟨fun h => ?_, nodup_map nd.2 fun x hx y hy => inj x (by simp [hx]) y (by simp [hy])⟩
    obtain ⟨x, hx, e⟩ := List.mem_map.mp h
    have := inj x (by simp [hx]) a (by simp) e
    exact nd.1 (this ▸ hx)
/-- the lesser people: half of all -/
theorem lessers (N : Mt n f) : ((List.range n).filter fun p => decide (p < f p)).length = n / 2 := by
  have half := filter_split (fun p => decide (p < f p)) (List.range n)
  have h1 : ((List.range n).filter fun p => decide (p < f p)).length ≤ ((List.range n).filter fun p => !decide (p < f p)).length := by
    have := nodup_sub (((List.range n).filter fun p => decide (p < f p)).map f) ((List.range n).filter fun p => !decide (p < f p)) (nodup_map (List.Pairwise.filter _ List.nodup_range) fun x hx y hy e => by
        simp only [List.mem_filter, List.mem_range] at hx hy
        exact N.inj hx.1 hy.1 e) fun x hx => by
      obtain ⟨p, hp, rfl⟩ := List.mem_map.mp hx
      simp only [List.mem_filter, List.mem_range, decide_eq_true_eq] at hp
      simp only [List.mem_filter, List.mem_range, N.inv p hp.1]
      exact ⟨N.lt p hp.1, by simp; omega⟩
    simpa using this
  have h2 : ((List.range n).filter fun p => !decide (p < f p)).length ≤ ((List.range n).filter fun p => decide (p < f p)).length := by
    have := nodup_sub (((List.range n).filter fun p => !decide (p < f p)).map f) ((List.range n).filter fun p => decide (p < f p)) (nodup_map (List.Pairwise.filter _ List.nodup_range) fun x hx y hy e => by
        simp only [List.mem_filter, List.mem_range] at hx hy
        exact N.inj hx.1 hy.1 e) fun x hx => by
      obtain ⟨p, hp, rfl⟩ := List.mem_map.mp hx
      simp only [List.mem_filter, List.mem_range, Bool.not_eq_true', decide_eq_false_iff_not] at hp
      simp only [List.mem_filter, List.mem_range, N.inv p hp.1, decide_eq_true_eq]
      have := N.ne hp.1
      exact ⟨N.lt p hp.1, by omega⟩
    simpa using this
  rw [List.length_range] at half
  omega
theorem cnt_self (N : Mt n f) : cnt n f f = n / 2 := by
  rw [← lessers N]
  unfold cnt cls
  congr 1
  apply List.filter_congr
  intro p hp
  have hp := List.mem_range.mp hp
  rw [decide_eq_decide]
  have key : ∀ {x y}, x < n → Rc f f x y → y = x ∨ y = f x := fun hx r => by
    induction r with
    | rfl => exact .inl rfl
    | f _ ih =>
      rcases ih with e | e
      · exact .inr (by rw [e])
      · exact .inl (by rw [e, N.inv _ hx])
    | g _ ih =>
      rcases ih with e | e
      · exact .inr (by rw [e])
      · exact .inl (by rw [e, N.inv _ hx])
  constructor
  · intro k
    have ne := N.ne hp
    rcases Nat.lt_or_ge p (f p) with q | q
    · exact q
    · refine absurd ?_ (k (f p) (by omega))
      have := (Rc.rfl (f := f) (g := f) (x := f p)).f
      rw [N.inv p hp] at this
      exact this
  · intro lt q hq r
    rcases key (by omega) r with e | e
    · omega
    · have := N.flip (by omega) e.symm
      omega
theorem cls_le (R : Nat → Nat → Prop) : cls n R ≤ n := by
  unfold cls
  exact Nat.le_trans (List.length_filter_le _ _) (by simp)
/-- the rings are at most the arms, as many for equal ones alone -/
theorem cnt_half (M : Nc n g) : ∀ (k : Nat) {f : Nat → Nat}, Nc n f → n - cnt n f g ≤ k → (Eqn n f g ∧ cnt n f g = n / 2) ∨ (¬ Eqn n f g ∧ cnt n f g < n / 2)
  | k, f, N, hk => by
    by_cases e : Eqn n f g
    · exact .inl ⟨e, by rw [cnt_congr N.toMt M.toMt e (fun _ _ => rfl)]; exact cnt_self M.toMt⟩
    · refine .inr ⟨e, ?_⟩
      obtain ⟨a, b, p, c⟩ := near_ex N M e
      have lc := cls_le (n := n) (Rc (ex f a b) g)
      have lc : cnt n (ex f a b) g ≤ n := lc
      cases k with
      | zero => omega
      | succ k =>
        have := cnt_half M k p.nc (by omega)
        omega
noncomputable def dst (n : Nat) (f g : Nat → Nat) : Nat := n / 2 - cnt n f g
theorem cnt_le (N : Nc n f) (M : Nc n g) : cnt n f g ≤ n / 2 := by
  rcases cnt_half M n N (by omega) with h | h <;> omega
theorem dst_add (N : Nc n f) (M : Nc n g) : dst n f g + cnt n f g = n / 2 := by have := cnt_le N M; unfold dst; omega
theorem dst_zero (N : Nc n f) (M : Nc n g) : dst n f g = 0 ↔ Eqn n f g := by
  have := cnt_half M n N (by omega)
  unfold dst
  constructor
  · intro z
    rcases this with h | h
    · exact h.1
    · omega
  · intro e
    rcases this with h | h
    · omega
    · exact absurd e h.1
theorem dst_comm : dst n f g = dst n g f := by unfold dst; rw [cnt_comm]
theorem dst_congr (F : Mt n f) (G : Mt n g) (e : Eqn n f f') (e' : Eqn n g g') : dst n f g = dst n f' g' := by unfold dst; rw [cnt_congr F G e e']
theorem dst_step (N : Nc n f) (M : Nc n g) (p : Ps n f a b) : dst n (ex f a b) g = dst n f g + 1 ∨ dst n (ex f a b) g + 1 = dst n f g := by
  have := ps_step N M.toMt p
  have := dst_add N M
  have := dst_add p.nc M
  omega
theorem dst_near (N : Nc n f) (M : Nc n g) (ne : ¬ Eqn n f g) : ∃ a b, Ps n f a b ∧ dst n (ex f a b) g + 1 = dst n f g := by
  obtain ⟨a, b, p, c⟩ := near_ex N M ne
  have := dst_add N M
  have := dst_add p.nc M
  exact ⟨a, b, p, by omega⟩
theorem dst_tri (M : Nc n g) (H : Nc n h) : ∀ (k : Nat) {f : Nat → Nat}, Nc n f → dst n f g = k → dst n f h ≤ k + dst n g h ∧ (k + dst n g h + dst n f h) % 2 = 0
  | 0, f, N, e => by
    have := (dst_zero N M).mp e
    rw [dst_congr N.toMt H.toMt this fun _ _ => rfl]
    omega
  | k + 1, f, N, e => by
    obtain ⟨a, b, p, c⟩ := dst_near N M fun q => by have := (dst_zero N M).mpr q; omega
    have ih := dst_tri M H k p.nc (by omega)
    have := dst_step N H p
    omega
open Classical in
theorem cnt_pos (hn : 0 < n) : 1 ≤ cnt n f g := by
  unfold cnt cls
  have : 0 ∈ (List.range n).filter fun p => decide (∀ q, q < p → ¬ Rc f g q p) := by
    rw [List.mem_filter]
    refine ⟨List.mem_range.mpr hn, ?_⟩
    rw [decide_eq_true_eq]
    intro q hq; omega
  exact List.length_pos_of_mem this
theorem dst_max (N : Nc n f) (M : Nc n g) : dst n f g ≤ n / 2 - 1 := by
  have := dst_add N M
  rcases Nat.eq_zero_or_pos n with q | q
  · subst q; omega
  · have := cnt_pos (f := f) (g := g) q; omega
open Classical in
/-- two rings: neighbours of both -/
theorem two_rings (N : Mt n f) (M : Nc n g) (h2 : 2 ≤ cnt n f g) : ∃ a b, Ps n g a b ∧ cnt n f (ex g a b) + 1 = cnt n f g := by
  have some : ∃ i, i + 1 < n ∧ ¬ Rc f g i (i + 1) := Classical.byContradiction fun z => by
    have all : ∀ i, i < n → Rc f g 0 i := fun i => by
      induction i with
      | zero => intro _; exact .rfl
      | succ i ih => intro h; exact (ih (by omega)).trans (Classical.byContradiction fun w => z ⟨i, h, w⟩)
    have : cnt n f g ≤ 1 := by
      unfold cnt cls
      have : ∀ x ∈ (List.range n).filter (fun p => decide (∀ q, q < p → ¬ Rc f g q p)), x ∈ [0] := fun x hx => by
        rw [List.mem_filter, decide_eq_true_eq, List.mem_range] at hx
        rcases Nat.eq_zero_or_pos x with q | q
        · simp [q]
        · exact absurd (all x hx.1) (hx.2 0 q)
      exact nodup_sub _ [0] (List.Pairwise.filter _ List.nodup_range) this
    omega
  obtain ⟨i, hi, d⟩ := some
  have F : Four n g i (i + 1) := ⟨M.toMt, by omega, hi, by omega, fun e => d (by have := (Rc.rfl (f := f) (g := g) (x := i)).g; rw [e] at this; exact this)⟩
  have C := sw_closed M F fun j hj s => by rw [sd_true] at s; omega
  obtain ⟨a, b, p, e, _⟩ := sw_ps M F C
  refine ⟨a, b, p, ?_⟩
  rw [e, cnt_comm, cnt_comm (f := f)]
  exact cnt_join F N (by omega) fun r => d r.swap
end
end Mini
namespace Mini
/-! ### what is_possible looks at -/
def crs (p q : Nat × Nat) : Bool := sd p.1 p.2 q.1 != sd p.1 p.2 q.2
def lessL (A : List Nat) : List Nat := (List.range A.length).filter fun p => decide (p < fn A p)
def armsL (A : List Nat) : List (Nat × Nat) := ((List.range A.length).filter fun p => decide (p < fn A p)).map fun p => (p, fn A p)
def madeL (A : List Nat) (a b : Nat) : List (Nat × Nat) := if fn A a < b then [(a, fn A b), (fn A a, b)] else [(a, b), (fn A b, fn A a)]
def restL (A : List Nat) (a b : Nat) : List (Nat × Nat) := (armsL A).filter fun r => !decide (r.1 ∈ [a, b])
def posB (A : List Nat) (a b : Nat) : Bool := !((madeL A a b).flatMap fun r => (restL A a b).map fun q => crs r q).any id
theorem mem_lessL {A : List Nat} {p : Nat} : p ∈ lessL A ↔ p < A.length ∧ p < fn A p := by simp [lessL, List.mem_filter]
theorem mem_armsL {A : List Nat} {r : Nat × Nat} : r ∈ armsL A ↔ r.1 < A.length ∧ r.1 < fn A r.1 ∧ r.2 = fn A r.1 := by
  simp only [armsL, List.mem_map, List.mem_filter, List.mem_range, decide_eq_true_eq]
  constructor
  · rintro ⟨p, ⟨h1, h2⟩, rfl⟩; exact ⟨h1, h2, rfl⟩
  · rintro ⟨h1, h2, h3⟩; exact ⟨r.1, ⟨h1, h2⟩, by rw [← h3]⟩
theorem crs_false {p q : Nat × Nat} : crs p q = false ↔ sd p.1 p.2 q.1 = sd p.1 p.2 q.2 := by unfold crs; simp
theorem posB_iff {A : List Nat} {a b : Nat} : posB A a b = true ↔ ∀ r ∈ madeL A a b, ∀ p, p < A.length → p < fn A p → p ≠ a → p ≠ b → sd r.1 r.2 p = sd r.1 r.2 (fn A p) := by
  unfold posB
  rw [Bool.not_eq_true', List.any_eq_false]
  constructor
  · intro h r hr p h1 h2 h3 h4
    have := h (crs r (p, fn A p)) (List.mem_flatMap.mpr ⟨r, hr, List.mem_map.mpr ⟨(p, fn A p), by simp only [restL, List.mem_filter]; exact ⟨mem_armsL.mpr ⟨h1, h2, rfl⟩, by simp [h3, h4]⟩, rfl⟩⟩)
    simp only [id, Bool.not_eq_true] at this
    exact crs_false.mp this
  · intro h x hx
    obtain ⟨r, hr, hx⟩ := List.mem_flatMap.mp hx
    obtain ⟨q, hq, rfl⟩ := List.mem_map.mp hx
    simp only [restL, List.mem_filter] at hq
    obtain ⟨h1, h2, h3⟩ := mem_armsL.mp hq.1
    have h4 := hq.2
    simp at h4
    simp only [id, Bool.not_eq_true]
    rw [crs_false, h3]
    exact h r hr q.1 h1 h2 h4.1 h4.2
theorem pos_ps {n : Nat} {A : List Nat} {a b : Nat} (x : Arr n A) (ab : a < b) (hb : b < n) (la : a < fn A a) (lb : b < fn A b) : posB A a b = true ↔ Ps n (fn A) a b := by
  have N := x.Nc
  have ha : a < n := by omega
  have nab : fn A a ≠ b := fun e => by have := N.toMt.flip ha e; omega
  have hn := x.len
  have big : ∃ y, Four n (fn A) a y ∧ ex (fn A) a b = sw (fn A) a y ∧ sd a y (fn A a) = sd a y (fn A y) ∧ madeL A a b = [(a, y), if fn A a < b then (fn A a, fn A y) else (fn A y, fn A a)] ∧ (y = b ∨ y = fn A b) ∧ (fn A y = b ∨ fn A y = fn A b) := by
    have nc := N.nc a b ha hb (by omega) nab.symm
    rw [sd_eq] at nc
    by_cases q : fn A a < b
    · have i2 := N.inv b hb
      refine ⟨fn A b, ⟨N.toMt, ha, N.lt b hb, by omega, fun e => by have := N.toMt.inj ha hb e; omega⟩, by unfold ex; rw [if_pos q], ?_, ?_, .inr rfl, .inl i2⟩
      · rw [i2, sd_eq]; omega
      · simp only [madeL, q, if_true, i2]
    · refine ⟨b, ⟨N.toMt, ha, hb, by omega, nab⟩, by unfold ex; rw [if_neg q], ?_, ?_, .inl rfl, .inr rfl⟩
      · rw [sd_eq]; omega
      · simp only [madeL, q, if_false]
  obtain ⟨y, F, e, s2, em, ey, efy⟩ := big
  have four : ∀ p, p < n → p < fn A p → p ≠ a → p ≠ b → p ≠ a ∧ p ≠ y ∧ p ≠ fn A a ∧ p ≠ fn A y := fun p hp lp h1 h2 => by
    have b1 : p ≠ fn A b := fun q => by have := N.toMt.flip hb q.symm; omega
    have a1 : p ≠ fn A a := fun q => by have := N.toMt.flip ha q.symm; omega
    refine ⟨h1, ?_, a1, ?_⟩
    · rcases ey with q | q <;> rw [q] <;> assumption
    · rcases efy with q | q <;> rw [q] <;> assumption
  rw [posB_iff]
  constructor
  · intro h
    refine ⟨ab, hb, la, lb, ?_⟩
    rw [e]
    refine sw_nc N F (fun j hj q => ?_) s2
    have key : ∀ j, j < n → j < fn A j → j ≠ a ∧ j ≠ y ∧ j ≠ fn A a ∧ j ≠ fn A y → sd j (fn A j) a = sd j (fn A j) y := fun j hj lj q => by
      have k := F.keep hj q
      have nb : j ≠ b := fun z => by rcases ey with w | w <;> rcases efy with w' | w' <;> first | (exact q.2.1 (by rw [w]; exact z)) | (exact q.2.2.2 (by rw [w']; exact z)) | (rw [w] at w'; rw [N.inv b hb] at w'; omega)
      have := h (a, y) (by rw [em]; simp) j (by omega) lj q.1 nb
      exact sd_symm (Ne.symm q.1) (Ne.symm k.1) (Ne.symm q.2.1) (Ne.symm k.2.1) this
    rcases Nat.lt_or_ge j (fn A j) with lj | lj
    · exact key j hj lj q
    · have k := F.keep hj q
      have ij := N.inv j hj
      have nj := N.toMt.ne hj
      have := key (fn A j) (N.lt j hj) (by rw [ij]; omega) k
      rw [ij, sd_comm, sd_comm (fn A j)] at this
      exact this
  · intro P r hr p hp lp h1 h2
    have M := P.nc
    rw [e] at M
    have q := four p (by omega) lp h1 h2
    have so : sw (fn A) a y p = fn A p := sw_oth q.1 q.2.1 q.2.2.1 q.2.2.2
    have c1 := M.nc a p ha (by omega) q.1 (by rw [F.s1]; exact q.2.1)
    rw [F.s1, so] at c1
    have c2 := M.nc (fn A a) p (N.lt a ha) (by omega) q.2.2.1 (by rw [F.s3]; exact q.2.2.2)
    rw [F.s3, so] at c2
    rw [em] at hr
    simp at hr
    rcases hr with rfl | rfl
    · exact c1
    · split
      · exact c2
      · show sd (fn A y) (fn A a) p = sd (fn A y) (fn A a) (fn A p)
        rw [sd_comm, c2, sd_comm]
/-- the arrangement afterwards -/
def exA (A : List Nat) (a b : Nat) : List Nat := (List.range A.length).map (ex (fn A) a b)
theorem fn_exA {A : List Nat} {a b p : Nat} (hp : p < A.length) : fn (exA A a b) p = ex (fn A) a b p := by simp [fn, exA, List.getD_eq_getElem?_getD, hp]
theorem exA_len (A : List Nat) (a b : Nat) : (exA A a b).length = A.length := by simp [exA]
theorem list_eq_map {L : List Nat} {n : Nat} {g : Nat → Nat} (hl : L.length = n) (h : ∀ p, p < n → fn L p = g p) : L = (List.range n).map g := by
  apply List.ext_getElem?
  intro p
  rcases Nat.lt_or_ge p n with q | q
  · have := h p q
    simp only [fn, List.getD_eq_getElem?_getD] at this
    rw [List.getElem?_eq_getElem (by omega)] at this ⊢
    simp at this
    simp [q, this]
  · rw [List.getElem?_eq_none (by omega), List.getElem?_eq_none (by simpa using q)]
theorem Arr.eq_of {n : Nat} {A B : List Nat} (x : A.length = n) (y : B.length = n) (e : Eqn n (fn A) (fn B)) : A = B := by
  rw [list_eq_map x e]; exact (list_eq_map y fun _ _ => rfl).symm
theorem Ps.arr {n : Nat} {A : List Nat} {a b : Nat} (x : Arr n A) (p : Ps n (fn A) a b) : Arr n (exA A a b) := by
  refine Nc.arr (by rw [exA_len, x.len]) (p.nc.congr fun q hq => ?_)
  rw [fn_exA (by rw [x.len]; exact hq)]
/-- the possible exchanges, ascending -/
def exRow (A : List Nat) (k : Nat) : List (Nat × Nat) := (((lessL A).drop (k + 1)).filter fun b => posB A ((lessL A).getD k 0) b).map fun b => ((lessL A).getD k 0, b)
def exL (A : List Nat) : List (Nat × Nat) := (List.range (lessL A).length).flatMap (exRow A)
theorem lessL_lt (A : List Nat) : (lessL A).Pairwise (· < ·) := List.Pairwise.filter _ List.pairwise_lt_range
theorem mem_drop {L : List Nat} (h : L.Pairwise (· < ·)) {k b : Nat} (hk : k < L.length) : b ∈ L.drop (k + 1) ↔ b ∈ L ∧ L.getD k 0 < b := by
  have e : L.getD k 0 = L[k] := by simp [List.getD_eq_getElem?_getD, hk]
  rw [e]
  rw [List.pairwise_iff_getElem] at h
  constructor
  · intro q
    obtain ⟨i, hi, rfl⟩ := List.getElem_of_mem q
    rw [List.length_drop] at hi
    rw [List.getElem_drop]
    exact ⟨List.getElem_mem _, h k (k + 1 + i) hk (by omega) (by omega)⟩
  · rintro ⟨q, lt⟩
    obtain ⟨i, hi, rfl⟩ := List.getElem_of_mem q
    have : k < i := by
      rcases Nat.lt_trichotomy k i with z | z | z
      · exact z
      · subst z; omega
      · have := h i k hi hk z; omega
    rw [List.mem_iff_getElem]
    exact ⟨i - (k + 1), by rw [List.length_drop]; omega, by rw [List.getElem_drop]; congr 1; omega⟩
theorem mem_exL {A : List Nat} {a b : Nat} : (a, b) ∈ exL A ↔ a ∈ lessL A ∧ b ∈ lessL A ∧ a < b ∧ posB A a b = true := by
  simp only [exL, exRow, List.mem_flatMap, List.mem_map, List.mem_filter, List.mem_range, Prod.mk.injEq]
  constructor
  · rintro ⟨k, hk, c, ⟨h1, h2⟩, rfl, rfl⟩
    have := (mem_drop (lessL_lt A) hk).mp h1
    refine ⟨?_, this.1, this.2, h2⟩
    have e : (lessL A).getD k 0 = (lessL A)[k] := by simp [List.getD_eq_getElem?_getD, hk]
    rw [e]; exact List.getElem_mem _
  · rintro ⟨h1, h2, h3, h4⟩
    obtain ⟨k, hk, rfl⟩ := List.getElem_of_mem h1
    have e : (lessL A).getD k 0 = (lessL A)[k] := by simp [List.getD_eq_getElem?_getD, hk]
    exact ⟨k, hk, b, ⟨(mem_drop (lessL_lt A) hk).mpr ⟨h2, by rw [e]; exact h3⟩, by rw [e]; exact h4⟩, e, rfl⟩
theorem mem_exPs {n : Nat} {A : List Nat} (x : Arr n A) {a b : Nat} : (a, b) ∈ exL A ↔ Ps n (fn A) a b := by
  have hn := x.len
  rw [mem_exL, mem_lessL, mem_lessL]
  constructor
  · rintro ⟨h1, h2, h3, h4⟩; exact (pos_ps x h3 (by omega) h1.2 h2.2).mp h4
  · intro p
    have := p.ab; have := p.hb
    exact ⟨⟨by omega, p.la⟩, ⟨by omega, p.lb⟩, p.ab, (pos_ps x p.ab p.hb p.la p.lb).mpr p⟩
/-- .. that come nearer -/
noncomputable def dstL (A B : List Nat) : Nat := dst A.length (fn A) (fn B)
noncomputable def nearL (A B : List Nat) : List (Nat × Nat) := (exL A).filter fun p => decide (dstL (exA A p.1 p.2) B < dstL A B)
theorem dstL_ex {n : Nat} {A B : List Nat} (x : Arr n A) (y : Arr n B) {a b : Nat} (p : Ps n (fn A) a b) : dstL (exA A a b) B = dst n (ex (fn A) a b) (fn B) := by
  unfold dstL
  rw [exA_len, x.len]
  exact (dst_congr p.nc.toMt y.Nc.toMt (fun q hq => (fn_exA (by rw [x.len]; exact hq)).symm) fun _ _ => rfl).symm
theorem mem_nearL {n : Nat} {A B : List Nat} (x : Arr n A) (y : Arr n B) {a b : Nat} : (a, b) ∈ nearL A B ↔ Ps n (fn A) a b ∧ dstL (exA A a b) B + 1 = dstL A B := by
  simp only [nearL, List.mem_filter, mem_exPs x, decide_eq_true_eq]
  constructor
  · rintro ⟨p, h⟩
    refine ⟨p, ?_⟩
    have := dst_step x.Nc y.Nc p
    rw [dstL_ex x y p] at h ⊢
    unfold dstL at h ⊢
    rw [x.len] at h ⊢
    omega
  · rintro ⟨p, h⟩; exact ⟨p, by omega⟩
theorem dstL_zero {n : Nat} {A B : List Nat} (x : Arr n A) (y : Arr n B) : dstL A B = 0 ↔ A = B := by
  unfold dstL
  rw [x.len, dst_zero x.Nc y.Nc]
  exact ⟨fun e => Arr.eq_of x.len y.len e, fun e => by rw [e]; exact fun _ _ => rfl⟩
theorem nearL_ne {n : Nat} {A B : List Nat} (x : Arr n A) (y : Arr n B) (ne : A ≠ B) : nearL A B ≠ [] := by
  obtain ⟨a, b, p, h⟩ := dst_near x.Nc y.Nc fun e => ne (Arr.eq_of x.len y.len e)
  have : (a, b) ∈ nearL A B := (mem_nearL x y).mpr ⟨p, by rw [dstL_ex x y p]; unfold dstL; rw [x.len]; exact h⟩
  intro e
  rw [e] at this
  simp at this
theorem nearL_nil {n : Nat} {A B : List Nat} (x : Arr n A) (y : Arr n B) : nearL A B = [] ↔ A = B := by
  constructor
  · intro h
    exact Classical.byContradiction fun ne => nearL_ne x y ne h
  · intro e
    have z := (dstL_zero x y).mpr e
    unfold nearL
    rw [z]
    simp
theorem dstL_comm {n : Nat} {A B : List Nat} (x : Arr n A) (y : Arr n B) : dstL A B = dstL B A := by unfold dstL; rw [x.len, y.len, dst_comm]
theorem dstL_tri {n : Nat} {A B C : List Nat} (x : Arr n A) (y : Arr n B) (z : Arr n C) : dstL A C ≤ dstL A B + dstL B C ∧ (dstL A B + dstL B C + dstL A C) % 2 = 0 := by
  have := dst_tri y.Nc z.Nc _ x.Nc rfl
  unfold dstL
  rw [x.len, y.len]
  exact this
theorem dstL_max {n : Nat} {A B : List Nat} (x : Arr n A) (y : Arr n B) : dstL A B ≤ n / 2 - 1 := by unfold dstL; rw [x.len]; exact dst_max x.Nc y.Nc
theorem dstL_step {n : Nat} {A B : List Nat} (x : Arr n A) (y : Arr n B) {a b : Nat} (p : Ps n (fn A) a b) : dstL (exA A a b) B = dstL A B + 1 ∨ dstL (exA A a b) B + 1 = dstL A B := by
  rw [dstL_ex x y p]; unfold dstL; rw [x.len]; exact dst_step x.Nc y.Nc p
end Mini
namespace Mini
/-! ### rings as lists -/
def ringL (f g : Nat → Nat) (p k : Nat) : List Nat := (List.range k).flatMap fun i => [itr (pi f g) i p, f (itr (pi f g) i p)]
theorem ringL_succ (f g : Nat → Nat) (p k : Nat) : ringL f g p (k + 1) = ringL f g p k ++ [itr (pi f g) k p, f (itr (pi f g) k p)] := by
  unfold ringL; rw [List.range_succ, List.flatMap_append]; simp
theorem ringL_len (f g : Nat → Nat) (p : Nat) : ∀ k, (ringL f g p k).length = 2 * k
  | 0 => rfl
  | k + 1 => by rw [ringL_succ, List.length_append, ringL_len f g p k]; simp; omega
theorem mem_ringL {f g : Nat → Nat} {p k y : Nat} : y ∈ ringL f g p k ↔ ∃ i, i < k ∧ (y = itr (pi f g) i p ∨ y = f (itr (pi f g) i p)) := by
  simp only [ringL, List.mem_flatMap, List.mem_range, List.mem_cons, List.not_mem_nil, or_false]
open Classical in
noncomputable def perK (f g : Nat → Nat) (p : Nat) : Nat := if h : ∃ K, Per f g p K then Classical.choose h else 0
noncomputable def ringP (f g : Nat → Nat) (p : Nat) : List Nat := ringL f g p (perK f g p)
section
variable {n : Nat} {f g : Nat → Nat}
theorem Per.uniq {p K K' : Nat} (a : Per f g p K) (b : Per f g p K') : K = K' := by
  rcases Nat.lt_trichotomy K K' with q | q | q
  · exact absurd a.eq (b.mn K a.pos q)
  · exact q
  · exact absurd b.eq (a.mn K' b.pos q)
theorem perK_ok (F : Mt n f) (G : Mt n g) {p : Nat} (h : p < n) : Per f g p (perK f g p) ∧ perK f g p ≤ n := by
  obtain ⟨K, hK, P⟩ := Per.ex F G h
  have e : ∃ K, Per f g p K := ⟨K, P⟩
  have : Per f g p (perK f g p) := by unfold perK; rw [dif_pos e]; exact Classical.choose_spec e
  exact ⟨this, by rw [this.uniq P]; exact hK⟩
theorem mem_ringP (F : Mt n f) (G : Mt n g) {p y : Nat} (h : p < n) : y ∈ ringP f g p ↔ Rc f g p y := by
  unfold ringP; rw [mem_ringL, rc_iff F G h (perK_ok F G h).1]
theorem ringP_len (F : Mt n f) (G : Mt n g) {p : Nat} (h : p < n) : (ringP f g p).length ≤ 2 * n := by
  unfold ringP; rw [ringL_len]; have := (perK_ok F G h).2; omega
open Classical in
noncomputable def minL (f g : Nat → Nat) (i : Nat) : List Nat := (List.range i).filter fun p => decide (∀ q, q < p → ¬ Rc f g q p)
theorem cnt_minL : cnt n f g = (minL f g n).length := rfl
theorem mem_minL {i p : Nat} : p ∈ minL f g i ↔ p < i ∧ ∀ q, q < p → ¬ Rc f g q p := by
  simp only [minL, List.mem_filter, List.mem_range, decide_eq_true_eq]
noncomputable def metL (f g : Nat → Nat) (i : Nat) : List Nat := (minL f g i).flatMap (ringP f g)
theorem mem_metL (F : Mt n f) (G : Mt n g) {p : Nat} (h : p < n) : p ∈ metL f g p ↔ p ∉ minL f g (p + 1) := by
  rw [mem_minL]
  constructor
  · intro m
    obtain ⟨q, hq, hp⟩ := List.mem_flatMap.mp m
    have hq := mem_minL.mp hq
    have := (mem_ringP F G (by omega)).mp hp
    exact fun z => z.2 q hq.1 this
  · intro z
    have : ∃ q, q < p ∧ Rc f g q p := Classical.byContradiction fun w => z ⟨by omega, fun q hq r => w ⟨q, hq, r⟩⟩
    obtain ⟨q, hq, r⟩ := this
    obtain ⟨j, j1, j2, j3⟩ := least_of (P := fun q => Rc f g q p) q r
    exact List.mem_flatMap.mpr ⟨j, mem_minL.mpr ⟨by omega, fun i hi r' => j3 i hi (r'.trans j2)⟩, (mem_ringP F G (by omega)).mpr j2⟩
open Classical in
theorem minL_succ {i : Nat} : minL f g (i + 1) = minL f g i ++ (if i ∈ minL f g (i + 1) then [i] else []) := by
  have e : minL f g (i + 1) = minL f g i ++ [i].filter (fun p => decide (∀ q, q < p → ¬ Rc f g q p)) := by
    unfold minL; rw [List.range_succ, List.filter_append]
  rw [e]
  congr 1
  rw [← e]
  by_cases h : ∀ q, q < i → ¬ Rc f g q i
  · rw [if_pos (mem_minL.mpr ⟨by omega, h⟩), List.filter_cons, decide_eq_true h]; rfl
  · rw [if_neg (fun m => h (mem_minL.mp m).2), List.filter_cons, decide_eq_false h]; rfl
theorem minL_len (i : Nat) : (minL f g i).length ≤ i := Nat.le_trans (List.length_filter_le _ _) (by simp)
theorem metL_len (F : Mt n f) (G : Mt n g) {i : Nat} (h : i ≤ n) : (metL f g i).length ≤ i * (2 * n) := by
  induction i with
  | zero => simp [metL, minL]
  | succ i ih =>
    have := ih (by omega)
    unfold metL at this ⊢
    rw [minL_succ, List.flatMap_append, List.length_append, Nat.succ_mul]
    have l := ringP_len F G (show i < n by omega)
    split
    · simp only [List.flatMap_cons, List.flatMap_nil, List.append_nil]; omega
    · simp only [List.flatMap_nil, List.length_nil]; omega
end
/-- the rings of two arrangements -/
noncomputable def rgs (A B : List Nat) : List (List Nat) := (minL (fn A) (fn B) A.length).map (ringP (fn A) (fn B))
theorem rgs_len {n : Nat} {A B : List Nat} (x : A.length = n) : (rgs A B).length = cnt n (fn A) (fn B) := by rw [rgs, List.length_map, x, cnt_minL]
theorem dstL_add {n : Nat} {A B : List Nat} (x : Arr n A) (y : Arr n B) : dstL A B + (rgs A B).length = n / 2 := by
  rw [rgs_len x.len]; unfold dstL; rw [x.len]; exact dst_add x.Nc y.Nc
end Mini
namespace Mini
/-! ### plans -/
/-- a list of exchanges that are possible one after another, and where it leads -/
inductive Led (n : Nat) : List Nat → List (Nat × Nat) → List Nat → Prop where
  | nil {A : List Nat} : Led n A [] A
  | cons {A B : List Nat} {a b : Nat} {r : List (Nat × Nat)} : Ps n (fn A) a b → Led n (exA A a b) r B → Led n A ((a, b) :: r) B
noncomputable def planS (B : List Nat) : Nat → List Nat → List (Nat × Nat)
  | 0, _ => []
  | k + 1, A => match nearL A B with
    | [] => []
    | p :: _ => p :: planS B k (exA A p.1 p.2)
noncomputable def planL (A B : List Nat) : List (Nat × Nat) := planS B (dstL A B) A
section
variable {n : Nat} {A B C : List Nat}
theorem near_head (x : Arr n A) (y : Arr n B) {k : Nat} (h : dstL A B = k + 1) : ∃ a b r, nearL A B = (a, b) :: r ∧ Ps n (fn A) a b ∧ dstL (exA A a b) B = k := by
  have ne : A ≠ B := fun e => by have := (dstL_zero x y).mpr e; omega
  cases q : nearL A B with
  | nil => exact absurd q (nearL_ne x y ne)
  | cons p r =>
    obtain ⟨a, b⟩ := p
    have := (mem_nearL x y (a := a) (b := b)).mp (by rw [q]; simp)
    exact ⟨a, b, r, rfl, this.1, by omega⟩
theorem planS_ok (y : Arr n B) : ∀ (k : Nat) {A : List Nat}, Arr n A → dstL A B = k → Led n A (planS B k A) B ∧ (planS B k A).length = k
  | 0, A, x, h => by
    have := (dstL_zero x y).mp h
    subst this
    exact ⟨.nil, rfl⟩
  | k + 1, A, x, h => by
    obtain ⟨a, b, r, e, p, d⟩ := near_head x y h
    have ih := planS_ok y k (p.arr x) d
    rw [planS, e]
    exact ⟨.cons p ih.1, by simp [ih.2]⟩
theorem planL_led (x : Arr n A) (y : Arr n B) : Led n A (planL A B) B := (planS_ok y _ x rfl).1
theorem planL_len (x : Arr n A) (y : Arr n B) : (planL A B).length = dstL A B := (planS_ok y _ x rfl).2
theorem Led.arr {L : List (Nat × Nat)} (r : Led n A L B) (x : Arr n A) : Arr n B := by
  induction r with
  | nil => exact x
  | cons p _ ih => exact ih (p.arr x)
theorem Led.append {L M : List (Nat × Nat)} (r : Led n A L B) (q : Led n B M C) : Led n A (L ++ M) C := by
  induction r with
  | nil => exact q
  | cons p _ ih => exact .cons p (ih q)
theorem Led.uniq {L : List (Nat × Nat)} (r : Led n A L B) (q : Led n A L C) : B = C := by
  induction r with
  | nil => cases q; rfl
  | cons p _ ih => cases q with | cons p' q => exact ih q
/-- an exchange, and the one that takes it back -/
theorem Ps.back {a b : Nat} (x : Arr n A) (p : Ps n (fn A) a b) : ∃ c d, Ps n (fn (exA A a b)) c d ∧ exA (exA A a b) c d = A ∧ ∀ q, q < n → ((q < fn (exA A a b) q ∧ fn A q ≠ fn (exA A a b) q) ↔ q = c ∨ q = d) := by
  obtain ⟨y, F, e, hp, _⟩ := p.sw x.Nc
  obtain ⟨B, eb⟩ := F.back hp
  have M := p.nc
  rw [e] at M
  have eA : Eqn n (Mini.sw (fn A) a y) (fn (exA A a b)) := fun q hq => by rw [fn_exA (by rw [x.len]; exact hq), e]
  obtain ⟨c, d, P, ecd, cd⟩ := sw_ps M B (by rw [eb]; exact x.Nc)
  have hc : c < n := by have := P.ab; have := P.hb; omega
  have e1 := eA c hc
  have e2 := eA d P.hb
  have ee : Eqn n (ex (Mini.sw (fn A) a y) c d) (ex (fn (exA A a b)) c d) := fun q hq => by
    have e3 := eA q hq
    have h4 := M.lt d P.hb
    have e4 := eA _ h4
    rw [e2] at e4
    simp only [ex]
    rw [← e1]
    by_cases z : Mini.sw (fn A) a y c < d
    · rw [if_pos z, if_pos z]
      show (if q = c then _ else if q = _ then _ else if q = _ then _ else if q = _ then _ else _) = (if q = c then _ else if q = _ then _ else if q = _ then _ else if q = _ then _ else _)
      rw [← e1, ← e2, ← e3, e2, ← e4]
    · rw [if_neg z, if_neg z]
      show (if q = c then _ else if q = _ then _ else if q = _ then _ else if q = _ then _ else _) = (if q = c then _ else if q = _ then _ else if q = _ then _ else if q = _ then _ else _)
      rw [← e1, ← e2, ← e3]
  have P' : Ps n (fn (exA A a b)) c d := ⟨P.ab, P.hb, by rw [← e1]; exact P.la, by rw [← e2]; exact P.lb, P.nc.congr ee⟩
  refine ⟨c, d, P', ?_, fun q hq => ?_⟩
  · have hn := x.len
    refine Arr.eq_of (n := n) (by rw [exA_len, exA_len, hn]) hn fun q hq => ?_
    rw [fn_exA (by rw [exA_len, hn]; exact hq), ← ee q hq, ecd, eb]
  · rw [← eA q hq]
    have hfa := F.mt.lt _ F.hx
    have hfy := F.mt.lt _ F.hy
    have n1 := F.nf; have n2 := F.nf'; have n3 := F.nff; have n4 := F.ne
    rw [F.s1, F.s3] at cd
    have n5 := F.mt.ne F.hx
    have n6 := F.mt.ne F.hy
    rcases F.cases q with h | h | h | h | h
    · rw [h, F.s1]; omega
    · rw [h, F.s2]; omega
    · have s := F.s3; rw [← h] at s; rw [s]; have i := F.mt.inv _ F.hx; rw [← h] at i; rw [i]; omega
    · have s := F.s4; rw [← h] at s; rw [s]; have i := F.mt.inv _ F.hy; rw [← h] at i; rw [i]; omega
    · rw [sw_oth h.1 h.2.1 h.2.2.1 h.2.2.2]; omega
theorem two_of {L : List Nat} {c d : Nat} (h : L.Pairwise (· < ·)) (cd : c < d) (m : ∀ q, q ∈ L ↔ q = c ∨ q = d) : L = [c, d] := by
  refine List.Perm.eq_of_pairwise (le := (· < ·)) (fun a b _ _ h1 h2 => by omega) h (by simp [cd]) ?_
  have nd : L.Nodup := List.Pairwise.imp (fun q => Nat.ne_of_lt q) h
  have nd2 : [c, d].Nodup := by simp; omega
  exact (List.perm_ext_iff_of_nodup nd nd2).mpr fun q => by rw [m q]; simp
/-- the lesser people of the arms that an exchange made -/
theorem back_two {a b : Nat} (x : Arr n A) (p : Ps n (fn A) a b) : ∃ c d, (lessL (exA A a b)).filter (fun q => !decide (fn A q = fn (exA A a b) q)) = [c, d] ∧ Ps n (fn (exA A a b)) c d ∧ exA (exA A a b) c d = A := by
  obtain ⟨c, d, P, e, m⟩ := p.back x
  refine ⟨c, d, two_of (List.Pairwise.filter _ (lessL_lt _)) P.ab fun q => ?_, P, e⟩
  rw [List.mem_filter, mem_lessL, exA_len, x.len]
  constructor
  · rintro ⟨⟨h1, h2⟩, h3⟩
    exact (m q h1).mp ⟨h2, by simpa using h3⟩
  · intro h
    have hq : q < n := by have := P.ab; have := P.hb; rcases h with h | h <;> omega
    have := (m q hq).mpr h
    exact ⟨⟨hq, this.1⟩, by simpa using this.2⟩
end
end Mini
namespace Mini
/-! ### the law's own way to exchange -/
theorem getD_app {α : Type} (L M : List α) (k : Nat) (d : α) (h : k < L.length) : (L ++ M).getD k d = L.getD k d := by simp [List.getD_eq_getElem?_getD, List.getElem?_append_left h]
theorem getD_appR {α : Type} (L M : List α) (k : Nat) (d : α) : (L ++ M).getD (L.length + k) d = M.getD k d := by rw [List.getD_eq_getElem?_getD, List.getD_eq_getElem?_getD, List.getElem?_append_right (by omega)]; simp
def clearB (L : List (Nat × Nat)) : Bool := (List.range L.length).all fun k => !((L.take k).map fun q => crs (L.getD k (0, 0)) q).any id
theorem clearB_app (L M : List (Nat × Nat)) : clearB (L ++ M) = (clearB L && (List.range M.length).all fun k => !(((L ++ M.take k).map fun q => crs (M.getD k (0, 0)) q).any id)) := by
  unfold clearB
  rw [List.length_append, List.range_add, List.all_append]
  congr 1
  · rw [Bool.eq_iff_iff, List.all_eq_true, List.all_eq_true]
    constructor
    · intro h k hk
      have := h k hk
      have hk := List.mem_range.mp hk
      rw [List.take_append_of_le_length (by omega), getD_app _ _ _ _ hk] at this
      exact this
    · intro h k hk
      have := h k hk
      have hk := List.mem_range.mp hk
      rw [List.take_append_of_le_length (by omega), getD_app _ _ _ _ hk]
      exact this
  · rw [List.all_map]
    congr 1
    funext k
    simp only [Function.comp]
    rw [List.take_length_add_append, getD_appR]
def seatL (A : List Nat) (L : List (Nat × Nat)) : List Nat := L.foldl (fun A r => (A.set r.1 r.2).set r.2 r.1) A
theorem seatL_len : ∀ (L : List (Nat × Nat)) (A : List Nat), (seatL A L).length = A.length
  | [], _ => rfl
  | r :: L, A => by unfold seatL; rw [List.foldl_cons]; have := seatL_len L ((A.set r.1 r.2).set r.2 r.1); unfold seatL at this; rw [this]; simp
theorem fn_set' (A : List Nat) (i v j : Nat) (hi : i < A.length) : fn (A.set i v) j = if j = i then v else fn A j := by
  unfold fn
  rw [getD_set A i v j hi]
  by_cases e : i = j
  · subst e; simp
  · have : ¬ j = i := fun q => e q.symm
    simp [e, this]
/-- pairs that agree with a matching put it in their places -/
theorem seat_at {n : Nat} {g : Nat → Nat} : ∀ (L : List (Nat × Nat)) (A : List Nat), A.length = n → (∀ r ∈ L, r.1 < n ∧ r.2 < n ∧ g r.1 = r.2 ∧ g r.2 = r.1) → ∀ p, p < n → ((∃ r ∈ L, p = r.1 ∨ p = r.2) ∨ fn A p = g p) → fn (seatL A L) p = g p
  | [], A, hA, hr, p, hp, h => by
    rcases h with ⟨r, hr, _⟩ | h
    · simp at hr
    · exact h
  | r :: L, A, hA, hr, p, hp, h => by
    have r0 := hr r (by simp)
    unfold seatL
    rw [List.foldl_cons]
    refine seat_at L ((A.set r.1 r.2).set r.2 r.1) (by simp [hA]) (fun q hq => hr q (by simp [hq])) p hp ?_
    by_cases q : p = r.1 ∨ p = r.2
    · right
      rw [fn_set' _ _ _ _ (by simp; omega), fn_set' _ _ _ _ (by omega)]
      rcases q with q | q
      · rw [q]
        by_cases e : r.1 = r.2
        · rw [if_pos e]; rw [r0.2.2.1]; exact e
        · rw [if_neg e, if_pos rfl, r0.2.2.1]
      · rw [if_pos q, q, r0.2.2.2]
    · rcases h with ⟨s, hs, e⟩ | h
      · rcases List.mem_cons.mp hs with rfl | hs
        · exact absurd e q
        · exact .inl ⟨s, hs, e⟩
      · right
        rw [fn_set' _ _ _ _ (by simp; omega), fn_set' _ _ _ _ (by omega), if_neg (fun e => q (.inr e)), if_neg (fun e => q (.inl e))]
        exact h
section
variable {n : Nat} {A : List Nat} {a b : Nat}
structure Le2 (n : Nat) (A : List Nat) (a b : Nat) : Prop where
  ab : a < b
  hb : b < n
  la : a < fn A a
  lb : b < fn A b
theorem made_no (x : Arr n A) (L : Le2 n A a b) : ∃ p q, madeL A a b = [p, q] ∧ crs q p = false := by
  have N := x.Nc
  have ab := L.ab; have hb := L.hb; have la := L.la; have lb := L.lb
  have ha : a < n := by omega
  have nab : fn A a ≠ b := fun e => by have := N.toMt.flip ha e; omega
  have nc := N.nc a b ha hb (by omega) nab.symm
  rw [sd_eq] at nc
  by_cases q : fn A a < b
  · refine ⟨(a, fn A b), (fn A a, b), by simp only [madeL, q, if_true], ?_⟩
    rw [crs_false, sd_eq]; omega
  · refine ⟨(a, b), (fn A b, fn A a), by simp only [madeL, q, if_false], ?_⟩
    rw [crs_false, sd_eq]; omega
theorem rest_clear (x : Arr n A) : clearB (restL A a b) = true := by
  have N := x.Nc
  have hn := x.len
  have pw : (restL A a b).Pairwise (fun r q => crs q r = false) := by
    unfold restL
    refine List.Pairwise.filter _ ?_
    unfold armsL
    rw [List.pairwise_map]
    refine List.Pairwise.imp_of_mem (R := (· < ·)) ?_ (lessL_lt A)
    intro p q hp hq lt
    have hp := mem_lessL.mp hp
    have hq := mem_lessL.mp hq
    rw [crs_false]
    have : p ≠ fn A q := fun e => by have := N.toMt.flip (show q < n by omega) e.symm; omega
    exact N.nc q p (by omega) (by omega) (by omega) this
  unfold clearB
  rw [List.all_eq_true]
  intro k hk
  have hk := List.mem_range.mp hk
  rw [Bool.not_eq_true', List.any_eq_false]
  intro c hc
  obtain ⟨q, hq, rfl⟩ := List.mem_map.mp hc
  obtain ⟨j, hj, rfl⟩ := List.getElem_of_mem hq
  rw [List.length_take] at hj
  rw [List.pairwise_iff_getElem] at pw
  have := pw j k (by omega) hk (by omega)
  rw [List.getElem_take, List.getD_eq_getElem?_getD, List.getElem?_eq_getElem hk]
  simpa using this
theorem clear_pos (x : Arr n A) (L : Le2 n A a b) : clearB (restL A a b ++ madeL A a b) = posB A a b := by
  obtain ⟨p, q, em, c⟩ := made_no x L
  rw [clearB_app, rest_clear x, Bool.true_and]
  unfold posB
  rw [em]
  simp only [List.length_cons, List.length_nil, List.range_succ, List.range_zero, List.nil_append, List.cons_append, List.all_cons, List.all_nil, Bool.and_true, List.take_zero, List.append_nil, List.flatMap_cons, List.flatMap_nil, List.any_append, Bool.not_or]
  congr 1
  simp [List.map_append, List.any_append, c]
theorem seat_ex (x : Arr n A) (P : Ps n (fn A) a b) : seatL (List.replicate n 0) (restL A a b ++ madeL A a b) = exA A a b := by
  have hn := x.len
  have N := x.Nc
  have M := P.nc
  have ha : a < n := by have := P.ab; have := P.hb; omega
  obtain ⟨y, F, e, hp, cy⟩ := P.sw N
  unfold exA
  refine list_eq_map (by rw [seatL_len]; simp [hn]) fun p hp => ?_
  have hp : p < n := by omega
  have ib := N.inv b P.hb
  -- the made pairs
  have em : ∃ u v, madeL A a b = [(a, y), (u, v)] ∧ ((u = fn A a ∧ v = fn A y) ∨ (u = fn A y ∧ v = fn A a)) := by
    rcases cy with ⟨q, rfl⟩ | ⟨q, rfl⟩
    · exact ⟨fn A a, b, by simp only [madeL, q, if_true], .inl ⟨rfl, ib.symm⟩⟩
    · exact ⟨fn A y, fn A a, by simp only [madeL, q, if_false], .inr ⟨rfl, rfl⟩⟩
  obtain ⟨u, v, em, uv⟩ := em
  have hfa := F.mt.lt _ F.hx
  have hfy := F.mt.lt _ F.hy
  have fb : b = y ∨ b = fn A y := by rcases cy with ⟨_, rfl⟩ | ⟨_, rfl⟩; exact .inr ib.symm; exact .inl rfl
  rw [e]
  refine seat_at _ _ (by simp) (fun r hr => ?_) p hp ?_
  · rcases List.mem_append.mp hr with hr | hr
    · simp only [restL, List.mem_filter] at hr
      obtain ⟨h1, h2, h3⟩ := mem_armsL.mp hr.1
      have h4 := hr.2
      simp at h4
      have h1 : r.1 < n := by omega
      have q : r.1 ≠ a ∧ r.1 ≠ y ∧ r.1 ≠ fn A a ∧ r.1 ≠ fn A y := by
        have a1 : r.1 ≠ fn A a := fun z => by have := N.toMt.flip ha z.symm; have := P.la; omega
        have b1 : r.1 ≠ fn A b := fun z => by have := N.toMt.flip P.hb z.symm; have := P.lb; omega
        refine ⟨h4.1, ?_, a1, ?_⟩
        · rcases fb with z | z
          · rw [← z]; exact h4.2
          · intro w; apply b1; rw [z, N.inv y F.hy]; exact w
        · rcases fb with z | z
          · rw [← z]; exact b1
          · rw [← z]; exact h4.2
      have k := F.keep h1 q
      rw [h3]
      exact ⟨h1, N.lt _ h1, sw_oth q.1 q.2.1 q.2.2.1 q.2.2.2, by rw [sw_oth k.1 k.2.1 k.2.2.1 k.2.2.2]; exact N.inv _ h1⟩
    · rw [em] at hr
      simp at hr
      rcases hr with rfl | rfl
      · exact ⟨F.hx, F.hy, F.s1, F.s2⟩
      · rcases uv with ⟨rfl, rfl⟩ | ⟨rfl, rfl⟩
        · exact ⟨hfa, hfy, F.s3, F.s4⟩
        · exact ⟨hfy, hfa, F.s4, F.s3⟩
  · left
    rcases F.cases p with q | q | q | q | q
    · exact ⟨(a, y), by rw [em]; simp, .inl q⟩
    · exact ⟨(a, y), by rw [em]; simp, .inr q⟩
    · refine ⟨(u, v), by rw [em]; simp, ?_⟩
      rcases uv with ⟨h1, h2⟩ | ⟨h1, h2⟩
      · exact .inl (by rw [q, h1])
      · exact .inr (by rw [q, h2])
    · refine ⟨(u, v), by rw [em]; simp, ?_⟩
      rcases uv with ⟨h1, h2⟩ | ⟨h1, h2⟩
      · exact .inr (by rw [q, h2])
      · exact .inl (by rw [q, h1])
    · have nb : ∀ z, z ≠ a ∧ z ≠ y ∧ z ≠ fn A a ∧ z ≠ fn A y → z ≠ b := fun z w => by rcases fb with h | h <;> rw [h]; exact w.2.1; exact w.2.2.2
      have k := F.keep hp q
      have np := N.toMt.ne hp
      rcases Nat.lt_or_ge p (fn A p) with l | l
      · exact ⟨(p, fn A p), List.mem_append_left _ (by simp only [restL, List.mem_filter]; exact ⟨mem_armsL.mpr ⟨by simp only; omega, l, rfl⟩, by simp [q.1, nb p q]⟩), .inl rfl⟩
      · refine ⟨(fn A p, p), List.mem_append_left _ (by simp only [restL, List.mem_filter]; exact ⟨mem_armsL.mpr ⟨by simp only; have := N.lt p hp; omega, by simp only; rw [N.inv p hp]; omega, (N.inv p hp).symm⟩, by simp [k.1, nb _ k]⟩), .inr rfl⟩
end
end Mini
namespace Mini
open PySem L2
/-! ### more single steps -/
section
variable {s s1 : Ev} {h h1 h2 h3 : Hd} {d d1 d2 d3 : D} {f f1 f2 f3 : EF} {a k : AF} {t t2 : TF} {b1 b2 : SF} {c c1 c2 : Bool}
theorem acons_ok {ds : List D} (e1 : f1 s h = .ok d1 h1) (e2 : a s h1 = .ok ds h2) : a_cons f1 a s h = .ok (d1 :: ds) h2 := by simp only [a_cons, e1, e2, bind_ok]
theorem anil_ok : a_nil s h = .ok [] h := rfl
theorem chain_ok {g g' : P2} (e1 : f1 s h = .ok d1 h) (e2 : f2 s h = .ok d2 h) (e3 : f3 s h = .ok d3 h) (p1 : g d1 d2 h = some (.bl c1, h)) (p2 : g' d2 d3 h = some (.bl c2, h)) : e_chain g g' f1 f2 f3 s h = .ok (.bl (c1 && c2)) h := by
  simp only [e_chain, e1, e2, bind_ok, p1, lift_some]
  cases c1 <;> simp [e3, p2]
theorem or_ok (e1 : t s h = .ok c1 h) (e2 : c1 = false → t2 s h = .ok c2 h) : t_or t t2 s h = .ok (c1 || c2) h := by
  cases c1
  · rw [or_f e1, e2 rfl]; rfl
  · rw [or_t e1]; rfl
theorem and_ok (e1 : t s h = .ok c1 h) (e2 : c1 = true → t2 s h = .ok c2 h) : t_and t t2 s h = .ok (c1 && c2) h := by
  cases c1
  · rw [and_f e1]; rfl
  · rw [and_t e1, e2 rfl]; rfl
theorem eand_ok (e1 : f1 s h = .ok (.bl c1) h) (e2 : c1 = true → f2 s h = .ok (.bl c2) h) : e_and f1 f2 s h = .ok (.bl (c1 && c2)) h := by
  cases c1
  · rw [eand_f e1]; rfl
  · rw [eand_t e1, e2 rfl]; rfl
theorem eor_ok (e1 : f1 s h = .ok (.bl c1) h) (e2 : c1 = false → f2 s h = .ok (.bl c2) h) : e_or f1 f2 s h = .ok (.bl (c1 || c2)) h := by
  cases c1
  · simp [e_or, e1, e2 rfl]
  · simp [e_or, e1]
theorem enot_ok (e1 : f s h = .ok (.bl c) h1) : e_not f s h = .ok (.bl (!c)) h1 := by simp [e_not, e1]
theorem enot_t (e1 : f s h = .ok (.bl true) h1) : e_not f s h = .ok (.bl false) h1 := enot_ok e1
theorem enot_f (e1 : f s h = .ok (.bl false) h1) : e_not f s h = .ok (.bl true) h1 := enot_ok e1
theorem not_t (e1 : t s h = .ok true h1) : t_not t s h = .ok false h1 := not_ok e1
theorem not_f (e1 : t s h = .ok false h1) : t_not t s h = .ok true h1 := not_ok e1
theorem isi_ok {ts : List String} (e1 : f s h = .ok d h1) (e2 : tyOk d h1 = true) (e3 : (ts.any fun T => isTy T (tyS d)) = c) : e_isi ts f s h = .ok (.bl c) h1 := by simp [e_isi, e1, e2, ← e3]
theorem expr_ok (e1 : f s h = .ok d h1) : s_expr f s h = .ok (.nx s) h1 := by simp [s_expr, e1]
theorem lm_ok {g : PM} {ds : List D} (e1 : f s h = .ok d1 h1) (ht : lstTy d1 h1 = true) (e2 : a s h1 = .ok ds h2) (e3 : g d1 ds h2 = some (d, h3)) : e_lm g f a s h = .ok d h3 := by simp [e_lm, e1, ht, e2, e3]
theorem osome_ok {i : Int} (e1 : f s h = .ok (.int i) h1) : o_some f s h = .ok (some i) h1 := by simp [o_some, e1]
theorem onone_ok : o_none s h = .ok none h := rfl
theorem slice_ok {m : Bool} {lo hi : OF} {l u : Option Int} (e1 : f s h = .ok d1 h1) (e2 : lo s h1 = .ok l h2) (e3 : hi s h2 = .ok u h3) {h4 : Hd} (e4 : slP m d1 l u h3 = some (d, h4)) : e_slice m f lo hi s h = .ok d h4 := by simp [e_slice, e1, e2, e3, e4]
theorem asg_ok {p : Pat} (e1 : f s h = .ok d h1) (e2 : patD p d s = some s1) : s_asg p f s h = .ok (.nx s1) h1 := by simp [s_asg, e1, e2]
theorem asgT_ok {g : GF} (e1 : f s h = .ok d h1) (e2 : g d s h1 = .ok s1 h2) : s_asgT g f s h = .ok (.nx s1) h2 := by simp [s_asgT, e1, e2]
theorem if_ok {r : Res Fl} (e1 : t s h = .ok c h1) (e2 : (if c then b1 s h1 else b2 s h1) = r) : s_if t b1 b2 s h = r := by simp only [s_if, e1, bindE_ok]; exact e2
theorem if_no (e1 : t s h = .ok false h1) : s_if t b1 s_nil s h = .ok (.nx s) h1 := by rw [if_f e1]; rfl
theorem aug_ok {i : Nat} {g : P2} (e0 : s[i]? = some (some d1)) (e1 : f s h = .ok d2 h1) (e2 : g d1 d2 h1 = some (d, h2)) : s_aug i g f s h = .ok (.nx (s.set i (some d))) h2 := by simp [s_aug, e0, e1, e2]
theorem enum_ok {a : AF} {l : Bool} {xs : List D} (e1 : a s h = .ok [d] h1) (e2 : asV d = some (l, xs)) : i_enum a s h = .ok (enumL 0 xs) h1 := by simp only [i_enum, e1, bind_ok, e2]
theorem zip_ok {a : AF} {l : Bool} {xs ys : List D} (e1 : a s h = .ok [d, d2] h1) (e2 : asV d = some (l, xs)) (e3 : asV d2 = some (l, ys)) : i_zip a s h = .ok (zipL xs ys) h1 := by simp only [i_zip, e1, bind_ok, e2, e3, if_true]
theorem rng_ok {a : AF} {n : Nat} (e1 : a s h = .ok [.int (n : Nat)] h1) (hn : n ≤ 100000) : i_rng1 a s h = .ok (rangeL 0 n) h1 := by simp only [i_rng1, e1, bind_ok, in62_nat hn, if_true, Int.toNat_natCast]
/-- a def whose body returns a value, its own cells given up -/
theorem fn_v {np n : Nat} {b : SF} {ds : List D} {h h' : Hd} {d : D} (s0 : Ev) (e : b s0 h = .ok (.rt d) (h ++ h')) (hs : noRef d = true) (h0 : ds.map some ++ List.replicate (n - ds.length) none = s0 := by rfl) (hl : ds.length = np := by rfl) : fnM np n b ds h = .ok d h := by
  have hd : sealD h.length d (h ++ h') = some d := by
    cases d with
    | ref k => simp [noRef] at hs
    | _ => simp only [sealD, hs, if_true]
  have r := fn_rt (np := np) (n := n) (b := b) (ds := ds) (h := h) (h' := h ++ h') s0 d e hd h0 hl
  rw [List.take_left'] at r
  · exact r
  · rfl
/-- .. or one of its own lists -/
theorem fn_l {np n : Nat} {b : SF} {ds : List D} {h h' : Hd} {j : Nat} {xs : List D} (s0 : Ev) (e : b s0 h = .ok (.rt (.ref (h.length + j))) (h ++ h')) (hj : h'[j]? = some (.lst xs)) (hs : noRefs xs = true) (h0 : ds.map some ++ List.replicate (n - ds.length) none = s0 := by rfl) (hl : ds.length = np := by rfl) : fnM np n b ds h = .ok (.lv xs) h := by
  have hd : sealD h.length (.ref (h.length + j)) (h ++ h') = some (.lv xs) := by
    have : (h ++ h')[h.length + j]? = some (.lst xs) := by rw [List.getElem?_append_right (by omega)]; simpa using hj
    simp only [sealD, this, hs, if_true]
    rw [if_neg (by omega)]
  have r := fn_rt (np := np) (n := n) (b := b) (ds := ds) (h := h) (h' := h ++ h') s0 _ e hd h0 hl
  rw [List.take_left'] at r
  · exact r
  · rfl
theorem fn_nx {np n : Nat} {b : SF} {ds : List D} {h : Hd} {s1 : Ev} (s0 : Ev) (e : b s0 h = .ok (.nx s1) h) (h0 : ds.map some ++ List.replicate (n - ds.length) none = s0 := by rfl) (hl : ds.length = np := by rfl) : fnM np n b ds h = .ok .non h := by
  unfold fnM runB
  rw [if_pos hl, h0, e]
  simp only [sealR, sealD, noRef, if_true]
  rw [take_self]
end
/-! ### data that stand for values -/
class Enc (α : Type) [DecidableEq α] where
  enc : α → D
  py : α → PyData
  dep : Nat
  pyD_enc : ∀ a, pyD (enc a) = some (py a)
  eqv : ∀ a b, PyData.eqv (py a) (py b) = decide (a = b)
  lay : ∀ a, (py a).canLay0 = true
  depth : ∀ a, (py a).depth ≤ dep
  nr : ∀ a, noRef (enc a) = true
open Enc
instance : Enc Int := ⟨.int, .int, 0, fun _ => rfl, fun a b => by simp only [PyData.eqv]; by_cases e : a = b <;> simp [e], fun _ => by simp [PyData.canLay0], fun _ => by simp [PyData.depth], fun _ => rfl⟩
instance : Enc Nat := ⟨fun a => .int (a : Nat), fun a => .int (a : Nat), 0, fun _ => rfl, fun a b => by
    simp only [PyData.eqv]
    by_cases e : a = b
    · simp [e]
    · have : ¬ (a : Int) = b := by omega
      simp [e, this], fun _ => by simp [PyData.canLay0], fun _ => by simp [PyData.depth], fun _ => rfl⟩
instance : Enc Bool := ⟨.bl, .bool, 0, fun _ => rfl, fun a b => by simp only [PyData.eqv]; cases a <;> cases b <;> rfl, fun _ => by simp [PyData.canLay0], fun _ => by simp [PyData.depth], fun _ => rfl⟩
section
variable {α β : Type} [DecidableEq α] [DecidableEq β] [Enc α] [Enc β]
instance : Enc (α × β) := ⟨fun p => .tup [enc p.1, enc p.2], fun p => .tuple [py p.1, py p.2], max (dep α) (dep β) + 1, fun p => by simp only [pyD, pyDs, pyD_enc], fun a b => by
    simp only [PyData.eqv, PyData.eqvAll, Enc.eqv, Bool.and_true]
    rw [← Bool.decide_and, decide_eq_decide]
    exact ⟨fun e => Prod.ext e.1 e.2, fun e => by rw [e]; exact ⟨rfl, rfl⟩⟩, fun p => by simp [PyData.canLay0, PyData.canLayAll0, lay], fun p => by
    have := Enc.depth p.1; have := Enc.depth p.2
    simp only [PyData.depth, PyData.depthAll]; omega, fun p => by simp [noRef, noRefs, Enc.nr]⟩
theorem pyDs_map : ∀ xs : List α, pyDs (xs.map enc) = some (xs.map py)
  | [] => rfl
  | x :: xs => by simp only [List.map_cons, pyDs, pyD_enc, pyDs_map xs]
theorem eqvAll_map : ∀ xs ys : List α, PyData.eqvAll (xs.map py) (ys.map py) = decide (xs = ys)
  | [], [] => by simp [PyData.eqvAll]
  | [], y :: ys => by simp [PyData.eqvAll]
  | x :: xs, [] => by simp [PyData.eqvAll]
  | x :: xs, y :: ys => by
    simp only [List.map_cons, PyData.eqvAll, Enc.eqv, eqvAll_map xs ys, List.cons.injEq, Bool.decide_and]
theorem layAll_map : ∀ xs : List α, PyData.canLayAll0 (xs.map py) = true
  | [] => by simp [PyData.canLayAll0]
  | x :: xs => by simp [PyData.canLayAll0, lay, layAll_map xs]
theorem depthAll_map : ∀ xs : List α, PyData.depthAll (xs.map py) ≤ dep α
  | [] => by simp [PyData.depthAll]
  | x :: xs => by have := depthAll_map xs; have := Enc.depth x; simp only [List.map_cons, PyData.depthAll]; omega
theorem noRefs_map (xs : List α) : noRefs (xs.map enc) = true := by
  rw [noRefs_iff]; intro d hd; obtain ⟨a, _, rfl⟩ := List.mem_map.mp hd; exact Enc.nr a
/-- a list as a tuple -/
structure Tp (α : Type) where
  l : List α
  deriving DecidableEq
instance : Enc (Tp α) := ⟨fun p => .tup (p.l.map enc), fun p => .tuple (p.l.map py), dep α + 1, fun p => by simp only [pyD, pyDs_map], fun a b => by
    simp only [PyData.eqv, eqvAll_map]
    rw [decide_eq_decide]
    exact ⟨fun e => by cases a; cases b; simp at e; rw [e], fun e => by rw [e]⟩, fun p => by simp [PyData.canLay0, layAll_map], fun p => by
    have := depthAll_map p.l
    simp only [PyData.depth]; omega, fun p => by simp [noRef, noRefs_map]⟩
instance : Enc (List α) := ⟨fun p => .lv (p.map enc), fun p => .list (p.map py), dep α + 1, fun p => by simp only [pyD, pyDs_map], fun a b => by
    simp only [PyData.eqv, eqvAll_map], fun p => by simp [PyData.canLay0, layAll_map], fun p => by
    have := depthAll_map p
    simp only [PyData.depth]; omega, fun p => by simp [noRef, noRefs_map]⟩
theorem shaped_py (hd : dep α ≤ 64) (a : α) : SeqAt.shaped (py a) = true := by
  have := Enc.depth a
  simp only [SeqAt.shaped, lay, Bool.true_and, decide_eq_true_eq]
  omega
theorem pyR_enc (a : α) (h : Hd) : pyR (enc a) h = some (py a) := by
  have e := pyD_enc a
  unfold pyR
  split
  · rename_i q; have := Enc.nr a; rw [q] at this; simp [noRef] at this
  · exact e
theorem eqP_enc (neg : Bool) (hd : dep α ≤ 64) (a b : α) (h : Hd) : eqP neg (enc a) (enc b) h = some (.bl (if neg then !decide (a = b) else decide (a = b)), h) := by
  simp only [eqP, pyR_enc, shaped_py hd, Bool.and_self, if_true, Enc.eqv]
theorem any_enc (x : α) : ∀ L : List α, ((L.map py).any fun z => PyData.eqv z (py x)) = decide (x ∈ L)
  | [] => by simp
  | y :: L => by
    rw [List.map_cons, List.any_cons, any_enc x L, Enc.eqv]
    by_cases e : y = x
    · subst e; simp
    · have : ¬ x = y := fun q => e q.symm
      simp [e, this]
theorem flatD_eq {x z : α} (hx : flatD (enc x) = true) (hz : flatD (enc z) = true) : eqFD (enc z) (enc x) = PyData.eqv (py z) (py x) := by
  have ex := pyD_enc x
  have ez := pyD_enc z
  cases qx : enc x <;> rw [qx] at hx ex <;> simp [flatD] at hx <;> cases qz : enc z <;> rw [qz] at hz ez <;> simp [flatD] at hz <;> simp only [pyD, Option.some.injEq] at ex ez <;> rw [← ex, ← ez] <;> simp only [eqFD, PyData.eqv]
theorem inP_any (hd : dep α < 64) (x : α) {y : D} {L : List α} {h : Hd} (neg : Bool) (hy : asS y h = some (L.map enc)) (hp : pyR y h = some (.list (L.map py)) ∨ ∀ a : α, flatD (enc a) = true) : inP neg (enc x) y h = some (.bl (if neg then !decide (x ∈ L) else decide (x ∈ L)), h) := by
  have sl : SeqAt.shaped (.list (L.map py)) = true := shaped_py (α := List α) (by show dep α + 1 ≤ 64; omega) L
  unfold inP
  rw [hy]
  simp only
  split
  · rename_i q
    rw [Bool.and_eq_true, List.all_eq_true] at q
    have : ((L.map enc).any fun z => eqFD z (enc x)) = decide (x ∈ L) := by
      rw [← any_enc, List.any_map, List.any_map]
      have : ∀ (M : List α), (∀ z ∈ M, flatD (enc z) = true) → (M.any ((fun z => eqFD z (enc x)) ∘ enc)) = M.any ((fun z => PyData.eqv z (py x)) ∘ py) := fun M hM => by
        induction M with
        | nil => rfl
        | cons z M ih =>
          rw [List.any_cons, List.any_cons, ih fun z hz => hM z (by simp [hz])]
          congr 1
          exact flatD_eq q.1 (hM z (by simp))
      exact this L fun z hz => q.2 _ (List.mem_map.mpr ⟨z, hz, rfl⟩)
    rw [this]
  · rcases hp with hp | hp
    · rw [hp, pyR_enc]
      simp only [sl, shaped_py (α := α) (by omega) x, Bool.and_self, if_true, any_enc]
    · rename_i q
      refine absurd ?_ q
      rw [hp x, Bool.true_and, List.all_eq_true]
      intro z hz
      obtain ⟨a, _, rfl⟩ := List.mem_map.mp hz
      exact hp a
theorem inP_enc (neg : Bool) (hd : dep α < 64) (x : α) (L : List α) (h : Hd) : inP neg (enc x) (.lv (L.map enc)) h = some (.bl (if neg then !decide (x ∈ L) else decide (x ∈ L)), h) :=
  inP_any hd x neg rfl (.inl (by simp only [pyR, pyD, pyDs_map]))
theorem inP_encT (neg : Bool) (hf : ∀ a : α, flatD (enc a) = true) (hd : dep α < 64) (x : α) (L : List α) (h : Hd) : inP neg (enc x) (.tup (L.map enc)) h = some (.bl (if neg then !decide (x ∈ L) else decide (x ∈ L)), h) :=
  inP_any hd x neg rfl (.inr hf)
theorem inP_encR (neg : Bool) (hd : dep α < 64) (x : α) (L : List α) {n : Nat} {h : Hd} (hn : h[n]? = some (.lst (L.map enc))) : inP neg (enc x) (.ref n) h = some (.bl (if neg then !decide (x ∈ L) else decide (x ∈ L)), h) :=
  inP_any hd x neg (by simp only [asS, asL, hn]) (.inl (by simp only [pyR, hn, pyDs_map, Option.map_some]))
end
/-! ### comprehensions over anything -/
theorem lcM_g {α : Type} {p : Pat} {tt : TF} {te : EF} {s0 : Ev} {h : Hd} (mk : α → D) (st : α → Ev) (g : α → Bool) (f : α → D) : ∀ (L : List α) (acc : List D), acc.length + L.length ≤ sizeLine →
    (∀ x ∈ L, patD p (mk x) s0 = some (st x) ∧ tt (st x) h = .ok (g x) h ∧ (g x = true → te (st x) h = .ok (f x) h)) → lcM p tt te s0 (L.map mk) acc h = some (acc ++ (L.filter g).map f, h)
  | [], acc, _, _ => by simp [lcM]
  | x :: L, acc, hl, hp => by
    obtain ⟨e0, e1, e2⟩ := hp x (by simp)
    have ih := fun acc hl => lcM_g (p := p) (tt := tt) (te := te) (s0 := s0) (h := h) mk st g f L acc hl (fun y hy => hp y (by simp [hy]))
    simp only [List.length_cons] at hl
    simp only [List.map_cons, lcM, e0, e1]
    cases q : g x with
    | false => simp only; rw [ih acc (by omega)]; simp [q]
    | true =>
      simp only [e2 q]
      rw [if_pos (by omega), ih _ (by simp; omega)]
      simp [q]
theorem lc_g {α : Type} {own : List Nat} {i : AF} {p : Pat} {tt : TF} {te : EF} {s : Ev} {h h1 : Hd} {L : List α} (mk : α → D) (st : α → Ev) (g : α → Bool) (f : α → D) (hi : i s h = .ok (L.map mk) h1) (hl : L.length ≤ 100000)
    (hp : ∀ x ∈ L, patD p (mk x) (wipeD s own) = some (st x) ∧ tt (st x) h1 = .ok (g x) h1 ∧ (g x = true → te (st x) h1 = .ok (f x) h1)) : e_lc own i p tt te s h = .ok (.lv ((L.filter g).map f)) h1 := by
  unfold e_lc
  rw [hi, bind_ok, lcM_g mk st g f L [] (by simp; exact sz5 hl) hp]
  simp
theorem lc_to {α : Type} {own : List Nat} {i : AF} {p : Pat} {tt : TF} {te : EF} {s : Ev} {h : Hd} {ys : List D} (L : List α) (mk : α → D) (st : α → Ev) (g : α → Bool) (f : α → D) (hi : i s h = .ok (L.map mk) h) (hl : L.length ≤ 100000)
    (hp : ∀ x ∈ L, patD p (mk x) (wipeD s own) = some (st x) ∧ tt (st x) h = .ok (g x) h ∧ (g x = true → te (st x) h = .ok (f x) h)) (he : (L.filter g).map f = ys) : e_lc own i p tt te s h = .ok (.lv ys) h := by
  rw [← he]; exact lc_g mk st g f hi hl hp
theorem lc_m {α : Type} {own : List Nat} {i : AF} {p : Pat} {te : EF} {s : Ev} {h h1 : Hd} {L : List α} (mk : α → D) (st : α → Ev) (f : α → D) (hi : i s h = .ok (L.map mk) h1) (hl : L.length ≤ 100000)
    (hp : ∀ x ∈ L, patD p (mk x) (wipeD s own) = some (st x) ∧ te (st x) h1 = .ok (f x) h1) : e_lc own i p t_yes te s h = .ok (.lv (L.map f)) h1 := by
  rw [lc_g mk st (fun _ => true) f hi hl (fun x hx => ⟨(hp x hx).1, rfl, fun _ => (hp x hx).2⟩), List.filter_eq_self.mpr (fun _ _ => rfl)]
theorem lc_mto {α : Type} {own : List Nat} {i : AF} {p : Pat} {te : EF} {s : Ev} {h : Hd} {ys : List D} (L : List α) (mk : α → D) (st : α → Ev) (f : α → D) (hi : i s h = .ok (L.map mk) h) (hl : L.length ≤ 100000)
    (hp : ∀ x ∈ L, patD p (mk x) (wipeD s own) = some (st x) ∧ te (st x) h = .ok (f x) h) (he : L.map f = ys) : e_lc own i p t_yes te s h = .ok (.lv ys) h := by
  rw [← he]; exact lc_m mk st f hi hl hp
theorem lcM2_g {α β : Type} {p p1 : Pat} {tt tt1 : TF} {i1 : AF} {own1 : List Nat} {te : EF} {s0 : Ev} {h : Hd} (mk : α → D) (st : α → Ev) (g : α → Bool) (M : α → List β) (mk1 : β → D) (st1 : α → β → Ev) (g1 : α → β → Bool) (f : α → β → D) (B : Nat) : ∀ (L : List α) (acc : List D), acc.length + L.length * B ≤ sizeLine →
    (∀ x ∈ L, (M x).length ≤ B ∧ patD p (mk x) s0 = some (st x) ∧ tt (st x) h = .ok (g x) h ∧ (g x = true → i1 (st x) h = .ok ((M x).map mk1) h ∧ ∀ y ∈ M x, patD p1 (mk1 y) (wipeD (st x) own1) = some (st1 x y) ∧ tt1 (st1 x y) h = .ok (g1 x y) h ∧ (g1 x y = true → te (st1 x y) h = .ok (f x y) h))) →
    lcM2 p tt i1 own1 p1 tt1 te s0 (L.map mk) acc h = some (acc ++ (L.filter g).flatMap fun x => ((M x).filter (g1 x)).map (f x), h)
  | [], acc, _, _ => by simp [lcM2]
  | x :: L, acc, hl, hp => by
    obtain ⟨eB, e0, e1, e2⟩ := hp x (by simp)
    have ih := fun acc hl => lcM2_g (p := p) (p1 := p1) (tt := tt) (tt1 := tt1) (i1 := i1) (own1 := own1) (te := te) (s0 := s0) (h := h) mk st g M mk1 st1 g1 f B L acc hl (fun y hy => hp y (by simp [hy]))
    simp only [List.length_cons, Nat.succ_mul] at hl
    simp only [List.map_cons, lcM2, e0, e1]
    cases q : g x with
    | false => simp only; rw [ih acc (by omega)]; simp [q]
    | true =>
      obtain ⟨e3, e4⟩ := e2 q
      simp only [e3]
      rw [lcM_g mk1 (st1 x) (g1 x) (f x) (M x) acc (by omega) e4]
      simp only
      rw [ih _ (by
        have : ((M x).filter (g1 x)).length ≤ (M x).length := List.length_filter_le _ _
        simp only [List.length_append, List.length_map]; omega)]
      simp [q]
theorem lc2_g {α β : Type} {own own1 : List Nat} {i i1 : AF} {p p1 : Pat} {tt tt1 : TF} {te : EF} {s : Ev} {h h1 : Hd} {L : List α} (mk : α → D) (st : α → Ev) (g : α → Bool) (M : α → List β) (mk1 : β → D) (st1 : α → β → Ev) (g1 : α → β → Bool) (f : α → β → D) (B : Nat) (hi : i s h = .ok (L.map mk) h1) (hl : L.length * B ≤ 100000)
    (hp : ∀ x ∈ L, (M x).length ≤ B ∧ patD p (mk x) (wipeD s own) = some (st x) ∧ tt (st x) h1 = .ok (g x) h1 ∧ (g x = true → i1 (st x) h1 = .ok ((M x).map mk1) h1 ∧ ∀ y ∈ M x, patD p1 (mk1 y) (wipeD (st x) own1) = some (st1 x y) ∧ tt1 (st1 x y) h1 = .ok (g1 x y) h1 ∧ (g1 x y = true → te (st1 x y) h1 = .ok (f x y) h1))) :
    e_lc2 own i p tt i1 own1 p1 tt1 te s h = .ok (.lv ((L.filter g).flatMap fun x => ((M x).filter (g1 x)).map (f x))) h1 := by
  unfold e_lc2
  rw [hi, bind_ok, lcM2_g mk st g M mk1 st1 g1 f B L [] (by simp; exact sz5 hl) hp]
  simp [endL]
theorem enumL_mapK {α : Type} (mk : α → D) (d0 : α) : ∀ (A : List α) (k : Nat), enumL k (A.map mk) = (List.range A.length).map fun p => D.tup [.int ((k + p : Nat) : Int), mk (A.getD p d0)]
  | [], k => rfl
  | x :: xs, k => by
    simp only [List.map_cons, enumL, List.length_cons, List.range_succ_eq_map, List.map_map]
    rw [enumL_mapK mk d0 xs (k + 1)]
    congr 1
    apply List.map_congr_left
    intro p _
    simp only [Function.comp, List.getD_cons_succ]
    rw [show k + 1 + p = k + (p + 1) by omega]
theorem enumL_map {α : Type} (mk : α → D) (d0 : α) (A : List α) : enumL 0 (A.map mk) = (List.range A.length).map fun p => D.tup [.int ((p : Nat) : Int), mk (A.getD p d0)] := by
  rw [enumL_mapK mk d0 A 0]; simp
theorem cut_from {xs : List D} {i : Nat} : cutD xs (some ((i : Nat) : Int)) none = xs.drop i := by
  unfold cutD
  rw [HT.sIx_nat, HT.sIx_none]
  rcases Nat.le_total i xs.length with q | q
  · rw [Nat.min_eq_left q]
    exact List.take_of_length_le (by simp)
  · rw [Nat.min_eq_right q]
    simp [List.drop_of_length_le q]
theorem cut_to {xs : List D} {i : Nat} : cutD xs none (some ((i : Nat) : Int)) = xs.take i := by
  unfold cutD
  rw [HT.sIx_nat, HT.sIx_none]
  simp only [List.drop_zero, Nat.sub_zero]
  rcases Nat.le_total i xs.length with q | q
  · rw [Nat.min_eq_left q]
  · rw [Nat.min_eq_right q, List.take_of_length_le (Nat.le_refl _), List.take_of_length_le q]
end Mini
namespace Mini
open PySem L2
/-! ### sorted: what it gives -/
theorem sortL_uniq {xs ys : List D} (pm : ys.Perm xs) (so : ys.Pairwise fun a b => PySem.W.dataLt (pyOf b) (pyOf a) = false) (anti : ∀ a ∈ xs, ∀ b ∈ xs, PySem.W.dataLt (pyOf b) (pyOf a) = false → PySem.W.dataLt (pyOf a) (pyOf b) = false → a = b) : sortL xs = ys := by
  have p2 : (sortL xs).Pairwise fun a b => PySem.W.dataLt (pyOf b) (pyOf a) = false := by
    have := PySem.W.sort_pairwise (PySem.W.sortLe_total (PyProof.Rows.listOrd PyProof.Rows.itemOrd) false fun b : D => PySem.W.keyToks (pyOf b)) xs
    refine this.imp fun {a b} h => ?_
    have h : (!PySem.W.dataLt (pyOf b) (pyOf a)) = true := h
    simpa using h
  refine List.Perm.eq_of_pairwise (le := fun a b => PySem.W.dataLt (pyOf b) (pyOf a) = false) (fun a b ha hb h1 h2 => ?_) p2 so ((List.mergeSort_perm _ _).trans pm.symm)
  exact anti a ((List.mergeSort_perm _ _).mem_iff.mp ha) b (pm.mem_iff.mp hb) h1 h2
theorem sort_ints (m : Bool) {xs ys : List Int} (pm : ys.Perm xs) (so : ys.Pairwise (· ≤ ·)) {x : D} {h : Hd} (hx : asS x h = some (I xs)) : sortP m [x] h = mkL m (I ys) h := by
  have e : sortL (I xs) = I ys := by
    refine sortL_uniq (pm.map D.int) ?_ fun a ha b hb h1 h2 => ?_
    · rw [I, List.pairwise_map]
      refine so.imp fun {a b} q => ?_
      show PySem.W.dataLt (.int b) (.int a) = false
      rw [PySem.W.dataLt_int]
      exact decide_eq_false (by omega)
    · obtain ⟨x, _, rfl⟩ := mem_I.mp ha
      obtain ⟨y, _, rfl⟩ := mem_I.mp hb
      have h1 : PySem.W.dataLt (.int y) (.int x) = false := h1
      have h2 : PySem.W.dataLt (.int x) (.int y) = false := h2
      rw [PySem.W.dataLt_int] at h1 h2
      have h1 := of_decide_eq_false h1
      have h2 := of_decide_eq_false h2
      have : x = y := by omega
      rw [this]
  have c1 : alikeB (xs.map PyData.int) = true := by
    unfold alikeB
    simp only [List.all_map, List.all_eq_true, Function.comp]
    intro a _ b _
    simp [PySem.W.alike]
  have c2 : sortableB (xs.map PyData.int) = true := by
    unfold sortableB
    rw [Bool.or_eq_true]
    right
    simp only [List.all_map, List.all_eq_true, Function.comp]
    intro a _
    rfl
  have c3 : (xs.map PyData.int).all (fun p => decide (p.depth ≤ 60)) = true := by
    simp only [List.all_map, List.all_eq_true, Function.comp]
    intro a _
    simp [PyData.depth]
  simp only [sortP, hx, pyDs_I, c1, c2, c3, Bool.and_self, if_true, e]
theorem dataLt_tups (a b : List Int) : PySem.W.dataLt (.tuple (a.map PyData.int)) (.tuple (b.map PyData.int)) = decide (a < b) := by
  rw [PySem.W.dataLt_tuple]
  exact PySem.W.dataLt_ints a b
theorem pyOf_tup (a : List Int) : pyOf (.tup (I a)) = .tuple (a.map PyData.int) := by simp only [pyOf, pyD, pyDs_I, Option.getD_some]
theorem sort_tups (m : Bool) {L M : List (List Int)} (pm : M.Perm L) (so : M.Pairwise fun a b => ¬ b < a) (ne : ∀ a ∈ L, a ≠ []) {x : D} {h : Hd} (hx : asS x h = some (T2 L)) : sortP m [x] h = mkL m (T2 M) h := by
  have e : sortL (T2 L) = T2 M := by
    refine sortL_uniq (pm.map fun xs => D.tup (I xs)) ?_ fun a ha b hb h1 h2 => ?_
    · rw [T2, List.pairwise_map]
      refine so.imp fun {a b} q => ?_
      rw [pyOf_tup, pyOf_tup, dataLt_tups]
      exact decide_eq_false q
    · obtain ⟨x, _, rfl⟩ := List.mem_map.mp ha
      obtain ⟨y, _, rfl⟩ := List.mem_map.mp hb
      rw [pyOf_tup, pyOf_tup, dataLt_tups] at h1 h2
      have h1 := of_decide_eq_false h1
      have h2 := of_decide_eq_false h2
      have : x = y := List.le_antisymm (List.not_lt.mp h1) (List.not_lt.mp h2)
      rw [this]
  have c1 : alikeB (L.map fun xs => PyData.tuple (xs.map PyData.int)) = true := by
    unfold alikeB
    simp only [List.all_map, List.all_eq_true, Function.comp]
    intro a _ b _
    simp only [PySem.W.alike]
    exact PySem.W.alike_ints a b
  have c2 : sortableB (L.map fun xs => PyData.tuple (xs.map PyData.int)) = true := by
    unfold sortableB
    rw [Bool.or_eq_true]
    left
    simp only [List.all_map, List.all_eq_true, Function.comp]
    intro a ha
    have := ne a ha
    cases a with
    | nil => exact absurd rfl this
    | cons x r => rfl
  have c3 : (L.map fun xs => PyData.tuple (xs.map PyData.int)).all (fun p => decide (p.depth ≤ 60)) = true := by
    simp only [List.all_map, List.all_eq_true, Function.comp]
    intro a _
    rw [decide_eq_true_eq]
    simp only [PyData.depth, depth_I]
    omega
  simp only [sortP, hx, pyDs_T2, c1, c2, c3, Bool.and_self, if_true, e]
end Mini
namespace Mini
open PySem L2
/-! ### arrangements: arms, cross -/
def ar (l : Bool) (A : List Nat) : D := if l then .lv (NI A) else .tup (NI A)
abbrev PR2 (p : Nat × Nat) : D := .tup [.int ((p.1 : Nat) : Int), .int ((p.2 : Nat) : Int)]
theorem PS_map (L : List (Nat × Nat)) : PS L = L.map PR2 := rfl
theorem asS_ar (l : Bool) (A : List Nat) (h : Hd) : asS (ar l A) h = some (NI A) := by cases l <;> rfl
theorem asV_ar (l : Bool) (A : List Nat) : asV (ar l A) = some (l, NI A) := by cases l <;> rfl
theorem lenP_ar (l : Bool) (A : List Nat) (h : Hd) : lenP [ar l A] h = some (.int (A.length : Nat), h) := by cases l <;> simp [ar, lenP, asS, asL]
theorem listP_ar (m : Bool) (l : Bool) (A : List Nat) (h : Hd) : listP m [ar l A] h = mkL m (NI A) h := by cases l <;> simp [ar, listP, asS, asL]
theorem tupleP_ar (l : Bool) (A : List Nat) (h : Hd) : tupleP [ar l A] h = some (ar false A, h) := by cases l <;> simp [ar, tupleP, asL]
theorem NI_get (A : List Nat) {i : Nat} (hi : i < A.length) : (NI A)[i]? = some (.int ((fn A i : Nat) : Int)) := by simp [NI, fn, List.getD_eq_getElem?_getD, hi]
theorem ixP_ar {l : Bool} {A : List Nat} {i : Nat} (h : Hd) (hi : i < A.length) : ixP (ar l A) (.int (i : Nat)) h = some (.int ((fn A i : Nat) : Int), h) := by
  have := atI_nat (NI_get A hi)
  cases l <;> simp [ar, ixP, asS, asL, this]
theorem seq_ar {f : EF} {s : Ev} {h h1 : Hd} {l : Bool} {A : List Nat} (e : f s h = .ok (ar l A) h1) : i_seq f s h = .ok (NI A) h1 := by cases l <;> simp [i_seq, e, ar]
theorem ltP_nat (i j : Nat) (h : Hd) : ltP (.int (i : Nat)) (.int (j : Nat)) h = some (.bl (decide (i < j)), h) := by
  rw [ltP_int]; congr 3; rw [decide_eq_decide]; omega
theorem gtP_nat (i j : Nat) (h : Hd) : gtP (.int (i : Nat)) (.int (j : Nat)) h = some (.bl (decide (j < i)), h) := by
  rw [gtP_int]; congr 3; rw [decide_eq_decide]; omega
theorem geP_nat (i j : Nat) (h : Hd) : geP (.int (i : Nat)) (.int (j : Nat)) h = some (.bl (decide (j ≤ i)), h) := by
  rw [geP_int]; congr 3; rw [decide_eq_decide]; omega
theorem leP_nat (i j : Nat) (h : Hd) : leP (.int (i : Nat)) (.int (j : Nat)) h = some (.bl (decide (i ≤ j)), h) := by
  rw [leP_int]; congr 3; rw [decide_eq_decide]; omega
theorem eqP_nat (neg : Bool) (i j : Nat) (h : Hd) : eqP neg (.int (i : Nat)) (.int (j : Nat)) h = some (.bl (if neg then !decide (i = j) else decide (i = j)), h) := eqP_enc (α := Nat) neg (by decide) i j h
theorem enum_ar {a : AF} {s : Ev} {h h1 : Hd} {l : Bool} {A : List Nat} (e : a s h = .ok [ar l A] h1) : i_enum a s h = .ok ((List.range A.length).map fun p => D.tup [.int ((p : Nat) : Int), .int ((fn A p : Nat) : Int)]) h1 := by
  rw [enum_ok e (asV_ar l A)]
  congr 1
  exact enumL_map (fun x : Nat => D.int ((x : Nat) : Int)) 0 A
theorem filter_len {α : Type} (p : α → Bool) (L : List α) {n : Nat} (h : L.length ≤ n) : (L.filter p).length ≤ n := Nat.le_trans (List.length_filter_le _ _) h
theorem arms_ok (l : Bool) (A : List Nat) (hA : A.length ≤ 1000) (h : Hd) : m_arms [ar l A] h = .ok (.lv (PS (armsL A))) h := by
  refine fn_rt' [some (ar l A), none, none] ?_ (by simp only [noRef]; exact noRefs_map (α := Nat × Nat) _)
  refine ret_ok ?_
  refine (lc_g (L := List.range A.length) (fun p => D.tup [.int ((p : Nat) : Int), .int ((fn A p : Nat) : Int)]) (fun p => [some (ar l A), some (.int ((fn A p : Nat) : Int)), some (.int ((p : Nat) : Int))]) (fun p => decide (p < fn A p)) (fun p => PR2 (p, fn A p)) (enum_ar (acons_ok var_ok anil_ok)) (by simp; omega)
    (fun p _ => ⟨rfl, b_ok (op_ok var_ok var_ok (ltP_nat _ _ _)), fun _ => tup_ok (acons_ok var_ok (acons_ok var_ok anil_ok)) two_sz⟩)).trans ?_
  simp [armsL, PS, List.map_map, Function.comp_def]
theorem min_two (a b : Int) (h : Hd) : minP [.tup [.int a, .int b]] h = some (.int (min a b), h) := by simp [minP, asS, intsOf]
theorem max_two (a b : Int) (h : Hd) : maxP [.tup [.int a, .int b]] h = some (.int (max a b), h) := by simp [maxP, asS, intsOf]
theorem cross_ok (p q : Nat × Nat) (h : Hd) : m_cross [PR2 p, PR2 q] h = .ok (.bl (crs p q)) h := by
  refine fn_rt' [some (PR2 p), some (PR2 q), none] ?_ rfl
  refine ret_ok ?_
  have lc := lc_g (own := [2]) (p := .nm 2) (tt := t_b (e_chain ltP ltP (e_call minP (a_cons (e_var 0) a_nil)) (e_var 2) (e_call maxP (a_cons (e_var 0) a_nil)))) (te := e_var 2) (i := i_seq (e_var 1)) (s := [some (PR2 p), some (PR2 q), none]) (h := h) (h1 := h) (L := [q.1, q.2])
    (fun x => D.int ((x : Nat) : Int)) (fun x => [some (PR2 p), some (PR2 q), some (D.int ((x : Nat) : Int))]) (fun x => sd p.1 p.2 x) (fun x => D.int ((x : Nat) : Int)) (seq_tup var_ok) (by simp) (fun x _ => ⟨rfl, b_ok (by
      have := chain_ok (g := ltP) (g' := ltP) (s := [some (PR2 p), some (PR2 q), some (D.int ((x : Nat) : Int))]) (h := h) (call_ok (a1_ok (var_ok (i := 0))) (min_two (p.1 : Int) p.2 h)) (var_ok (i := 2)) (call_ok (a1_ok (var_ok (i := 0))) (max_two (p.1 : Int) p.2 h)) (ltP_int _ _ _) (ltP_int _ _ _)
      rw [this]
      congr 2
      rw [← Bool.decide_and]
      unfold sd
      rw [decide_eq_decide]
      omega), fun _ => var_ok⟩)
  refine op_ok (call_ok (a1_ok lc) (by simp only [lenP, asS, asL]; rfl)) c_ok ?_
  rw [eqP_int]
  simp only [Bool.false_eq_true, if_false]
  congr 2
  simp only [crs]
  cases e1 : sd p.1 p.2 q.1 <;> cases e2 : sd p.1 p.2 q.2 <;> simp [List.filter_cons, e1, e2]
end Mini
namespace Mini
open PySem L2
theorem three_sz : (3 : Nat) ≤ sizeLine := by decide
theorem eqP_pairs (neg : Bool) (L M : List (Nat × Nat)) (h : Hd) : eqP neg (.lv (PS L)) (.lv (PS M)) h = some (.bl (if neg then !decide (L = M) else decide (L = M)), h) := eqP_enc (α := List (Nat × Nat)) neg (by decide) L M h
theorem inP_pairs (neg : Bool) (p : Nat × Nat) (L : List (Nat × Nat)) (h : Hd) : inP neg (PR2 p) (.lv (PS L)) h = some (.bl (if neg then !decide (p ∈ L) else decide (p ∈ L)), h) := by
  have := inP_enc (α := Nat × Nat) neg (by decide) p L h
  by_cases q : p ∈ L
  · simp only [q, decide_true] at this ⊢; exact this
  · simp only [q, decide_false] at this ⊢; exact this
theorem eqP_nats (neg : Bool) (L M : List Nat) (h : Hd) : eqP neg (.lv (NI L)) (.lv (NI M)) h = some (.bl (if neg then !decide (L = M) else decide (L = M)), h) := eqP_enc (α := List Nat) neg (by decide) L M h
theorem max3 (a b c : Nat) (h : Hd) : maxP [.lv [.int (a : Nat), .int (b : Nat), .int (c : Nat)]] h = some (.int ((max (max a b) c : Nat) : Int), h) := by
  simp only [maxP, asS, asL, Option.bind_some, intsOf, Option.map_some, List.foldl]
  congr 3
  omega
theorem sum3 (a b c : Nat) (h : Hd) : sumP [.lv [.int (a : Nat), .int (b : Nat), .int (c : Nat)]] h = some (.int ((a + b + c : Nat) : Int), h) := by
  simp only [sumP, asL, Option.bind_some, intsOf, Option.map_some, List.sum_cons, List.sum_nil]
  congr 3
  omega
theorem eqP_iff (h : Hd) {p q : Prop} [Decidable p] [Decidable q] (e : p ↔ q) : eqP true (.bl (decide p)) (.bl (decide q)) h = some (.bl false, h) := by
  have : decide p = decide q := decide_eq_decide.mpr e
  rw [eqP_bl, this]; simp
theorem for_all' {p : Pat} {b : SF} {α : Type} {h : Hd} (mk : α → D) (Inv : Ev → Prop) : ∀ (L : List α) (s : Ev), Inv s → (∀ x ∈ L, ∀ s, Inv s → ∃ s1 s2, patD p (mk x) s = some s1 ∧ b s1 h = .ok (.nx s2) h ∧ Inv s2) → ∃ s', Inv s' ∧ forM p b (L.map mk) s h = .ok (.nx s') h
  | [], s, i, _ => ⟨s, i, rfl⟩
  | x :: L, s, i, hp => by
    obtain ⟨s1, s2, e1, e2, i2⟩ := hp x (by simp) s i
    obtain ⟨s', i', e⟩ := for_all' mk Inv L s2 i2 fun y hy => hp y (by simp [hy])
    exact ⟨s', i', by simp only [List.map_cons, forM, e1, e2]; exact e⟩
theorem eqP_ar (neg : Bool) (A B : List Nat) (h : Hd) : eqP neg (ar false A) (ar false B) h = some (.bl (if neg then !decide (A = B) else decide (A = B)), h) := by
  have := eqP_enc (α := Tp Nat) neg (by decide) ⟨A⟩ ⟨B⟩ h
  simp only [Tp.mk.injEq] at this
  exact this
end Mini
namespace Mini
open PySem L2
theorem pairs_ok (l : Bool) (A : List Nat) (hA : A.length ≤ 1000) (h : Hd) : m_law_pairs [ar l A] h = .ok (.lv (PS (armsL A))) h := by
  refine fn_rt' [some (ar l A), none, none] ?_ (by simp only [noRef]; exact noRefs_map (α := Nat × Nat) _)
  refine ret_ok ?_
  refine (lc_g (L := List.range A.length) (fun p => D.tup [.int ((p : Nat) : Int), .int ((fn A p : Nat) : Int)]) (fun p => [some (ar l A), some (.int ((p : Nat) : Int)), some (.int ((fn A p : Nat) : Int))]) (fun p => decide (p < fn A p)) (fun p => PR2 (p, fn A p)) (enum_ar (acons_ok var_ok anil_ok)) (by simp; omega)
    (fun p _ => ⟨rfl, b_ok (op_ok var_ok var_ok (ltP_nat _ _ _)), fun _ => tup_ok (acons_ok var_ok (acons_ok var_ok anil_ok)) two_sz⟩)).trans ?_
  simp [armsL, PS, List.map_map, Function.comp_def]
end Mini
namespace Mini
open PySem L2
/-! ### exchanges -/
theorem sorted_I (m : Bool) {xs ys : List Int} (p : ys.Perm xs) (s : ys.Pairwise (· ≤ ·)) (h : Hd) : sortP m [.lv (I xs)] h = mkL m (I ys) h := sort_ints m p s rfl
theorem for_cons {p : Pat} {b : SF} {d : D} {r : List D} {s s1 s2 : Ev} {h h2 : Hd} {R : Res Fl} (e0 : patD p d s = some s1) (e1 : b s1 h = .ok (.nx s2) h2) (e2 : forM p b r s2 h2 = R) : forM p b (d :: r) s h = R := by
  simp only [forM, e0, e1]; exact e2
theorem for_nil {p : Pat} {b : SF} {s : Ev} {h : Hd} : forM p b [] s h = .ok (.nx s) h := rfl
theorem pat4 (i j k l : Nat) (a b c d : D) (s : Ev) : patD (.tp [.nm i, .nm j, .nm k, .nm l]) (.tup [a, b, c, d]) s = some ((((s.set i (some a)).set j (some b)).set k (some c)).set l (some d)) := by simp [patD, patDs, patN]
/-- an arrangement of at most a hundred -/
structure Am (n : Nat) (A : List Nat) : Prop extends Arr n A where
  few : n ≤ 100
theorem Am.at {n : Nat} {A : List Nat} (x : Am n A) {l : Bool} {i : Nat} (hi : i < n) (h : Hd) : ixP (ar l A) (.int (i : Nat)) h = some (.int ((fn A i : Nat) : Int), h) := ixP_ar h (by rw [x.len]; exact hi)
theorem Am.al {n : Nat} {A : List Nat} (x : Am n A) : A.length ≤ 1000 := by rw [x.len]; have := x.few; omega
theorem pat_two (i j : Nat) (a b : D) (s : Ev) : patD (.tp [.nm i, .nm j]) (.tup [a, b]) s = some ((s.set i (some a)).set j (some b)) := patD_two i j a b s
theorem pat4L (i j k l : Nat) (a b c d : D) (s : Ev) : patD (.tp [.nm i, .nm j, .nm k, .nm l]) (.lv [a, b, c, d]) s = some ((((s.set i (some a)).set j (some b)).set k (some c)).set l (some d)) := by simp [patD, patDs, patN]
theorem four_sz : (4 : Nat) ≤ sizeLine := by decide
theorem new_arms_ok {n : Nat} {A : List Nat} (x : Am n A) (l : Bool) {a b : Nat} (L : Le2 n A a b) (h : Hd) : m_new_arms [ar l A, PR2 (a, b)] h = .ok (.lv (PS (madeL A a b))) h := by
  have N := x.toArr.Nc
  have ab := L.ab
  have hb := L.hb
  have la := L.la
  have lb := L.lb
  have ha : a < n := by omega
  have nab : fn A a ≠ b := fun e => by have := N.toMt.flip ha e; omega
  have hfb := N.lt b hb
  have hfa := N.lt a ha
  have nc := N.nc a b ha hb (by omega) nab.symm
  rw [sd_eq] at nc
  refine fn_rt' [some (ar l A), some (PR2 (a, b)), none, none, none, none, none, none] ?_ (by simp only [noRef]; exact noRefs_map (α := Nat × Nat) _)
  by_cases q : fn A a < b
  · have so : sortP false [.lv [.int (a : Nat), .int (b : Nat), .int (fn A a : Nat), .int (fn A b : Nat)]] h = some (.lv [.int (a : Nat), .int (fn A a : Nat), .int (b : Nat), .int (fn A b : Nat)], h) :=
      sorted_I false (xs := [(a : Int), b, fn A a, fn A b]) (ys := [(a : Int), fn A a, b, fn A b]) (.cons _ (.swap _ _ _)) (by simp; omega) h
    refine seq_then (asg_ok var_ok (pat_two 2 3 _ _ _)) (seq_then (asg_ok (call_ok (a1_ok (lst_ok (acons_ok var_ok (acons_ok var_ok (acons_ok (op_ok var_ok var_ok (x.at ha h)) (acons_ok (op_ok var_ok var_ok (x.at hb h)) anil_ok)))) four_sz)) so) (pat4L 4 5 6 7 _ _ _ _ _)) ?_)
    have em : PS (madeL A a b) = [.tup [.int (a : Nat), .int (fn A b : Nat)], .tup [.int (fn A a : Nat), .int (b : Nat)]] := by simp [madeL, q, PS]
    have eq : eqP false (.int (fn A a : Nat)) (.int (fn A a : Nat)) h = some (.bl true, h) := by rw [eqP_nat]; simp
    rw [em]
    exact seq_rt ((if_t (b_ok (op_ok (op_ok var_ok var_ok (x.at ha h)) var_ok eq))).trans (ret_ok (lst_ok (acons_ok (tup_ok (acons_ok var_ok (acons_ok var_ok anil_ok)) two_sz) (acons_ok (tup_ok (acons_ok var_ok (acons_ok var_ok anil_ok)) two_sz) anil_ok)) two_sz)))
  · have so : sortP false [.lv [.int (a : Nat), .int (b : Nat), .int (fn A a : Nat), .int (fn A b : Nat)]] h = some (.lv [.int (a : Nat), .int (b : Nat), .int (fn A b : Nat), .int (fn A a : Nat)], h) :=
      sorted_I false (xs := [(a : Int), b, fn A a, fn A b]) (ys := [(a : Int), b, fn A b, fn A a]) (.cons _ (.cons _ (.swap _ _ _))) (by simp; omega) h
    refine seq_then (asg_ok var_ok (pat_two 2 3 _ _ _)) (seq_then (asg_ok (call_ok (a1_ok (lst_ok (acons_ok var_ok (acons_ok var_ok (acons_ok (op_ok var_ok var_ok (x.at ha h)) (acons_ok (op_ok var_ok var_ok (x.at hb h)) anil_ok)))) four_sz)) so) (pat4L 4 5 6 7 _ _ _ _ _)) ?_)
    have em : PS (madeL A a b) = [.tup [.int (a : Nat), .int (b : Nat)], .tup [.int (fn A b : Nat), .int (fn A a : Nat)]] := by simp [madeL, q, PS]
    have eq : eqP false (.int (fn A a : Nat)) (.int (b : Nat)) h = some (.bl false, h) := by rw [eqP_nat]; simp [nab]
    rw [em]
    exact seq_then (if_no (b_ok (op_ok (op_ok var_ok var_ok (x.at ha h)) var_ok eq))) (ret_ok (lst_ok (acons_ok (tup_ok (acons_ok var_ok (acons_ok var_ok anil_ok)) two_sz) (acons_ok (tup_ok (acons_ok var_ok (acons_ok var_ok anil_ok)) two_sz) anil_ok)) two_sz))
theorem filt {α : Type} (L : List α) : L.filter (fun _ => true) = L := List.filter_eq_self.mpr (fun _ _ => rfl)
theorem any_B (xs : List Bool) (h : Hd) : anyP [.lv (xs.map D.bl)] h = some (.bl (xs.any id), h) := by simp only [anyP, asL, Option.bind_some, blsOf_B]
theorem all_B (xs : List Bool) (h : Hd) : allP [.lv (xs.map D.bl)] h = some (.bl (xs.all id), h) := by simp only [allP, asL, Option.bind_some, blsOf_B]
theorem armsL_len (A : List Nat) : (armsL A).length ≤ A.length := by unfold armsL; rw [List.length_map]; exact Nat.le_trans (List.length_filter_le _ _) (by simp)
theorem is_possible_ok {n : Nat} {A : List Nat} (x : Am n A) (l : Bool) {a b : Nat} (L : Le2 n A a b) (h : Hd) : m_is_possible [ar l A, PR2 (a, b)] h = .ok (.bl (posB A a b)) h := by
  refine fn_rt' [some (ar l A), some (PR2 (a, b)), none, none, none, none] ?_ rfl
  have hlen := armsL_len A
  have hal := x.al
  have lr : (restL A a b).length ≤ 1000 := Nat.le_trans (List.length_filter_le _ _) (by omega)
  have lm : (madeL A a b).length = 2 := by unfold madeL; split <;> rfl
  refine seq_then (set_ok (own_ok (acons_ok var_ok (acons_ok var_ok anil_ok)) (new_arms_ok x l L h))) (seq_then (set_ok (lc_g (L := armsL A) PR2 (fun r => [some (ar l A), some (PR2 (a, b)), some (.lv (PS (madeL A a b))), none, some (PR2 r), none]) (fun r => !decide (r.1 ∈ [a, b])) PR2 (seq_lv (own_ok (a1_ok var_ok) (arms_ok l A hal h))) (by omega) fun r _ =>
    ⟨rfl, b_ok (op_ok (op_ok var_ok c_ok (show ixP (PR2 r) (.int 0) h = some (.int (r.1 : Nat), h) from rfl)) var_ok ((inP_encT (α := Nat) true (fun _ => rfl) (by decide) r.1 [a, b] h).trans (by simp only [if_true]))), fun _ => var_ok⟩)) (ret_ok ((enot_ok (c := ((madeL A a b).flatMap fun r => (restL A a b).map fun q => crs r q).any id) (call_ok (a1_ok (lc2_g (L := madeL A a b) PR2 (fun r => [some (ar l A), some (PR2 (a, b)), some (.lv (PS (madeL A a b))), some (.lv (PS (restL A a b))), some (PR2 r), none]) (fun _ => true) (fun _ => restL A a b) PR2
      (fun r q => [some (ar l A), some (PR2 (a, b)), some (.lv (PS (madeL A a b))), some (.lv (PS (restL A a b))), some (PR2 r), some (PR2 q)]) (fun _ _ => true) (fun r q => D.bl (crs r q)) 1000 (seq_lv var_ok) (by omega) fun r _ => ⟨lr, rfl, rfl, fun _ => ⟨seq_lv var_ok, fun q _ => ⟨rfl, rfl, fun _ => own_ok (acons_ok var_ok (acons_ok var_ok anil_ok)) (cross_ok r q h)⟩⟩⟩)) ?_)))))
  rw [← any_B]
  congr 3
  simp only [filt, List.map_flatMap, List.map_map]
  rfl
/-- exchanges -/
theorem exchanges_ok {n : Nat} {A : List Nat} (x : Am n A) (l : Bool) (h : Hd) : m_exchanges [ar l A] h = .ok (.lv (PS (exL A))) h := by
  have hal := x.al
  have hn := x.len
  have hlen := armsL_len A
  have ll : (lessL A).length ≤ 1000 := Nat.le_trans (List.length_filter_le _ _) (by simp; omega)
  have e0 : s_par 1 2 (a_cons (e_lst true a_nil) (a_cons (e_lc [5] (i_seq (e_own m_arms (a_cons (e_var 0) a_nil))) (.nm 5) t_yes (e_op ixP (e_var 5) (e_c (D.int 0)))) a_nil)) [some (ar l A), none, none, none, none, none, none] h = .ok (.nx [some (ar l A), some (.ref h.length), some (.lv (NI (lessL A))), none, none, none, none]) (h ++ [.lst []]) := by
    refine (par_ok (acons_ok (lstM_ok anil_ok (Nat.zero_le _)) (acons_ok (lc_m (L := armsL A) PR2 (fun r => [some (ar l A), none, none, none, none, some (PR2 r), none]) (fun r => .int (r.1 : Nat)) (seq_lv (own_ok (a1_ok var_ok) (arms_ok l A hal _))) (by omega) fun r _ => ⟨rfl, op_ok var_ok c_ok rfl⟩) anil_ok))).trans ?_
    simp [armsL, lessL, NI, List.map_map, Function.comp_def]
  have pre (i : Nat) : ((List.range i).flatMap (exRow A)).length ≤ i * 1000 := by
    induction i with
    | zero => simp
    | succ i ih =>
      rw [List.range_succ, List.flatMap_append, List.length_append]
      have : (exRow A i).length ≤ 1000 := by
        unfold exRow
        rw [List.length_map]
        exact Nat.le_trans (List.length_filter_le _ _) (by rw [List.length_drop]; omega)
      simp only [List.flatMap_cons, List.flatMap_nil, List.append_nil]
      omega
  have loop : ∃ v3 v4, forM (.tp [(.nm 3), (.nm 4)]) x_exchanges_f0 (enumL 0 (NI (lessL A))) [some (ar l A), some (.ref h.length), some (.lv (NI (lessL A))), none, none, none, none] (h ++ [.lst []]) = .ok (.nx [some (ar l A), some (.ref h.length), some (.lv (NI (lessL A))), v3, v4, none, none]) (h ++ [.lst (PS (exL A))]) := by
    refine for_wp (Q := fun r => ∃ v3 v4, r = .ok (.nx [some (ar l A), some (.ref h.length), some (.lv (NI (lessL A))), v3, v4, none, none]) (h ++ [.lst (PS (exL A))])) (fun i s H => H = h ++ [.lst (PS ((List.range i).flatMap (exRow A)))] ∧ ∃ v3 v4, s = [some (ar l A), some (.ref h.length), some (.lv (NI (lessL A))), v3, v4, none, none]) _ _ _ ⟨rfl, none, none, rfl⟩ ?_ ?_
    · rintro i d s H hd ⟨rfl, v3, v4, rfl⟩
      rw [show NI (lessL A) = (lessL A).map (fun x : Nat => D.int ((x : Nat) : Int)) from rfl, enumL_map _ 0] at hd
      rw [List.getElem?_map] at hd
      have hi : i < (lessL A).length := by
        rcases Nat.lt_or_ge i (lessL A).length with q | q
        · exact q
        · rw [List.getElem?_eq_none (by simpa using q)] at hd; cases hd
      rw [List.getElem?_range hi] at hd
      simp only [Option.map_some, Option.some.injEq] at hd
      subst hd
      generalize ha : (lessL A).getD i 0 = a
      have ma : a ∈ lessL A := by
        rw [← ha, List.getD_eq_getElem?_getD, List.getElem?_eq_getElem hi]; exact List.getElem_mem _
      have mb := mem_lessL.mp ma
      have lc : e_lc [6] (i_seq (e_slice false (e_var 2) (o_some (e_op (addP false) (e_var 3) (e_c (D.int 1)))) o_none)) (.nm 6) (t_tru (e_own m_is_possible (a_cons (e_var 0) (a_cons (e_tup (a_cons (e_var 4) (a_cons (e_var 6) a_nil))) a_nil)))) (e_tup (a_cons (e_var 4) (a_cons (e_var 6) a_nil)))
          [some (ar l A), some (.ref h.length), some (.lv (NI (lessL A))), some (.int (i : Nat)), some (.int (a : Nat)), none, none] (h ++ [.lst (PS ((List.range i).flatMap (exRow A)))]) = .ok (.lv (PS (exRow A i))) (h ++ [.lst (PS ((List.range i).flatMap (exRow A)))]) := by
        refine lc_to ((lessL A).drop (i + 1)) (fun b : Nat => D.int ((b : Nat) : Int)) (fun b => [some (ar l A), some (.ref h.length), some (.lv (NI (lessL A))), some (.int (i : Nat)), some (.int (a : Nat)), none, some (.int (b : Nat))]) (fun b => posB A a b) (fun b => PR2 (a, b)) ?_ (by rw [List.length_drop]; omega) (fun b hb => ?_) ?_
        · refine seq_lv (slice_ok var_ok (osome_ok (op_ok var_ok c_ok (addP_int _ _ _ _))) onone_ok ?_)
          simp only [slP, asL, mkL, Bool.false_eq_true, if_false]
          rw [show ((i : Nat) : Int) + 1 = ((i + 1 : Nat) : Int) by omega, cut_from, NI, ← List.map_drop]
        · have q := (mem_drop (lessL_lt A) hi).mp hb
          rw [ha] at q
          have qb := mem_lessL.mp q.1
          exact ⟨rfl, tru_ok (own_ok (acons_ok var_ok (acons_ok (tup_ok (acons_ok var_ok (acons_ok var_ok anil_ok)) two_sz) anil_ok)) (is_possible_ok x l ⟨q.2, by omega, mb.2, qb.2⟩ _)), fun _ => tup_ok (acons_ok var_ok (acons_ok var_ok anil_ok)) two_sz⟩
        · simp only [exRow, PS, ha, List.map_map, Function.comp_def]
      have pp := pre i
      have pp' := pre (i + 1)
      rw [List.range_succ, List.flatMap_append, List.length_append] at pp'
      simp only [List.flatMap_cons, List.flatMap_nil, List.append_nil] at pp'
      have e : extP (.ref h.length) [.lv (PS (exRow A i))] (h ++ [.lst (PS ((List.range i).flatMap (exRow A)))]) = some (.non, h ++ [.lst (PS ((List.range (i + 1)).flatMap (exRow A)))]) := by
        have c : (PS ((List.range i).flatMap (exRow A))).length + (PS (exRow A i)).length ≤ sizeLine := Nat.le_trans (show _ ≤ 1001000 by rw [PS_len, PS_len]; omega) (by decide)
        simp only [extP, last_get, asV, notFl, Bool.true_and, noRefs_map (α := Nat × Nat) (exRow A i) |> fun q => show noRefs (PS (exRow A i)) = true from q, decide_eq_true c, Bool.and_self, if_true, set_last]
        rw [List.range_succ, List.flatMap_append]
        simp [PS]
      refine ⟨[some (ar l A), some (.ref h.length), some (.lv (NI (lessL A))), some (.int (i : Nat)), some (.int (a : Nat)), none, none], patD_two 3 4 _ _ _, .inl ⟨_, _, expr_ok (lm_ok var_ok (by simp [lstTy, asL]) (a1_ok lc) e), rfl, _, _, rfl⟩⟩
    · rintro s H ⟨rfl, v3, v4, rfl⟩
      refine ⟨v3, v4, ?_⟩
      rw [show (enumL 0 (NI (lessL A))).length = (lessL A).length by rw [enumL_length, NI_len]]
      rfl
  obtain ⟨v3, v4, e1⟩ := loop
  refine fn_l (j := 0) [some (ar l A), none, none, none, none, none, none] (seq_then e0 (seq_then ((for_ok (enum_ok (a1_ok var_ok) rfl)).trans e1) (ret_ok var_ok))) rfl (noRefs_map (α := Nat × Nat) _)
theorem exL_len {n : Nat} {A : List Nat} (x : Am n A) : (exL A).length ≤ 10000 := by
  have ll : (lessL A).length ≤ 100 := Nat.le_trans (List.length_filter_le _ _) (by simp; rw [x.len]; exact x.few)
  have pre : ∀ i, ((List.range i).flatMap (exRow A)).length ≤ i * 100 := fun i => by
    induction i with
    | zero => simp
    | succ i ih =>
      rw [List.range_succ, List.flatMap_append, List.length_append]
      have : (exRow A i).length ≤ 100 := by
        unfold exRow
        rw [List.length_map]
        exact Nat.le_trans (List.length_filter_le _ _) (by rw [List.length_drop]; omega)
      simp only [List.flatMap_cons, List.flatMap_nil, List.append_nil]
      omega
  have := pre (lessL A).length
  unfold exL
  omega
theorem getD_set_ne (A : List Nat) (i v j : Nat) (h : i ≠ j) : (A.set i v).getD j 0 = A.getD j 0 := by simp [List.getD_eq_getElem?_getD, List.getElem?_set_ne h]
theorem fn_set (A : List Nat) (i v j : Nat) (hi : i < A.length) : fn (A.set i v) j = if j = i then v else fn A j := fn_set' A i v j hi
theorem setP_N {H : Hd} {q : Nat} {A : List Nat} {i v : Nat} (e : H[q]? = some (.lst (NI A))) (hi : i < A.length) : setP (.ref q) (.int (i : Nat)) (.int (v : Nat)) H = some (H.set q (.lst (NI (A.set i v)))) := by
  simp only [setP, e]
  rw [ixN_nat (by simpa using hi)]
  simp [noRef, NI, List.map_set]
/-- found[one], found[other] = other, one -/
theorem put_two {s : Ev} {h : Hd} {A : List Nat} {q i j x y u v : Nat} (es : s[q]? = some (some (.ref h.length))) (ei : s[i]? = some (some (.int (x : Nat)))) (ej : s[j]? = some (some (.int (y : Nat)))) (eu : s[u]? = some (some (.int (y : Nat)))) (ev : s[v]? = some (some (.int (x : Nat)))) (hx : x < A.length) (hy : y < A.length) :
    s_asgT (g_tup 2 (g_cons (g_sub setP (e_var q) (e_var i)) (g_cons (g_sub setP (e_var q) (e_var j)) g_nil))) (e_tup (a_cons (e_var u) (a_cons (e_var v) a_nil))) s (h ++ [.lst (NI A)]) = .ok (.nx s) (h ++ [.lst (NI ((A.set x y).set y x))]) := by
  refine asgT_ok (tup_ok (acons_ok (var_ok eu) (acons_ok (var_ok ev) anil_ok)) two_sz) ?_
  have s1 := setP_N (v := y) (last_get h (.lst (NI A))) hx
  rw [set_last] at s1
  have s2 := setP_N (v := x) (last_get h (.lst (NI (A.set x y)))) (show y < (A.set x y).length by simpa using hy)
  rw [set_last] at s2
  simp only [g_tup, g_cons, g_sub, g_nil, List.length_cons, List.length_nil, var_ok es, var_ok ei, var_ok ej, bind_ok, s1, s2, if_true]
theorem changed_ok {n : Nat} {A : List Nat} (x : Am n A) (l : Bool) {a b : Nat} (L : Le2 n A a b) (h : Hd) : m_changed [ar l A, PR2 (a, b)] h = .ok (ar false (exA A a b)) h := by
  have N := x.toArr.Nc
  have ab := L.ab; have hb := L.hb; have la := L.la; have lb := L.lb
  have ha : a < n := by omega
  have hn := x.len
  have hfb := N.lt b hb
  have hfa := N.lt a ha
  have nab : fn A a ≠ b := fun e => by have := N.toMt.flip ha e; omega
  have ib := N.inv b hb
  have key : ∃ p q : Nat × Nat, madeL A a b = [p, q] ∧ p.1 < n ∧ p.2 < n ∧ q.1 < n ∧ q.2 < n ∧ ((((A.set p.1 p.2).set p.2 p.1).set q.1 q.2).set q.2 q.1) = exA A a b := by
    have gen : ∀ p q : Nat × Nat, p.1 < n → p.2 < n → q.1 < n → q.2 < n → (∀ r, r < n → (if r = q.2 then q.1 else if r = q.1 then q.2 else if r = p.2 then p.1 else if r = p.1 then p.2 else fn A r) = ex (fn A) a b r) → ((((A.set p.1 p.2).set p.2 p.1).set q.1 q.2).set q.2 q.1) = exA A a b := by
      intro p q h1 h2 h3 h4 e
      unfold exA
      refine list_eq_map (by simp) fun r hr => ?_
      rw [fn_set _ _ _ _ (by simp; omega), fn_set _ _ _ _ (by simp; omega), fn_set _ _ _ _ (by simp; omega), fn_set _ _ _ _ (by omega)]
      exact e r (by omega)
    by_cases q : fn A a < b
    · refine ⟨(a, fn A b), (fn A a, b), by simp only [madeL, q, if_true], ha, hfb, hfa, hb, gen _ _ ha hfb hfa hb fun r hr => ?_⟩
      simp only [ex, q, if_true, sw, ib]
      have nc := N.nc a b ha hb (by omega) nab.symm
      rw [sd_eq] at nc
      by_cases r1 : r = b
      · subst r1; rw [if_pos rfl, if_neg (by omega), if_neg (by omega), if_neg (by omega), if_pos rfl]
      · rw [if_neg r1]
        by_cases r2 : r = fn A a
        · subst r2; rw [if_pos rfl, if_neg (by omega), if_neg (by omega), if_pos rfl]
        · rw [if_neg r2]
          by_cases r3 : r = fn A b
          · subst r3; rw [if_pos rfl, if_neg (by omega), if_pos rfl]
          · rw [if_neg r3]
            by_cases r4 : r = a
            · subst r4; rw [if_pos rfl, if_pos rfl]
            · rw [if_neg r4, if_neg r4, if_neg r3, if_neg r2, if_neg r1]
    · refine ⟨(a, b), (fn A b, fn A a), by simp only [madeL, q, if_false], ha, hb, hfb, hfa, gen _ _ ha hb hfb hfa fun r hr => ?_⟩
      simp only [ex, q, if_false, sw]
      have nc := N.nc a b ha hb (by omega) nab.symm
      rw [sd_eq] at nc
      by_cases r1 : r = fn A a
      · subst r1; rw [if_pos rfl, if_neg (by omega), if_neg (by omega), if_pos rfl]
      · rw [if_neg r1]
        by_cases r2 : r = fn A b
        · subst r2; rw [if_pos rfl, if_neg (by omega), if_neg (by omega), if_neg r1, if_pos rfl]
        · rw [if_neg r2]
          by_cases r3 : r = b
          · subst r3; rw [if_pos rfl, if_neg (by omega), if_pos rfl]
          · rw [if_neg r3]
            by_cases r4 : r = a
            · subst r4; rw [if_pos rfl, if_pos rfl]
            · rw [if_neg r4, if_neg r4, if_neg r3, if_neg r1, if_neg r2]
  obtain ⟨p, q, em, p1, p2, q1, q2, er⟩ := key
  have na := new_arms_ok x l L (h ++ [.lst (NI A)])
  rw [em] at na
  refine fn_v (h' := [.lst (NI (exA A a b))]) [some (ar l A), some (PR2 (a, b)), none, none, none] ?_ (by simp only [ar, Bool.false_eq_true, if_false, noRef]; exact noRefs_map (α := Nat) _)
  refine seq_then (set_ok (call_ok (a1_ok var_ok) ((listP_ar true l A h).trans rfl))) (seq_then ((for_ok (seq_lv (own_ok (acons_ok var_ok (acons_ok var_ok anil_ok)) na))).trans (for_cons (patD_two 3 4 _ _ _) (put_two (A := A) (x := p.1) (y := p.2) rfl rfl rfl rfl rfl (by omega) (by omega)) (for_cons (patD_two 3 4 _ _ _) (put_two (A := (A.set p.1 p.2).set p.2 p.1) (x := q.1) (y := q.2) rfl rfl rfl rfl rfl (by simp; omega) (by simp; omega)) for_nil))) ?_)
  rw [er]
  exact ret_ok (call_ok (a1_ok var_ok) (by simp only [tupleP, asL, last_get]; rfl))
theorem zero_ge (i : Int) (h : Hd) : leP (.int 0) (.int i) h = some (.bl (decide (0 ≤ i)), h) := leP_int _ _ _
theorem Ps.am {n : Nat} {A : List Nat} {a b : Nat} (x : Am n A) (p : Ps n (fn A) a b) : Am n (exA A a b) := ⟨p.arr x.toArr, x.few⟩
end Mini
namespace Mini
open PySem L2
/-! ### seated -/
theorem zeros_N {n : Nat} (hn : n ≤ 100000) (h : Hd) : mulP true (.lv [.int 0]) (.int (n : Nat)) h = some (.ref h.length, h ++ [.lst (NI (List.replicate n 0))]) := by
  rw [zeros_mul hn]
  congr 4
  simp [NI_I]
theorem seated_ok {n : Nat} (hn : n ≤ 1000) (L : List (Nat × Nat)) (hL : ∀ r ∈ L, r.1 < n ∧ r.2 < n) (h : Hd) : m_law_seated [.int (n : Nat), .lv (PS L)] h = .ok (ar false (seatL (List.replicate n 0) L)) h := by
  have loop : ∀ (L : List (Nat × Nat)) (A : List Nat) (v3 v4 s1 : Option D), A.length = n → (∀ r ∈ L, r.1 < n ∧ r.2 < n) → ∃ v3' v4', forM (.tp [(.nm 3), (.nm 4)]) x_law_seated_f0 (PS L) [some (.int (n : Nat)), s1, some (.ref h.length), v3, v4] (h ++ [.lst (NI A)]) = .ok (.nx [some (.int (n : Nat)), s1, some (.ref h.length), v3', v4']) (h ++ [.lst (NI (seatL A L))]) := by
    intro L
    induction L with
    | nil => intro A v3 v4 s1 _ _; exact ⟨v3, v4, rfl⟩
    | cons r L ih =>
      intro A v3 v4 s1 hA hr
      have r0 := hr r (by simp)
      obtain ⟨v3', v4', e⟩ := ih ((A.set r.1 r.2).set r.2 r.1) (some (.int (r.1 : Nat))) (some (.int (r.2 : Nat))) s1 (by simp [hA]) (fun q hq => hr q (by simp [hq]))
      exact ⟨v3', v4', for_cons (patD_two 3 4 _ _ _) (put_two (x := r.1) (y := r.2) rfl rfl rfl rfl rfl (by omega) (by omega)) e⟩
  obtain ⟨v3, v4, e⟩ := loop L (List.replicate n 0) none none (some (.lv (PS L))) (by simp) hL
  refine fn_v (h' := [.lst (NI (seatL (List.replicate n 0) L))]) [some (.int (n : Nat)), some (.lv (PS L)), none, none, none] ?_ (by simp only [ar, Bool.false_eq_true, if_false, noRef]; exact noRefs_map (α := Nat) _)
  exact seq_then (set_ok (op_ok (lst_ok (acons_ok c_ok anil_ok) one_sz) var_ok (zeros_N (by omega) h))) (seq_then ((for_ok (seq_lv var_ok)).trans e) (ret_ok (call_ok (a1_ok var_ok) (by simp only [tupleP, asL, last_get]; rfl))))
end Mini
namespace Mini
open PySem L2
/-! ### rings and distances -/
theorem ix_last {H : Hd} {q : Nat} {xs : List D} {d : D} (e : H[q]? = some (.lst (xs ++ [d]))) : ixP (.ref q) (.int (-1)) H = some (d, H) := by
  have : atI (xs ++ [d]) (-1) = some d := by
    unfold atI ixN
    rw [if_neg (by omega), if_pos (by simp; omega)]
    have : ((-1 : Int) + ((xs ++ [d]).length : Nat)).toNat = xs.length := by simp; omega
    simp only [Option.bind_some, this]
    simp
  simp only [ixP, asS, asL, e, this]
theorem NI_app (A B : List Nat) : NI (A ++ B) = NI A ++ NI B := by simp [NI]
theorem app_last {h : Hd} {xs : List D} {d : D} (hd : noRef d = true) (hl : xs.length < sizeLine) : appendP (.ref h.length) [d] (h ++ [.lst xs]) = some (.non, h ++ [.lst (xs ++ [d])]) := by
  simp only [appendP, last_get, hd, decide_eq_true hl, Bool.and_self, if_true, set_last]
theorem neg_one {s : Ev} {h : Hd} : e_un negP (e_c (D.int 1)) s h = .ok (.int (-1)) h := un_ok c_ok rfl
theorem ring_of_ok {n : Nat} {A B : List Nat} (x : Am n A) (y : Am n B) (l l' : Bool) {p : Nat} (hp : p < n) (h : Hd) : m_ring_of [ar l A, ar l' B, .int (p : Nat)] h = .ok (.tup (NI (ringP (fn A) (fn B) p))) h := by
  have F := x.toArr.Nc.toMt
  have G := y.toArr.Nc.toMt
  obtain ⟨P, hK⟩ := perK_ok F G hp
  have hn := x.few
  unfold ringP
  generalize perK (fn A) (fn B) p = K at P hK
  have lt := fun i => itr_lt F G hp i
  have lst : ∀ (k : Nat) (H : Hd), H = h ++ [.lst (NI (ringL (fn A) (fn B) p (k + 1)))] → ixP (.ref h.length) (.int (-1)) H = some (.int (fn A (itr (pi (fn A) (fn B)) k p) : Nat), H) := fun k H e => by
    refine ix_last (xs := NI (ringL (fn A) (fn B) p k) ++ [.int (itr (pi (fn A) (fn B)) k p : Nat)]) ?_
    rw [e, last_get, ringL_succ, NI_app]; simp [NI]
  have loop : whileM x_ring_of_t0 x_ring_of_w0 1000 [some (ar l A), some (ar l' B), some (.int (p : Nat)), some (.ref h.length)] (h ++ [.lst (NI (ringL (fn A) (fn B) p 1))]) = .ok (.nx [some (ar l A), some (ar l' B), some (.int (p : Nat)), some (.ref h.length)]) (h ++ [.lst (NI (ringL (fn A) (fn B) p K))]) := by
    refine while_wp (Q := fun r => r = .ok (.nx [some (ar l A), some (ar l' B), some (.int (p : Nat)), some (.ref h.length)]) (h ++ [.lst (NI (ringL (fn A) (fn B) p K))])) (fun m s H => s = [some (ar l A), some (ar l' B), some (.int (p : Nat)), some (.ref h.length)] ∧ ∃ k, k + 1 ≤ K ∧ m = K - (k + 1) ∧ H = h ++ [.lst (NI (ringL (fn A) (fn B) p (k + 1)))]) ?_ 1000 (K - 1) _ _ (by have := P.pos; omega) ⟨rfl, 0, by have := P.pos; omega, rfl, rfl⟩
    rintro m s H ⟨rfl, k, hk, rfl, eH⟩
    have e1 := lst k H eH
    have e2 : ixP (ar l' B) (.int (fn A (itr (pi (fn A) (fn B)) k p) : Nat)) H = some (.int (itr (pi (fn A) (fn B)) (k + 1) p : Nat), H) := y.at (F.lt _ (lt k)) H
    have ht : x_ring_of_t0 [some (ar l A), some (ar l' B), some (.int (p : Nat)), some (.ref h.length)] H = .ok (!decide (itr (pi (fn A) (fn B)) (k + 1) p = p)) H := b_ok (op_ok (op_ok var_ok (op_ok var_ok neg_one e1) e2) var_ok ((eqP_nat true _ _ H).trans (by simp only [if_true])))
    by_cases q : k + 1 = K
    · left
      subst q
      exact ⟨H, by rw [ht, decide_eq_true P.eq]; rfl, by rw [eH]⟩
    · right
      refine ⟨H, by rw [ht, decide_eq_false (P.mn (k + 1) (by omega) (by omega))]; rfl, .inl ⟨_, h ++ [.lst (NI (ringL (fn A) (fn B) p (k + 2)))], K - (k + 2), ?_, by omega, rfl, k + 1, by omega, rfl, rfl⟩⟩
      have sl : (NI (ringL (fn A) (fn B) p (k + 1))).length + 1 < sizeLine := by rw [NI_len, ringL_len]; exact Nat.lt_of_le_of_lt (show _ ≤ 3000 by omega) (by decide)
      have a1 : appendP (.ref h.length) [.int (itr (pi (fn A) (fn B)) (k + 1) p : Nat)] H = some (.non, h ++ [.lst (NI (ringL (fn A) (fn B) p (k + 1)) ++ [.int (itr (pi (fn A) (fn B)) (k + 1) p : Nat)])]) := by rw [eH]; exact app_last rfl (by omega)
      have a2 : appendP (.ref h.length) [.int (fn A (itr (pi (fn A) (fn B)) (k + 1) p) : Nat)] (h ++ [.lst (NI (ringL (fn A) (fn B) p (k + 1)) ++ [.int (itr (pi (fn A) (fn B)) (k + 1) p : Nat)])]) = some (.non, h ++ [.lst (NI (ringL (fn A) (fn B) p (k + 2)))]) := by
        rw [app_last rfl (by rw [List.length_append]; exact sl), ringL_succ _ _ _ (k + 1), NI_app]; simp [NI]
      have ty : ∀ xs, lstTy (.ref h.length) (h ++ [.lst xs]) = true := fun xs => by simp [lstTy, asL]
      refine seq_then (expr_ok (lm_ok var_ok (by rw [eH]; exact ty _) (a1_ok (op_ok var_ok (op_ok var_ok neg_one e1) e2)) a1)) (expr_ok (lm_ok var_ok (ty _) (a1_ok (op_ok var_ok (op_ok var_ok neg_one (ix_last (last_get h _))) (x.at (lt (k + 1)) _))) a2))
  refine fn_v (h' := [.lst (NI (ringL (fn A) (fn B) p K))]) [some (ar l A), some (ar l' B), some (.int (p : Nat)), none] ?_ (by simp only [noRef]; exact noRefs_map (α := Nat) _)
  refine seq_then (set_ok (lstM_ok (acons_ok var_ok (acons_ok (op_ok var_ok var_ok (x.at hp h)) anil_ok)) two_sz)) (seq_then loop (ret_ok (call_ok (a1_ok var_ok) (by simp only [tupleP, asL, last_get]))))
theorem look_same_ok {n : Nat} {A B : List Nat} (x : A.length = n) (y : B.length = n) (l l' : Bool) (h : Hd) : m_look_same [ar l A, ar l' B] h = .ok .non h := by
  refine fn_nx [some (ar l A), some (ar l' B)] (if_no (b_ok (op_ok (call_ok (a1_ok var_ok) (lenP_ar l A h)) (call_ok (a1_ok var_ok) (lenP_ar l' B h)) ?_)))
  rw [eqP_nat, x, y]; simp
def TT (L : List (List Nat)) : List D := L.map fun r => D.tup (NI r)
theorem noRefs_TT (L : List (List Nat)) : noRefs (TT L) = true := by
  have := noRefs_map (α := Tp Nat) (L.map Tp.mk)
  rw [List.map_map] at this
  exact this
theorem two_set0 {h : Hd} {a b c : O} : (h ++ [a, b]).set h.length c = h ++ [c, b] := by rw [List.set_append_right _ _ (Nat.le_refl _)]; simp
theorem two_set1 {h : Hd} {a b c : O} : (h ++ [a, b]).set (h.length + 1) c = h ++ [a, c] := by rw [List.set_append_right _ _ (by omega)]; simp
theorem two_get0 {h : Hd} {a b : O} : (h ++ [a, b])[h.length]? = some a := by simp
theorem two_get1 {h : Hd} {a b : O} : (h ++ [a, b])[h.length + 1]? = some b := by simp
theorem rings_run {n : Nat} {A B : List Nat} (x : Am n A) (y : Am n B) (l l' : Bool) (h : Hd) : b_rings [some (ar l A), some (ar l' B), none, none, none] h = .ok (.rt (.ref h.length)) (h ++ [.lst (TT (rgs A B)), .lst (NI (metL (fn A) (fn B) n))]) := by
  have F := x.toArr.Nc.toMt
  have G := y.toArr.Nc.toMt
  have hn := x.few
  have loop : ∃ v, forM (.nm 4) x_rings_f0 (rangeL 0 n) [some (ar l A), some (ar l' B), some (.ref h.length), some (.ref (h.length + 1)), none] (h ++ [.lst [], .lst []]) = .ok (.nx [some (ar l A), some (ar l' B), some (.ref h.length), some (.ref (h.length + 1)), v]) (h ++ [.lst (TT ((minL (fn A) (fn B) n).map (ringP (fn A) (fn B)))), .lst (NI (metL (fn A) (fn B) n))]) := by
    refine for_wp (Q := fun r => ∃ v, r = .ok (.nx [some (ar l A), some (ar l' B), some (.ref h.length), some (.ref (h.length + 1)), v]) (h ++ [.lst (TT ((minL (fn A) (fn B) n).map (ringP (fn A) (fn B)))), .lst (NI (metL (fn A) (fn B) n))])) (fun i s H => i ≤ n ∧ (∃ v, s = [some (ar l A), some (ar l' B), some (.ref h.length), some (.ref (h.length + 1)), v]) ∧ H = h ++ [.lst (TT ((minL (fn A) (fn B) i).map (ringP (fn A) (fn B)))), .lst (NI (metL (fn A) (fn B) i))]) _ _ _ ⟨by omega, ⟨none, rfl⟩, rfl⟩ ?_ ?_
    · rintro i d s H hd ⟨_, ⟨v, rfl⟩, rfl⟩
      obtain ⟨hi, rfl⟩ := rangeL_at d hd
      refine ⟨[some (ar l A), some (ar l' B), some (.ref h.length), some (.ref (h.length + 1)), some (.int (i : Nat))], rfl, .inl ?_⟩
      have ht : ∀ H : Hd, H = h ++ [.lst (TT ((minL (fn A) (fn B) i).map (ringP (fn A) (fn B)))), .lst (NI (metL (fn A) (fn B) i))] → t_b (e_op (inP true) (e_var 4) (e_var 3)) [some (ar l A), some (ar l' B), some (.ref h.length), some (.ref (h.length + 1)), some (.int (i : Nat))] H = .ok (!decide (i ∈ metL (fn A) (fn B) i)) H := fun H e =>
        b_ok (op_ok var_ok var_ok ((inP_encR (α := Nat) true (by decide) i (metL (fn A) (fn B) i) (by rw [e]; exact two_get1)).trans (by simp only [if_true])))
      have mm := mem_metL F G hi
      by_cases q : i ∈ metL (fn A) (fn B) i
      · have nm := mm.mp q
        refine ⟨_, _, (if_f (by rw [ht _ rfl, decide_eq_true q]; rfl)).trans nil_ok, by omega, ⟨_, rfl⟩, ?_⟩
        unfold metL
        rw [minL_succ, if_neg nm, List.append_nil]
      · have im : i ∈ minL (fn A) (fn B) (i + 1) := Classical.byContradiction fun z => q (mm.mpr z)
        have es : minL (fn A) (fn B) (i + 1) = minL (fn A) (fn B) i ++ [i] := by rw [minL_succ, if_pos im]
        have lm := minL_len (f := fn A) (g := fn B) i
        have lmm := metL_len F G (show i ≤ n by omega)
        have lr := ringP_len F G hi
        have sz : i * (2 * n) ≤ 2000000 := Nat.le_trans (Nat.mul_le_mul (show i ≤ 1000 by omega) (show 2 * n ≤ 2000 by omega)) (by decide)
        have a1 : appendP (.ref h.length) [.tup (NI (ringP (fn A) (fn B) i))] (h ++ [.lst (TT ((minL (fn A) (fn B) i).map (ringP (fn A) (fn B)))), .lst (NI (metL (fn A) (fn B) i))]) = some (.non, h ++ [.lst (TT ((minL (fn A) (fn B) i).map (ringP (fn A) (fn B))) ++ [.tup (NI (ringP (fn A) (fn B) i))]), .lst (NI (metL (fn A) (fn B) i))]) := by
          have c : (TT ((minL (fn A) (fn B) i).map (ringP (fn A) (fn B)))).length < sizeLine := Nat.lt_of_le_of_lt (show _ ≤ 1000 by simp [TT]; omega) (by decide)
          have nr : noRef (.tup (NI (ringP (fn A) (fn B) i))) = true := by simp only [noRef]; exact noRefs_map (α := Nat) _
          simp only [appendP, two_get0, nr, decide_eq_true c, Bool.and_self, if_true, two_set0]
        have a2 : extP (.ref (h.length + 1)) [.tup (NI (ringP (fn A) (fn B) i))] (h ++ [.lst (TT ((minL (fn A) (fn B) i).map (ringP (fn A) (fn B))) ++ [.tup (NI (ringP (fn A) (fn B) i))]), .lst (NI (metL (fn A) (fn B) i))]) = some (.non, h ++ [.lst (TT ((minL (fn A) (fn B) i).map (ringP (fn A) (fn B))) ++ [.tup (NI (ringP (fn A) (fn B) i))]), .lst (NI (metL (fn A) (fn B) i) ++ NI (ringP (fn A) (fn B) i))]) := by
          have c : (NI (metL (fn A) (fn B) i)).length + (NI (ringP (fn A) (fn B) i)).length ≤ sizeLine := Nat.le_trans (show _ ≤ 2002000 by rw [NI_len, NI_len]; omega) (by decide)
          have nr : noRefs (NI (ringP (fn A) (fn B) i)) = true := noRefs_map (α := Nat) _
          simp only [extP, two_get1, asV, notFl, nr, Bool.true_and, decide_eq_true c, if_true, two_set1]
        refine ⟨_, _, (if_t (by rw [ht _ rfl, decide_eq_false q]; rfl)).trans (seq_then (expr_ok (lm_ok var_ok (by simp [lstTy, asL]) (a1_ok (own_ok (acons_ok var_ok (acons_ok var_ok (acons_ok var_ok anil_ok))) (ring_of_ok x y l l' hi _))) a1)) (expr_ok (lm_ok var_ok (by simp [lstTy, asL]) (a1_ok (op_ok var_ok neg_one (ix_last two_get0))) a2))), by omega, ⟨_, rfl⟩, ?_⟩
        unfold metL
        rw [es, List.map_append, List.flatMap_append]
        simp [TT, NI]
    · rintro s H ⟨_, ⟨v, rfl⟩, rfl⟩
      rw [rangeL_len]
      exact ⟨v, rfl⟩
  obtain ⟨v, e1⟩ := loop
  have hx := x.len
  refine (seq_then (expr_ok (own_ok (acons_ok var_ok (acons_ok var_ok anil_ok)) (look_same_ok x.len y.len l l' h))) (seq_then (par_ok (acons_ok (lstM_ok anil_ok (Nat.zero_le _)) (acons_ok (lstM_ok anil_ok (Nat.zero_le _)) anil_ok))) (seq_then ((for_ok (rng_ok (n := n) (a1_ok (call_ok (a1_ok var_ok) (by rw [lenP_ar, hx]))) (by omega))).trans (by simpa using e1)) (ret_ok var_ok)))).trans ?_
  unfold rgs
  rw [hx]
theorem rings_ok {n : Nat} {A B : List Nat} (x : Am n A) (y : Am n B) (l l' : Bool) (h : Hd) : m_rings [ar l A, ar l' B] h = .ok (.lv (TT (rgs A B))) h := fn_l (j := 0) [some (ar l A), some (ar l' B), none, none, none] (rings_run x y l l' h) rfl (noRefs_TT _)
theorem lenP_lv (xs : List D) (h : Hd) : lenP [.lv xs] h = some (.int (xs.length : Nat), h) := by simp only [lenP, asS, asL]
theorem distance_ok {n : Nat} {A B : List Nat} (x : Am n A) (y : Am n B) (l l' : Bool) (h : Hd) : m_distance [ar l A, ar l' B] h = .ok (.int (dstL A B : Nat)) h := by
  have hx := x.len
  refine fn_rt' [some (ar l A), some (ar l' B)] ?_ rfl
  refine (ret_ok (op_ok (op_ok (call_ok (a1_ok var_ok) (lenP_ar l A h)) c_ok (div2_int _ _)) (call_ok (a1_ok (own_ok (acons_ok var_ok (acons_ok var_ok anil_ok)) (rings_ok x y l l' h))) (lenP_lv _ _)) (subP_int _ _ _))).trans ?_
  have := dstL_add x.toArr y.toArr
  congr 3
  simp only [TT, List.length_map]
  omega
end Mini
namespace Mini
/-! ### exchanges in another order -/
def lexlt (p q : Nat × Nat) : Prop := p.1 < q.1 ∨ (p.1 = q.1 ∧ p.2 < q.2)
theorem exL_lex (A : List Nat) : (exL A).Pairwise lexlt := by
  unfold exL
  rw [List.pairwise_flatMap]
  constructor
  · intro k hk
    unfold exRow
    rw [List.pairwise_map]
    refine List.Pairwise.filter _ (List.Pairwise.imp (fun h => .inr ⟨rfl, h⟩) (List.Pairwise.sublist (List.drop_sublist _ _) (lessL_lt A)))
  · refine List.Pairwise.imp_of_mem (R := (· < ·)) ?_ List.pairwise_lt_range
    intro i j hi hj hij p hp q hq
    have hi := List.mem_range.mp hi
    have hj := List.mem_range.mp hj
    simp only [exRow, List.mem_map, List.mem_filter] at hp hq
    obtain ⟨_, _, rfl⟩ := hp
    obtain ⟨_, _, rfl⟩ := hq
    left
    have pw := lessL_lt A
    rw [List.pairwise_iff_getElem] at pw
    have := pw i j hi hj hij
    simpa [List.getD_eq_getElem?_getD, hi, hj] using this
theorem lex_nodup {L : List (Nat × Nat)} (h : L.Pairwise lexlt) : L.Nodup := h.imp fun {a b} q e => by subst e; rcases q with q | q <;> omega
theorem mem_take {L : List Nat} (h : L.Pairwise (· < ·)) {k b : Nat} (hk : k < L.length) : b ∈ L.take k ↔ b ∈ L ∧ b < L.getD k 0 := by
  have e : L.getD k 0 = L[k] := by simp [List.getD_eq_getElem?_getD, hk]
  rw [e]
  rw [List.pairwise_iff_getElem] at h
  constructor
  · intro q
    obtain ⟨i, hi, rfl⟩ := List.getElem_of_mem q
    rw [List.length_take] at hi
    rw [List.getElem_take]
    exact ⟨List.getElem_mem _, h i k (by omega) hk (by omega)⟩
  · rintro ⟨q, lt⟩
    obtain ⟨i, hi, rfl⟩ := List.getElem_of_mem q
    have : i < k := by
      rcases Nat.lt_trichotomy i k with z | z | z
      · exact z
      · subst z; omega
      · have := h k i hk hi z; omega
    rw [List.mem_iff_getElem]
    exact ⟨i, by rw [List.length_take]; omega, by rw [List.getElem_take]⟩
def exCol (A : List Nat) (k : Nat) : List (Nat × Nat) := (((lessL A).take k).filter fun a => posB A a ((lessL A).getD k 0)).map fun a => (a, (lessL A).getD k 0)
def exR (A : List Nat) : List (Nat × Nat) := (List.range (lessL A).length).flatMap (exCol A)
theorem mem_exR {A : List Nat} {a b : Nat} : (a, b) ∈ exR A ↔ (a, b) ∈ exL A := by
  rw [mem_exL]
  simp only [exR, exCol, List.mem_flatMap, List.mem_map, List.mem_filter, List.mem_range, Prod.mk.injEq]
  constructor
  · rintro ⟨k, hk, c, ⟨h1, h2⟩, rfl, rfl⟩
    have := (mem_take (lessL_lt A) hk).mp h1
    refine ⟨this.1, ?_, this.2, h2⟩
    have e : (lessL A).getD k 0 = (lessL A)[k] := by simp [List.getD_eq_getElem?_getD, hk]
    rw [e]; exact List.getElem_mem _
  · rintro ⟨h1, h2, h3, h4⟩
    obtain ⟨k, hk, rfl⟩ := List.getElem_of_mem h2
    have e : (lessL A).getD k 0 = (lessL A)[k] := by simp [List.getD_eq_getElem?_getD, hk]
    exact ⟨k, hk, a, ⟨(mem_take (lessL_lt A) hk).mpr ⟨h1, by rw [e]; exact h3⟩, by rw [e]; exact h4⟩, rfl, e⟩
theorem exR_nodup (A : List Nat) : (exR A).Nodup := by
  unfold exR
  rw [List.nodup_iff_pairwise_ne, List.pairwise_flatMap]
  constructor
  · intro k hk
    unfold exCol
    rw [List.pairwise_map]
    refine List.Pairwise.filter _ (List.Pairwise.imp (fun h e => by simp at e; omega) (List.Pairwise.sublist (List.take_sublist _ _) (lessL_lt A)))
  · refine List.Pairwise.imp_of_mem (R := (· < ·)) ?_ List.pairwise_lt_range
    intro i j hi hj hij p hp q hq e
    have hi := List.mem_range.mp hi
    have hj := List.mem_range.mp hj
    simp only [exCol, List.mem_map, List.mem_filter] at hp hq
    obtain ⟨_, _, rfl⟩ := hp
    obtain ⟨_, _, rfl⟩ := hq
    have pw := lessL_lt A
    rw [List.pairwise_iff_getElem] at pw
    have := pw i j hi hj hij
    simp [List.getD_eq_getElem?_getD, hi, hj] at e
    omega
theorem exR_perm (A : List Nat) : (exL A).Perm (exR A) :=
  (List.perm_ext_iff_of_nodup (lex_nodup (exL_lex A)) (exR_nodup A)).mpr fun ⟨_, _⟩ => mem_exR.symm
end Mini
namespace Mini
/-! ### the people of rings, sorted; an exchange's four people -/
def srt (L : List Nat) : List Nat := L.mergeSort (fun a b => decide (a ≤ b))
theorem srt_perm (L : List Nat) : (srt L).Perm L := List.mergeSort_perm L _
theorem srt_le (L : List Nat) : (srt L).Pairwise (· ≤ ·) := by
  have := List.pairwise_mergeSort (le := fun a b : Nat => decide (a ≤ b)) (fun a b c h1 h2 => by simp at *; omega) (fun a b => by simp; omega) L
  exact this.imp fun h => by simpa using h
theorem srt_eq {L M : List Nat} (h : L.Perm M) : srt L = srt M :=
  List.Perm.eq_of_pairwise (le := (· ≤ ·)) (fun a b _ _ h1 h2 => Nat.le_antisymm h1 h2) (srt_le L) (srt_le M) ((srt_perm L).trans (h.trans (srt_perm M).symm))
theorem srt_uniq {L M : List Nat} (h : L.Perm M) (s : L.Pairwise (· ≤ ·)) : srt M = L :=
  List.Perm.eq_of_pairwise (le := (· ≤ ·)) (fun a b _ _ h1 h2 => Nat.le_antisymm h1 h2) (srt_le M) s ((srt_perm M).trans h.symm)
section
variable {n : Nat} {f g : Nat → Nat}
theorem ringP_nodup (F : Mt n f) (G : Mt n g) {p : Nat} (h : p < n) : (ringP f g p).Nodup := by
  obtain ⟨P, _⟩ := perK_ok F G h
  unfold ringP
  generalize perK f g p = K at P
  have key : ∀ k, k ≤ K → (ringL f g p k).Nodup := fun k => by
    induction k with
    | zero => intro _; simp [ringL]
    | succ k ih =>
      intro hk
      rw [ringL_succ, List.nodup_append]
      have lk := itr_lt F G h k
      refine ⟨ih (by omega), ?_, ?_⟩
      · simp; exact fun e => F.ne lk e.symm
      · intro a ha b hb e
        subst e
        obtain ⟨i, hi, ea⟩ := mem_ringL.mp ha
        have li := itr_lt F G h i
        have p1 := itr_par F G h i
        have p2 := itr_par F G h k
        have f1 := F.par _ li
        have f2 := F.par _ lk
        simp at hb
        rcases ea with ea | ea <;> rcases hb with eb | eb
        · exact P.ne F G h hi (by omega) (by rw [← ea, eb])
        · rw [ea] at eb; rw [eb] at p1; omega
        · rw [ea] at eb; omega
        · rw [ea] at eb; exact P.ne F G h hi (by omega) (F.inj li lk eb)
  exact key K (Nat.le_refl _)
theorem minL_comm (i : Nat) : minL f g i = minL g f i := by
  unfold minL
  apply List.filter_congr
  intro p _
  rw [decide_eq_decide]
  exact ⟨fun h q hq r => h q hq r.swap, fun h q hq r => h q hq r.swap⟩
theorem ringP_perm (F : Mt n f) (G : Mt n g) {p : Nat} (h : p < n) : (ringP f g p).Perm (ringP g f p) :=
  (List.perm_ext_iff_of_nodup (ringP_nodup F G h) (ringP_nodup G F h)).mpr fun y => by
    rw [mem_ringP F G h, mem_ringP G F h]; exact ⟨Rc.swap, Rc.swap⟩
end
theorem rgs_srt {n : Nat} {A B : List Nat} (x : Arr n A) (y : Arr n B) : (rgs A B).map srt = (rgs B A).map srt := by
  unfold rgs
  rw [x.len, y.len, minL_comm, List.map_map, List.map_map]
  apply List.map_congr_left
  intro p hp
  have hp := (mem_minL.mp hp).1
  exact srt_eq (ringP_perm x.Nc.toMt y.Nc.toMt hp)
section
variable {n : Nat} {A : List Nat} {a b : Nat}
theorem four_iff (x : Arr n A) (p : Ps n (fn A) a b) {q : Nat} (hq : q < n) : fn A q ≠ fn (exA A a b) q ↔ q = a ∨ q = b ∨ q = fn A a ∨ q = fn A b := by
  obtain ⟨y, F, e, hp, cy⟩ := p.sw x.Nc
  rw [fn_exA (by rw [x.len]; exact hq), e]
  have ib := x.Nc.inv b p.hb
  have n1 := F.nf; have n2 := F.nf'; have n3 := F.nff; have n4 := F.ne
  have iy := F.mt.inv _ F.hy
  have ia := F.mt.inv _ F.hx
  have yb : (y = b ∧ fn A y = fn A b) ∨ (y = fn A b ∧ fn A y = b) := by
    rcases cy with ⟨_, rfl⟩ | ⟨_, rfl⟩
    · exact .inr ⟨rfl, ib⟩
    · exact .inl ⟨rfl, rfl⟩
  rcases F.cases q with h | h | h | h | h
  · rw [h, F.s1]; exact ⟨fun _ => .inl rfl, fun _ => n1⟩
  · rw [h, F.s2]
    refine ⟨fun _ => ?_, fun _ => n2⟩
    rcases yb with z | z <;> omega
  · rw [h, F.s3, ia]; exact ⟨fun _ => .inr (.inr (.inl rfl)), fun _ => n2.symm⟩
  · rw [h, F.s4, iy]
    refine ⟨fun _ => ?_, fun _ => n1.symm⟩
    rcases yb with z | z <;> omega
  · rw [sw_oth h.1 h.2.1 h.2.2.1 h.2.2.2]
    refine ⟨fun z => absurd rfl z, fun z => ?_⟩
    rcases yb with w | w <;> omega
/-- the four people, sorted; the lesser ones of the new arms -/
def fourL (A : List Nat) (a b : Nat) : List Nat := if fn A a < b then [a, fn A a, b, fn A b] else [a, b, fn A b, fn A a]
theorem fourL_ok (x : Arr n A) (L : Le2 n A a b) : (fourL A a b).Pairwise (· < ·) ∧ ∀ q, q ∈ fourL A a b ↔ (q = a ∨ q = b ∨ q = fn A a ∨ q = fn A b) := by
  have N := x.Nc
  have ab := L.ab; have hb := L.hb; have la := L.la; have lb := L.lb
  have ha : a < n := by omega
  have nab : fn A a ≠ b := fun e => by have := N.toMt.flip ha e; omega
  have nff : fn A a ≠ fn A b := fun e => by have := N.toMt.inj ha hb e; omega
  have nc := N.nc a b ha hb (by omega) nab.symm
  rw [sd_eq] at nc
  unfold fourL
  by_cases q : fn A a < b
  · rw [if_pos q]
    refine ⟨by simp; omega, fun q => by simp; omega⟩
  · rw [if_neg q]
    refine ⟨by simp; omega, fun q => by simp; omega⟩
theorem back_four (x : Arr n A) (p : Ps n (fn A) a b) : ∃ c d, (fourL A a b).filter (fun q => decide (q < fn (exA A a b) q)) = [c, d] ∧ Ps n (fn (exA A a b)) c d ∧ exA (exA A a b) c d = A := by
  obtain ⟨c, d, P, e, m⟩ := p.back x
  obtain ⟨pw, mf⟩ := fourL_ok x ⟨p.ab, p.hb, p.la, p.lb⟩
  refine ⟨c, d, two_of (List.Pairwise.filter _ pw) P.ab fun q => ?_, P, e⟩
  have lt : ∀ q, (q = a ∨ q = b ∨ q = fn A a ∨ q = fn A b) → q < n := fun q h => by
    have := p.ab; have := p.hb
    have := x.Nc.lt a (by omega)
    have := x.Nc.lt b p.hb
    rcases h with h | h | h | h <;> omega
  rw [List.mem_filter, mf, decide_eq_true_eq]
  constructor
  · rintro ⟨h1, h2⟩
    have hq := lt q h1
    exact (m q hq).mp ⟨h2, (four_iff x p hq).mpr h1⟩
  · intro h
    have hq : q < n := by have := P.ab; have := P.hb; rcases h with h | h <;> omega
    have := (m q hq).mpr h
    exact ⟨(four_iff x p hq).mp this.2, this.1⟩
end
end Mini
namespace Mini
open PySem L2
/-! ### sorted of numbers -/
theorem sort_N (m : Bool) (L : List Nat) {x : D} {h : Hd} (hx : asS x h = some (NI L)) : sortP m [x] h = mkL m (NI (srt L)) h := by
  rw [NI_I] at hx ⊢
  refine sort_ints m ((srt_perm L).map _) ?_ hx
  rw [List.pairwise_map]
  exact (srt_le L).imp fun {a b} h => by omega
theorem sort_tup (m : Bool) (L : List Nat) (h : Hd) : sortP m [.tup (NI L)] h = mkL m (NI (srt L)) h := sort_N m L rfl
theorem sort_lv (m : Bool) (L : List Nat) (h : Hd) : sortP m [.lv (NI L)] h = mkL m (NI (srt L)) h := sort_N m L rfl
theorem eqP_TT (neg : Bool) (L M : List (List Nat)) (h : Hd) : eqP neg (.lv (TT L)) (.lv (TT M)) h = some (.bl (if neg then !decide (L = M) else decide (L = M)), h) := by
  have := eqP_enc (α := List (Tp Nat)) neg (by decide) (L.map Tp.mk) (M.map Tp.mk) h
  have e : (L.map Tp.mk = M.map Tp.mk) ↔ L = M := ⟨fun q => by
    have := congrArg (List.map Tp.l) q
    simpa [List.map_map, Function.comp_def] using this, fun q => by rw [q]⟩
  rw [show decide (L.map Tp.mk = M.map Tp.mk) = decide (L = M) from decide_eq_decide.mpr e] at this
  rw [show TT L = (L.map Tp.mk).map Enc.enc by rw [List.map_map]; rfl, show TT M = (M.map Tp.mk).map Enc.enc by rw [List.map_map]; rfl]
  exact this
/-- lists of lists of numbers -/
def LL (L : List (List Nat)) : List D := L.map fun r => D.lv (NI r)
theorem eqP_LL (neg : Bool) (L M : List (List Nat)) (h : Hd) : eqP neg (.lv (LL L)) (.lv (LL M)) h = some (.bl (if neg then !decide (L = M) else decide (L = M)), h) := eqP_enc (α := List (List Nat)) neg (by decide) L M h
theorem eqP_ref {α : Type} [DecidableEq α] [Enc α] (neg : Bool) (hd : Enc.dep α < 64) (L M : List α) {q : Nat} {h : Hd} (e : h[q]? = some (.lst (L.map Enc.enc))) : eqP neg (.ref q) (.lv (M.map Enc.enc)) h = some (.bl (if neg then !decide (L = M) else decide (L = M)), h) := by
  have := eqP_enc (α := List α) neg (by show Enc.dep α + 1 ≤ 64; omega) L M h
  have p1 : pyR (.ref q) h = some (Enc.py L) := by simp only [pyR, e, pyDs_map, Option.map_some]; rfl
  have p2 : pyR (Enc.enc L) h = some (Enc.py L) := pyR_enc L h
  unfold eqP at this ⊢
  rw [p1]
  rw [p2] at this
  exact this
theorem sort_rings {A B : List Nat} {s : Ev} {own : List Nat} {i : AF} {v : Nat} {h : Hd} (hi : i s h = .ok (TT (rgs A B)) h) (hl : (rgs A B).length ≤ 100000) (hv : v < (wipeD s own).length) :
    e_lc own i (.nm v) t_yes (e_call (sortP false) (a_cons (e_var v) a_nil)) s h = .ok (.lv (LL ((rgs A B).map srt))) h := by
  refine lc_mto (rgs A B) (fun r => D.tup (NI r)) (fun r => (wipeD s own).set v (some (.tup (NI r)))) (fun r => .lv (NI (srt r))) hi hl (fun r _ => ⟨by simp only [patD], call_ok (a1_ok (var_ok ?_)) (sort_tup false r h)⟩) (by rw [LL, List.map_map]; rfl)
  rw [List.getElem?_set_self hv]
end Mini
namespace Mini
/-! ### areas: the spaces that no arm parts -/
/-- the next space by the wall -/
def nx (n : Nat) (f : Nat → Nat) (p : Nat) : Nat := f ((p + 1) % n)
/-- no arm parts p from q -/
def Ns (n : Nat) (f : Nat → Nat) (p q : Nat) : Prop := ∀ c, c < n → c < f c → ((c ≤ p ∧ p < f c) ↔ (c ≤ q ∧ q < f c))
theorem Ns.rfl {n : Nat} {f : Nat → Nat} {p : Nat} : Ns n f p p := fun _ _ _ => Iff.rfl
theorem Ns.symm {n : Nat} {f : Nat → Nat} {p q : Nat} (h : Ns n f p q) : Ns n f q p := fun c a b => (h c a b).symm
theorem Ns.trans {n : Nat} {f : Nat → Nat} {p q r : Nat} (h : Ns n f p q) (k : Ns n f q r) : Ns n f p r := fun c a b => (h c a b).trans (k c a b)
section
variable {n : Nat} {f : Nat → Nat} (N : Nc n f)
include N
theorem nx_lt {p : Nat} (hp : p < n) : nx n f p < n := N.lt _ (Nat.mod_lt _ (by omega))
theorem nx_inj {p q : Nat} (hp : p < n) (hq : q < n) (e : nx n f p = nx n f q) : p = q := by
  have := N.toMt.inj (Nat.mod_lt _ (by omega)) (Nat.mod_lt _ (by omega)) e
  by_cases h1 : p + 1 = n <;> by_cases h2 : q + 1 = n
  · omega
  · rw [h1, Nat.mod_self, Nat.mod_eq_of_lt (by omega : q + 1 < n)] at this; omega
  · rw [h2, Nat.mod_self, Nat.mod_eq_of_lt (by omega : p + 1 < n)] at this; omega
  · rw [Nat.mod_eq_of_lt (by omega : p + 1 < n), Nat.mod_eq_of_lt (by omega : q + 1 < n)] at this; omega
theorem nx_ns {p : Nat} (hp : p < n) : Ns n f p (nx n f p) := by
  intro c hc hcf
  have hd := N.lt c hc
  have ed := N.inv c hc
  have he : (p + 1) % n < n := Nat.mod_lt _ (by omega)
  unfold nx
  by_cases h1 : p + 1 = n
  · rw [h1, Nat.mod_self]
    by_cases q : c = 0
    · subst q; omega
    · have s := N.nc c 0 hc (by omega) (fun e => q e.symm) (by omega)
      rw [sd_eq] at s
      have m1 : f 0 ≠ c := fun e => by have := N.toMt.flip (by omega) e; omega
      omega
  · rw [Nat.mod_eq_of_lt (by omega : p + 1 < n)]
    by_cases q1 : p + 1 = c
    · rw [q1]; omega
    · by_cases q2 : p + 1 = f c
      · rw [q2, ed]; omega
      · have s := N.nc c (p + 1) hc (by omega) q1 q2
        rw [sd_eq] at s
        have m1 : f (p + 1) ≠ c := fun e => by have := N.toMt.flip (by omega) e; omega
        have m2 : f (p + 1) ≠ f c := fun e => q1 (N.toMt.inj (by omega) hc e)
        omega
/-- the way to a later space of the same area goes on by the wall -/
theorem nx_le {p q : Nat} (hq : q < n) (pq : p < q) (h : Ns n f p q) : nx n f p = f (p + 1) ∧ p + 1 < f (p + 1) ∧ f (p + 1) ≤ q := by
  have e : nx n f p = f (p + 1) := by unfold nx; rw [Nat.mod_eq_of_lt (by omega)]
  have hm := N.lt (p + 1) (by omega)
  have ne := N.toMt.ne (show p + 1 < n by omega)
  have iv := N.inv (p + 1) (by omega)
  have lt : p + 1 < f (p + 1) := by
    rcases Nat.lt_or_ge (p + 1) (f (p + 1)) with a | a
    · exact a
    · have := h (f (p + 1)) hm (by rw [iv]; omega)
      rw [iv] at this
      omega
  have := h (p + 1) (by omega) lt
  exact ⟨e, lt, by omega⟩
theorem nx_first {p q : Nat} (hp : p < n) (hq : q < n) (le : nx n f p ≤ p) (h : Ns n f p q) : nx n f p ≤ q ∧ q ≤ p := by
  refine ⟨?_, ?_⟩
  · unfold nx at le ⊢
    by_cases h1 : p + 1 = n
    · rw [h1, Nat.mod_self] at le ⊢
      have n0 := N.toMt.ne (show 0 < n by omega)
      have := h 0 (by omega) (by omega)
      have := N.lt 0 (by omega)
      omega
    · rw [Nat.mod_eq_of_lt (by omega : p + 1 < n)] at le ⊢
      have hm := N.lt (p + 1) (by omega)
      have iv := N.inv (p + 1) (by omega)
      have := h (f (p + 1)) hm (by rw [iv]; omega)
      rw [iv] at this
      omega
  · rcases Nat.lt_or_ge p q with a | a
    · have := nx_le N hq a h; omega
    · exact a
theorem itr_nx_lt {p : Nat} (hp : p < n) : ∀ k, itr (nx n f) k p < n
  | 0 => hp
  | k + 1 => nx_lt N (itr_nx_lt hp k)
theorem itr_nx_ns {p : Nat} (hp : p < n) : ∀ k, Ns n f p (itr (nx n f) k p)
  | 0 => .rfl
  | k + 1 => (itr_nx_ns hp k).trans (nx_ns N (itr_nx_lt N hp k))
theorem itr_nx_inj {p q : Nat} (hp : p < n) (hq : q < n) : ∀ k, itr (nx n f) k p = itr (nx n f) k q → p = q
  | 0, e => e
  | k + 1, e => itr_nx_inj hp hq k (nx_inj N (itr_nx_lt N hp k) (itr_nx_lt N hq k) e)
theorem reach_up : ∀ (d p q : Nat), q - p ≤ d → p ≤ q → q < n → Ns n f p q → ∃ k, itr (nx n f) k p = q
  | 0, p, q, h1, h2, h3, h => ⟨0, by simp [itr]; omega⟩
  | d + 1, p, q, h1, h2, h3, h => by
    by_cases e : p = q
    · exact ⟨0, e⟩
    · obtain ⟨e1, e2, e3⟩ := nx_le N h3 (by omega) h
      obtain ⟨k, ek⟩ := reach_up d (f (p + 1)) q (by omega) e3 h3 ((e1 ▸ nx_ns N (show p < n by omega)).symm.trans h)
      exact ⟨k + 1, by rw [itr_succ, e1]; exact ek⟩
end
/-- the way back -/
structure Pn (n : Nat) (f : Nat → Nat) (p K : Nat) : Prop where
  pos : 1 ≤ K
  le : K ≤ n
  eq : itr (nx n f) K p = p
  mn : ∀ j, 1 ≤ j → j < K → itr (nx n f) j p ≠ p
section
variable {n : Nat} {f : Nat → Nat}
theorem Pn.ex (N : Nc n f) {p : Nat} (h : p < n) : ∃ K, Pn n f p K := by
  have ex : ∃ K, 1 ≤ K ∧ K ≤ n ∧ itr (nx n f) K p = p := by
    by_cases nd : ((List.range (n + 1)).map fun k => itr (nx n f) k p).Nodup
    · have := nodup_le n _ nd fun y hy => by
        obtain ⟨k, _, rfl⟩ := List.mem_map.mp hy
        exact itr_nx_lt N h k
      simp at this
      omega
    · rw [List.nodup_iff_pairwise_ne, List.pairwise_iff_getElem] at nd
      simp only [Classical.not_forall] at nd
      obtain ⟨i, j, hi, hj, hij, e⟩ := nd
      simp only [Classical.not_not, List.getElem_map, List.getElem_range] at e
      simp only [List.length_map, List.length_range] at hi hj
      refine ⟨j - i, by omega, by omega, ?_⟩
      rw [show j = (j - i) + i by omega, itr_add] at e
      exact (itr_nx_inj N h (itr_nx_lt N h _) i e).symm
  obtain ⟨K, k1, k2, k3⟩ := ex
  obtain ⟨j, a, b, c⟩ := least_of (P := fun K => 1 ≤ K ∧ itr (nx n f) K p = p) K ⟨k1, k3⟩
  exact ⟨j, b.1, by omega, b.2, fun i i1 i2 e => c i i2 ⟨i1, e⟩⟩
theorem Pn.ne (N : Nc n f) {p K : Nat} (h : p < n) (P : Pn n f p K) {i j : Nat} (hij : i < j) (hj : j < K) : itr (nx n f) i p ≠ itr (nx n f) j p := fun e => by
  rw [show j = (j - i) + i by omega, itr_add] at e
  exact P.mn (j - i) (by omega) (by omega) (itr_nx_inj N h (itr_nx_lt N h _) i e).symm
theorem Pn.mod {p K : Nat} (P : Pn n f p K) : ∀ k, ∃ j, j < K ∧ itr (nx n f) k p = itr (nx n f) j p
  | 0 => ⟨0, P.pos, rfl⟩
  | k + 1 => by
    obtain ⟨j, hj, e⟩ := P.mod k
    by_cases q : j + 1 < K
    · exact ⟨j + 1, q, by rw [itr, itr, e]⟩
    · refine ⟨0, P.pos, ?_⟩
      have : j + 1 = K := by omega
      show nx n f (itr (nx n f) k p) = p
      rw [e]
      have q2 := P.eq
      rw [← this] at q2
      exact q2
theorem Pn.mul {p K : Nat} (P : Pn n f p K) : ∀ m, itr (nx n f) (K * m) p = p
  | 0 => rfl
  | m + 1 => by rw [Nat.mul_succ, itr_add, P.mul m, P.eq]
/-- an area is what the wall leads to -/
theorem ns_iff (N : Nc n f) {p q K : Nat} (hp : p < n) (hq : q < n) (P : Pn n f p K) : Ns n f p q ↔ ∃ i, i < K ∧ itr (nx n f) i p = q := by
  constructor
  · intro h
    have : ∃ k, itr (nx n f) k p = q := by
      rcases Nat.le_total p q with a | a
      · exact reach_up N (q - p) p q (Nat.le_refl _) a hq h
      · obtain ⟨k, ek⟩ := reach_up N (p - q) q p (Nat.le_refl _) a hp h.symm
        obtain ⟨L, PL⟩ := Pn.ex N hq
        refine ⟨L * (k + 1) - k, ?_⟩
        have h1 : k ≤ L * (k + 1) := Nat.le_trans (Nat.le_succ k) (Nat.le_mul_of_pos_left _ PL.pos)
        have := PL.mul (k + 1)
        rw [show L * (k + 1) = k + (L * (k + 1) - k) by omega, itr_add, ek] at this
        exact this
    obtain ⟨k, ek⟩ := this
    obtain ⟨j, hj, e⟩ := P.mod k
    exact ⟨j, hj, by rw [← e]; exact ek⟩
  · rintro ⟨i, _, rfl⟩
    exact itr_nx_ns N hp i
theorem nx_par (N : Nc n f) (he : n % 2 = 0) {p : Nat} (hp : p < n) : nx n f p % 2 = p % 2 := by
  unfold nx
  have h := N.par ((p + 1) % n) (Nat.mod_lt _ (by omega))
  by_cases h1 : p + 1 = n
  · rw [h1, Nat.mod_self] at h ⊢; omega
  · rw [Nat.mod_eq_of_lt (by omega : p + 1 < n)] at h ⊢; omega
theorem ns_par (N : Nc n f) (he : n % 2 = 0) {p q : Nat} (hp : p < n) (hq : q < n) (h : Ns n f p q) : q % 2 = p % 2 := by
  obtain ⟨K, P⟩ := Pn.ex N hp
  obtain ⟨i, _, rfl⟩ := (ns_iff N hp hq P).mp h
  clear h hq
  have : ∀ i, itr (nx n f) i p % 2 = p % 2 := fun i => by
    induction i with
    | zero => rfl
    | succ k ih => rw [itr, nx_par N he (itr_nx_lt N hp k), ih]
  exact this i
end
end Mini
namespace Mini
/-! ### an exchange and the areas: the arms p-q and r-s become p-s and q-r -/
structure Qd (n : Nat) (f g : Nat → Nat) (p q r s : Nat) : Prop where
  N : Nc n f
  M : Nc n g
  pq : p < q
  qr : q < r
  rs : r < s
  hs : s < n
  fp : f p = q
  fr : f r = s
  gp : g p = s
  gq : g q = r
  eq : ∀ c, c < n → c ≠ p → c ≠ q → c ≠ r → c ≠ s → g c = f c
/-- no arm but the four parts u from v -/
def Oth (n : Nat) (f : Nat → Nat) (p q r s u v : Nat) : Prop := ∀ c, c < n → c < f c → c ≠ p → c ≠ q → c ≠ r → c ≠ s → ((c ≤ u ∧ u < f c) ↔ (c ≤ v ∧ v < f c))
theorem Oth.rfl {n : Nat} {f : Nat → Nat} {p q r s u : Nat} : Oth n f p q r s u u := fun _ _ _ _ _ _ _ => Iff.rfl
theorem Oth.symm {n : Nat} {f : Nat → Nat} {p q r s u v : Nat} (h : Oth n f p q r s u v) : Oth n f p q r s v u := fun c a b c1 c2 c3 c4 => (h c a b c1 c2 c3 c4).symm
theorem Oth.trans {n : Nat} {f : Nat → Nat} {p q r s u v w : Nat} (h : Oth n f p q r s u v) (k : Oth n f p q r s v w) : Oth n f p q r s u w := fun c a b c1 c2 c3 c4 => (h c a b c1 c2 c3 c4).trans (k c a b c1 c2 c3 c4)
section
variable {n : Nat} {f g : Nat → Nat} {p q r s : Nat} (Q : Qd n f g p q r s)
include Q
theorem Qd.ns_f {u v : Nat} : Ns n f u v ↔ Oth n f p q r s u v ∧ ((p ≤ u ∧ u < q) ↔ (p ≤ v ∧ v < q)) ∧ ((r ≤ u ∧ u < s) ↔ (r ≤ v ∧ v < s)) := by
  have := Q.pq; have := Q.qr; have := Q.rs; have := Q.hs; have fp := Q.fp; have fr := Q.fr
  have fq := Q.N.toMt.flip (by omega) fp
  have fs := Q.N.toMt.flip (by omega) fr
  constructor
  · intro h
    refine ⟨fun c a b _ _ _ _ => h c a b, ?_, ?_⟩
    · have := h p (by omega) (by omega); rw [fp] at this; exact this
    · have := h r (by omega) (by omega); rw [fr] at this; exact this
  · rintro ⟨o, h1, h2⟩ c hc hl
    by_cases c1 : c = p
    · subst c1; rw [fp]; exact h1
    by_cases c2 : c = q
    · subst c2; omega
    by_cases c3 : c = r
    · subst c3; rw [fr]; exact h2
    by_cases c4 : c = s
    · subst c4; omega
    exact o c hc hl c1 c2 c3 c4
theorem Qd.ns_g {u v : Nat} : Ns n g u v ↔ Oth n f p q r s u v ∧ ((p ≤ u ∧ u < s) ↔ (p ≤ v ∧ v < s)) ∧ ((q ≤ u ∧ u < r) ↔ (q ≤ v ∧ v < r)) := by
  have := Q.pq; have := Q.qr; have := Q.rs; have := Q.hs; have gp := Q.gp; have gq := Q.gq
  have gs := Q.M.toMt.flip (by omega) gp
  have gr := Q.M.toMt.flip (by omega) gq
  constructor
  · intro h
    refine ⟨fun c a b c1 c2 c3 c4 => ?_, ?_, ?_⟩
    · have e := Q.eq c a c1 c2 c3 c4
      have := h c a (by omega)
      rw [e] at this
      exact this
    · have := h p (by omega) (by omega); rw [gp] at this; exact this
    · have := h q (by omega) (by omega); rw [gq] at this; exact this
  · rintro ⟨o, h1, h2⟩ c hc hl
    by_cases c1 : c = p
    · subst c1; rw [gp]; exact h1
    by_cases c2 : c = q
    · subst c2; rw [gq]; exact h2
    by_cases c3 : c = r
    · subst c3; omega
    by_cases c4 : c = s
    · subst c4; omega
    have e := Q.eq c hc c1 c2 c3 c4
    rw [e] at hl ⊢
    exact o c hc hl c1 c2 c3 c4
/-- another arm lies within one gap -/
theorem Qd.gap {c : Nat} (hc : c < n) (c1 : c ≠ p) (c2 : c ≠ q) (c3 : c ≠ r) (c4 : c ≠ s) (hl : c < f c) :
    (f c < p) ∨ (p < c ∧ f c < q) ∨ (q < c ∧ f c < r) ∨ (r < c ∧ f c < s) ∨ (s < c) ∨ (c < p ∧ s < f c) := by
  have h1 := Q.pq; have h2 := Q.qr; have h3 := Q.rs; have h4 := Q.hs; have fp := Q.fp; have fr := Q.fr; have gp := Q.gp; have gq := Q.gq
  have e := Q.eq c hc c1 c2 c3 c4
  have a1 := Q.N.nc p c (by omega) hc c1 (by rw [fp]; exact c2)
  have a2 := Q.N.nc r c (by omega) hc c3 (by rw [fr]; exact c4)
  have a3 := Q.M.nc p c (by omega) hc c1 (by rw [gp]; exact c4)
  have a4 := Q.M.nc q c (by omega) hc c2 (by rw [gq]; exact c3)
  rw [fp, sd_eq] at a1
  rw [fr, sd_eq] at a2
  rw [gp, e, sd_eq] at a3
  rw [gq, e, sd_eq] at a4
  have fq := Q.N.toMt.flip (by omega) fp
  have fs := Q.N.toMt.flip (by omega) fr
  have n1 : f c ≠ p := fun z => c2 (by have := Q.N.toMt.flip hc z; omega)
  have n2 : f c ≠ q := fun z => c1 (by have := Q.N.toMt.flip hc z; omega)
  have n3 : f c ≠ r := fun z => c4 (by have := Q.N.toMt.flip hc z; omega)
  have n4 : f c ≠ s := fun z => c3 (by have := Q.N.toMt.flip hc z; omega)
  omega
theorem Qd.four : Oth n f p q r s p q ∧ Oth n f p q r s p r ∧ Oth n f p q r s p s := by
  have h1 := Q.pq; have h2 := Q.qr; have h3 := Q.rs; have h4 := Q.hs
  refine ⟨fun c hc hl c1 c2 c3 c4 => ?_, fun c hc hl c1 c2 c3 c4 => ?_, fun c hc hl c1 c2 c3 c4 => ?_⟩ <;>
  · have := Q.gap hc c1 c2 c3 c4 hl
    omega
/-- what lies apart from the four lies in one gap -/
theorem Qd.apart {u v : Nat} (h : ¬ Oth n f p q r s p u) (k : Oth n f p q r s u v) : ((p ≤ u ∧ u < q) ↔ (p ≤ v ∧ v < q)) ∧ ((q ≤ u ∧ u < r) ↔ (q ≤ v ∧ v < r)) ∧ ((r ≤ u ∧ u < s) ↔ (r ≤ v ∧ v < s)) := by
  have h1 := Q.pq; have h2 := Q.qr; have h3 := Q.rs; have h4 := Q.hs
  simp only [Oth, Classical.not_forall] at h
  obtain ⟨c, hc, hl, c1, c2, c3, c4, z⟩ := h
  have g := Q.gap hc c1 c2 c3 c4 hl
  have y := k c hc hl c1 c2 c3 c4
  omega
theorem Qd.same {u v : Nat} (h : ¬ Oth n f p q r s p u) : Ns n f u v ↔ Ns n g u v := by
  rw [Q.ns_f, Q.ns_g]
  have h1 := Q.pq; have h2 := Q.qr; have h3 := Q.rs
  constructor
  · rintro ⟨o, _, _⟩
    have := Q.apart h o
    exact ⟨o, by omega, by omega⟩
  · rintro ⟨o, _, _⟩
    have := Q.apart h o
    exact ⟨o, by omega, by omega⟩
end
/-- a possible exchange, one way or the other -/
theorem Ps.qd {n : Nat} {f : Nat → Nat} {a b : Nat} (N : Nc n f) (P : Ps n f a b) : (f a < b ∧ Qd n f (ex f a b) a (f a) b (f b)) ∨ (b < f a ∧ Qd n (ex f a b) f a b (f b) (f a)) := by
  have ab := P.ab; have hb := P.hb; have la := P.la; have lb := P.lb
  have ha : a < n := by omega
  have hfa := N.lt a ha
  have hfb := N.lt b hb
  have ia := N.inv a ha
  have ib := N.inv b hb
  have nab : f a ≠ b := fun e => by rw [e] at ia; omega
  have M := P.nc
  by_cases q : f a < b
  · left
    have F : Four n f a (f b) := ⟨N.toMt, ha, hfb, by omega, fun e => by have := N.toMt.inj ha hb e; omega⟩
    have e : ex f a b = Mini.sw f a (f b) := by unfold ex; rw [if_pos q]
    rw [e] at M ⊢
    refine ⟨q, N, M, la, q, lb, hfb, rfl, rfl, F.s1, ?_, fun c hc c1 c2 c3 c4 => sw_oth c1 c4 c2 (by rw [ib]; exact c3)⟩
    have := F.s3; rw [ib] at this; exact this
  · right
    have F : Four n f a b := ⟨N.toMt, ha, hb, by omega, nab⟩
    have e : ex f a b = Mini.sw f a b := by unfold ex; rw [if_neg q]
    have s := N.nc a b ha hb (by omega) (Ne.symm nab)
    rw [sd_eq] at s
    rw [e] at M ⊢
    refine ⟨by omega, M, N, ab, lb, by omega, hfa, F.s1, F.s4, rfl, rfl, fun c hc c1 c2 c3 c4 => (sw_oth c1 c2 c4 c3).symm⟩
end Mini
namespace Mini
open Classical in
noncomputable def room (n : Nat) (f : Nat → Nat) (p : Nat) : List Nat := (List.range n).filter fun q => decide (Ns n f p q)
open Classical in
noncomputable def lowsA (n : Nat) (f : Nat → Nat) : List Nat := (List.range n).filter fun p => decide (∀ q, q < p → ¬ Ns n f q p)
noncomputable def roomsL (n : Nat) (f : Nat → Nat) : List (List Nat) := (lowsA n f).map (room n f)
section
variable {n : Nat} {f : Nat → Nat}
theorem mem_room {p q : Nat} : q ∈ room n f p ↔ q < n ∧ Ns n f p q := by simp only [room, List.mem_filter, List.mem_range, decide_eq_true_eq]
theorem mem_lowsA {p : Nat} : p ∈ lowsA n f ↔ p < n ∧ ∀ q, q < p → ¬ Ns n f q p := by simp only [lowsA, List.mem_filter, List.mem_range, decide_eq_true_eq]
theorem room_congr {p q : Nat} (h : Ns n f p q) : room n f p = room n f q := by
  unfold room
  apply List.filter_congr
  intro x _
  rw [decide_eq_decide]
  exact ⟨h.symm.trans, h.trans⟩
theorem room_iff {p q : Nat} (hq : q < n) : room n f p = room n f q ↔ Ns n f p q := by
  constructor
  · intro e
    have : q ∈ room n f p := by rw [e]; exact mem_room.mpr ⟨hq, .rfl⟩
    exact (mem_room.mp this).2
  · exact room_congr
theorem room_sorted (p : Nat) : (room n f p).Pairwise (· < ·) := List.Pairwise.filter _ List.pairwise_lt_range
theorem room_nodup (p : Nat) : (room n f p).Nodup := (room_sorted p).imp fun h => Nat.ne_of_lt h
theorem lowsA_sorted : (lowsA n f).Pairwise (· < ·) := List.Pairwise.filter _ List.pairwise_lt_range
theorem low_ex {p : Nat} (hp : p < n) : ∃ a, a ∈ lowsA n f ∧ Ns n f a p := by
  obtain ⟨a, a1, a2, a3⟩ := least_of (P := fun a => Ns n f a p) p .rfl
  exact ⟨a, mem_lowsA.mpr ⟨by omega, fun q hq h => a3 q hq (h.trans a2)⟩, a2⟩
theorem mem_roomsL {R : List Nat} : R ∈ roomsL n f ↔ ∃ p, p < n ∧ R = room n f p := by
  constructor
  · intro h
    obtain ⟨p, hp, rfl⟩ := List.mem_map.mp h
    exact ⟨p, (mem_lowsA.mp hp).1, rfl⟩
  · rintro ⟨p, hp, rfl⟩
    obtain ⟨a, h1, h2⟩ := low_ex (f := f) hp
    exact List.mem_map.mpr ⟨a, h1, room_congr h2⟩
theorem roomsL_nodup : (roomsL n f).Nodup := by
  rw [roomsL, List.nodup_iff_pairwise_ne, List.pairwise_map]
  refine (List.pairwise_iff_forall_sublist.mpr ?_)
  intro a b h e
  have hb : b ∈ lowsA n f := h.subset (by simp)
  have lt : a < b := List.rel_of_pairwise_cons (lowsA_sorted.sublist h) (by simp)
  have := mem_lowsA.mp hb
  exact this.2 a lt ((room_iff this.1).mp e)
/-- the room of a least space begins with it -/
theorem room_low {a : Nat} (h : a ∈ lowsA n f) : ∃ r, room n f a = a :: r := by
  have hl := mem_lowsA.mp h
  have ma : a ∈ room n f a := mem_room.mpr ⟨hl.1, .rfl⟩
  cases e : room n f a with
  | nil => rw [e] at ma; simp at ma
  | cons x r =>
    have so := room_sorted (n := n) (f := f) a
    have mx : x ∈ room n f a := by rw [e]; simp
    rw [e] at so ma
    rcases List.mem_cons.mp ma with q | q
    · exact ⟨r, by rw [← q]⟩
    · have := List.rel_of_pairwise_cons so q
      exact absurd (mem_room.mp mx).2.symm (hl.2 x this)
theorem roomsL_lex : (roomsL n f).Pairwise (· < ·) := by
  rw [roomsL, List.pairwise_map]
  refine List.pairwise_iff_forall_sublist.mpr fun {a b} h => ?_
  have ha : a ∈ lowsA n f := h.subset (by simp)
  have hb : b ∈ lowsA n f := h.subset (by simp)
  have lt : a < b := List.rel_of_pairwise_cons (lowsA_sorted.sublist h) (by simp)
  obtain ⟨r, e1⟩ := room_low ha
  obtain ⟨r', e2⟩ := room_low hb
  rw [e1, e2]
  exact List.cons_lt_cons_iff.mpr (.inl lt)
end
theorem perm_of {α : Type} {L M : List α} (h1 : L.Nodup) (h2 : M.Nodup) (h : ∀ x, x ∈ L ↔ x ∈ M) : L.Perm M := (List.perm_ext_iff_of_nodup h1 h2).mpr h
section
variable {n : Nat} {f g : Nat → Nat} {p q r s : Nat} (Q : Qd n f g p q r s)
include Q
/-- who is in which room -/
theorem Qd.tab : (Ns n f q s ∧ ¬ Ns n f q p ∧ ¬ Ns n f q r) ∧ (¬ Ns n f p q ∧ ¬ Ns n f p r ∧ ¬ Ns n f p s) ∧ (¬ Ns n f r p ∧ ¬ Ns n f r q ∧ ¬ Ns n f r s) ∧
    (¬ Ns n g s p ∧ ¬ Ns n g s q ∧ ¬ Ns n g s r) ∧ (¬ Ns n g q p ∧ ¬ Ns n g q r ∧ ¬ Ns n g q s) ∧ (Ns n g p r ∧ ¬ Ns n g p q ∧ ¬ Ns n g p s) := by
  have h1 := Q.pq; have h2 := Q.qr; have h3 := Q.rs
  obtain ⟨o1, o2, o3⟩ := Q.four
  have o4 := o1.symm.trans o3
  simp only [Q.ns_f, Q.ns_g]
  refine ⟨⟨⟨o4, by omega, by omega⟩, fun h => ?_, fun h => ?_⟩, ⟨fun h => ?_, fun h => ?_, fun h => ?_⟩, ⟨fun h => ?_, fun h => ?_, fun h => ?_⟩, ⟨fun h => ?_, fun h => ?_, fun h => ?_⟩, ⟨fun h => ?_, fun h => ?_, fun h => ?_⟩, ⟨o2, by omega, by omega⟩, fun h => ?_, fun h => ?_⟩ <;>
  · have := h.2.1; have := h.2.2; omega
theorem Qd.lts : p < n ∧ q < n ∧ r < n ∧ s < n := by have h1 := Q.pq; have h2 := Q.qr; have h3 := Q.rs; have h4 := Q.hs; omega
/-- a room of f by the gap of one of its spaces -/
theorem Qd.room_f {u : Nat} (h : Oth n f p q r s p u) : Ns n f p u ∨ Ns n f r u ∨ Ns n f q u := by
  have h1 := Q.pq; have h2 := Q.qr; have h3 := Q.rs
  obtain ⟨o1, o2, o3⟩ := Q.four
  simp only [Q.ns_f]
  by_cases a : p ≤ u ∧ u < q
  · exact .inl ⟨h, by omega, by omega⟩
  · by_cases b : r ≤ u ∧ u < s
    · exact .inr (.inl ⟨o2.symm.trans h, by omega, by omega⟩)
    · exact .inr (.inr ⟨o1.symm.trans h, by omega, by omega⟩)
theorem Qd.room_g {u : Nat} (h : Oth n f p q r s p u) : Ns n g p u ∨ Ns n g q u ∨ Ns n g s u := by
  have h1 := Q.pq; have h2 := Q.qr; have h3 := Q.rs
  obtain ⟨o1, o2, o3⟩ := Q.four
  simp only [Q.ns_g]
  by_cases a : p ≤ u ∧ u < s
  · by_cases b : q ≤ u ∧ u < r
    · exact .inr (.inl ⟨o1.symm.trans h, by omega, by omega⟩)
    · exact .inl ⟨h, by omega, by omega⟩
  · exact .inr (.inr ⟨o3.symm.trans h, by omega, by omega⟩)
open Classical in
theorem Qd.gone : ((roomsL n f).filter fun R => decide (R ∉ roomsL n g)).Perm [room n f q, room n f p, room n f r] := by
  obtain ⟨⟨a1, a2, a3⟩, ⟨b1, b2, b3⟩, ⟨c1, c2, c3⟩, ⟨d1, d2, d3⟩, ⟨e1, e2, e3⟩, ⟨f1, f2, f3⟩⟩ := Q.tab
  obtain ⟨hp, hq, hr, hs⟩ := Q.lts
  refine perm_of (roomsL_nodup.filter _) ?_ fun R => ?_
  · simp only [List.nodup_cons, List.mem_cons, List.not_mem_nil, or_false, not_or, not_false_eq_true, List.nodup_nil, and_true]
    exact ⟨⟨fun e => a2 ((room_iff hp).mp e), fun e => a3 ((room_iff hr).mp e)⟩, fun e => b2 ((room_iff hr).mp e)⟩
  · simp only [List.mem_filter, decide_eq_true_eq, mem_roomsL, List.mem_cons, List.not_mem_nil, or_false]
    have no : ∀ a b, a < n → b < n → ¬ (Ns n f a b ↔ Ns n g a b) → ∀ u, room n f a ≠ room n g u := fun a b ha hb z u e => by
      have h1 : a ∈ room n g u := by rw [← e]; exact mem_room.mpr ⟨ha, .rfl⟩
      have h2 := (mem_room.mp h1).2
      refine z ⟨fun k => ?_, fun k => ?_⟩
      · have : b ∈ room n g u := by rw [← e]; exact mem_room.mpr ⟨hb, k⟩
        exact h2.symm.trans (mem_room.mp this).2
      · have : b ∈ room n f a := by rw [e]; exact mem_room.mpr ⟨hb, h2.trans k⟩
        exact (mem_room.mp this).2
    constructor
    · rintro ⟨⟨u, hu, rfl⟩, z⟩
      have ou : Oth n f p q r s p u := Classical.byContradiction fun k => z ⟨u, hu, by
        unfold room
        apply List.filter_congr
        intro x _
        rw [decide_eq_decide]
        exact Q.same k⟩
      rcases Q.room_f ou with k | k | k
      · exact .inr (.inl (room_congr k).symm)
      · exact .inr (.inr (room_congr k).symm)
      · exact .inl (room_congr k).symm
    · rintro (rfl | rfl | rfl)
      · exact ⟨⟨q, hq, rfl⟩, fun ⟨u, _, e⟩ => no q s hq hs (fun z => e3 (z.mp a1)) u e⟩
      · exact ⟨⟨p, hp, rfl⟩, fun ⟨u, _, e⟩ => no p r hp hr (fun z => b2 (z.mpr f1)) u e⟩
      · exact ⟨⟨r, hr, rfl⟩, fun ⟨u, _, e⟩ => no r p hr hp (fun z => c1 (z.mpr f1.symm)) u e⟩
open Classical in
theorem Qd.come : ((roomsL n g).filter fun R => decide (R ∉ roomsL n f)).Perm [room n g s, room n g q, room n g p] := by
  obtain ⟨⟨a1, a2, a3⟩, ⟨b1, b2, b3⟩, ⟨c1, c2, c3⟩, ⟨d1, d2, d3⟩, ⟨e1, e2, e3⟩, ⟨f1, f2, f3⟩⟩ := Q.tab
  obtain ⟨hp, hq, hr, hs⟩ := Q.lts
  refine perm_of (roomsL_nodup.filter _) ?_ fun R => ?_
  · simp only [List.nodup_cons, List.mem_cons, List.not_mem_nil, or_false, not_or, not_false_eq_true, List.nodup_nil, and_true]
    exact ⟨⟨fun e => d2 ((room_iff hq).mp e), fun e => d1 ((room_iff hp).mp e)⟩, fun e => e1 ((room_iff hp).mp e)⟩
  · simp only [List.mem_filter, decide_eq_true_eq, mem_roomsL, List.mem_cons, List.not_mem_nil, or_false]
    have no : ∀ a b, a < n → b < n → ¬ (Ns n g a b ↔ Ns n f a b) → ∀ u, room n g a ≠ room n f u := fun a b ha hb z u e => by
      have h1 : a ∈ room n f u := by rw [← e]; exact mem_room.mpr ⟨ha, .rfl⟩
      have h2 := (mem_room.mp h1).2
      refine z ⟨fun k => ?_, fun k => ?_⟩
      · have : b ∈ room n f u := by rw [← e]; exact mem_room.mpr ⟨hb, k⟩
        exact h2.symm.trans (mem_room.mp this).2
      · have : b ∈ room n g a := by rw [e]; exact mem_room.mpr ⟨hb, h2.trans k⟩
        exact (mem_room.mp this).2
    constructor
    · rintro ⟨⟨u, hu, rfl⟩, z⟩
      have ou : Oth n f p q r s p u := Classical.byContradiction fun k => z ⟨u, hu, by
        unfold room
        apply List.filter_congr
        intro x _
        rw [decide_eq_decide]
        exact (Q.same k).symm⟩
      rcases Q.room_g ou with k | k | k
      · exact .inr (.inr (room_congr k).symm)
      · exact .inr (.inl (room_congr k).symm)
      · exact .inl (room_congr k).symm
    · rintro (rfl | rfl | rfl)
      · exact ⟨⟨s, hs, rfl⟩, fun ⟨u, _, e⟩ => no s q hs hq (fun z => d2 (z.mpr a1.symm)) u e⟩
      · exact ⟨⟨q, hq, rfl⟩, fun ⟨u, _, e⟩ => no q s hq hs (fun z => e3 (z.mpr a1)) u e⟩
      · exact ⟨⟨p, hp, rfl⟩, fun ⟨u, _, e⟩ => no p r hp hr (fun z => b2 (z.mp f1)) u e⟩
/-- the part of the areas -/
theorem Qd.mem_q {u : Nat} : u ∈ room n f q ↔ u ∈ room n g s ∨ u ∈ room n g q := by
  have h1 := Q.pq; have h2 := Q.qr; have h3 := Q.rs
  obtain ⟨o1, o2, o3⟩ := Q.four
  simp only [mem_room, Q.ns_f, Q.ns_g]
  constructor
  · rintro ⟨hu, o, z1, z2⟩
    by_cases a : p ≤ u ∧ u < s
    · exact .inr ⟨hu, o, by omega, by omega⟩
    · exact .inl ⟨hu, o3.symm.trans (o1.trans o), by omega, by omega⟩
  · rintro (⟨hu, o, z1, z2⟩ | ⟨hu, o, z1, z2⟩)
    · exact ⟨hu, o1.symm.trans (o3.trans o), by omega, by omega⟩
    · exact ⟨hu, o, by omega, by omega⟩
theorem Qd.mem_p {u : Nat} : u ∈ room n g p ↔ u ∈ room n f p ∨ u ∈ room n f r := by
  have h1 := Q.pq; have h2 := Q.qr; have h3 := Q.rs
  obtain ⟨o1, o2, o3⟩ := Q.four
  simp only [mem_room, Q.ns_f, Q.ns_g]
  constructor
  · rintro ⟨hu, o, z1, z2⟩
    by_cases a : p ≤ u ∧ u < q
    · exact .inl ⟨hu, o, by omega, by omega⟩
    · exact .inr ⟨hu, o2.symm.trans o, by omega, by omega⟩
  · rintro (⟨hu, o, z1, z2⟩ | ⟨hu, o, z1, z2⟩)
    · exact ⟨hu, o, by omega, by omega⟩
    · exact ⟨hu, o2.trans o, by omega, by omega⟩
end
end Mini
namespace Mini
/-! ### even and odd areas -/
theorem room_head {n : Nat} {f : Nat → Nat} {u : Nat} (hu : u < n) : (room n f u).headD 0 ∈ room n f u := by
  have : u ∈ room n f u := mem_room.mpr ⟨hu, .rfl⟩
  cases e : room n f u with
  | nil => rw [e] at this; simp at this
  | cons x r => simp
theorem room_par {n : Nat} {f : Nat → Nat} {u : Nat} (N : Nc n f) (he : n % 2 = 0) (hu : u < n) : (room n f u).headD 0 % 2 = u % 2 := by
  have h := mem_room.mp (room_head (f := f) hu)
  exact ns_par N he hu h.1 h.2
def evB (R : List Nat) : Bool := decide (R.headD 0 % 2 = 0)
noncomputable def evens (n : Nat) (f : Nat → Nat) : Nat := (roomsL n f).countP evB
theorem count_split {α : Type} (P : α → Bool) (d : α → Prop) [DecidablePred d] : ∀ L : List α, L.countP P = (L.filter fun x => decide (d x)).countP P + (L.filter fun x => decide (¬ d x)).countP P
  | [] => by simp
  | x :: L => by
    have ih := count_split P d L
    by_cases h : d x
    · simp only [List.filter_cons, h, decide_true, not_true_eq_false, decide_false, if_true, List.countP_cons, Bool.false_eq_true, if_false]; omega
    · simp only [List.filter_cons, h, decide_false, not_false_eq_true, decide_true, if_true, List.countP_cons, Bool.false_eq_true, if_false]; omega
section
variable {n : Nat} {f g : Nat → Nat} {p q r s : Nat} (Q : Qd n f g p q r s)
include Q
theorem Qd.count (P : List Nat → Bool) : (roomsL n f).countP P + [room n g s, room n g q, room n g p].countP P = (roomsL n g).countP P + [room n f q, room n f p, room n f r].countP P := by
  classical
  have a := count_split P (fun R => R ∈ roomsL n g) (roomsL n f)
  have b := count_split P (fun R => R ∈ roomsL n f) (roomsL n g)
  have c : ((roomsL n f).filter fun R => decide (R ∈ roomsL n g)).Perm ((roomsL n g).filter fun R => decide (R ∈ roomsL n f)) := perm_of (roomsL_nodup.filter _) (roomsL_nodup.filter _) fun R => by
    simp only [List.mem_filter, decide_eq_true_eq]; exact And.comm
  rw [c.countP_eq, Q.gone.countP_eq] at a
  rw [Q.come.countP_eq] at b
  omega
theorem Qd.lens : (roomsL n f).length = (roomsL n g).length := by
  have := Q.count fun _ => true
  simp only [List.countP_true, List.length_cons, List.length_nil] at this
  omega
theorem Qd.evens (he : n % 2 = 0) : evens n f + 1 = evens n g ∨ evens n g + 1 = evens n f := by
  have c := Q.count evB
  obtain ⟨hp, hq, hr, hs⟩ := Q.lts
  have e1 := room_par Q.N he hq; have e2 := room_par Q.N he hp; have e3 := room_par Q.N he hr
  have e4 := room_par Q.M he hs; have e5 := room_par Q.M he hq; have e6 := room_par Q.M he hp
  have p1 := Q.N.par p hp; rw [Q.fp] at p1
  have p2 := Q.N.par r hr; rw [Q.fr] at p2
  have p3 := Q.M.par p hp; rw [Q.gp] at p3
  simp only [List.countP_cons, List.countP_nil, evB, decide_eq_true_eq, e1, e2, e3, e4, e5, e6] at c
  unfold Mini.evens
  by_cases z : p % 2 = 0
  · simp only [z, show q % 2 ≠ 0 by omega, show r % 2 = 0 by omega, show s % 2 ≠ 0 by omega, if_true, if_false] at c
    omega
  · simp only [z, show q % 2 = 0 by omega, show r % 2 ≠ 0 by omega, show s % 2 = 0 by omega, if_true, if_false] at c
    omega
end
/-! ### the arms of an area -/
/-- the space before a seat -/
def pd (n c : Nat) : Nat := if c = 0 then n - 1 else c - 1
theorem pd_lt {n c : Nat} (h : c < n) : pd n c < n := by unfold pd; split <;> omega
theorem pd_nx {n : Nat} {f : Nat → Nat} {c : Nat} (h : c < n) : nx n f (pd n c) = f c := by
  unfold nx pd
  split
  · next e => rw [show n - 1 + 1 = n by omega, Nat.mod_self, e]
  · rw [show c - 1 + 1 = c by omega, Nat.mod_eq_of_lt h]
theorem pd_ns {n : Nat} {f : Nat → Nat} (N : Nc n f) {c : Nat} (h : c < n) : Ns n f (pd n c) (f c) := by
  have := nx_ns N (pd_lt h)
  rw [pd_nx h] at this
  exact this
section
variable {n : Nat} {f : Nat → Nat} {a b u v : Nat}
/-- two arms by one area: where -/
theorem share_at (N : Nc n f) (ab : a < b) (hb : b < n) (la : a < f a) (lb : b < f b) (hu : u = pd n a ∨ u = pd n (f a)) (hv : v = pd n b ∨ v = pd n (f b)) (h : Ns n f u v) : v = pd n b ∧ u = if f a < b then pd n a else pd n (f a) := by
  have ha : a < n := by omega
  have hfa := N.lt a ha
  have hfb := N.lt b hb
  have ia := N.inv a ha
  have nab : f a ≠ b := fun e => by rw [e] at ia; omega
  have s := N.nc a b ha hb (by omega) (Ne.symm nab)
  rw [sd_eq] at s
  have c1 := h a ha la
  have c2 := h b hb lb
  unfold pd at hu hv ⊢
  rw [if_neg (show b ≠ 0 by omega)] at hv ⊢
  rw [if_neg (show f a ≠ 0 by omega)] at hu ⊢
  rw [if_neg (show f b ≠ 0 by omega)] at hv
  split at hu <;> split <;> omega
theorem share_ps (N : Nc n f) (ab : a < b) (hb : b < n) (la : a < f a) (lb : b < f b) (hu : u = pd n a ∨ u = pd n (f a)) (hv : v = pd n b ∨ v = pd n (f b)) (h : Ns n f u v) : Ps n f a b := by
  obtain ⟨ev, eu⟩ := share_at N ab hb la lb hu hv h
  have ha : a < n := by omega
  have hfa := N.lt a ha
  have hfb := N.lt b hb
  have ia := N.inv a ha
  have ib := N.inv b hb
  have nab : f a ≠ b := fun e => by rw [e] at ia; omega
  have s := N.nc a b ha hb (by omega) (Ne.symm nab)
  rw [sd_eq] at s
  refine ⟨ab, hb, la, lb, ?_⟩
  unfold pd at ev eu
  rw [if_neg (show b ≠ 0 by omega)] at ev
  rw [if_neg (show f a ≠ 0 by omega)] at eu
  have key : ∀ j, j < n → j ≠ a → j ≠ b → j ≠ f a → j ≠ f b → sd j (f j) a = sd j (f j) b := fun j hj j1 j2 j3 j4 => by
    have hfj := N.lt j hj
    have ij := N.inv j hj
    have k1 : f j ≠ a := fun e => by rw [e] at ij; omega
    have k2 : f j ≠ b := fun e => by rw [e] at ij; omega
    have k3 : f j ≠ f a := fun e => j1 (N.toMt.inj hj ha e)
    have k4 : f j ≠ f b := fun e => j2 (N.toMt.inj hj hb e)
    have n1 := N.nc j a hj ha (Ne.symm j1) (Ne.symm k1)
    have n2 := N.nc j b hj hb (Ne.symm j2) (Ne.symm k2)
    rw [sd_eq] at n1 n2 ⊢
    have ne := N.toMt.ne hj
    by_cases lj : j < f j
    · have c := h j hj lj
      split at eu
      · split at eu <;> omega
      · omega
    · have c := h (f j) hfj (by rw [ij]; omega)
      rw [ij] at c
      split at eu
      · split at eu <;> omega
      · omega
  by_cases z : f a < b
  · have F : Four n f a (f b) := ⟨N.toMt, ha, hfb, by omega, fun e => by have := N.toMt.inj ha hb e; omega⟩
    have e : ex f a b = sw f a (f b) := by unfold ex; rw [if_pos z]
    rw [e]
    refine sw_nc N F (fun j hj t => ?_) (by rw [ib, sd_eq]; omega)
    rw [ib] at t
    have k1 : f j ≠ b := fun e => t.2.1 (N.toMt.flip hj e).symm
    rw [key j hj t.1 t.2.2.2 t.2.2.1 t.2.1]
    exact N.nc j b hj hb (Ne.symm t.2.2.2) (Ne.symm k1)
  · have F : Four n f a b := ⟨N.toMt, ha, hb, by omega, nab⟩
    have e : ex f a b = sw f a b := by unfold ex; rw [if_neg z]
    rw [e]
    exact sw_nc N F (fun j hj t => key j hj t.1 t.2.1 t.2.2.1 t.2.2.2) (by rw [sd_eq]; omega)
theorem ps_share (N : Nc n f) (P : Ps n f a b) : Ns n f (if f a < b then pd n a else pd n (f a)) (pd n b) := by
  have ab := P.ab; have hb := P.hb
  have ha : a < n := by omega
  have ia := N.inv a ha
  rcases P.qd N with ⟨z, Q⟩ | ⟨z, Q⟩
  · rw [if_pos z]
    exact ((pd_ns N ha).trans Q.tab.1.1).trans (pd_ns N hb).symm
  · rw [if_neg (by omega)]
    have := pd_ns N (N.lt a ha)
    rw [ia] at this
    exact (this.trans Q.tab.2.2.2.2.2.1).trans (pd_ns N hb).symm
end
end Mini
namespace Mini
/-! ### a room makes its arms anew -/
theorem rot_next {R : List Nat} (so : R.Pairwise (· < ·)) {h : Nat → Nat} (mem : ∀ x ∈ R, h x ∈ R) (up : ∀ x ∈ R, ∀ y ∈ R, x < y → x < h x ∧ h x ≤ y) (dn : ∀ x ∈ R, h x ≤ x → ∀ y ∈ R, h x ≤ y ∧ y ≤ x) {i : Nat} (hi : i < R.length) :
    (R.tail ++ R.take 1)[i]? = some (h R[i]) := by
  have mi : R[i] ∈ R := List.getElem_mem hi
  have lt : ∀ (a b : Nat) (hb : b < R.length) (ab : a < b), R[a]'(by omega) < R[b] := fun a b hb ab => List.pairwise_iff_getElem.mp so a b (by omega) hb ab
  obtain ⟨j, hj, ej⟩ := List.getElem_of_mem (mem _ mi)
  by_cases z : i + 1 < R.length
  · have e1 : (R.tail ++ R.take 1)[i]? = some R[i + 1] := by
      rw [List.getElem?_append_left (by simp; omega), List.getElem?_tail]
      exact List.getElem?_eq_getElem z
    have u := up _ mi _ (List.getElem_mem z) (lt i (i + 1) z (by omega))
    rw [← ej] at u
    have : j = i + 1 := by
      rcases Nat.lt_trichotomy j (i + 1) with q | q | q
      · rcases Nat.lt_or_ge j i with w | w
        · have := lt j i hi w; omega
        · have : j = i := by omega
          subst this; omega
      · exact q
      · have := lt (i + 1) j hj q; omega
    subst this
    rw [e1, ej]
  · have e1 : (R.tail ++ R.take 1)[i]? = some (R[0]'(by omega)) := by
      rw [List.getElem?_append_right (by simp; omega)]
      simp only [List.length_tail]
      rw [show i - (R.length - 1) = 0 by omega, List.getElem?_take_of_lt (by omega)]
      exact List.getElem?_eq_getElem (by omega)
    have le : h R[i] ≤ R[i] := by
      rw [← ej]
      rcases Nat.lt_or_ge j i with w | w
      · have := lt j i hi w; omega
      · have : j = i := by omega
        subst this; omega
    have d := (dn _ mi le (R[0]'(by omega)) (List.getElem_mem _)).1
    rw [← ej] at d
    have : j = 0 := by
      rcases Nat.lt_or_ge 0 j with w | w
      · have := lt 0 j hj w; omega
      · omega
    subst this
    rw [e1, ej]
theorem room_next {n : Nat} {f : Nat → Nat} (N : Nc n f) {u i : Nat} (hi : i < (room n f u).length) : ((room n f u).tail ++ (room n f u).take 1)[i]? = some (nx n f (room n f u)[i]) := by
  refine rot_next (h := nx n f) (room_sorted u) (fun x hx => ?_) (fun x hx y hy xy => ?_) (fun x hx le y hy => ?_) hi
  · obtain ⟨h1, h2⟩ := mem_room.mp hx
    exact mem_room.mpr ⟨nx_lt N h1, h2.trans (nx_ns N h1)⟩
  · obtain ⟨h1, h2⟩ := mem_room.mp hx
    obtain ⟨k1, k2⟩ := mem_room.mp hy
    have := nx_le N k1 xy (h2.symm.trans k2)
    rw [this.1]; omega
  · obtain ⟨h1, h2⟩ := mem_room.mp hx
    obtain ⟨k1, k2⟩ := mem_room.mp hy
    exact nx_first N h1 k1 le (h2.symm.trans k2)
/-! ### pairs of a list -/
def prs : List Nat → List (Nat × Nat)
  | [] => []
  | x :: xs => xs.map (fun y => (x, y)) ++ prs xs
theorem mem_prs : ∀ {L : List Nat}, L.Pairwise (· < ·) → ∀ {a b : Nat}, (a, b) ∈ prs L ↔ a ∈ L ∧ b ∈ L ∧ a < b
  | [], _, a, b => by simp [prs]
  | x :: L, so, a, b => by
    have so' := List.pairwise_cons.mp so
    have ih := mem_prs so'.2 (a := a) (b := b)
    simp only [prs, List.mem_append, List.mem_map, Prod.mk.injEq, ih, List.mem_cons]
    constructor
    · rintro (⟨y, hy, rfl, rfl⟩ | ⟨h1, h2, h3⟩)
      · exact ⟨.inl rfl, .inr hy, so'.1 _ hy⟩
      · exact ⟨.inr h1, .inr h2, h3⟩
    · rintro ⟨h1 | h1, h2 | h2, h3⟩
      · omega
      · exact .inl ⟨b, h2, h1.symm, rfl⟩
      · have := so'.1 _ h1; omega
      · exact .inr ⟨h1, h2, h3⟩
theorem prs_nodup : ∀ {L : List Nat}, L.Pairwise (· < ·) → (prs L).Nodup
  | [], _ => by simp [prs]
  | x :: L, so => by
    have so' := List.pairwise_cons.mp so
    rw [prs, List.nodup_append]
    refine ⟨?_, prs_nodup so'.2, fun p hp q hq e => ?_⟩
    · rw [List.nodup_iff_pairwise_ne, List.pairwise_map]
      exact so'.2.imp fun h e => by simp at e; omega
    · subst e
      obtain ⟨y, hy, rfl⟩ := List.mem_map.mp hp
      have := ((mem_prs so'.2).mp hq).1
      have := so'.1 _ this
      omega
theorem prs_len : ∀ L : List Nat, 2 * (prs L).length = L.length * (L.length - 1)
  | [] => rfl
  | x :: L => by
    have ih := prs_len L
    simp only [prs, List.length_append, List.length_map, List.length_cons, Nat.add_sub_cancel]
    rw [Nat.mul_add, ih]
    cases L with
    | nil => rfl
    | cons y L => simp only [List.length_cons, Nat.add_sub_cancel, Nat.mul_add, Nat.add_mul]; omega
/-! ### the arms of an area -/
def armLow (n : Nat) (f : Nat → Nat) (R : List Nat) : List Nat := (List.range n).filter fun c => decide (c < f c) && (decide (pd n c ∈ R) || decide (pd n (f c) ∈ R))
section
variable {n : Nat} {f : Nat → Nat}
theorem mem_armLow {R : List Nat} {c : Nat} : c ∈ armLow n f R ↔ c < n ∧ c < f c ∧ (pd n c ∈ R ∨ pd n (f c) ∈ R) := by simp [armLow, List.mem_filter]
theorem armLow_sorted (R : List Nat) : (armLow n f R).Pairwise (· < ·) := List.Pairwise.filter _ List.pairwise_lt_range
noncomputable def dueL (n : Nat) (f : Nat → Nat) : List (Nat × Nat) := (roomsL n f).flatMap fun R => prs (armLow n f R)
theorem mem_dueL (N : Nc n f) {a b : Nat} : (a, b) ∈ dueL n f ↔ Ps n f a b := by
  constructor
  · intro h
    obtain ⟨R, hR, h⟩ := List.mem_flatMap.mp h
    obtain ⟨u, hu, rfl⟩ := mem_roomsL.mp hR
    obtain ⟨h1, h2, h3⟩ := (mem_prs (armLow_sorted _)).mp h
    obtain ⟨a1, a2, a3⟩ := mem_armLow.mp h1
    obtain ⟨b1, b2, b3⟩ := mem_armLow.mp h2
    rcases a3 with a3 | a3 <;> rcases b3 with b3 | b3
    · exact share_ps N h3 b1 a2 b2 (.inl rfl) (.inl rfl) ((mem_room.mp a3).2.symm.trans (mem_room.mp b3).2)
    · exact share_ps N h3 b1 a2 b2 (.inl rfl) (.inr rfl) ((mem_room.mp a3).2.symm.trans (mem_room.mp b3).2)
    · exact share_ps N h3 b1 a2 b2 (.inr rfl) (.inl rfl) ((mem_room.mp a3).2.symm.trans (mem_room.mp b3).2)
    · exact share_ps N h3 b1 a2 b2 (.inr rfl) (.inr rfl) ((mem_room.mp a3).2.symm.trans (mem_room.mp b3).2)
  · intro P
    have h := ps_share N P
    have ab := P.ab; have hb := P.hb
    have ha : a < n := by omega
    have hp := pd_lt hb
    refine List.mem_flatMap.mpr ⟨room n f (pd n b), mem_roomsL.mpr ⟨_, hp, rfl⟩, (mem_prs (armLow_sorted _)).mpr ⟨mem_armLow.mpr ⟨ha, P.la, ?_⟩, mem_armLow.mpr ⟨hb, P.lb, .inl (mem_room.mpr ⟨hp, .rfl⟩)⟩, ab⟩⟩
    split at h
    · exact .inl (mem_room.mpr ⟨pd_lt ha, h.symm⟩)
    · exact .inr (mem_room.mpr ⟨pd_lt (N.lt a ha), h.symm⟩)
theorem dueL_nodup (N : Nc n f) : (dueL n f).Nodup := by
  rw [dueL, List.nodup_iff_pairwise_ne, List.pairwise_flatMap]
  refine ⟨fun R _ => List.nodup_iff_pairwise_ne.mp (prs_nodup (armLow_sorted R)), ?_⟩
  refine (List.pairwise_iff_forall_sublist.mpr ?_)
  intro R S hs
  have hR : R ∈ roomsL n f := hs.subset (by simp)
  have hS : S ∈ roomsL n f := hs.subset (by simp)
  have ne : R ≠ S := by
    have := (roomsL_nodup (n := n) (f := f)).sublist hs
    simp at this
    exact this
  obtain ⟨u, hu, rfl⟩ := mem_roomsL.mp hR
  obtain ⟨v, hv, rfl⟩ := mem_roomsL.mp hS
  have bd : ∀ w c, c ∈ armLow n f (room n f w) → ∃ x, (x = pd n c ∨ x = pd n (f c)) ∧ Ns n f w x := fun w c hc => by
    obtain ⟨_, _, h | h⟩ := mem_armLow.mp hc
    · exact ⟨_, .inl rfl, (mem_room.mp h).2⟩
    · exact ⟨_, .inr rfl, (mem_room.mp h).2⟩
  intro x hx y hy exy
  subst exy
  obtain ⟨a, b⟩ := x
  obtain ⟨h1, h2, h3⟩ := (mem_prs (armLow_sorted _)).mp hx
  obtain ⟨k1, k2, k3⟩ := (mem_prs (armLow_sorted _)).mp hy
  obtain ⟨x1, y1, z1⟩ := bd u a h1
  obtain ⟨x2, y2, z2⟩ := bd u b h2
  obtain ⟨x3, y3, z3⟩ := bd v a k1
  obtain ⟨x4, y4, z4⟩ := bd v b k2
  obtain ⟨a1, a2, _⟩ := mem_armLow.mp h1
  obtain ⟨b1, b2, _⟩ := mem_armLow.mp h2
  have e1 := (share_at N h3 b1 a2 b2 y1 y2 (z1.symm.trans z2)).1
  have e2 := (share_at N h3 b1 a2 b2 y3 y4 (z3.symm.trans z4)).1
  rw [e1] at z2
  rw [e2] at z4
  exact ne (room_congr (z2.trans z4.symm))
end
end Mini
namespace Mini
/-- the arm behind a space -/
def armOf (n : Nat) (f : Nat → Nat) (u : Nat) : Nat × Nat := (min ((u + 1) % n) (f ((u + 1) % n)), max ((u + 1) % n) (f ((u + 1) % n)))
section
variable {n : Nat} {f : Nat → Nat}
theorem pd_succ {c : Nat} (h : c < n) : (pd n c + 1) % n = c := by
  unfold pd
  split
  · next e => rw [show n - 1 + 1 = n by omega, Nat.mod_self, e]
  · rw [show c - 1 + 1 = c by omega, Nat.mod_eq_of_lt h]
theorem succ_pd {u : Nat} (h : u < n) : pd n ((u + 1) % n) = u := by
  unfold pd
  by_cases e : u + 1 = n
  · rw [e, Nat.mod_self, if_pos rfl]; omega
  · rw [Nat.mod_eq_of_lt (by omega : u + 1 < n), if_neg (by omega)]; omega
theorem arms_perm (N : Nc n f) (he : n % 2 = 0) {u : Nat} (hu : u < n) : ((room n f u).map (armOf n f)).Perm ((armLow n f (room n f u)).map fun c => (c, f c)) := by
  refine perm_of ?_ ?_ fun x => ?_
  · rw [List.nodup_iff_pairwise_ne, List.pairwise_map]
    refine List.pairwise_iff_forall_sublist.mpr fun {a b} h => ?_
    have ha : a ∈ room n f u := h.subset (by simp)
    have hb : b ∈ room n f u := h.subset (by simp)
    have lt : a < b := List.rel_of_pairwise_cons ((room_sorted u).sublist h) (by simp)
    obtain ⟨a1, a2⟩ := mem_room.mp ha
    obtain ⟨b1, b2⟩ := mem_room.mp hb
    have pa := ns_par N he hu a1 a2
    have pb := ns_par N he hu b1 b2
    have m1 : (a + 1) % n = a + 1 := Nat.mod_eq_of_lt (by omega)
    have h2 : (b + 1) % n < n := Nat.mod_lt _ (by omega)
    have q2 := N.par ((b + 1) % n) h2
    have m2 : ((b + 1) % n) % 2 = (a + 1) % 2 ∧ (b + 1) % n ≠ a + 1 := by
      by_cases z : b + 1 = n
      · rw [z, Nat.mod_self]; omega
      · rw [Nat.mod_eq_of_lt (by omega : b + 1 < n)]; omega
    intro e
    simp only [armOf, Prod.mk.injEq, m1] at e
    omega
  · rw [List.nodup_iff_pairwise_ne, List.pairwise_map]
    exact (armLow_sorted _).imp fun h e => by simp at e; omega
  · simp only [List.mem_map]
    constructor
    · rintro ⟨w, hw, rfl⟩
      obtain ⟨w1, w2⟩ := mem_room.mp hw
      have hc : (w + 1) % n < n := Nat.mod_lt _ (by omega)
      have hf := N.lt _ hc
      have iv := N.inv _ hc
      have ne := N.toMt.ne hc
      have sp := succ_pd w1
      generalize (w + 1) % n = c at *
      have eo : armOf n f w = (min ((w + 1) % n) (f ((w + 1) % n)), max ((w + 1) % n) (f ((w + 1) % n))) := rfl
      rcases Nat.lt_or_ge c (f c) with z | z
      · exact ⟨c, mem_armLow.mpr ⟨hc, z, .inl (by rw [sp]; exact hw)⟩, by
          have : (w + 1) % n = c := by rw [← sp]; exact pd_succ hc
          rw [eo, this, Nat.min_eq_left (by omega), Nat.max_eq_right (by omega)]⟩
      · exact ⟨f c, mem_armLow.mpr ⟨hf, by rw [iv]; omega, .inr (by rw [iv, sp]; exact hw)⟩, by
          have : (w + 1) % n = c := by rw [← sp]; exact pd_succ hc
          rw [eo, this, iv, Nat.min_eq_right (by omega), Nat.max_eq_left (by omega)]⟩
    · rintro ⟨c, hc, rfl⟩
      obtain ⟨c1, c2, c3⟩ := mem_armLow.mp hc
      rcases c3 with c3 | c3
      · exact ⟨_, c3, by unfold armOf; rw [pd_succ c1, Nat.min_eq_left (by omega), Nat.max_eq_right (by omega)]⟩
      · exact ⟨_, c3, by unfold armOf; rw [pd_succ (N.lt c c1), N.inv c c1, Nat.min_eq_right (by omega), Nat.max_eq_left (by omega)]⟩
theorem armLow_len (N : Nc n f) (he : n % 2 = 0) {u : Nat} (hu : u < n) : (armLow n f (room n f u)).length = (room n f u).length := by
  have := (arms_perm N he hu).length_eq
  simp only [List.length_map] at this
  exact this.symm
theorem dueL_len (N : Nc n f) (he : n % 2 = 0) : 2 * (dueL n f).length = ((roomsL n f).map fun R => R.length * (R.length - 1)).sum := by
  have key : ∀ L : List (List Nat), (∀ R ∈ L, R ∈ roomsL n f) → 2 * (L.flatMap fun R => prs (armLow n f R)).length = (L.map fun R => R.length * (R.length - 1)).sum := by
    intro L
    induction L with
    | nil => intro _; rfl
    | cons R L ih =>
      intro h
      have ih := ih fun S hS => h S (by simp [hS])
      obtain ⟨u, hu, rfl⟩ := mem_roomsL.mp (h R (by simp))
      have := prs_len (armLow n f (room n f u))
      rw [armLow_len N he hu] at this
      simp only [List.flatMap_cons, List.length_append, List.map_cons, List.sum_cons]
      omega
  exact key _ fun _ h => h
/-- the areas hold every space once -/
theorem rooms_all : ((roomsL n f).flatten).Perm (List.range n) := by
  refine perm_of ?_ List.nodup_range fun x => ?_
  · rw [List.nodup_iff_pairwise_ne, List.pairwise_flatten]
    refine ⟨fun R hR => ?_, ?_⟩
    · obtain ⟨u, hu, rfl⟩ := mem_roomsL.mp hR
      exact List.nodup_iff_pairwise_ne.mp (room_nodup u)
    · refine List.pairwise_iff_forall_sublist.mpr fun {R S} h => ?_
      have hR : R ∈ roomsL n f := h.subset (by simp)
      have hS : S ∈ roomsL n f := h.subset (by simp)
      have ne : R ≠ S := by
        have := (roomsL_nodup (n := n) (f := f)).sublist h
        simp at this
        exact this
      obtain ⟨u, hu, rfl⟩ := mem_roomsL.mp hR
      obtain ⟨v, hv, rfl⟩ := mem_roomsL.mp hS
      intro x hx y hy e
      subst e
      exact ne (room_congr ((mem_room.mp hx).2.trans (mem_room.mp hy).2.symm))
  · rw [List.mem_flatten, List.mem_range]
    constructor
    · rintro ⟨R, hR, hx⟩
      obtain ⟨u, hu, rfl⟩ := mem_roomsL.mp hR
      exact (mem_room.mp hx).1
    · intro hx
      exact ⟨room n f x, mem_roomsL.mpr ⟨x, hx, rfl⟩, mem_room.mpr ⟨hx, .rfl⟩⟩
end
end Mini
namespace Mini
open PySem L2
/-! ### walk, areas -/
def orb (n : Nat) (f : Nat → Nat) (p k : Nat) : List Nat := (List.range k).map fun i => itr (nx n f) i p
theorem orb_succ (n : Nat) (f : Nat → Nat) (p k : Nat) : orb n f p (k + 1) = orb n f p k ++ [itr (nx n f) k p] := by simp [orb, List.range_succ]
theorem orb_srt {n : Nat} {f : Nat → Nat} (N : Nc n f) {p K : Nat} (hp : p < n) (P : Pn n f p K) : srt (orb n f p K) = room n f p := by
  refine srt_uniq (perm_of (room_nodup p) ?_ fun x => ?_) ((room_sorted p).imp fun h => Nat.le_of_lt h)
  · rw [orb, List.nodup_iff_pairwise_ne, List.pairwise_map]
    refine List.pairwise_iff_forall_sublist.mpr fun {a b} h => ?_
    have hb : b ∈ List.range K := h.subset (by simp)
    have lt : a < b := List.rel_of_pairwise_cons (List.pairwise_lt_range.sublist h) (by simp)
    exact P.ne N hp lt (List.mem_range.mp hb)
  · rw [mem_room]
    constructor
    · rintro ⟨h1, h2⟩
      obtain ⟨i, hi, e⟩ := (ns_iff N hp h1 P).mp h2
      exact List.mem_map.mpr ⟨i, List.mem_range.mpr hi, e⟩
    · intro h
      obtain ⟨i, hi, rfl⟩ := List.mem_map.mp h
      exact ⟨itr_nx_lt N hp i, itr_nx_ns N hp i⟩
theorem ix_head {H : Hd} {q : Nat} {xs : List D} {d : D} (e : H[q]? = some (.lst (d :: xs))) : ixP (.ref q) (.int 0) H = some (d, H) := by
  have a : atI (d :: xs) ((0 : Nat) : Int) = some d := atI_nat (by simp)
  have a' : atI (d :: xs) 0 = some d := a
  simp only [ixP, asS, asL, e, a']
theorem orb_cons (n : Nat) (f : Nat → Nat) (p k : Nat) : ∃ r, orb n f p (k + 1) = p :: r := ⟨_, by rw [orb, List.range_succ_eq_map, List.map_cons]; rfl⟩
theorem walk_ok {n : Nat} {A : List Nat} (x : Am n A) (l : Bool) {p : Nat} (hp : p < n) (h : Hd) : m_walk [ar l A, .int (p : Nat)] h = .ok (.tup (NI (room n (fn A) p))) h := by
  have N := x.toArr.Nc
  have few := x.few
  obtain ⟨K, P⟩ := Pn.ex N hp
  have hK := P.le
  have loop : ∃ X, whileM x_walk_t0 x_walk_w0 1000 [some (ar l A), some (.int (p : Nat)), some (.ref h.length)] (h ++ [.lst (NI (orb n (fn A) p 1))]) = .ok (.rt (.tup (NI (room n (fn A) p)))) (h ++ X) := by
    refine while_wp (Q := fun r => ∃ X, r = .ok (.rt (.tup (NI (room n (fn A) p)))) (h ++ X)) (fun m s H => ∃ k, k + 1 ≤ K ∧ m = K - (k + 1) ∧ s = [some (ar l A), some (.int (itr (nx n (fn A)) k p : Nat)), some (.ref h.length)] ∧ H = h ++ [.lst (NI (orb n (fn A) p (k + 1)))]) ?_ 1000 (K - 1) _ _ (by have := P.pos; omega) ⟨0, by have := P.pos; omega, rfl, rfl, rfl⟩
    rintro m s H ⟨k, hk, rfl, rfl, eH⟩
    right
    refine ⟨H, rfl, ?_⟩
    have lt := itr_nx_lt N hp k
    have e1 : e_op ixP (e_var 0) (e_op modP (e_op (addP false) (e_var 1) (e_c (D.int 1))) (e_call lenP (a_cons (e_var 0) a_nil))) [some (ar l A), some (.int (itr (nx n (fn A)) k p : Nat)), some (.ref h.length)] H = .ok (.int (itr (nx n (fn A)) (k + 1) p : Nat)) H := by
      refine op_ok var_ok (op_ok (op_ok var_ok c_ok (addP_int _ _ _ _)) (call_ok (a1_ok var_ok) (lenP_ar l A H)) (modP_int (by rw [x.len]; omega) H)) ?_
      rw [x.len, show ((itr (nx n (fn A)) k p : Nat) : Int) + 1 = ((itr (nx n (fn A)) k p + 1 : Nat) : Int) by omega, ← Int.natCast_emod]
      exact x.at (Nat.mod_lt _ (by omega)) H
    obtain ⟨r, er⟩ := orb_cons n (fn A) p k
    have e2 : ixP (.ref h.length) (.int 0) H = some (.int (p : Nat), H) := ix_head (xs := NI r) (by rw [eH, last_get, er]; rfl)
    have t : t_b (e_op (eqP false) (e_var 1) (e_op ixP (e_var 2) (e_c (D.int 0)))) [some (ar l A), some (.int (itr (nx n (fn A)) (k + 1) p : Nat)), some (.ref h.length)] H = .ok (decide (itr (nx n (fn A)) (k + 1) p = p)) H := b_ok (op_ok var_ok (op_ok var_ok c_ok e2) ((eqP_nat false _ _ H).trans (by simp only [Bool.false_eq_true, if_false])))
    by_cases q : k + 1 = K
    · right; right; right
      subst q
      rw [P.eq, decide_eq_true rfl] at t
      rw [P.eq] at e1
      have so : sortP false [.ref h.length] H = some (.lv (NI (room n (fn A) p)), H) := by
        rw [sort_N false (orb n (fn A) p (k + 1)) (by rw [eH]; simp only [asS, asL, last_get]), orb_srt N hp P]; rfl
      refine ⟨.tup (NI (room n (fn A) p)), H, ?_, [.lst (NI (orb n (fn A) p (k + 1)))], by rw [eH]⟩
      exact seq_then (set_ok e1) (seq_rt ((if_t t).trans (ret_ok (call_ok (a1_ok (call_ok (a1_ok var_ok) so)) tupleP_lv))))
    · left
      rw [decide_eq_false (P.mn (k + 1) (by omega) (by omega))] at t
      have ap : appendP (.ref h.length) [.int (itr (nx n (fn A)) (k + 1) p : Nat)] H = some (.non, h ++ [.lst (NI (orb n (fn A) p (k + 2)))]) := by
        rw [eH, app_last rfl (by rw [NI_len, orb, List.length_map, List.length_range]; exact Nat.lt_of_le_of_lt (show _ ≤ 1000 by omega) (by decide)), orb_succ n (fn A) p (k + 1), NI_app]; rfl
      exact ⟨_, h ++ [.lst (NI (orb n (fn A) p (k + 2)))], K - (k + 2), seq_then (set_ok e1) (seq_then (if_no t) (expr_ok (lm_ok var_ok (by rw [eH]; simp [lstTy, asL]) (a1_ok var_ok) ap))), by omega, k + 1, by omega, rfl, rfl, rfl⟩
  obtain ⟨X, e⟩ := loop
  refine fn_v (h' := X) [some (ar l A), some (.int (p : Nat)), none] ?_ (by simp only [noRef]; exact noRefs_map (α := Nat) _)
  exact seq_then (set_ok (lstM_ok (a1_ok var_ok) (by show 1 ≤ sizeLine; decide))) e
theorem NI_inj {a b : List Nat} (e : a.map (fun x => ((x : Nat) : Int)) = b.map fun x => ((x : Nat) : Int)) : a = b := List.map_inj_right (fun x y h => by omega) |>.mp e
theorem nat_lt_int : ∀ {a b : List Nat}, (a.map (fun x => ((x : Nat) : Int)) < b.map fun x => ((x : Nat) : Int)) ↔ a < b
  | [], [] => by simp
  | [], b :: bs => by simp
  | a :: as, [] => by simp
  | a :: as, b :: bs => by
    rw [List.map_cons, List.map_cons, List.cons_lt_cons_iff, List.cons_lt_cons_iff, nat_lt_int (a := as) (b := bs)]
    have e1 : ((a : Nat) : Int) < b ↔ a < b := by omega
    have e2 : ((a : Nat) : Int) = b ↔ a = b := by omega
    rw [e1, e2]
theorem tupsOf_TT : ∀ L : List (List Nat), tupsOf (TT L) = some (L.map fun r => r.map fun x => ((x : Nat) : Int))
  | [] => rfl
  | r :: L => by
    have h := tupsOf_TT L
    have e : TT (r :: L) = .tup (NI r) :: TT L := rfl
    rw [e, NI_I]
    simp only [tupsOf, intsOf_I, h, List.map_cons]
/-- sorted(set(..)) of tuples of numbers: any sorted list of the same ones -/
theorem sset_ok {L M : List (List Nat)} (hl : L.length < 64) (ne : ∀ r ∈ L, r ≠ []) (so : M.Pairwise (· < ·)) (hm : ∀ r, r ∈ M ↔ r ∈ L) (h : Hd) : ssetP false (.lv (TT L)) h = some (.lv (TT M), h) := by
  have e : setL (L.map fun r => r.map fun x => ((x : Nat) : Int)) = M.map fun r => r.map fun x => ((x : Nat) : Int) := by
    refine List.Perm.eq_of_pairwise (le := fun a b : List Int => ¬ b < a) (fun a b _ _ h1 h2 => List.le_antisymm (List.not_lt.mp h1) (List.not_lt.mp h2)) (setL_sorted _) ?_ ?_
    · rw [List.pairwise_map]
      exact so.imp fun h => by rw [nat_lt_int]; exact List.not_lt.mpr (List.le_of_lt h)
    · refine perm_of (setL_nodup _) ?_ fun x => ?_
      · rw [List.nodup_iff_pairwise_ne, List.pairwise_map]
        exact so.imp fun h e => by rw [NI_inj e] at h; exact List.lt_irrefl _ h
      · rw [mem_setL]
        simp only [List.mem_map, hm]
  simp only [ssetP, asL, tupsOf_TT, List.length_map]
  rw [if_pos ⟨hl, by
    rw [List.all_eq_true]
    intro a ha
    obtain ⟨r, hr, rfl⟩ := List.mem_map.mp ha
    have := ne r hr
    cases r with
    | nil => exact absurd rfl this
    | cons x r => rfl⟩, e]
  simp only [mkL, Bool.false_eq_true, if_false, TT, List.map_map]
  congr 3
  apply List.map_congr_left
  intro r _
  simp only [Function.comp, NI_I]
  rfl
theorem rangeL_map (n : Nat) : rangeL 0 n = (List.range n).map fun p => D.int ((p : Nat) : Int) := by
  rw [rangeL_eq, I, List.map_map]
  apply List.map_congr_left
  intro i _
  simp
theorem areas_ok {n : Nat} {A : List Nat} (x : Am n A) (hn : n < 64) (l : Bool) (h : Hd) : m_areas [ar l A] h = .ok (.lv (TT (roomsL n (fn A)))) h := by
  refine fn_rt' [some (ar l A), none] ?_ (by simp only [noRef]; exact noRefs_TT _)
  have e : e_lc [1] (i_rng1 (a_cons (e_call lenP (a_cons (e_var 0) a_nil)) a_nil)) (.nm 1) t_yes (e_own m_walk (a_cons (e_var 0) (a_cons (e_var 1) a_nil))) [some (ar l A), none] h = .ok (.lv (TT ((List.range n).map (room n (fn A))))) h := by
    refine lc_mto (List.range n) (fun p => D.int ((p : Nat) : Int)) (fun p => [some (ar l A), some (.int (p : Nat))]) (fun p => .tup (NI (room n (fn A) p))) ?_ (by simp; omega) (fun p hp => ⟨rfl, own_ok (acons_ok var_ok (acons_ok var_ok anil_ok)) (walk_ok x l (List.mem_range.mp hp) h)⟩) (by simp [TT])
    rw [← rangeL_map]
    exact rng_ok (n := n) (a1_ok (call_ok (a1_ok var_ok) (by rw [lenP_ar, x.len]))) (by omega)
  refine ret_ok ?_
  simp only [e_sset, e, bind_ok]
  rw [sset_ok (M := roomsL n (fn A)) (by simpa using hn) (fun r hr => ?_) roomsL_lex (fun r => ?_) h]
  · rfl
  · obtain ⟨p, hp, rfl⟩ := List.mem_map.mp hr
    intro z
    have := mem_room.mpr ⟨List.mem_range.mp hp, Ns.rfl (n := n) (f := fn A)⟩
    rw [z] at this
    simp at this
  · rw [mem_roomsL, List.mem_map]
    simp only [List.mem_range]
    exact ⟨fun ⟨p, h1, h2⟩ => ⟨p, h1, h2.symm⟩, fun ⟨p, h1, h2⟩ => ⟨p, h1, h2.symm⟩⟩
end Mini
namespace Mini
open PySem L2
theorem area_of_ok {n : Nat} {A : List Nat} (x : Am n A) (l : Bool) {p : Nat} (hp : p < n) (h : Hd) : m_area_of [ar l A, .int (p : Nat)] h = .ok (.tup (NI (room n (fn A) p))) h := by
  refine fn_rt' [some (ar l A), some (.int (p : Nat))] ?_ (by simp only [noRef]; exact noRefs_map (α := Nat) _)
  have c : t_b (e_chain leP ltP (e_c (D.int 0)) (e_var 1) (e_call lenP (a_cons (e_var 0) a_nil))) [some (ar l A), some (.int (p : Nat))] h = .ok true h := by
    refine b_ok ?_
    have l1 : leP (.int 0) (.int (p : Nat)) h = some (.bl true, h) := by simp [leP, cmpP]
    have l2 : ltP (.int (p : Nat)) (.int (n : Nat)) h = some (.bl true, h) := by rw [ltP_nat, decide_eq_true hp]
    have e2 : e_call lenP (a_cons (e_var 0) a_nil) [some (ar l A), some (.int (p : Nat))] h = .ok (.int (n : Nat)) h := call_ok (a1_ok var_ok) (by rw [lenP_ar, x.len])
    have v1 : e_var 1 [some (ar l A), some (.int (p : Nat))] h = .ok (.int (p : Nat)) h := var_ok
    simp only [e_chain, e_c, bind_ok, v1, l1, lift_some, e2, l2]
  exact seq_then (if_no (not_t c)) (ret_ok (own_ok (acons_ok var_ok (acons_ok var_ok anil_ok)) (walk_ok x l hp h)))
theorem PS_TT (M : List (Nat × Nat)) : PS M = TT (M.map fun r => [r.1, r.2]) := by
  rw [PS, TT, List.map_map]
  apply List.map_congr_left
  intro r _
  rfl
theorem room_arms_ok {n : Nat} {A : List Nat} (x : Am n A) (hn : n < 64) (he : n % 2 = 0) {u : Nat} (hu : u < n) (h : Hd) : m_law_room_arms [ar false A, .tup (NI (room n (fn A) u))] h = .ok (.lv (PS ((armLow n (fn A) (room n (fn A) u)).map fun c => (c, fn A c)))) h := by
  have N := x.toArr.Nc
  refine fn_rt' [some (ar false A), some (.tup (NI (room n (fn A) u))), none, none] ?_ (by simp only [noRef]; exact noRefs_map (α := Nat × Nat) _)
  have hl : (room n (fn A) u).length ≤ n := by
    have := nodup_le n _ (room_nodup (n := n) (f := fn A) u) fun y hy => (mem_room.mp hy).1
    exact this
  have e : e_lc [3] (i_seq (e_var 1)) (.nm 3) t_yes (e_call tupleP (a_cons (e_call (sortP false) (a_cons (e_lst false (a_cons (e_op modP (e_op (addP false) (e_var 3) (e_c (D.int 1))) (e_var 2)) (a_cons (e_op ixP (e_var 0) (e_op modP (e_op (addP false) (e_var 3) (e_c (D.int 1))) (e_var 2))) a_nil))) a_nil)) a_nil)) [some (ar false A), some (.tup (NI (room n (fn A) u))), some (.int (n : Nat)), none] h = .ok (.lv (PS ((room n (fn A) u).map (armOf n (fn A))))) h := by
    refine lc_mto (room n (fn A) u) (fun q => D.int ((q : Nat) : Int)) (fun q => [some (ar false A), some (.tup (NI (room n (fn A) u))), some (.int (n : Nat)), some (.int (q : Nat))]) (fun q => PR2 (armOf n (fn A) q)) (seq_tup var_ok) (by omega) (fun q hq => ⟨rfl, ?_⟩) (by rw [PS, List.map_map]; rfl)
    have md : e_op modP (e_op (addP false) (e_var 3) (e_c (D.int 1))) (e_var 2) [some (ar false A), some (.tup (NI (room n (fn A) u))), some (.int (n : Nat)), some (.int (q : Nat))] h = .ok (.int (((q + 1) % n : Nat) : Int)) h := by
      refine op_ok (op_ok var_ok c_ok (addP_int _ _ _ _)) var_ok ((modP_int (by omega) h).trans ?_)
      rw [show ((q : Nat) : Int) + 1 = ((q + 1 : Nat) : Int) by omega, ← Int.natCast_emod]
    have hc : (q + 1) % n < n := Nat.mod_lt _ (by omega)
    have so := sort_lv false [(q + 1) % n, fn A ((q + 1) % n)] h
    have sr : srt [(q + 1) % n, fn A ((q + 1) % n)] = [(armOf n (fn A) q).1, (armOf n (fn A) q).2] := by
      refine srt_uniq ?_ (by simp [armOf]; omega)
      simp only [armOf]
      rcases Nat.le_total ((q + 1) % n) (fn A ((q + 1) % n)) with z | z
      · rw [Nat.min_eq_left z, Nat.max_eq_right z]
      · rw [Nat.min_eq_right z, Nat.max_eq_left z]; exact .swap _ _ _
    rw [sr] at so
    exact call_ok (a1_ok (call_ok (a1_ok (lst_ok (acons_ok md (acons_ok (op_ok var_ok md (x.at hc h)) anil_ok)) two_sz)) (so.trans rfl))) tupleP_lv
  refine seq_then (set_ok (call_ok (a1_ok var_ok) (by rw [lenP_ar, x.len]))) (ret_ok ?_)
  have e' := e
  rw [PS_TT] at e'
  have ss := sset_ok (L := ((room n (fn A) u).map (armOf n (fn A))).map fun r => [r.1, r.2]) (M := ((armLow n (fn A) (room n (fn A) u)).map fun c => (c, fn A c)).map fun r => [r.1, r.2]) (by simp; omega) (fun r hr => by obtain ⟨_, _, rfl⟩ := List.mem_map.mp hr; simp) (by
    rw [List.pairwise_map, List.pairwise_map]
    exact (armLow_sorted _).imp fun h => List.cons_lt_cons_iff.mpr (.inl h)) (fun r => ((arms_perm N he hu).map fun r => [r.1, r.2]).mem_iff.symm) h
  rw [PS_TT]
  show (e_lc _ _ _ _ _ _ _).bind _ = _
  exact (congrArg (fun z => Res.bind z _) e').trans (by simp only [bind_ok, ss, lift_some])
end Mini
namespace Mini
open PySem L2
/-! ### sorted of pairs -/
theorem PS_T2 (L : List (Nat × Nat)) : PS L = T2 (L.map fun p => [((p.1 : Nat) : Int), ((p.2 : Nat) : Int)]) := by simp [PS, T2, I]
theorem lt_two {a b c d : Int} : [a, b] < [c, d] ↔ a < c ∨ (a = c ∧ b < d) := by
  rw [List.cons_lt_cons_iff, List.cons_lt_cons_iff]
  simp
theorem sort_pairs (m : Bool) {L M : List (Nat × Nat)} (pm : L.Perm M) (so : L.Pairwise fun p q => p.1 < q.1 ∨ (p.1 = q.1 ∧ p.2 ≤ q.2)) {x : D} {h : Hd} (hx : asS x h = some (PS M)) : sortP m [x] h = mkL m (PS L) h := by
  rw [PS_T2] at hx ⊢
  refine sort_tups m (pm.map _) ?_ (fun a ha => ?_) hx
  · rw [List.pairwise_map]
    refine so.imp fun {p q} e z => ?_
    rw [lt_two] at z
    omega
  · obtain ⟨p, _, rfl⟩ := List.mem_map.mp ha
    simp
end Mini
namespace Mini
def row (L : List Nat) (i : Nat) : List (Nat × Nat) := (L.drop (i + 1)).map fun y => (L.getD i 0, y)
theorem prs_rows : ∀ L : List Nat, prs L = (List.range L.length).flatMap (row L)
  | [] => rfl
  | x :: L => by
    rw [prs, prs_rows L, List.length_cons, List.range_succ_eq_map, List.flatMap_cons, List.flatMap_map]
    congr 1
end Mini
namespace Mini
open PySem L2
/-! ### the exchanges that the areas tell -/
theorem row_len (L : List Nat) (i : Nat) : (row L i).length ≤ L.length := by unfold row; rw [List.length_map, List.length_drop]; omega
theorem rows_len (L : List Nat) : ∀ i, ((List.range i).flatMap (row L)).length ≤ i * L.length
  | 0 => by simp
  | i + 1 => by
    have := rows_len L i
    have := row_len L i
    rw [List.range_succ, List.flatMap_append, List.length_append, Nat.succ_mul]
    simp only [List.flatMap_cons, List.flatMap_nil, List.append_nil]
    omega
/-- the loop over the lesser people of an area -/
theorem due_rows (L : List Nat) (hL : L.length ≤ 100) (acc : List (Nat × Nat)) (hacc : acc.length ≤ 1000000) (h : Hd) (s0 s1 s3 : Option D) (v5 v6 : Option D) : ∃ v5' v6', forM (.tp [(.nm 5), (.nm 6)]) x_law_swaps_due_f0 (enumL 0 (NI L)) [s0, s1, some (.ref h.length), s3, some (.lv (NI L)), v5, v6, none, none] (h ++ [.lst (PS acc)]) = .ok (.nx [s0, s1, some (.ref h.length), s3, some (.lv (NI L)), v5', v6', none, none]) (h ++ [.lst (PS (acc ++ prs L))]) := by
  refine for_wp (Q := fun r => ∃ v5' v6', r = .ok (.nx [s0, s1, some (.ref h.length), s3, some (.lv (NI L)), v5', v6', none, none]) (h ++ [.lst (PS (acc ++ prs L))])) (fun i s H => i ≤ L.length ∧ H = h ++ [.lst (PS (acc ++ (List.range i).flatMap (row L)))] ∧ ∃ v5 v6, s = [s0, s1, some (.ref h.length), s3, some (.lv (NI L)), v5, v6, none, none]) _ _ (h ++ [.lst (PS acc)]) ⟨by omega, by simp, v5, v6, rfl⟩ ?_ ?_
  · rintro i d s H hd ⟨_, rfl, v5, v6, rfl⟩
    rw [show NI L = L.map (fun x : Nat => D.int ((x : Nat) : Int)) from rfl, enumL_map _ 0] at hd
    rw [List.getElem?_map] at hd
    have hi : i < L.length := by
      rcases Nat.lt_or_ge i L.length with q | q
      · exact q
      · rw [List.getElem?_eq_none (by simpa using q)] at hd; cases hd
    rw [List.getElem?_range hi] at hd
    simp only [Option.map_some, Option.some.injEq] at hd
    subst hd
    generalize ha : L.getD i 0 = a
    have rl := row_len L i
    have rs := rows_len L i
    have sq : i * L.length ≤ 100 * 100 := Nat.mul_le_mul (by omega) hL
    have lc : e_lc [8] (i_seq (e_slice false (e_var 4) (o_some (e_op (addP false) (e_var 5) (e_c (D.int 1)))) o_none)) (.nm 8) t_yes (e_tup (a_cons (e_var 6) (a_cons (e_var 8) a_nil))) [s0, s1, some (.ref h.length), s3, some (.lv (NI L)), some (.int (i : Nat)), some (.int (a : Nat)), none, none] (h ++ [.lst (PS (acc ++ (List.range i).flatMap (row L)))]) = .ok (.lv (PS (row L i))) (h ++ [.lst (PS (acc ++ (List.range i).flatMap (row L)))]) := by
      refine lc_mto (L.drop (i + 1)) (fun b : Nat => D.int ((b : Nat) : Int)) (fun b => [s0, s1, some (.ref h.length), s3, some (.lv (NI L)), some (.int (i : Nat)), some (.int (a : Nat)), none, some (.int (b : Nat))]) (fun b => PR2 (a, b)) ?_ (by rw [List.length_drop]; omega) (fun b hb => ⟨rfl, tup_ok (acons_ok var_ok (acons_ok var_ok anil_ok)) two_sz⟩) ?_
      · refine seq_lv (slice_ok var_ok (osome_ok (op_ok var_ok c_ok (addP_int _ _ _ _))) onone_ok ?_)
        simp only [slP, asL, mkL, Bool.false_eq_true, if_false]
        rw [show ((i : Nat) : Int) + 1 = ((i + 1 : Nat) : Int) by omega, cut_from, NI, ← List.map_drop]
      · simp only [row, PS, ha, List.map_map, Function.comp_def]
    have e : extP (.ref h.length) [.lv (PS (row L i))] (h ++ [.lst (PS (acc ++ (List.range i).flatMap (row L)))]) = some (.non, h ++ [.lst (PS (acc ++ (List.range (i + 1)).flatMap (row L)))]) := by
      have c : (PS (acc ++ (List.range i).flatMap (row L))).length + (PS (row L i)).length ≤ sizeLine := Nat.le_trans (show _ ≤ 1020000 by rw [PS_len, PS_len, List.length_append]; omega) (by decide)
      have nr : noRefs (PS (row L i)) = true := noRefs_map (α := Nat × Nat) _
      simp only [extP, last_get, asV, notFl, nr, Bool.true_and, decide_eq_true c, if_true, set_last]
      rw [List.range_succ, List.flatMap_append]
      simp [PS]
    exact ⟨[s0, s1, some (.ref h.length), s3, some (.lv (NI L)), some (.int (i : Nat)), some (.int (a : Nat)), none, none], patD_two 5 6 _ _ _, .inl ⟨_, _, expr_ok (lm_ok var_ok (by simp [lstTy, asL]) (a1_ok lc) e), by omega, rfl, _, _, rfl⟩⟩
  · rintro s H ⟨_, rfl, v5, v6, rfl⟩
    refine ⟨v5, v6, ?_⟩
    rw [prs_rows, enumL_length, NI_len]
theorem exL_due {n : Nat} {A : List Nat} (x : Am n A) : (exL A).Perm (dueL n (fn A)) := by
  refine perm_of ?_ (dueL_nodup x.toArr.Nc) fun r => ?_
  · rw [List.nodup_iff_pairwise_ne]
    exact (exL_lex A).imp fun h e => by subst e; simp only [lexlt] at h; omega
  · obtain ⟨a, b⟩ := r
    rw [mem_exPs x.toArr, mem_dueL x.toArr.Nc]
theorem swaps_due_ok {n : Nat} {A : List Nat} (x : Am n A) (hn : n < 64) (he : n % 2 = 0) (h : Hd) : m_law_swaps_due [ar false A, .lv (TT (roomsL n (fn A)))] h = .ok (.lv (PS (exL A))) h := by
  have N := x.toArr.Nc
  have dl : (dueL n (fn A)).length ≤ 10000 := by rw [← (exL_due x).length_eq]; exact exL_len x
  have loop : ∃ v3 v4 v5 v6, forM (.nm 3) x_law_swaps_due_f1 (TT (roomsL n (fn A))) [some (ar false A), some (.lv (TT (roomsL n (fn A)))), some (.ref h.length), none, none, none, none, none, none] (h ++ [.lst (PS [])]) = .ok (.nx [some (ar false A), some (.lv (TT (roomsL n (fn A)))), some (.ref h.length), v3, v4, v5, v6, none, none]) (h ++ [.lst (PS (dueL n (fn A)))]) := by
    refine for_wp (Q := fun r => ∃ v3 v4 v5 v6, r = .ok (.nx [some (ar false A), some (.lv (TT (roomsL n (fn A)))), some (.ref h.length), v3, v4, v5, v6, none, none]) (h ++ [.lst (PS (dueL n (fn A)))])) (fun i s H => H = h ++ [.lst (PS (((roomsL n (fn A)).take i).flatMap fun R => prs (armLow n (fn A) R)))] ∧ ∃ v3 v4 v5 v6, s = [some (ar false A), some (.lv (TT (roomsL n (fn A)))), some (.ref h.length), v3, v4, v5, v6, none, none]) _ _ (h ++ [.lst (PS [])]) ⟨rfl, none, none, none, none, rfl⟩ ?_ ?_
    · rintro i d s H hd ⟨rfl, v3, v4, v5, v6, rfl⟩
      rw [TT, List.getElem?_map] at hd
      have hi : i < (roomsL n (fn A)).length := by
        rcases Nat.lt_or_ge i (roomsL n (fn A)).length with q | q
        · exact q
        · rw [List.getElem?_eq_none q] at hd; cases hd
      rw [List.getElem?_eq_getElem hi] at hd
      simp only [Option.map_some, Option.some.injEq] at hd
      subst hd
      obtain ⟨u, hu, eu⟩ := mem_roomsL.mp (List.getElem_mem hi)
      have et : (roomsL n (fn A)).take (i + 1) = (roomsL n (fn A)).take i ++ [room n (fn A) u] := by rw [List.take_succ_eq_append_getElem hi, eu]
      have al : (armLow n (fn A) (room n (fn A) u)).length ≤ n := by
        refine nodup_le n _ ((armLow_sorted _).imp fun h => Nat.ne_of_lt h) fun y hy => (mem_armLow.mp hy).1
      have acl : (((roomsL n (fn A)).take i).flatMap fun R => prs (armLow n (fn A) R)).length ≤ 1000000 := by
        have e : dueL n (fn A) = (((roomsL n (fn A)).take i).flatMap fun R => prs (armLow n (fn A) R)) ++ (((roomsL n (fn A)).drop i).flatMap fun R => prs (armLow n (fn A) R)) := by
          rw [← List.flatMap_append, List.take_append_drop]; rfl
        have := congrArg List.length e
        rw [List.length_append] at this
        omega
      rw [eu, et, List.flatMap_append]
      obtain ⟨v5', v6', er⟩ := due_rows (armLow n (fn A) (room n (fn A) u)) (by omega) (((roomsL n (fn A)).take i).flatMap fun R => prs (armLow n (fn A) R)) acl h (some (ar false A)) (some (.lv (TT (roomsL n (fn A))))) (some (.tup (NI (room n (fn A) u)))) v5 v6
      refine ⟨[some (ar false A), some (.lv (TT (roomsL n (fn A)))), some (.ref h.length), some (.tup (NI (room n (fn A) u))), v4, v5, v6, none, none], rfl, .inl ⟨_, _, seq_then (set_ok (lc_mto (ys := NI (armLow n (fn A) (room n (fn A) u))) ((armLow n (fn A) (room n (fn A) u)).map fun c => (c, fn A c)) PR2 (fun r => [some (ar false A), some (.lv (TT (roomsL n (fn A)))), some (.ref h.length), some (.tup (NI (room n (fn A) u))), v4, v5, v6, some (PR2 r), none]) (fun r => .int (r.1 : Nat)) (seq_lv (own_ok (acons_ok var_ok (acons_ok var_ok anil_ok)) (room_arms_ok x hn he hu _))) (by rw [List.length_map]; omega) (fun r _ => ⟨rfl, op_ok var_ok c_ok rfl⟩) (by rw [List.map_map]; rfl))) ((for_ok (enum_ok (l := true) (a1_ok var_ok) rfl)).trans er), ?_, _, _, _, _, rfl⟩⟩
      simp
    · rintro s H ⟨rfl, v3, v4, v5, v6, rfl⟩
      refine ⟨v3, v4, v5, v6, ?_⟩
      rw [TT, List.length_map, List.take_of_length_le (Nat.le_refl _)]
      rfl
  obtain ⟨v3, v4, v5, v6, e⟩ := loop
  refine fn_v (h' := [.lst (PS (dueL n (fn A)))]) [some (ar false A), some (.lv (TT (roomsL n (fn A)))), none, none, none, none, none, none, none] ?_ (by simp only [noRef]; exact noRefs_map (α := Nat × Nat) _)
  have so : sortP false [.ref h.length] (h ++ [.lst (PS (dueL n (fn A)))]) = some (.lv (PS (exL A)), h ++ [.lst (PS (dueL n (fn A)))]) := by
    rw [sort_pairs false (exL_due x) ((exL_lex A).imp fun h => by simp only [lexlt] at h; omega) (by simp only [asS, asL, last_get])]; rfl
  exact seq_then (set_ok (lstM_ok anil_ok (Nat.zero_le _))) (seq_then ((for_ok (seq_lv var_ok)).trans e) (ret_ok (call_ok (a1_ok var_ok) so)))
end Mini
namespace Mini
open PySem L2
theorem is_number_int (i : Int) (h : Hd) : m_is_number [.int i] h = .ok (.bl true) h := by
  refine fn_rt' [some (.int i)] ?_ rfl
  exact ret_ok ((eand_t (isi_ok var_ok rfl rfl)).trans (enot_f (isi_ok var_ok rfl rfl)))
end Mini
namespace Mini
open PySem L2
/-! ### is_arrangement of an arrangement -/
theorem for_all {p : Pat} {b : SF} {α : Type} (mk : α → D) (st : α → Ev) {s0 : Ev} {h : Hd} (Inv : Ev → Prop) : ∀ (L : List α) (s : Ev), Inv s → (∀ x ∈ L, ∀ s, Inv s → ∃ s1 s2, patD p (mk x) s = some s1 ∧ b s1 h = .ok (.nx s2) h ∧ Inv s2) → ∃ s', Inv s' ∧ forM p b (L.map mk) s h = .ok (.nx s') h
  | [], s, i, _ => ⟨s, i, rfl⟩
  | x :: L, s, i, hp => by
    obtain ⟨s1, s2, e1, e2, i2⟩ := hp x (by simp) s i
    obtain ⟨s', i', e⟩ := for_all mk st (s0 := s0) Inv L s2 i2 fun y hy => hp y (by simp [hy])
    exact ⟨s', i', for_cons e1 e2 e⟩
theorem is_paired_ok {n : Nat} {A : List Nat} (x : Am n A) (h : Hd) : m_is_paired [ar false A] h = .ok (.bl true) h := by
  have hn := x.len
  have few := x.few
  have N := x.toArr.Nc
  have loop : ∃ s', (∃ v1 v2, s' = [some (ar false A), v1, v2]) ∧ forM (.tp [(.nm 1), (.nm 2)]) x_is_paired_f0 ((List.range A.length).map fun p => D.tup [.int ((p : Nat) : Int), .int ((fn A p : Nat) : Int)]) [some (ar false A), none, none] h = .ok (.nx s') h := by
    refine for_all _ (fun _ => []) (s0 := []) (fun s => ∃ v1 v2, s = [some (ar false A), v1, v2]) _ _ ⟨none, none, rfl⟩ ?_
    rintro p hp s ⟨v1, v2, rfl⟩
    have hp : p < n := by have := List.mem_range.mp hp; omega
    refine ⟨_, [some (ar false A), some (.int (p : Nat)), some (.int (fn A p : Nat))], patD_two 1 2 _ _ _, ?_, _, _, rfl⟩
    have lt := N.lt p hp
    have c := chain_ok (s := [some (ar false A), some (.int (p : Nat)), some (.int (fn A p : Nat))]) (h := h) c_ok (var_ok (i := 2)) (call_ok (a1_ok (var_ok (i := 0))) (lenP_ar false A h)) (zero_ge (fn A p) h) (ltP_nat (fn A p) A.length h)
    rw [show (decide (0 ≤ (fn A p : Int)) && decide (fn A p < A.length)) = true by rw [decide_eq_true (by omega), decide_eq_true (by omega)]; rfl] at c
    exact if_no ((or_f (not_t (tru_ok (own_ok (a1_ok var_ok) (is_number_int _ h))))).trans ((or_f (not_t (b_ok c))).trans (b_ok (op_ok var_ok var_ok ((eqP_nat false _ _ h).trans (by rw [decide_eq_false (N.toMt.ne hp)]; rfl))))))
  obtain ⟨s', ⟨v1, v2, rfl⟩, e⟩ := loop
  have lc : e_lc [1, 2] (i_enum (a_cons (e_var 0) a_nil)) (.tp [(.nm 1), (.nm 2)]) t_yes (e_op (eqP false) (e_op ixP (e_var 0) (e_var 2)) (e_var 1)) [some (ar false A), v1, v2] h = .ok (.lv ((List.replicate n true).map D.bl)) h := by
    refine lc_mto (List.range A.length) (fun p => D.tup [.int ((p : Nat) : Int), .int ((fn A p : Nat) : Int)]) (fun p => [some (ar false A), some (.int (p : Nat)), some (.int (fn A p : Nat))]) (fun _ => .bl true) (enum_ar (a1_ok var_ok)) (by simp; omega) (fun p hp => ?_) ?_
    · have hp : p < n := by have := List.mem_range.mp hp; omega
      exact ⟨rfl, op_ok (op_ok var_ok var_ok (x.at (N.lt p hp) h)) var_ok ((eqP_nat false _ _ h).trans (by rw [decide_eq_true (N.inv p hp)]; rfl))⟩
    · rw [hn]; apply List.ext_getElem?; intro i; simp [List.getElem?_replicate, List.getElem?_range]
      rcases Nat.lt_or_ge i n with q | q <;> simp [q]
  refine fn_rt' [some (ar false A), none, none] ?_ rfl
  exact seq_then ((for_ok (enum_ar (a1_ok var_ok))).trans e) (ret_ok (call_ok (a1_ok lc) ((all_B _ h).trans (by simp))))
theorem are_crossed_ok {n : Nat} {A : List Nat} (x : Am n A) (h : Hd) : m_are_crossed [.lv (PS (armsL A))] h = .ok (.bl false) h := by
  have hn := x.len
  have few := x.few
  have N := x.toArr.Nc
  have al := armsL_len A
  have pw : (armsL A).Pairwise (fun r q => crs r q = false) := by
    unfold armsL
    rw [List.pairwise_map]
    refine List.Pairwise.imp_of_mem (R := (· < ·)) ?_ (lessL_lt A)
    intro p q hp hq lt
    have hp := mem_lessL.mp hp
    have hq := mem_lessL.mp hq
    rw [crs_false]
    have : q ≠ fn A p := fun e => by have := N.toMt.flip (show p < n by omega) e.symm; omega
    exact N.nc p q (by omega) (by omega) (by omega) this
  have loop : ∃ s', (∃ v1 v2 v3, s' = [some (.lv (PS (armsL A))), v1, v2, v3]) ∧ forM (.tp [(.nm 1), (.nm 2)]) x_are_crossed_f0 ((List.range (armsL A).length).map fun p => D.tup [.int ((p : Nat) : Int), PR2 ((armsL A).getD p (0, 0))]) [some (.lv (PS (armsL A))), none, none, none] h = .ok (.nx s') h := by
    refine for_all _ (fun _ => []) (s0 := []) (fun s => ∃ v1 v2 v3, s = [some (.lv (PS (armsL A))), v1, v2, v3]) _ _ ⟨none, none, none, rfl⟩ ?_
    rintro i hi s ⟨v1, v2, v3, rfl⟩
    have hi := List.mem_range.mp hi
    refine ⟨_, [some (.lv (PS (armsL A))), some (.int (i : Nat)), some (PR2 ((armsL A).getD i (0, 0))), v3], patD_two 1 2 _ _ _, ?_, _, _, _, rfl⟩
    have lc : e_lc [3] (i_seq (e_slice false (e_var 0) (o_some (e_op (addP false) (e_var 1) (e_c (D.int 1)))) o_none)) (.nm 3) t_yes (e_own m_cross (a_cons (e_var 2) (a_cons (e_var 3) a_nil))) [some (.lv (PS (armsL A))), some (.int (i : Nat)), some (PR2 ((armsL A).getD i (0, 0))), v3] h = .ok (.lv ((((armsL A).drop (i + 1)).map fun q => crs ((armsL A).getD i (0, 0)) q).map D.bl)) h := by
      refine lc_mto ((armsL A).drop (i + 1)) PR2 (fun q => [some (.lv (PS (armsL A))), some (.int (i : Nat)), some (PR2 ((armsL A).getD i (0, 0))), some (PR2 q)]) (fun q => .bl (crs ((armsL A).getD i (0, 0)) q)) ?_ (by rw [List.length_drop]; omega) (fun q _ => ⟨rfl, own_ok (acons_ok var_ok (acons_ok var_ok anil_ok)) (cross_ok _ _ h)⟩) (by rw [List.map_map]; rfl)
      refine seq_lv (slice_ok var_ok (osome_ok (op_ok var_ok c_ok (addP_int _ _ _ _))) onone_ok ?_)
      simp only [slP, asL, mkL, Bool.false_eq_true, if_false]
      rw [show ((i : Nat) : Int) + 1 = ((i + 1 : Nat) : Int) by omega, cut_from, PS_map, ← List.map_drop]
    refine if_no (tru_ok (call_ok (a1_ok lc) ((any_B _ h).trans ?_)))
    congr 3
    rw [List.any_eq_false]
    intro b hb
    obtain ⟨q, hq, rfl⟩ := List.mem_map.mp hb
    rw [List.pairwise_iff_getElem] at pw
    obtain ⟨j, hj, rfl⟩ := List.getElem_of_mem hq
    rw [List.length_drop] at hj
    have := pw i (i + 1 + j) hi (by omega) (by omega)
    simp only [id, Bool.not_eq_true]
    rw [List.getElem_drop, List.getD_eq_getElem?_getD, List.getElem?_eq_getElem hi]
    exact this
  obtain ⟨s', ⟨v1, v2, v3, rfl⟩, e⟩ := loop
  refine fn_rt' [some (.lv (PS (armsL A))), none, none, none] ?_ rfl
  rw [← enumL_map PR2 (0, 0), ← PS_map] at e
  exact seq_then ((for_ok (enum_ok (a1_ok var_ok) rfl)).trans e) (ret_ok c_ok)
theorem is_arrangement_ok {n : Nat} {A : List Nat} (x : Am n A) (h : Hd) : m_is_arrangement [ar false A] h = .ok (.bl true) h := by
  refine fn_rt' [some (ar false A)] ?_ rfl
  exact ret_ok ((eand_t (isi_ok var_ok rfl rfl)).trans ((eand_t (own_ok (a1_ok var_ok) (is_paired_ok x h))).trans (enot_f (own_ok (a1_ok (own_ok (a1_ok var_ok) (arms_ok false A x.al h))) (are_crossed_ok x h)))))
end Mini
namespace Mini
open PySem L2
/-! ### by_areas makes the arrangement anew -/
theorem room_rot {n : Nat} {f : Nat → Nat} (N : Nc n f) (u : Nat) : (room n f u).tail ++ (room n f u).take 1 = (room n f u).map (nx n f) := by
  apply List.ext_getElem?
  intro i
  by_cases hi : i < (room n f u).length
  · rw [room_next N hi, List.getElem?_map, List.getElem?_eq_getElem hi]; rfl
  · rw [List.getElem?_eq_none, List.getElem?_eq_none]
    · rw [List.length_map]; omega
    · rw [List.length_append, List.length_tail, List.length_take]; omega
theorem zipL_map (g : Nat → Nat) : ∀ R : List Nat, zipL (NI R) (NI (R.map g)) = R.map fun p => PR2 (p, g p)
  | [] => rfl
  | p :: R => by
    have := zipL_map g R
    simp only [NI, List.map_cons, zipL] at this ⊢
    rw [this]
def putAll (n : Nat) (f : Nat → Nat) (R : List Nat) (F : List Nat) : List Nat := R.foldl (fun F p => F.set ((p + 1) % n) (f ((p + 1) % n))) F
theorem putAll_len {n : Nat} {f : Nat → Nat} : ∀ (R F : List Nat), (putAll n f R F).length = F.length
  | [], F => rfl
  | p :: R, F => by
    show (putAll n f R (F.set ((p + 1) % n) (f ((p + 1) % n)))).length = F.length
    rw [putAll_len R, List.length_set]
theorem putAll_at {n : Nat} {f : Nat → Nat} {j : Nat} : ∀ (R F : List Nat), j < F.length → (putAll n f R F).getD j 0 = if (∃ p ∈ R, (p + 1) % n = j) then f j else F.getD j 0
  | [], F, h => by simp [putAll]
  | p :: R, F, h => by
    show (putAll n f R (F.set ((p + 1) % n) (f ((p + 1) % n)))).getD j 0 = _
    rw [putAll_at R _ (by rw [List.length_set]; exact h)]
    by_cases q : ∃ p ∈ R, (p + 1) % n = j
    · rw [if_pos q, if_pos (by obtain ⟨p', a, b⟩ := q; exact ⟨p', by simp [a], b⟩)]
    · rw [if_neg q]
      by_cases e : (p + 1) % n = j
      · rw [if_pos ⟨p, by simp, e⟩, e]
        simp [List.getD_eq_getElem?_getD, h]
      · rw [if_neg (fun ⟨p', a, b⟩ => by
          rcases List.mem_cons.mp a with rfl | a
          · exact e b
          · exact q ⟨p', a, b⟩)]
        simp [List.getD_eq_getElem?_getD, List.getElem?_set_ne e]
theorem putAll_app {n : Nat} {f : Nat → Nat} (R S F : List Nat) : putAll n f (R ++ S) F = putAll n f S (putAll n f R F) := by simp [putAll]
theorem area_loop {n : Nat} {f : Nat → Nat} (N : Nc n f) (u : Nat) (F : List Nat) (hF : F.length = n) (hn : n < 1000) (h : Hd) (s1 s2 v5 v6 : Option D) : ∃ v5' v6', forM (.tp [(.nm 5), (.nm 6)]) x_by_areas_f0 (zipL (NI (room n f u)) (NI ((room n f u).map (nx n f)))) [some (.int (n : Nat)), s1, s2, some (.ref h.length), some (.tup (NI (room n f u))), v5, v6] (h ++ [.lst (NI F)]) = .ok (.nx [some (.int (n : Nat)), s1, s2, some (.ref h.length), some (.tup (NI (room n f u))), v5', v6']) (h ++ [.lst (NI (putAll n f (room n f u) F))]) := by
  rw [zipL_map]
  refine for_wp (Q := fun r => ∃ v5' v6', r = .ok (.nx [some (.int (n : Nat)), s1, s2, some (.ref h.length), some (.tup (NI (room n f u))), v5', v6']) (h ++ [.lst (NI (putAll n f (room n f u) F))])) (fun i s H => H = h ++ [.lst (NI (putAll n f ((room n f u).take i) F))] ∧ ∃ v5 v6, s = [some (.int (n : Nat)), s1, s2, some (.ref h.length), some (.tup (NI (room n f u))), v5, v6]) _ _ (h ++ [.lst (NI F)]) ⟨rfl, v5, v6, rfl⟩ ?_ ?_
  · rintro i d s H hd ⟨rfl, v5, v6, rfl⟩
    rw [List.getElem?_map] at hd
    have hi : i < (room n f u).length := by
      rcases Nat.lt_or_ge i (room n f u).length with q | q
      · exact q
      · rw [List.getElem?_eq_none q] at hd; cases hd
    rw [List.getElem?_eq_getElem hi] at hd
    simp only [Option.map_some, Option.some.injEq] at hd
    subst hd
    generalize ep : (room n f u)[i] = p
    have mp : p ∈ room n f u := ep ▸ List.getElem_mem hi
    have hp := (mem_room.mp mp).1
    have hc : (p + 1) % n < n := Nat.mod_lt _ (by omega)
    rw [List.take_succ_eq_append_getElem hi, ep, putAll_app]
    have st := setP_N (v := nx n f p) (last_get h (.lst (NI (putAll n f ((room n f u).take i) F)))) (show (p + 1) % n < (putAll n f ((room n f u).take i) F).length by rw [putAll_len, hF]; exact hc)
    rw [set_last] at st
    refine ⟨[some (.int (n : Nat)), s1, s2, some (.ref h.length), some (.tup (NI (room n f u))), some (.int (p : Nat)), some (.int (nx n f p : Nat))], patD_two 5 6 _ _ _, .inl ⟨[some (.int (n : Nat)), s1, s2, some (.ref h.length), some (.tup (NI (room n f u))), some (.int (p : Nat)), some (.int (nx n f p : Nat))], h ++ [.lst (NI ((putAll n f ((room n f u).take i) F).set ((p + 1) % n) (nx n f p)))], asgT_ok var_ok ?_, rfl, some (.int (p : Nat)), some (.int (nx n f p : Nat)), rfl⟩⟩
    have md : e_op modP (e_op (addP false) (e_var 5) (e_c (D.int 1))) (e_var 0) [some (.int (n : Nat)), s1, s2, some (.ref h.length), some (.tup (NI (room n f u))), some (.int (p : Nat)), some (.int (nx n f p : Nat))] (h ++ [.lst (NI (putAll n f ((room n f u).take i) F))]) = .ok (.int (((p + 1) % n : Nat) : Int)) (h ++ [.lst (NI (putAll n f ((room n f u).take i) F))]) := by
      refine op_ok (op_ok var_ok c_ok (addP_int _ _ _ _)) var_ok ((modP_int (by omega) _).trans ?_)
      rw [show ((p : Nat) : Int) + 1 = ((p + 1 : Nat) : Int) by omega, ← Int.natCast_emod]
    have v3 : e_var 3 [some (.int (n : Nat)), s1, s2, some (.ref h.length), some (.tup (NI (room n f u))), some (.int (p : Nat)), some (.int (nx n f p : Nat))] (h ++ [.lst (NI (putAll n f ((room n f u).take i) F))]) = .ok (.ref h.length) (h ++ [.lst (NI (putAll n f ((room n f u).take i) F))]) := var_ok
    simp only [g_sub, v3, bind_ok, md, st]
  · rintro s H ⟨rfl, v5, v6, rfl⟩
    refine ⟨v5, v6, ?_⟩
    rw [List.length_map, List.take_of_length_le (Nat.le_refl _)]
end Mini
namespace Mini
open PySem L2
theorem TT_T2 (L : List (List Nat)) : TT L = T2 (L.map fun r => r.map fun x => ((x : Nat) : Int)) := by
  rw [TT, T2, List.map_map]
  apply List.map_congr_left
  intro r _
  simp only [Function.comp, NI_I]
theorem sort_TT {L M : List (List Nat)} (pm : M.Perm L) (so : M.Pairwise (· < ·)) (ne : ∀ r ∈ L, r ≠ []) {x : D} {h : Hd} (hx : asS x h = some (TT L)) : sortP false [x] h = some (.lv (TT M), h) := by
  rw [TT_T2] at hx ⊢
  rw [sort_tups false (pm.map _) ?_ (fun a ha => ?_) hx]
  · rfl
  · rw [List.pairwise_map]
    exact so.imp fun h => by rw [nat_lt_int]; exact List.not_lt.mpr (List.le_of_lt h)
  · obtain ⟨r, hr, rfl⟩ := List.mem_map.mp ha
    have := ne r hr
    cases r with
    | nil => exact absurd rfl this
    | cons x r => simp
theorem rooms_ne {n : Nat} {f : Nat → Nat} : ∀ R ∈ roomsL n f, R ≠ [] := fun R hR e => by
  obtain ⟨u, hu, rfl⟩ := mem_roomsL.mp hR
  have := mem_room.mpr ⟨hu, Ns.rfl (n := n) (f := f)⟩
  rw [e] at this
  simp at this
theorem srt_room {n : Nat} {f : Nat → Nat} (u : Nat) : srt (room n f u) = room n f u := srt_uniq (.refl _) ((room_sorted u).imp fun h => Nat.le_of_lt h)
theorem room_len {n : Nat} {f : Nat → Nat} (u : Nat) : (room n f u).length ≤ n := nodup_le n _ (room_nodup u) fun _ hy => (mem_room.mp hy).1
theorem roomsL_len {n : Nat} {f : Nat → Nat} : (roomsL n f).length ≤ n := by
  rw [roomsL, List.length_map, lowsA]
  exact Nat.le_trans (List.length_filter_le _ _) (by simp)
theorem srt_flat {n : Nat} {f : Nat → Nat} : srt (roomsL n f).flatten = List.range n := srt_uniq rooms_all.symm (List.pairwise_lt_range.imp fun h => Nat.le_of_lt h)
theorem lrg_ok {n : Nat} (hn : n < 1000) {s : Ev} {h : Hd} {f : EF} (e : f s h = .ok (.int (n : Nat)) h) : e_lrg false (rg1 f) s h = .ok (.lv (NI (List.range n))) h := by
  have ro : rgOkB 0 ((n : Nat) : Int) = true := by
    unfold rgOkB in62
    simp only [Bool.and_eq_true, decide_eq_true_eq]
    omega
  simp only [e_lrg, rg1, e, bind_ok, ro, if_true, mkL, Bool.false_eq_true, if_false, lift_some, Int.sub_zero, Int.toNat_natCast]
  rw [rangeL_map]
  rfl
theorem eqP_NI (neg : Bool) (A B : List Nat) (h : Hd) : eqP neg (.lv (NI A)) (.lv (NI B)) h = some (.bl (if neg then !decide (A = B) else decide (A = B)), h) := eqP_enc (α := List Nat) neg (by decide) A B h
theorem flat_lc {n : Nat} {f : Nat → Nat} (hn : n < 64) {s : Ev} {h : Hd} {i : Nat} {st : List Nat → Ev} {st1 : List Nat → Nat → Ev} {own : List Nat} {a b : Nat} {src : AF} (hsrc : src s h = .ok (TT (roomsL n f)) h) (h1 : ∀ R, patD (.nm a) (.tup (NI R)) (wipeD s own) = some (st R)) (h2 : ∀ R, (st R)[a]? = some (some (.tup (NI R)))) (h3 : ∀ R q, patD (.nm b) (.int ((q : Nat) : Int)) (wipeD (st R) [b]) = some (st1 R q)) (h4 : ∀ R q, (st1 R q)[b]? = some (some (.int ((q : Nat) : Int)))) :
    e_lc2 own src (.nm a) t_yes (i_seq (e_var a)) [b] (.nm b) t_yes (e_var b) s h = .ok (.lv (NI (roomsL n f).flatten)) h := by
  refine (lc2_g (L := roomsL n f) (fun R => D.tup (NI R)) st (fun _ => true) (fun R => R) (fun q : Nat => D.int ((q : Nat) : Int)) st1 (fun _ _ => true) (fun _ q => D.int ((q : Nat) : Int)) 64 hsrc ?_ (fun R hR => ?_)).trans ?_
  · have := roomsL_len (n := n) (f := f); omega
  · obtain ⟨u, hu, rfl⟩ := mem_roomsL.mp hR
    have := room_len (n := n) (f := f) u
    exact ⟨by omega, h1 _, rfl, fun _ => ⟨seq_tup (var_ok (h2 _)), fun q _ => ⟨h3 _ _, rfl, fun _ => var_ok (h4 _ _)⟩⟩⟩
  · congr 2
    rw [List.filter_eq_self.mpr (fun _ _ => rfl), NI, List.flatMap_def, List.map_flatten]
    congr 1
    apply List.map_congr_left
    intro R _
    rw [List.filter_eq_self.mpr (fun _ _ => rfl)]
theorem putAll_all {n : Nat} {A : List Nat} (x : Am n A) : putAll n (fn A) (roomsL n (fn A)).flatten (List.replicate n 0) = A := by
  have hl : (putAll n (fn A) (roomsL n (fn A)).flatten (List.replicate n 0)).length = n := by rw [putAll_len, List.length_replicate]
  apply List.ext_getElem?
  intro j
  by_cases hj : j < n
  · have e := putAll_at (n := n) (f := fn A) (j := j) (roomsL n (fn A)).flatten (List.replicate n 0) (by rw [List.length_replicate]; exact hj)
    rw [if_pos ⟨pd n j, rooms_all.mem_iff.mpr (List.mem_range.mpr (pd_lt hj)), pd_succ hj⟩] at e
    rw [List.getD_eq_getElem?_getD, List.getElem?_eq_getElem (by omega)] at e
    rw [List.getElem?_eq_getElem (by omega), List.getElem?_eq_getElem (by rw [x.len]; exact hj)]
    simp only [Option.getD_some] at e
    rw [e, fn, List.getD_eq_getElem?_getD, List.getElem?_eq_getElem (by rw [x.len]; exact hj)]
    rfl
  · rw [List.getElem?_eq_none (by omega), List.getElem?_eq_none (by rw [x.len]; omega)]
theorem areas_loop {n : Nat} {f : Nat → Nat} (N : Nc n f) (hn : n < 64) (h : Hd) (s1 s2 : Option D) : ∃ v4 v5 v6, forM (.nm 4) x_by_areas_f1 (TT (roomsL n f)) [some (.int (n : Nat)), s1, s2, some (.ref h.length), none, none, none] (h ++ [.lst (NI (List.replicate n 0))]) = .ok (.nx [some (.int (n : Nat)), s1, s2, some (.ref h.length), v4, v5, v6]) (h ++ [.lst (NI (putAll n f (roomsL n f).flatten (List.replicate n 0)))]) := by
  refine for_wp (Q := fun r => ∃ v4 v5 v6, r = .ok (.nx [some (.int (n : Nat)), s1, s2, some (.ref h.length), v4, v5, v6]) (h ++ [.lst (NI (putAll n f (roomsL n f).flatten (List.replicate n 0)))])) (fun i s H => H = h ++ [.lst (NI (putAll n f ((roomsL n f).take i).flatten (List.replicate n 0)))] ∧ ∃ v4 v5 v6, s = [some (.int (n : Nat)), s1, s2, some (.ref h.length), v4, v5, v6]) _ _ (h ++ [.lst (NI (List.replicate n 0))]) ⟨rfl, none, none, none, rfl⟩ ?_ ?_
  · rintro i d s H hd ⟨rfl, v4, v5, v6, rfl⟩
    rw [TT, List.getElem?_map] at hd
    have hi : i < (roomsL n f).length := by
      rcases Nat.lt_or_ge i (roomsL n f).length with q | q
      · exact q
      · rw [List.getElem?_eq_none q] at hd; cases hd
    rw [List.getElem?_eq_getElem hi] at hd
    simp only [Option.map_some, Option.some.injEq] at hd
    subst hd
    obtain ⟨u, hu, eu⟩ := mem_roomsL.mp (List.getElem_mem hi)
    rw [List.take_succ_eq_append_getElem hi, eu, List.flatten_append, putAll_app]
    generalize hF : putAll n f ((roomsL n f).take i).flatten (List.replicate n 0) = F
    have lF : F.length = n := by rw [← hF, putAll_len, List.length_replicate]
    obtain ⟨v5', v6', er⟩ := area_loop N u F lF (by omega) h s1 s2 v5 v6
    have rl := room_len (n := n) (f := f) u
    have cat : e_op (addP false) (e_slice false (e_var 4) (o_some (e_c (D.int 1))) o_none) (e_slice false (e_var 4) o_none (o_some (e_c (D.int 1)))) [some (.int (n : Nat)), s1, s2, some (.ref h.length), some (.tup (NI (room n f u))), v5, v6] (h ++ [.lst (NI F)]) = .ok (.tup (NI ((room n f u).map (nx n f)))) (h ++ [.lst (NI F)]) := by
      have c1 : e_slice false (e_var 4) (o_some (e_c (D.int 1))) o_none [some (.int (n : Nat)), s1, s2, some (.ref h.length), some (.tup (NI (room n f u))), v5, v6] (h ++ [.lst (NI F)]) = .ok (.tup (NI (room n f u).tail)) (h ++ [.lst (NI F)]) := slice_ok var_ok (osome_ok c_ok) onone_ok (by
        simp only [slP]
        rw [show (1 : Int) = ((1 : Nat) : Int) from rfl, cut_from, NI, ← List.map_drop, List.drop_one]
        rfl)
      have c2 : e_slice false (e_var 4) o_none (o_some (e_c (D.int 1))) [some (.int (n : Nat)), s1, s2, some (.ref h.length), some (.tup (NI (room n f u))), v5, v6] (h ++ [.lst (NI F)]) = .ok (.tup (NI ((room n f u).take 1))) (h ++ [.lst (NI F)]) := slice_ok var_ok onone_ok (osome_ok c_ok) (by
        simp only [slP]
        rw [show (1 : Int) = ((1 : Nat) : Int) from rfl, cut_to, NI, ← List.map_take]
        rfl)
      refine op_ok c1 c2 ?_
      rw [← room_rot N u, NI_app]
      exact catT (by rw [NI_len, NI_len, List.length_tail, List.length_take]; omega)
    refine ⟨[some (.int (n : Nat)), s1, s2, some (.ref h.length), some (.tup (NI (room n f u))), v5, v6], rfl, .inl ⟨_, _, (for_ok (zip_ok (l := false) (acons_ok var_ok (acons_ok cat anil_ok)) rfl rfl)).trans er, ?_, _, _, _, rfl⟩⟩
    simp
  · rintro s H ⟨rfl, v4, v5, v6, rfl⟩
    refine ⟨v4, v5, v6, ?_⟩
    rw [TT, List.length_map, List.take_of_length_le (Nat.le_refl _)]
theorem freeze_ok {i : Nat} {b : SF} {s : Ev} {h : Hd} {xs : List D} {r : Res Fl} (e : s[i]? = some (some (.ref h.length))) (k : b (s.set i (some (.lv xs))) (h ++ [.dead]) = r) : s_freeze i b s (h ++ [.lst xs]) = r := by
  simp only [s_freeze, e, last_get, set_last]
  exact k
theorem by_areas_ok {n : Nat} {A : List Nat} (x : Am n A) (hn : n < 64) (h : Hd) : m_by_areas [.int (n : Nat), .lv (TT (roomsL n (fn A)))] h = .ok (ar false A) h := by
  have N := x.toArr.Nc
  have rl := roomsL_len (n := n) (f := fn A)
  obtain ⟨v4, v5, v6, el⟩ := areas_loop N hn h (some (.lv (TT (roomsL n (fn A))))) (some (.lv (TT (roomsL n (fn A)))))
  rw [putAll_all x] at el
  have l1 : e_lc [4] (i_seq (e_var 1)) (.nm 4) t_yes (e_call tupleP (a_cons (e_call (sortP false) (a_cons (e_var 4) a_nil)) a_nil)) [some (.int (n : Nat)), some (.lv (TT (roomsL n (fn A)))), none, none, none, none, none] h = .ok (.lv (TT (roomsL n (fn A)))) h := by
    refine lc_mto (roomsL n (fn A)) (fun R => D.tup (NI R)) (fun R => [some (.int (n : Nat)), some (.lv (TT (roomsL n (fn A)))), none, none, some (.tup (NI R)), none, none]) (fun R => D.tup (NI R)) (seq_lv var_ok) (by omega) (fun R hR => ⟨rfl, ?_⟩) rfl
    obtain ⟨u, hu, rfl⟩ := mem_roomsL.mp hR
    have so := sort_N false (room n (fn A) u) (x := .tup (NI (room n (fn A) u))) (h := h) rfl
    rw [srt_room] at so
    exact call_ok (a1_ok (call_ok (a1_ok var_ok) (so.trans rfl))) tupleP_lv
  have s1 : sortP false [.lv (TT (roomsL n (fn A)))] h = some (.lv (TT (roomsL n (fn A))), h) := sort_TT (.refl _) roomsL_lex rooms_ne rfl
  have l2 : e_lc2 [4, 5] (i_seq (e_var 2)) (.nm 4) t_yes (i_seq (e_var 4)) [5] (.nm 5) t_yes (e_var 5) [some (.int (n : Nat)), some (.lv (TT (roomsL n (fn A)))), some (.lv (TT (roomsL n (fn A)))), none, none, none, none] h = .ok (.lv (NI (roomsL n (fn A)).flatten)) h :=
    flat_lc hn (i := 0) (st := fun R => [some (.int (n : Nat)), some (.lv (TT (roomsL n (fn A)))), some (.lv (TT (roomsL n (fn A)))), none, some (.tup (NI R)), none, none]) (st1 := fun R q => [some (.int (n : Nat)), some (.lv (TT (roomsL n (fn A)))), some (.lv (TT (roomsL n (fn A)))), none, some (.tup (NI R)), some (.int (q : Nat)), none]) (seq_lv var_ok) (fun _ => rfl) (fun _ => rfl) (fun _ _ => rfl) (fun _ _ => rfl)
  have s2 : sortP false [.lv (NI (roomsL n (fn A)).flatten)] h = some (.lv (NI (List.range n)), h) := by
    rw [sort_lv, srt_flat]; rfl
  have q1 : eqP true (.lv (NI (List.range n))) (.lv (NI (List.range n))) h = some (.bl false, h) := by rw [eqP_NI]; simp
  have q2 : eqP true (.lv (TT (roomsL n (fn A)))) (.lv (TT (roomsL n (fn A)))) (h ++ [.dead]) = some (.bl false, h ++ [.dead]) := by rw [eqP_TT]; simp
  have tp : tupleP [.lv (NI A)] (h ++ [.dead]) = some (ar false A, h ++ [.dead]) := tupleP_lv
  refine fn_v (h' := [.dead]) [some (.int (n : Nat)), some (.lv (TT (roomsL n (fn A)))), none, none, none, none, none] ?_ (by simp only [ar, Bool.false_eq_true, if_false, noRef]; exact noRefs_map (α := Nat) _)
  exact seq_then (set_ok (call_ok (a1_ok l1) s1))
    (seq_then (if_no (b_ok (op_ok (call_ok (a1_ok l2) s2) (lrg_ok (by omega) var_ok) q1)))
    (seq_then (set_ok (op_ok (lst_ok (a1_ok c_ok) (by show 1 ≤ sizeLine; decide)) var_ok (zeros_N (by omega) h)))
    (seq_then ((for_ok (seq_lv var_ok)).trans el)
    (freeze_ok rfl (seq_then (if_no ((or_f (not_t (tru_ok (own_ok (a1_ok (call_ok (a1_ok var_ok) tp)) (is_arrangement_ok x _))))).trans (b_ok (op_ok (own_ok (a1_ok var_ok) (areas_ok x hn true _)) var_ok q2))))
    (ret_ok (call_ok (a1_ok var_ok) tp)))))))
end Mini
namespace Mini
open PySem L2
/-! ### is_lesser, exchanged -/
theorem is_lesser_ok {A : List Nat} (l : Bool) (p : Nat) (h : Hd) : m_is_lesser [ar l A, .int (p : Nat)] h = .ok (.bl (decide (p < A.length ∧ p < fn A p))) h := by
  refine fn_rt' [some (ar l A), some (.int (p : Nat))] ?_ rfl
  have c := chain_ok (s := [some (ar l A), some (.int (p : Nat))]) (h := h) c_ok (var_ok (i := 1)) (call_ok (a1_ok (var_ok (i := 0))) (lenP_ar l A h)) (zero_ge p h) (ltP_nat p A.length h)
  have e : (decide (0 ≤ (p : Int)) && decide (p < A.length)) = decide (p < A.length) := by simp
  rw [e] at c
  refine ret_ok ((eand_ok (c2 := decide (p < fn A p)) c fun q => ?_).trans ?_)
  · exact op_ok (op_ok var_ok var_ok (ixP_ar h (of_decide_eq_true q))) var_ok (gtP_nat _ _ _)
  · rw [← Bool.decide_and]
theorem exchanged_ok {n : Nat} {A : List Nat} (x : Am n A) (l : Bool) {a b : Nat} (p : Ps n (fn A) a b) (h : Hd) : m_exchanged [ar l A, PR2 (a, b)] h = .ok (ar false (exA A a b)) h := by
  have hn := x.len
  have ab := p.ab; have hb := p.hb
  have L : Le2 n A a b := ⟨p.ab, p.hb, p.la, p.lb⟩
  have l1 := is_lesser_ok (A := A) l a h
  rw [decide_eq_true ⟨by omega, p.la⟩] at l1
  have l2 := is_lesser_ok (A := A) l b h
  rw [decide_eq_true ⟨by omega, p.lb⟩] at l2
  have ps := is_possible_ok x l L h
  rw [(pos_ps x.toArr p.ab p.hb p.la p.lb).mpr p] at ps
  have g : geP (.int (a : Nat)) (.int (b : Nat)) h = some (.bl false, h) := by rw [geP_nat, decide_eq_false (by omega)]
  refine fn_rt' [some (ar l A), some (PR2 (a, b)), none] ?_ (by simp only [ar, Bool.false_eq_true, if_false, noRef]; exact noRefs_map (α := Nat) _)
  exact seq_then ((for_ok (seq_tup var_ok)).trans (for_cons rfl (if_no (not_ok (tru_ok (own_ok (acons_ok var_ok (acons_ok var_ok anil_ok)) l1)))) (for_cons rfl (if_no (not_ok (tru_ok (own_ok (acons_ok var_ok (acons_ok var_ok anil_ok)) l2)))) for_nil)))
    (seq_then (if_no ((or_f (b_ok (op_ok (op_ok var_ok c_ok rfl) (op_ok var_ok c_ok rfl) g))).trans (not_ok (tru_ok (own_ok (acons_ok var_ok (acons_ok var_ok anil_ok)) ps))))) (ret_ok (own_ok (acons_ok var_ok (acons_ok var_ok anil_ok)) (changed_ok x l L h))))
end Mini
namespace Mini
open PySem L2
/-! ### for the runs by walk_at "ev" -/
theorem szl {ds : List D} (e : Nat.ble ds.length 1000 = true) : ds.length ≤ sizeLine := Nat.le_trans (Nat.le_of_ble_eq_true e) (by decide)
theorem var_st {s : Ev} {i : Nat} {d : D} {h : Hd} (e : s[i]? = some (some d)) : e_var i s h = .ok d h := var_ok e
theorem ltb {a b : Nat} (e : Nat.blt a b = true) : a < b := Nat.le_of_ble_eq_true e
theorem iteR {α : Type} {a b r : α} {c : Bool} (hc : c = false) (e : b = r) : (if c = true then a else b) = r := by rw [hc]; exact e
theorem lenP_tup {xs : List D} {h : Hd} : lenP [.tup xs] h = some (.int (xs.length : Nat), h) := by simp only [lenP, asS, asL]
theorem iteT {α : Type} {a b r : α} (e : a = r) : (if true = true then a else b) = r := e
theorem iteF {α : Type} {a b r : α} (e : b = r) : (if false = true then a else b) = r := e
theorem sl_from {xs : List D} {i : Nat} {h : Hd} : slP false (.lv xs) (some ((i : Nat) : Int)) none h = some (.lv (xs.drop i), h) := by
  simp only [slP, asL]; rw [cut_from]; rfl
theorem sl_to {xs : List D} {i : Nat} {h : Hd} : slP false (.lv xs) none (some ((i : Nat) : Int)) h = some (.lv (xs.take i), h) := by
  simp only [slP, asL]; rw [cut_to]; rfl
theorem sl_fromT {xs : List D} {i : Nat} {h : Hd} : slP false (.tup xs) (some ((i : Nat) : Int)) none h = some (.tup (xs.drop i), h) := by
  simp only [slP]; rw [cut_from]
theorem sl_toT {xs : List D} {i : Nat} {h : Hd} : slP false (.tup xs) none (some ((i : Nat) : Int)) h = some (.tup (xs.take i), h) := by
  simp only [slP]; rw [cut_to]
theorem sl_from1 {xs : List D} {h : Hd} : slP false (.lv xs) (some 1) none h = some (.lv (xs.drop 1), h) := sl_from (i := 1)
theorem sl_to1 {xs : List D} {h : Hd} : slP false (.lv xs) none (some 1) h = some (.lv (xs.take 1), h) := sl_to (i := 1)
theorem sl_from1T {xs : List D} {h : Hd} : slP false (.tup xs) (some 1) none h = some (.tup (xs.drop 1), h) := sl_fromT (i := 1)
theorem sl_to1T {xs : List D} {h : Hd} : slP false (.tup xs) none (some 1) h = some (.tup (xs.take 1), h) := sl_toT (i := 1)
section
variable {s : Ev} {h h1 h2 : Hd} {t t2 : TF} {f f2 : EF} {c1 c2 : Bool}
theorem or_u (e1 : t s h = .ok c1 h) (e2 : t2 s h = .ok c2 h) : t_or t t2 s h = .ok (c1 || c2) h := or_ok e1 fun _ => e2
theorem and_u (e1 : t s h = .ok c1 h) (e2 : t2 s h = .ok c2 h) : t_and t t2 s h = .ok (c1 && c2) h := and_ok e1 fun _ => e2
theorem eand_u (e1 : f s h = .ok (.bl c1) h) (e2 : f2 s h = .ok (.bl c2) h) : e_and f f2 s h = .ok (.bl (c1 && c2)) h := eand_ok e1 fun _ => e2
theorem eor_u (e1 : f s h = .ok (.bl c1) h) (e2 : f2 s h = .ok (.bl c2) h) : e_or f f2 s h = .ok (.bl (c1 || c2)) h := eor_ok e1 fun _ => e2
theorem eqT_int (i j : Int) (h : Hd) : eqP true (.int i) (.int j) h = some (.bl (!decide (i = j)), h) := (eqP_int true i j h).trans rfl
theorem eqF_int (i j : Int) (h : Hd) : eqP false (.int i) (.int j) h = some (.bl (decide (i = j)), h) := (eqP_int false i j h).trans rfl
theorem ret_to {d d' : D} (e1 : f s h = .ok d h1) (e : d = d') : s_ret f s h = .ok (.rt d') h1 := by rw [← e]; exact ret_ok e1
end
/-- a def that draws -/
theorem fn_d {np n : Nat} {b : SF} {ds : List D} {h H : Hd} {d : D} (s0 : Ev) (e : b s0 h = .ok (.rt d) H) (hs : noRef d = true) (h0 : ds.map some ++ List.replicate (n - ds.length) none = s0 := by rfl) (hl : ds.length = np := by rfl) : fnM np n b ds h = .ok d (H.take h.length) := by
  have hd : sealD h.length d H = some d := by
    cases d with
    | ref k => simp [noRef] at hs
    | _ => simp only [sealD, hs, if_true]
  exact fn_rt (np := np) (n := n) (b := b) (ds := ds) (h := h) (h' := H) s0 d e hd h0 hl
theorem BoxAt.app {h : Hd} {b n : Nat} (x : BoxAt h b n) (r : Hd) : BoxAt (h ++ r) b n := by
  have hb := x.lt
  obtain ⟨u, v, w, e, q⟩ := x
  exact ⟨u, v, w, by rw [List.getElem?_append_left hb]; exact e, q⟩
theorem Drawn.cut {b : Nat} {h r H : Hd} {n k : Nat} (x : Drawn b (h ++ r) H n k) (hb : b < h.length) : Drawn b h (H.take h.length) n k := by
  have hl := x.len
  rw [List.length_append] at hl
  refine ⟨by rw [List.length_take]; omega, fun m hm => ?_, ?_⟩
  · rcases Nat.lt_or_ge m h.length with q | q
    · rw [List.getElem?_take_of_lt q, x.oth m hm, List.getElem?_append_left q]
    · rw [List.getElem?_eq_none (by rw [List.length_take]; omega), List.getElem?_eq_none q]
  · obtain ⟨u, v, w, e, q⟩ := x.box
    exact ⟨u, v, w, by rw [List.getElem?_take_of_lt hb]; exact e, q⟩
theorem modL {i : Int} {j : Int} (hj : 0 < j) (h : Hd) : modP (.int i) (.int j) h = some (.int (i % j), h) := modP_int hj h
theorem divL {i : Int} {j : Int} (hj : 0 < j ∧ j.natAbs.log2 < 9000) (h : Hd) : fdivP (.int i) (.int j) h = some (.int (i / j), h) := by simp only [fdivP, hj, and_self, if_true]
theorem mulN {i j : Int} (hi : (in64 i || in64 j) = true) (m : Bool) (h : Hd) : mulP m (.int i) (.int j) h = some (.int (i * j), h) := by simp only [mulP, hi, if_true]
theorem all_true {α : Type} (L : List α) (h : Hd) : allP [.lv (L.map fun _ => D.bl true)] h = some (.bl true, h) := by
  have : L.map (fun _ => D.bl true) = (L.map fun _ => true).map D.bl := by rw [List.map_map]; rfl
  rw [this]
  simp only [allP, asL, Option.bind_some, blsOf_B]
  congr 2
  simp
theorem ix_tup0 {a : D} {r : List D} {h : Hd} : ixP (.tup (a :: r)) (.int 0) h = some (a, h) := by
  have k : atI (a :: r) (0 : Int) = some a := atI_nat (j := 0) rfl
  simp only [ixP, asS, asL, k]
theorem ix_tup1 {a b : D} {r : List D} {h : Hd} : ixP (.tup (a :: b :: r)) (.int 1) h = some (b, h) := by
  have k : atI (a :: b :: r) (1 : Int) = some b := atI_nat (j := 1) rfl
  simp only [ixP, asS, asL, k]
theorem ix_lv0 {a : D} {r : List D} {h : Hd} : ixP (.lv (a :: r)) (.int 0) h = some (a, h) := by
  have k : atI (a :: r) (0 : Int) = some a := atI_nat (j := 0) rfl
  simp only [ixP, asS, asL, k]
theorem ix_lv1 {a b : D} {r : List D} {h : Hd} : ixP (.lv (a :: b :: r)) (.int 1) h = some (b, h) := by
  have k : atI (a :: b :: r) (1 : Int) = some b := atI_nat (j := 1) rfl
  simp only [ixP, asS, asL, k]
/-- a comprehension, the state left to be found -/
theorem lc_x {α : Type} {own : List Nat} {i : AF} {p : Pat} {tt : TF} {te : EF} {s : Ev} {h : Hd} {ys : List D} (L : List α) (mk : α → D) (g : α → Bool) (f : α → D) (hi : i s h = .ok (L.map mk) h) (hl : L.length ≤ 100000) (he : (L.filter g).map f = ys)
    (hp : ∀ x ∈ L, ∃ s1, patD p (mk x) (wipeD s own) = some s1 ∧ tt s1 h = .ok (g x) h ∧ (g x = true → te s1 h = .ok (f x) h)) : e_lc own i p tt te s h = .ok (.lv ys) h := by
  refine lc_to L mk (fun x => (patD p (mk x) (wipeD s own)).getD []) g f hi hl (fun x hx => ?_) he
  obtain ⟨s1, e1, e2⟩ := hp x hx
  rw [e1]
  exact ⟨rfl, e2⟩
theorem lc_y {α : Type} {own : List Nat} {i : AF} {p : Pat} {te : EF} {s : Ev} {h : Hd} {ys : List D} (L : List α) (mk : α → D) (f : α → D) (hi : i s h = .ok (L.map mk) h) (hl : L.length ≤ 100000) (he : L.map f = ys)
    (hp : ∀ x ∈ L, ∃ s1, patD p (mk x) (wipeD s own) = some s1 ∧ te s1 h = .ok (f x) h) : e_lc own i p t_yes te s h = .ok (.lv ys) h := by
  refine lc_x L mk (fun _ => true) f hi hl (by rw [List.filter_eq_self.mpr (fun _ _ => rfl), he]) fun x hx => ?_
  obtain ⟨s1, e1, e2⟩ := hp x hx
  exact ⟨s1, e1, rfl, fun _ => e2⟩
end Mini
namespace Mini
/-! ### two of three rooms put together -/
def joinL (C : List (List Nat)) : List (List Nat) := (C.zip (C.tail ++ C.take 1)).map fun p => srt (p.1 ++ p.2)
theorem mem_join {C : List (List Nat)} (h3 : C.length = 3) (nd : C.Nodup) {R : List Nat} : R ∈ joinL C ↔ ∃ a ∈ C, ∃ b ∈ C, a ≠ b ∧ R = srt (a ++ b) := by
  match C, h3 with
  | [x, y, z], _ =>
    simp only [List.nodup_cons, List.mem_cons, List.not_mem_nil, or_false, not_or] at nd
    obtain ⟨⟨xy, xz⟩, yz, _⟩ := nd
    simp only [joinL, List.tail_cons, List.take_succ_cons, List.take_zero, List.cons_append, List.nil_append, List.zip_cons_cons, List.zip_nil_right, List.map_cons, List.map_nil, List.mem_cons, List.not_mem_nil, or_false]
    have cm : ∀ a b : List Nat, srt (a ++ b) = srt (b ++ a) := fun a b => srt_eq List.perm_append_comm
    constructor
    · rintro (rfl | rfl | rfl)
      · exact ⟨x, .inl rfl, y, .inr (.inl rfl), xy, rfl⟩
      · exact ⟨y, .inr (.inl rfl), z, .inr (.inr rfl), yz, rfl⟩
      · exact ⟨z, .inr (.inr rfl), x, .inl rfl, fun e => xz e.symm, rfl⟩
    · rintro ⟨a, (rfl | rfl | rfl), b, (rfl | rfl | rfl), ne, rfl⟩
      · exact absurd rfl ne
      · exact .inl rfl
      · exact .inr (.inr (cm _ _))
      · exact .inl (cm _ _)
      · exact absurd rfl ne
      · exact .inr (.inl rfl)
      · exact .inr (.inr rfl)
      · exact .inr (.inl (cm _ _))
      · exact absurd rfl ne
theorem mem_srt {L : List Nat} {x : Nat} : x ∈ srt L ↔ x ∈ L := (srt_perm L).mem_iff
section
variable {n : Nat} {f g : Nat → Nat} {p q r s : Nat} (Q : Qd n f g p q r s)
include Q
theorem Qd.rooms_in : p ∈ room n f p ∧ q ∈ room n f q ∧ r ∈ room n f r ∧ s ∈ room n f q ∧ p ∈ room n g p ∧ q ∈ room n g q ∧ r ∈ room n g p ∧ s ∈ room n g s := by
  obtain ⟨hp, hq, hr, hs⟩ := Q.lts
  obtain ⟨⟨a1, a2, a3⟩, ⟨b1, b2, b3⟩, ⟨c1, c2, c3⟩, ⟨d1, d2, d3⟩, ⟨e1, e2, e3⟩, ⟨f1, f2, f3⟩⟩ := Q.tab
  simp only [mem_room]
  exact ⟨⟨hp, .rfl⟩, ⟨hq, .rfl⟩, ⟨hr, .rfl⟩, ⟨hs, a1⟩, ⟨hp, .rfl⟩, ⟨hq, .rfl⟩, ⟨hr, f1⟩, ⟨hs, .rfl⟩⟩
theorem Qd.sum_q : srt (room n g s ++ room n g q) = room n f q := by
  obtain ⟨hp, hq, hr, hs⟩ := Q.lts
  obtain ⟨⟨a1, a2, a3⟩, ⟨b1, b2, b3⟩, ⟨c1, c2, c3⟩, ⟨d1, d2, d3⟩, ⟨e1, e2, e3⟩, ⟨f1, f2, f3⟩⟩ := Q.tab
  refine srt_uniq (perm_of (room_nodup q) ?_ fun x => ?_) ((room_sorted q).imp fun h => Nat.le_of_lt h)
  · rw [List.nodup_append]
    refine ⟨room_nodup s, room_nodup q, fun x hx y hy e => ?_⟩
    subst e
    exact d2 ((mem_room.mp hx).2.trans (mem_room.mp hy).2.symm)
  · rw [List.mem_append]; exact Q.mem_q
theorem Qd.sum_p : srt (room n f p ++ room n f r) = room n g p := by
  obtain ⟨hp, hq, hr, hs⟩ := Q.lts
  obtain ⟨⟨a1, a2, a3⟩, ⟨b1, b2, b3⟩, ⟨c1, c2, c3⟩, ⟨d1, d2, d3⟩, ⟨e1, e2, e3⟩, ⟨f1, f2, f3⟩⟩ := Q.tab
  refine srt_uniq (perm_of (room_nodup p) ?_ fun x => ?_) ((room_sorted p).imp fun h => Nat.le_of_lt h)
  · rw [List.nodup_append]
    refine ⟨room_nodup p, room_nodup r, fun x hx y hy e => ?_⟩
    subst e
    exact b2 ((mem_room.mp hx).2.trans (mem_room.mp hy).2.symm)
  · rw [List.mem_append]; exact Q.mem_p
/-- one of the rooms that go is two that come, and one that comes is two that go -/
theorem Qd.one_parted {G C : List (List Nat)} (hG : G.Perm [room n f q, room n f p, room n f r]) (hC : C.Perm [room n g s, room n g q, room n g p]) (nG : G.Nodup) (nC : C.Nodup) : (G.filter fun R => decide (R ∈ joinL C)).length = 1 ∧ (C.filter fun R => decide (R ∈ joinL G)).length = 1 := by
  obtain ⟨⟨a1, a2, a3⟩, ⟨b1, b2, b3⟩, ⟨c1, c2, c3⟩, ⟨d1, d2, d3⟩, ⟨e1, e2, e3⟩, ⟨f1, f2, f3⟩⟩ := Q.tab
  obtain ⟨i1, i2, i3, i4, i5, i6, i7, i8⟩ := Q.rooms_in
  have lG : G.length = 3 := hG.length_eq
  have lC : C.length = 3 := hC.length_eq
  have sub : ∀ {a b R : List Nat}, R = srt (a ++ b) → (∀ x ∈ a, x ∈ R) ∧ ∀ x ∈ b, x ∈ R := fun {a b R} e => ⟨fun x hx => by rw [e, mem_srt]; simp [hx], fun x hx => by rw [e, mem_srt]; simp [hx]⟩
  have mC : ∀ a, a ∈ C ↔ a = room n g s ∨ a = room n g q ∨ a = room n g p := fun a => by rw [hC.mem_iff]; simp
  have mG : ∀ a, a ∈ G ↔ a = room n f q ∨ a = room n f p ∨ a = room n f r := fun a => by rw [hG.mem_iff]; simp
  -- what two that come hold
  have hasC : ∀ a ∈ C, ∀ b ∈ C, a ≠ b → ∀ R, R = srt (a ++ b) → R = room n f q ∨ (r ∈ R ∧ (q ∈ R ∨ s ∈ R)) := by
    intro a ha b hb ne R e
    obtain ⟨s1, s2⟩ := sub e
    rcases (mC a).mp ha with rfl | rfl | rfl <;> rcases (mC b).mp hb with rfl | rfl | rfl
    · exact absurd rfl ne
    · exact .inl (e.trans Q.sum_q)
    · exact .inr ⟨s2 _ i7, .inr (s1 _ i8)⟩
    · exact .inl (e.trans ((srt_eq List.perm_append_comm).trans Q.sum_q))
    · exact absurd rfl ne
    · exact .inr ⟨s2 _ i7, .inl (s1 _ i6)⟩
    · exact .inr ⟨s1 _ i7, .inr (s2 _ i8)⟩
    · exact .inr ⟨s1 _ i7, .inl (s2 _ i6)⟩
    · exact absurd rfl ne
  have hasG : ∀ a ∈ G, ∀ b ∈ G, a ≠ b → ∀ R, R = srt (a ++ b) → R = room n g p ∨ (q ∈ R ∧ s ∈ R) := by
    intro a ha b hb ne R e
    obtain ⟨s1, s2⟩ := sub e
    rcases (mG a).mp ha with rfl | rfl | rfl <;> rcases (mG b).mp hb with rfl | rfl | rfl
    · exact absurd rfl ne
    · exact .inr ⟨s1 _ i2, s1 _ i4⟩
    · exact .inr ⟨s1 _ i2, s1 _ i4⟩
    · exact .inr ⟨s2 _ i2, s2 _ i4⟩
    · exact absurd rfl ne
    · exact .inl (e.trans Q.sum_p)
    · exact .inr ⟨s2 _ i2, s2 _ i4⟩
    · exact .inl (e.trans ((srt_eq List.perm_append_comm).trans Q.sum_p))
    · exact absurd rfl ne
  have ngs : room n g s ≠ room n g q := fun e => d2 (mem_room.mp (e ▸ i6)).2
  have nfp : room n f p ≠ room n f r := fun e => b2 (mem_room.mp (e ▸ i3)).2
  have tq : room n f q ∈ joinL C := (mem_join lC nC).mpr ⟨_, (mC _).mpr (.inl rfl), _, (mC _).mpr (.inr (.inl rfl)), ngs, Q.sum_q.symm⟩
  have tp : room n g p ∈ joinL G := (mem_join lG nG).mpr ⟨_, (mG _).mpr (.inr (.inl rfl)), _, (mG _).mpr (.inr (.inr rfl)), nfp, Q.sum_p.symm⟩
  have np : room n f p ∉ joinL C := fun h => by
    obtain ⟨a, ha, b, hb, ne, e⟩ := (mem_join lC nC).mp h
    rcases hasC a ha b hb ne _ e with z | ⟨z, _⟩
    · exact b1 (mem_room.mp (z ▸ i2)).2
    · exact b2 (mem_room.mp z).2
  have nr : room n f r ∉ joinL C := fun h => by
    obtain ⟨a, ha, b, hb, ne, e⟩ := (mem_join lC nC).mp h
    rcases hasC a ha b hb ne _ e with z | ⟨_, z | z⟩
    · exact c2 (mem_room.mp (z ▸ i2)).2
    · exact c2 (mem_room.mp z).2
    · exact c3 (mem_room.mp z).2
  have ns : room n g s ∉ joinL G := fun h => by
    obtain ⟨a, ha, b, hb, ne, e⟩ := (mem_join lG nG).mp h
    rcases hasG a ha b hb ne _ e with z | ⟨z, _⟩
    · exact d1 (mem_room.mp (z ▸ i5)).2
    · exact d2 (mem_room.mp z).2
  have nq : room n g q ∉ joinL G := fun h => by
    obtain ⟨a, ha, b, hb, ne, e⟩ := (mem_join lG nG).mp h
    rcases hasG a ha b hb ne _ e with z | ⟨_, z⟩
    · exact e1 (mem_room.mp (z ▸ i5)).2
    · exact e3 (mem_room.mp z).2
  refine ⟨?_, ?_⟩
  · rw [(hG.filter _).length_eq]
    simp [tq, np, nr]
  · rw [(hC.filter _).length_eq]
    simp [tp, ns, nq]
end
section
open Classical
variable {n : Nat} {f : Nat → Nat} {a b : Nat}
/-- what an exchange does to the rooms -/
theorem Ps.parted (N : Nc n f) (P : Ps n f a b) : ((roomsL n f).filter fun R => decide (R ∉ roomsL n (ex f a b))).length = 3 ∧ ((roomsL n (ex f a b)).filter fun R => decide (R ∉ roomsL n f)).length = 3 ∧
    (((roomsL n f).filter fun R => decide (R ∉ roomsL n (ex f a b))).filter fun R => decide (R ∈ joinL ((roomsL n (ex f a b)).filter fun R => decide (R ∉ roomsL n f)))).length = 1 ∧
    (((roomsL n (ex f a b)).filter fun R => decide (R ∉ roomsL n f)).filter fun R => decide (R ∈ joinL ((roomsL n f).filter fun R => decide (R ∉ roomsL n (ex f a b))))).length = 1 := by
  rcases P.qd N with ⟨_, Q⟩ | ⟨_, Q⟩
  · have h := Q.one_parted Q.gone Q.come (roomsL_nodup.filter _) (roomsL_nodup.filter _)
    exact ⟨Q.gone.length_eq, Q.come.length_eq, h.1, h.2⟩
  · have h := Q.one_parted Q.gone Q.come (roomsL_nodup.filter _) (roomsL_nodup.filter _)
    exact ⟨Q.come.length_eq, Q.gone.length_eq, h.2, h.1⟩
end
theorem roomsL_fn {n : Nat} {f g : Nat → Nat} (e : ∀ p, p < n → f p = g p) : roomsL n f = roomsL n g := by
  have ns : ∀ p q, Ns n f p q ↔ Ns n g p q := fun p q => by
    unfold Ns
    constructor
    · intro h c hc lt; have := e c hc; rw [← this] at lt ⊢; exact h c hc lt
    · intro h c hc lt; have := e c hc; rw [this] at lt ⊢; exact h c hc lt
  have r : room n f = room n g := by
    funext p
    unfold room
    apply List.filter_congr
    intro q _
    rw [decide_eq_decide]; exact ns p q
  unfold roomsL lowsA
  rw [r]
  congr 1
  apply List.filter_congr
  intro p _
  rw [decide_eq_decide]
  simp only [ns]
end Mini
namespace Mini
/-! ### neighbours who shake hands have an area of their own; parity of the areas -/
theorem room_one {n : Nat} {f : Nat → Nat} (N : Nc n f) {a : Nat} (la : a < f a) (ha : a < n) : room n f a = [a] ↔ f a = a + 1 := by
  have lt := N.lt a ha
  constructor
  · intro e
    have m : nx n f a ∈ room n f a := mem_room.mpr ⟨nx_lt N ha, nx_ns N ha⟩
    rw [e, List.mem_singleton, nx, Nat.mod_eq_of_lt (by omega)] at m
    have := N.inv (a + 1) (by omega)
    rw [m] at this
    exact this
  · intro e
    have hn : nx n f a = a := by
      rw [nx, Nat.mod_eq_of_lt (by omega), ← e]
      exact N.inv a ha
    have P : Pn n f a 1 := by
      obtain ⟨K, P⟩ := Pn.ex N ha
      have e1 : itr (nx n f) 1 a = a := by simp [itr, hn]
      have : K = 1 := by
        have h0 := P.pos
        rcases Nat.lt_or_ge 1 K with z | z
        · exact absurd e1 (P.mn 1 (by omega) z)
        · omega
      exact this ▸ P
    refine List.Perm.eq_of_pairwise (le := (· < ·)) (fun a b _ _ h1 h2 => by omega) (room_sorted a) (by simp) (perm_of (room_nodup a) (by simp) fun x => ?_)
    rw [mem_room, List.mem_singleton]
    constructor
    · rintro ⟨h1, h2⟩
      obtain ⟨i, hi, e⟩ := (ns_iff N ha h1 P).mp h2
      have : i = 0 := by omega
      subst this
      exact e.symm
    · rintro rfl; exact ⟨ha, .rfl⟩
theorem Led.evens {n : Nat} (he : n % 2 = 0) {A B : List Nat} {L : List (Nat × Nat)} (r : Led n A L B) (x : Arr n A) : (Mini.evens n (fn A) + L.length) % 2 = Mini.evens n (fn B) % 2 := by
  induction r with
  | nil => rfl
  | @cons A B a b r p _ ih =>
    have ih := ih (p.arr x)
    have e : Mini.evens n (fn (exA A a b)) = Mini.evens n (ex (fn A) a b) := by
      unfold Mini.evens
      rw [roomsL_fn fun q hq => fn_exA (by rw [x.len]; exact hq)]
    rw [e] at ih
    rw [List.length_cons]
    rcases p.qd x.Nc with ⟨_, Q⟩ | ⟨_, Q⟩ <;> rcases Q.evens he with z | z <;> omega
end Mini
namespace Mini
open PySem L2
local macro_rules | `(tactic| walk_at "prim") => `(tactic| first | with_reducible assumption | with_reducible exact addP_int _ _ _ _ | with_reducible exact subP_int _ _ _ | with_reducible exact negP_int _ _ | with_reducible exact ltP_nat _ _ _ | with_reducible exact leP_nat _ _ _ | with_reducible exact gtP_nat _ _ _ | with_reducible exact geP_nat _ _ _ | with_reducible exact ltP_int _ _ _ | with_reducible exact leP_int _ _ _ | with_reducible exact gtP_int _ _ _ | with_reducible exact geP_int _ _ _ | with_reducible exact eqT_int _ _ _ | with_reducible exact eqF_int _ _ _ | with_reducible exact tupleP_lv | with_reducible exact sl_from1 | with_reducible exact sl_to1 | with_reducible exact sl_from1T | with_reducible exact sl_to1T | with_reducible exact sl_from | with_reducible exact sl_to | with_reducible exact sl_fromT | with_reducible exact sl_toT | with_reducible exact lenP_ar _ _ _ | with_reducible exact lenP_lv _ _ | with_reducible exact ix_tup0 | with_reducible exact ix_tup1 | with_reducible exact ix_lv0 | with_reducible exact ix_lv1 | with_reducible exact all_true _ _ | with_reducible exact lenP_tup | with_reducible exact modL (by decide) _ | with_reducible exact divL (by decide) _ | exact szl rfl | with_reducible rfl)
local macro_rules | `(tactic| walk_at "st") => `(tactic| first | ((with_reducible apply var_st); exact rfl) | with_reducible exact c_ok | with_reducible exact anil_ok | with_reducible exact onone_ok | with_reducible exact nil_ok | with_reducible apply op_ok | with_reducible apply un_ok | with_reducible apply acons_ok | with_reducible apply call_ok | with_reducible apply own_ok | with_reducible apply set_ok | with_reducible apply ret_to | with_reducible apply seq_then | with_reducible apply b_ok | with_reducible apply tru_ok | with_reducible apply not_ok | with_reducible apply enot_ok | with_reducible apply expr_ok | with_reducible apply if_ok | with_reducible apply osome_ok | with_reducible apply slice_ok | with_reducible apply asg_ok | with_reducible apply asgT_ok | with_reducible apply or_u | with_reducible apply and_u | with_reducible apply eand_u | with_reducible apply eor_u | with_reducible apply par_ok | with_reducible apply par3_ok | with_reducible apply lst_ok | with_reducible apply lstM_ok | with_reducible apply tup_ok | with_reducible apply iteT | with_reducible apply iteF | walk_at "prim")
local macro_rules | `(tactic| walk_at "ev") => `(tactic| repeat walk_at "st")
theorem inP_TT (neg : Bool) (x : List Nat) (L : List (List Nat)) (h : Hd) : inP neg (.tup (NI x)) (.lv (TT L)) h = some (.bl (if neg then !decide (x ∈ L) else decide (x ∈ L)), h) := by
  have := inP_enc (α := Tp Nat) neg (by decide) ⟨x⟩ (L.map Tp.mk) h
  have e : ((⟨x⟩ : Tp Nat) ∈ L.map Tp.mk) ↔ x ∈ L := by simp
  rw [show decide ((⟨x⟩ : Tp Nat) ∈ L.map Tp.mk) = decide (x ∈ L) from decide_eq_decide.mpr e] at this
  rw [show TT L = (L.map Tp.mk).map Enc.enc by rw [List.map_map]; rfl]
  exact this
theorem zip_TT : ∀ (L M : List (List Nat)), zipL (TT L) (TT M) = (L.zip M).map fun p => D.tup [.tup (NI p.1), .tup (NI p.2)]
  | [], M => by cases M <;> rfl
  | x :: L, [] => rfl
  | x :: L, y :: M => by
    have := zip_TT L M
    show D.tup [.tup (NI x), .tup (NI y)] :: zipL (TT L) (TT M) = _
    rw [this]; rfl
theorem TT_app (L M : List (List Nat)) : TT (L ++ M) = TT L ++ TT M := by simp [TT]
theorem fltT {s : Ev} {h : Hd} {own : List Nat} {i : AF} {v w : Nat} {neg : Bool} {L M : List (List Nat)} (hi : i s h = .ok (TT L) h) (hl : L.length ≤ 1000) (hv : v < (wipeD s own).length) (hw : (wipeD s own)[w]? = some (some (.lv (TT M)))) (ne : v ≠ w) :
    e_lc own i (.nm v) (t_b (e_op (inP neg) (e_var v) (e_var w))) (e_var v) s h = .ok (.lv (TT (L.filter fun R => if neg then decide (R ∉ M) else decide (R ∈ M)))) h := by
  refine lc_x L (fun R => D.tup (NI R)) (fun R => if neg then decide (R ∉ M) else decide (R ∈ M)) (fun R => D.tup (NI R)) hi (by omega) rfl fun R _ => ⟨_, rfl, ?_, fun _ => var_ok (List.getElem?_set_self hv)⟩
  refine b_ok (op_ok (var_ok (List.getElem?_set_self hv)) (var_ok ((List.getElem?_set_ne ne).trans hw)) ((inP_TT neg R M h).trans ?_))
  cases neg <;> simp
theorem fltN {s : Ev} {h : Hd} {own : List Nat} {i : AF} {v w : Nat} {L M G : List (List Nat)} (hi : i s h = .ok (TT L) h) (hl : L.length ≤ 1000) (hv : v < (wipeD s own).length) (hw : (wipeD s own)[w]? = some (some (.lv (TT M)))) (ne : v ≠ w) (e : (L.filter fun R => decide (R ∉ M)) = G) :
    e_lc own i (.nm v) (t_b (e_op (inP true) (e_var v) (e_var w))) (e_var v) s h = .ok (.lv (TT G)) h := by
  rw [← e]; exact fltT (neg := true) hi hl hv hw ne
theorem fltP {s : Ev} {h : Hd} {own : List Nat} {i : AF} {v w : Nat} {L M G : List (List Nat)} (hi : i s h = .ok (TT L) h) (hl : L.length ≤ 1000) (hv : v < (wipeD s own).length) (hw : (wipeD s own)[w]? = some (some (.lv (TT M)))) (ne : v ≠ w) (e : (L.filter fun R => decide (R ∈ M)) = G) :
    e_lc own i (.nm v) (t_b (e_op (inP false) (e_var v) (e_var w))) (e_var v) s h = .ok (.lv (TT G)) h := by
  rw [← e]; exact fltT (neg := false) hi hl hv hw ne
theorem join_lc {s : Ev} {h : Hd} {a b : Nat} {i : AF} {C : List (List Nat)} (hi : i s h = .ok (zipL (TT C) (TT (C.tail ++ C.take 1))) h) (hC : C.length = 3) (hr : ∀ R ∈ C, R.length ≤ 1000) (ha : a < (wipeD s [a, b]).length) (hb : b < (wipeD s [a, b]).length) (ne : a ≠ b) :
    e_lc [a, b] i (.tp [(.nm a), (.nm b)]) t_yes (e_call tupleP (a_cons (e_call (sortP false) (a_cons (e_op (addP false) (e_var a) (e_var b)) a_nil)) a_nil)) s h = .ok (.lv (TT (joinL C))) h := by
  rw [zip_TT] at hi
  refine lc_y (C.zip (C.tail ++ C.take 1)) _ (fun p => D.tup (NI (srt (p.1 ++ p.2)))) hi (by rw [List.length_zip]; omega) (by rw [joinL, TT, List.map_map]; rfl) fun p hp => ⟨_, patD_two a b _ _ _, ?_⟩
  obtain ⟨m1, m2⟩ := List.of_mem_zip (show (p.1, p.2) ∈ _ from hp)
  have m2' : p.2 ∈ C := by
    rcases List.mem_append.mp m2 with z | z
    · exact List.mem_of_mem_tail z
    · exact List.mem_of_mem_take z
  have l1 := hr _ m1
  have l2 := hr _ m2'
  refine call_ok (a1_ok (call_ok (a1_ok (op_ok (var_ok ((List.getElem?_set_ne (Ne.symm ne)).trans (List.getElem?_set_self ha))) (var_ok (List.getElem?_set_self (by simpa using hb))) (catT (by rw [NI_len, NI_len]; omega)))) ?_)) tupleP_lv
  rw [← NI_app]
  exact (sort_tup false _ h).trans rfl
theorem gtup2_ok {i j : Nat} {a b : D} {s : Ev} {h : Hd} : g_tup 2 (g_cons (g_name i) (g_cons (g_name j) g_nil)) (.tup [a, b]) s h = .ok ((s.set i (some a)).set j (some b)) h := by
  simp [g_tup, g_cons, g_name, g_nil]
theorem eqN {neg : Bool} {i : Nat} {j : Int} {h : Hd} {c : Bool} (e : (if neg then !decide ((i : Int) = j) else decide ((i : Int) = j)) = c) : eqP neg (.int (i : Nat)) (.int j) h = some (.bl c, h) := by
  rw [← e]; exact eqP_int neg _ _ _
theorem rot_tt {s : Ev} {h : Hd} {i : Nat} {C : List (List Nat)} (e : s[i]? = some (some (.lv (TT C)))) (hC : C.length ≤ 1000) : e_op (addP false) (e_slice false (e_var i) (o_some (e_c (D.int 1))) o_none) (e_slice false (e_var i) o_none (o_some (e_c (D.int 1)))) s h = .ok (.lv (TT (C.tail ++ C.take 1))) h := by
  have v : ∀ H, e_var i s H = .ok (.lv (TT C)) H := fun H => var_ok e
  walk_at "st"
  · apply slice_ok (v _)
    walk_at "ev"
  · apply slice_ok (v _)
    walk_at "ev"
  · refine (catP_lv (Nat.le_trans ?_ (show 10000 ≤ sizeLine by decide))).trans ?_
    · simp only [TT, List.length_drop, List.length_map, List.length_take]; omega
    · rw [TT_app, TT, TT, TT, List.map_take, List.map_tail, List.drop_one]
theorem swap_right_ok {n : Nat} {A : List Nat} (x : Am n A) (hn : n < 64) {a b : Nat} (p : Ps n (fn A) a b) (h : Hd) : m_law_swap_right [ar false A, PR2 (a, b)] h = .ok (.bl true) h := by
  have N := x.toArr.Nc
  obtain ⟨p1, p2, p3, p4⟩ := p.parted N
  have y := p.am x
  have er : roomsL n (fn (exA A a b)) = roomsL n (ex (fn A) a b) := roomsL_fn fun q hq => fn_exA (by rw [x.len]; exact hq)
  have a1 := areas_ok x hn false h
  have a2 := areas_ok y hn false h
  have x1 := exchanged_ok x false p h
  rw [er] at a2
  have l1 := roomsL_len (n := n) (f := fn A)
  have l2 := roomsL_len (n := n) (f := ex (fn A) a b)
  have hr : ∀ {f : Nat → Nat} (q : List Nat → Bool), ∀ R ∈ (roomsL n f).filter q, R.length ≤ 1000 := fun {f} q R hR => by
    obtain ⟨u, hu, rfl⟩ := mem_roomsL.mp (List.mem_filter.mp hR).1
    have := room_len (n := n) (f := f) u
    omega
  refine fn_rt' [some (ar false A), some (PR2 (a, b)), none, none, none, none, none, none, none, none, none, none, none] (b := b_law_swap_right) ?_ rfl
  unfold b_law_swap_right
  generalize eG : (roomsL n (fn A)).filter (fun R => decide (R ∉ roomsL n (ex (fn A) a b))) = G at *
  generalize eC : (roomsL n (ex (fn A) a b)).filter (fun R => decide (R ∉ roomsL n (fn A))) = C at *
  have tl : ∀ L : List (List Nat), (TT L).length = L.length := fun L => by simp [TT]
  have rG : ∀ R ∈ G, R.length ≤ 1000 := fun R hR => hr _ R (eG ▸ hR)
  have rC : ∀ R ∈ C, R.length ≤ 1000 := fun R hR => hr _ R (eC ▸ hR)
  walk_at "ev"
  · exact gtup2_ok
  walk_at "ev"
  · exact fltN (seq_lv var_ok) (by omega) (ltb rfl) rfl (by decide) eG
  walk_at "ev"
  · exact fltN (seq_lv var_ok) (by omega) (ltb rfl) rfl (by decide) eC
  walk_at "ev"
  rw [if_neg (by simp [tl, p1, p2])]
  walk_at "ev"
  · exact join_lc (zip_ok (l := true) (acons_ok var_ok (acons_ok (rot_tt rfl (by omega)) anil_ok)) rfl rfl) p2 rC (ltb rfl) (ltb rfl) (by decide)
  walk_at "ev"
  · exact join_lc (zip_ok (l := true) (acons_ok var_ok (acons_ok (rot_tt rfl (by omega)) anil_ok)) rfl rfl) p1 rG (ltb rfl) (ltb rfl) (by decide)
  walk_at "ev"
  · exact fltP (seq_lv var_ok) (by omega) (ltb rfl) rfl (by decide) rfl
  walk_at "ev"
  · exact fltP (seq_lv var_ok) (by omega) (ltb rfl) rfl (by decide) rfl
  walk_at "ev"
  simp [tl, p3, p4]
end Mini
namespace Mini
open PySem L2
/-! ### crossed, clear, seated, swapped -/
theorem crossed_ok (p q : Nat × Nat) (h : Hd) : m_law_crossed [PR2 p, PR2 q] h = .ok (.bl (crs p q)) h := by
  refine fn_rt' [some (PR2 p), some (PR2 q)] ?_ rfl
  have ch : ∀ (x : Nat) (f : EF), f [some (PR2 p), some (PR2 q)] h = .ok (.int (x : Nat)) h → e_chain ltP ltP (e_call minP (a_cons (e_var 0) a_nil)) f (e_call maxP (a_cons (e_var 0) a_nil)) [some (PR2 p), some (PR2 q)] h = .ok (.bl (sd p.1 p.2 x)) h := fun x f e => by
    have := chain_ok (g := ltP) (g' := ltP) (s := [some (PR2 p), some (PR2 q)]) (h := h) (call_ok (a1_ok (var_ok (i := 0))) (min_two (p.1 : Int) p.2 h)) e (call_ok (a1_ok (var_ok (i := 0))) (max_two (p.1 : Int) p.2 h)) (ltP_int _ _ _) (ltP_int _ _ _)
    rw [this]
    congr 2
    rw [← Bool.decide_and]
    unfold sd
    rw [decide_eq_decide]
    omega
  refine ret_ok (op_ok (ch q.1 _ (op_ok var_ok c_ok rfl)) (ch q.2 _ (op_ok var_ok c_ok rfl)) ?_)
  rw [eqP_bl]
  rfl
theorem clear_ok (L : List (Nat × Nat)) (hL : L.length ≤ 1000) (h : Hd) : m_law_clear [.lv (PS L)] h = .ok (.bl (clearB L)) h := by
  have any_at : ∀ (k : Nat) (p : D) (s : Ev), s = [some (.lv (PS L)), some (.int (k : Nat)), some (PR2 (L.getD k (0, 0))), none] → e_call anyP (a_cons (e_lc [3] (i_seq (e_slice false (e_var 0) o_none (o_some (e_var 1)))) (.nm 3) t_yes (e_own m_law_crossed (a_cons (e_var 2) (a_cons (e_var 3) a_nil)))) a_nil) s h = .ok (.bl (((L.take k).map fun q => crs (L.getD k (0, 0)) q).any id)) h := by
    rintro k p s rfl
    refine call_ok (a1_ok (lc_mto (ys := ((L.take k).map fun q => crs (L.getD k (0, 0)) q).map D.bl) (L.take k) PR2 (fun q => [some (.lv (PS L)), some (.int (k : Nat)), some (PR2 (L.getD k (0, 0))), some (PR2 q)]) (fun q => .bl (crs (L.getD k (0, 0)) q)) (seq_lv (slice_ok var_ok onone_ok (osome_ok var_ok) ?_)) (by rw [List.length_take]; omega) (fun q _ => ⟨rfl, own_ok (acons_ok var_ok (acons_ok var_ok anil_ok)) (crossed_ok _ _ h)⟩) (by rw [List.map_map]; rfl))) (any_B _ h)
    simp only [slP, asL, mkL, Bool.false_eq_true, if_false]
    rw [cut_to, PS_map, ← List.map_take]
  have loop := for_wp (p := .tp [(.nm 1), (.nm 2)]) (b := x_law_clear_f0) (Q := fun r => (clearB L = true ∧ ∃ s, r = .ok (.nx s) h) ∨ (clearB L = false ∧ r = .ok (.rt (.bl false)) h)) (fun i s H => H = h ∧ ((List.range i).all fun k => !((L.take k).map fun q => crs (L.getD k (0, 0)) q).any id) = true ∧ ∃ v1 v2, s = [some (.lv (PS L)), v1, v2, none]) (enumL 0 (PS L)) [some (.lv (PS L)), none, none, none] h ⟨rfl, rfl, none, none, rfl⟩ (by
    rintro i d s H hdd ⟨rfl, ha, v1, v2, rfl⟩
    rw [PS_map, enumL_map PR2 (0, 0), List.getElem?_map] at hdd
    have hi : i < L.length := by
      rcases Nat.lt_or_ge i L.length with q | q
      · exact q
      · rw [List.getElem?_eq_none (by simpa using q)] at hdd; cases hdd
    rw [List.getElem?_range hi] at hdd
    simp only [Option.map_some, Option.some.injEq] at hdd
    subst hdd
    refine ⟨[some (.lv (PS L)), some (.int (i : Nat)), some (PR2 (L.getD i (0, 0))), none], patD_two 1 2 _ _ _, ?_⟩
    have e := any_at i .non _ rfl
    cases q : ((L.take i).map fun q => crs (L.getD i (0, 0)) q).any id with
    | false =>
      rw [q] at e
      exact .inl ⟨_, _, if_no (tru_ok e), rfl, by rw [List.range_succ, List.all_append, ha]; simp only [List.all_cons, List.all_nil, q, Bool.not_false, Bool.and_true], _, _, rfl⟩
    | true =>
      rw [q] at e
      refine .inr (.inr (.inr ⟨.bl false, _, (if_t (tru_ok e)).trans (ret_ok c_ok), .inr ⟨?_, rfl⟩⟩))
      unfold clearB
      rw [Bool.eq_false_iff]
      intro z
      rw [List.all_eq_true] at z
      have := z i (List.mem_range.mpr hi)
      rw [q] at this
      cases this) (by
    rintro s H ⟨rfl, ha, v1, v2, rfl⟩
    rw [enumL_length, PS_len] at ha
    exact .inl ⟨ha, _, rfl⟩)
  refine fn_rt' [some (.lv (PS L)), none, none, none] ?_ rfl
  rcases loop with ⟨c, s, e⟩ | ⟨c, e⟩
  · rw [c]; exact seq_then ((for_ok (enum_ok (a1_ok var_ok) rfl)).trans e) (ret_ok c_ok)
  · rw [c]; exact seq_rt ((for_ok (enum_ok (a1_ok var_ok) rfl)).trans e)
/-- None, or the arrangement afterwards -/
def swD (A : List Nat) (a b : Nat) : D := if posB A a b then ar false (exA A a b) else .non
theorem swapped_ok {n : Nat} {A : List Nat} (x : Am n A) (l : Bool) {a b : Nat} (L : Le2 n A a b) (h : Hd) : m_law_swapped [ar l A, PR2 (a, b)] h = .ok (swD A a b) h := by
  have N := x.toArr.Nc
  have ab := L.ab; have hb := L.hb; have la := L.la; have lb := L.lb
  have ha : a < n := by omega
  have hn := x.len
  have few := x.few
  have nab : fn A a ≠ b := fun e => by have := N.toMt.flip ha e; omega
  have hfb := N.lt b hb
  have hfa := N.lt a ha
  have nc := N.nc a b ha hb (by omega) nab.symm
  rw [sd_eq] at nc
  have hal := x.al
  have hlen := armsL_len A
  have lr : (restL A a b).length ≤ 1000 := Nat.le_trans (List.length_filter_le _ _) (by omega)
  have lm : (madeL A a b).length = 2 := by unfold madeL; split <;> rfl
  have ct : addP false (.lv (PS (restL A a b))) (.lv (PS (madeL A a b))) h = some (.lv (PS (restL A a b ++ madeL A a b)), h) := by
    rw [catP_lv (by rw [PS_len, PS_len]; exact Nat.le_trans (show _ ≤ 2000 by omega) (by decide))]
    simp [PS]
  have cl := clear_ok (restL A a b ++ madeL A a b) (by rw [List.length_append, lm]; have : (restL A a b).length ≤ 100 := Nat.le_trans (List.length_filter_le _ _) (by omega); omega) h
  rw [clear_pos x.toArr L] at cl
  have st := seated_ok (n := n) (by omega) (restL A a b ++ madeL A a b) (fun r hr => by
    rcases List.mem_append.mp hr with hr | hr
    · simp only [restL, List.mem_filter] at hr
      obtain ⟨h1, h2, h3⟩ := mem_armsL.mp hr.1
      exact ⟨by omega, by rw [h3]; exact N.lt _ (by omega)⟩
    · unfold madeL at hr
      split at hr <;> simp at hr <;> rcases hr with rfl | rfl <;> exact ⟨by simp only; omega, by simp only; omega⟩) h
  have nr : noRef (swD A a b) = true := by unfold swD; split; simp only [ar, Bool.false_eq_true, if_false, noRef]; exact noRefs_map (α := Nat) _; rfl
  refine fn_rt' [some (ar l A), some (PR2 (a, b)), none, none, none, none, none, none, none] ?_ nr
  have last : ∀ v2 v3 v4 v5 v8, s_ret (e_if (t_tru (e_own m_law_clear (a_cons (e_op (addP false) (e_var 7) (e_var 6)) a_nil))) (e_own m_law_seated (a_cons (e_call lenP (a_cons (e_var 0) a_nil)) (a_cons (e_op (addP false) (e_var 7) (e_var 6)) a_nil))) (e_c D.non)) [some (ar l A), some (PR2 (a, b)), v2, v3, v4, v5, some (.lv (PS (madeL A a b))), some (.lv (PS (restL A a b))), v8] h = .ok (.rt (swD A a b)) h := fun v2 v3 v4 v5 v8 => by
    refine ret_ok ?_
    unfold swD
    cases q : posB A a b with
    | true =>
      rw [q] at cl
      have P := (pos_ps x.toArr ab hb la lb).mp q
      rw [seat_ex x.toArr P] at st
      exact (eif_t (tru_ok (own_ok (a1_ok (op_ok var_ok var_ok ct)) cl))).trans (own_ok (acons_ok (call_ok (a1_ok var_ok) (by rw [lenP_ar, hn])) (acons_ok (op_ok var_ok var_ok ct) anil_ok)) st)
    | false =>
      rw [q] at cl
      exact (eif_f (tru_ok (own_ok (a1_ok (op_ok var_ok var_ok ct)) cl))).trans c_ok
  have rest : ∀ v2 v3 v4 v5, e_lc [8] (i_seq (e_own m_law_pairs (a_cons (e_var 0) a_nil))) (.nm 8) (t_b (e_op (inP true) (e_op ixP (e_var 8) (e_c (D.int 0))) (e_var 1))) (e_var 8) [some (ar l A), some (PR2 (a, b)), v2, v3, v4, v5, some (.lv (PS (madeL A a b))), none, none] h = .ok (.lv (PS (restL A a b))) h := fun v2 v3 v4 v5 =>
    lc_to (armsL A) PR2 (fun r => [some (ar l A), some (PR2 (a, b)), v2, v3, v4, v5, some (.lv (PS (madeL A a b))), none, some (PR2 r)]) (fun r => !decide (r.1 ∈ [a, b])) PR2 (seq_lv (own_ok (a1_ok var_ok) (pairs_ok l A hal h))) (by omega) (fun r _ =>
      ⟨rfl, b_ok (op_ok (op_ok var_ok c_ok (show ixP (PR2 r) (.int 0) h = some (.int (r.1 : Nat), h) from rfl)) var_ok ((inP_encT (α := Nat) true (fun _ => rfl) (by decide) r.1 [a, b] h).trans (by simp only [if_true]))), fun _ => var_ok⟩) rfl
  have four : e_lst false (a_cons (e_op ixP (e_var 1) (e_c (D.int 0))) (a_cons (e_op ixP (e_var 1) (e_c (D.int 1))) (a_cons (e_op ixP (e_var 0) (e_op ixP (e_var 1) (e_c (D.int 0)))) (a_cons (e_op ixP (e_var 0) (e_op ixP (e_var 1) (e_c (D.int 1)))) a_nil)))) [some (ar l A), some (PR2 (a, b)), none, none, none, none, none, none, none] h = .ok (.lv [.int (a : Nat), .int (b : Nat), .int (fn A a : Nat), .int (fn A b : Nat)]) h :=
    lst_ok (acons_ok (op_ok var_ok c_ok rfl) (acons_ok (op_ok var_ok c_ok rfl) (acons_ok (op_ok var_ok (op_ok var_ok c_ok rfl) (x.at ha h)) (acons_ok (op_ok var_ok (op_ok var_ok c_ok rfl) (x.at hb h)) anil_ok)))) four_sz
  by_cases q : fn A a < b
  · have so : sortP false [.lv [.int (a : Nat), .int (b : Nat), .int (fn A a : Nat), .int (fn A b : Nat)]] h = some (.lv [.int (a : Nat), .int (fn A a : Nat), .int (b : Nat), .int (fn A b : Nat)], h) :=
      sorted_I false (xs := [(a : Int), b, fn A a, fn A b]) (ys := [(a : Int), fn A a, b, fn A b]) (.cons _ (.swap _ _ _)) (by simp; omega) h
    have em : PS (madeL A a b) = [.tup [.int (a : Nat), .int (fn A b : Nat)], .tup [.int (fn A a : Nat), .int (b : Nat)]] := by simp [madeL, q, PS]
    have eq : eqP false (.int (fn A a : Nat)) (.int (fn A a : Nat)) h = some (.bl true, h) := by rw [eqP_nat]; simp
    refine seq_then (asg_ok (call_ok (a1_ok four) so) (pat4L 2 3 4 5 _ _ _ _ _)) (seq_then (set_ok ((eif_t (b_ok (op_ok (op_ok var_ok var_ok (x.at ha h)) var_ok eq))).trans (lst_ok (acons_ok (tup_ok (acons_ok var_ok (acons_ok var_ok anil_ok)) two_sz) (acons_ok (tup_ok (acons_ok var_ok (acons_ok var_ok anil_ok)) two_sz) anil_ok)) two_sz))) ?_)
    have r1 := rest (some (.int (a : Nat))) (some (.int (fn A a : Nat))) (some (.int (b : Nat))) (some (.int (fn A b : Nat)))
    have l1 := last (some (.int (a : Nat))) (some (.int (fn A a : Nat))) (some (.int (b : Nat))) (some (.int (fn A b : Nat))) none
    rw [em] at r1 l1
    exact seq_then (set_ok r1) l1
  · have so : sortP false [.lv [.int (a : Nat), .int (b : Nat), .int (fn A a : Nat), .int (fn A b : Nat)]] h = some (.lv [.int (a : Nat), .int (b : Nat), .int (fn A b : Nat), .int (fn A a : Nat)], h) :=
      sorted_I false (xs := [(a : Int), b, fn A a, fn A b]) (ys := [(a : Int), b, fn A b, fn A a]) (.cons _ (.cons _ (.swap _ _ _))) (by simp; omega) h
    have em : PS (madeL A a b) = [.tup [.int (a : Nat), .int (b : Nat)], .tup [.int (fn A b : Nat), .int (fn A a : Nat)]] := by simp [madeL, q, PS]
    have eq : eqP false (.int (fn A a : Nat)) (.int (b : Nat)) h = some (.bl false, h) := by rw [eqP_nat]; simp [nab]
    refine seq_then (asg_ok (call_ok (a1_ok four) so) (pat4L 2 3 4 5 _ _ _ _ _)) (seq_then (set_ok ((eif_f (b_ok (op_ok (op_ok var_ok var_ok (x.at ha h)) var_ok eq))).trans (lst_ok (acons_ok (tup_ok (acons_ok var_ok (acons_ok var_ok anil_ok)) two_sz) (acons_ok (tup_ok (acons_ok var_ok (acons_ok var_ok anil_ok)) two_sz) anil_ok)) two_sz))) ?_)
    have r1 := rest (some (.int (a : Nat))) (some (.int (b : Nat))) (some (.int (fn A b : Nat))) (some (.int (fn A a : Nat)))
    have l1 := last (some (.int (a : Nat))) (some (.int (b : Nat))) (some (.int (fn A b : Nat))) (some (.int (fn A a : Nat))) none
    rw [em] at r1 l1
    exact seq_then (set_ok r1) l1
end Mini
namespace Mini
open PySem L2
/-! ### swaps -/
theorem swD_none {A : List Nat} {a b : Nat} (h : Hd) : notNP (swD A a b) .non h = some (.bl (posB A a b), h) := by
  unfold swD
  cases posB A a b <;> rfl
theorem swaps_ok {n : Nat} {A : List Nat} (x : Am n A) (l : Bool) (h : Hd) : m_law_swaps [ar l A] h = .ok (.lv (PS (exL A))) h := by
  have hal := x.al
  have hn := x.len
  have hlen := armsL_len A
  have ll : (lessL A).length ≤ 1000 := Nat.le_trans (List.length_filter_le _ _) (by simp; omega)
  have e0 : s_par 1 2 (a_cons (e_lc [6, 5] (i_seq (e_own m_law_pairs (a_cons (e_var 0) a_nil))) (.tp [(.nm 6), (.nm 5)]) t_yes (e_var 6)) (a_cons (e_lst true a_nil) a_nil)) [some (ar l A), none, none, none, none, none, none] h = .ok (.nx [some (ar l A), some (.lv (NI (lessL A))), some (.ref h.length), none, none, none, none]) (h ++ [.lst []]) :=
    par_ok (acons_ok (lc_mto (ys := NI (lessL A)) (armsL A) PR2 (fun r => [some (ar l A), none, none, none, none, some (.int (r.2 : Nat)), some (.int (r.1 : Nat))]) (fun r => .int (r.1 : Nat)) (seq_lv (own_ok (a1_ok var_ok) (pairs_ok l A hal _))) (by omega) (fun r _ => ⟨rfl, var_ok⟩) (by simp [armsL, lessL, NI, List.map_map, Function.comp_def])) (acons_ok (lstM_ok anil_ok (Nat.zero_le _)) anil_ok))
  have pre (i : Nat) : ((List.range i).flatMap (exCol A)).length ≤ i * 1000 := by
    induction i with
    | zero => simp
    | succ i ih =>
      rw [List.range_succ, List.flatMap_append, List.length_append]
      have : (exCol A i).length ≤ 1000 := by
        unfold exCol
        rw [List.length_map]
        exact Nat.le_trans (List.length_filter_le _ _) (by rw [List.length_take]; omega)
      simp only [List.flatMap_cons, List.flatMap_nil, List.append_nil]
      omega
  have loop : ∃ v3 v4, forM (.tp [(.nm 3), (.nm 4)]) x_law_swaps_f0 (enumL 0 (NI (lessL A))) [some (ar l A), some (.lv (NI (lessL A))), some (.ref h.length), none, none, none, none] (h ++ [.lst []]) = .ok (.nx [some (ar l A), some (.lv (NI (lessL A))), some (.ref h.length), v3, v4, none, none]) (h ++ [.lst (PS (exR A))]) := by
    refine for_wp (Q := fun r => ∃ v3 v4, r = .ok (.nx [some (ar l A), some (.lv (NI (lessL A))), some (.ref h.length), v3, v4, none, none]) (h ++ [.lst (PS (exR A))])) (fun i s H => H = h ++ [.lst (PS ((List.range i).flatMap (exCol A)))] ∧ ∃ v3 v4, s = [some (ar l A), some (.lv (NI (lessL A))), some (.ref h.length), v3, v4, none, none]) _ _ _ ⟨rfl, none, none, rfl⟩ ?_ ?_
    · rintro i d s H hd ⟨rfl, v3, v4, rfl⟩
      rw [show NI (lessL A) = (lessL A).map (fun x : Nat => D.int ((x : Nat) : Int)) from rfl, enumL_map _ 0] at hd
      rw [List.getElem?_map] at hd
      have hi : i < (lessL A).length := by
        rcases Nat.lt_or_ge i (lessL A).length with q | q
        · exact q
        · rw [List.getElem?_eq_none (by simpa using q)] at hd; cases hd
      rw [List.getElem?_range hi] at hd
      simp only [Option.map_some, Option.some.injEq] at hd
      subst hd
      generalize ha : (lessL A).getD i 0 = a
      have ma : a ∈ lessL A := by
        rw [← ha, List.getD_eq_getElem?_getD, List.getElem?_eq_getElem hi]; exact List.getElem_mem _
      have mb := mem_lessL.mp ma
      have lc : e_lc [6] (i_seq (e_slice false (e_var 1) o_none (o_some (e_var 3)))) (.nm 6) (t_b (e_op notNP (e_own m_law_swapped (a_cons (e_var 0) (a_cons (e_tup (a_cons (e_var 6) (a_cons (e_var 4) a_nil))) a_nil))) (e_c D.non))) (e_tup (a_cons (e_var 6) (a_cons (e_var 4) a_nil)))
          [some (ar l A), some (.lv (NI (lessL A))), some (.ref h.length), some (.int (i : Nat)), some (.int (a : Nat)), none, none] (h ++ [.lst (PS ((List.range i).flatMap (exCol A)))]) = .ok (.lv (PS (exCol A i))) (h ++ [.lst (PS ((List.range i).flatMap (exCol A)))]) := by
        refine lc_to ((lessL A).take i) (fun b : Nat => D.int ((b : Nat) : Int)) (fun b => [some (ar l A), some (.lv (NI (lessL A))), some (.ref h.length), some (.int (i : Nat)), some (.int (a : Nat)), none, some (.int (b : Nat))]) (fun b => posB A b a) (fun b => PR2 (b, a)) ?_ (by rw [List.length_take]; omega) (fun b hb => ?_) ?_
        · refine seq_lv (slice_ok var_ok onone_ok (osome_ok var_ok) ?_)
          simp only [slP, asL, mkL, Bool.false_eq_true, if_false]
          rw [cut_to, NI, ← List.map_take]
        · have q := (mem_take (lessL_lt A) hi).mp hb
          rw [ha] at q
          have qb := mem_lessL.mp q.1
          exact ⟨rfl, b_ok (op_ok (own_ok (acons_ok var_ok (acons_ok (tup_ok (acons_ok var_ok (acons_ok var_ok anil_ok)) two_sz) anil_ok)) (swapped_ok x l ⟨q.2, by omega, qb.2, mb.2⟩ _)) c_ok (swD_none _)), fun _ => tup_ok (acons_ok var_ok (acons_ok var_ok anil_ok)) two_sz⟩
        · simp only [exCol, PS, ha, List.map_map, Function.comp_def]
      have pp := pre i
      have pp' := pre (i + 1)
      rw [List.range_succ, List.flatMap_append, List.length_append] at pp'
      simp only [List.flatMap_cons, List.flatMap_nil, List.append_nil] at pp'
      have e : extP (.ref h.length) [.lv (PS (exCol A i))] (h ++ [.lst (PS ((List.range i).flatMap (exCol A)))]) = some (.non, h ++ [.lst (PS ((List.range (i + 1)).flatMap (exCol A)))]) := by
        have c : (PS ((List.range i).flatMap (exCol A))).length + (PS (exCol A i)).length ≤ sizeLine := Nat.le_trans (show _ ≤ 1001000 by rw [PS_len, PS_len]; omega) (by decide)
        simp only [extP, last_get, asV, notFl, Bool.true_and, noRefs_map (α := Nat × Nat) (exCol A i) |> fun q => show noRefs (PS (exCol A i)) = true from q, decide_eq_true c, Bool.and_self, if_true, set_last]
        rw [List.range_succ, List.flatMap_append]
        simp [PS]
      refine ⟨[some (ar l A), some (.lv (NI (lessL A))), some (.ref h.length), some (.int (i : Nat)), some (.int (a : Nat)), none, none], patD_two 3 4 _ _ _, .inl ⟨_, _, expr_ok (lm_ok var_ok (by simp [lstTy, asL]) (a1_ok lc) e), rfl, _, _, rfl⟩⟩
    · rintro s H ⟨rfl, v3, v4, rfl⟩
      refine ⟨v3, v4, ?_⟩
      rw [show (enumL 0 (NI (lessL A))).length = (lessL A).length by rw [enumL_length, NI_len]]
      rfl
  obtain ⟨v3, v4, e1⟩ := loop
  have so : sortP false [.ref h.length] (h ++ [.lst (PS (exR A))]) = some (.lv (PS (exL A)), h ++ [.lst (PS (exR A))]) :=
    (sort_pairs false (exR_perm A) ((exL_lex A).imp fun {p q} e => by rcases e with e | e; exact .inl e; exact .inr ⟨e.1, by omega⟩) (by simp only [asS, asL, last_get])).trans rfl
  exact fn_v (h' := [.lst (PS (exR A))]) [some (ar l A), none, none, none, none, none, none] (seq_then e0 (seq_then ((for_ok (enum_ok (a1_ok var_ok) rfl)).trans e1) (ret_ok (call_ok (a1_ok var_ok) so)))) (by simp only [noRef]; exact noRefs_map (α := Nat × Nat) _)
end Mini
namespace Mini
open PySem L2
theorem law_take_ok (n : Nat) {k : Int} (hk : 0 < k) (hk7 : k ≤ 10000000) {h : Hd} {b N : Nat} (hb : BoxAt h b N) (hN : N < 2 ^ 40) :
    ∃ r h', r_law_take (n + 1) [.ref b, .int k] h = .ok (.int r) h' ∧ 0 ≤ r ∧ r < k ∧ Drawn b h h' N 1 := by
  obtain ⟨x, y, z, e, hx, hy, hy2, hz, hzN⟩ := hb
  have hlt : b < h.length := (List.getElem?_eq_some_iff.mp e).1
  have es : ∀ o, (h.set b o)[b]? = some o := fun o => List.getElem?_set_self hlt
  by_cases hx0 : 0 < x
  · refine ⟨x % k, h.set b (.lst [.int (x / k), .int y, .int z]), ?_, Int.emod_nonneg _ (by omega), Int.emod_lt_of_pos _ hk, by simp, fun m hm => List.getElem?_set_ne (Ne.symm hm), ⟨x / k, y, z, es _, Int.ediv_nonneg hx (by omega), hy, hy2, hz, by omega⟩⟩
    have hlog : k.natAbs.log2 < 9000 := log2_small (by omega)
    simp [r_law_take, fnM, runB, b_law_take, s_seq, s_if, t_b, e_op, e_var, e_c, ixP, asS, asL, e, atI, ixN, gtP, cmpP, hx0, s_set, modP, hk, s_asgT, g_sub, fdivP, hlog, setP, noRef, s_ret, sealR, sealD, take_set]
  · have hx1 : x = 0 := by omega
    subst hx1
    have c1 : in64 (39373 + (z + 1)) = true := in64_of (by omega) (by omega)
    have c2 : ∀ o : Int, in64 (o % 40009 + 7) = true := fun o => in64_of (by omega) (by omega)
    have l1 : Nat.log2 1000003 < 9000 := log2_small (by decide)
    have l2 : Nat.log2 64 < 9000 := log2_small (by decide)
    have nk : ¬ (10000000 : Int) < k := by omega
    let once : Int := (y + 48271 * (z + 1)) * (39373 + (z + 1)) % 2147483647
    let twice : Int := (once + (z + 1) + y / 1000003) * (once % 40009 + 7) % 2147483629
    refine ⟨(twice * 48271 + once) % 2147483587 / 64 % k, h.set b (.lst [.int 0, .int y, .int (z + 1)]), ?_, Int.emod_nonneg _ (by omega), Int.emod_lt_of_pos _ hk, by simp, fun m hm => List.getElem?_set_ne (Ne.symm hm), ⟨0, y, z + 1, es _, by omega, hy, hy2, by omega, by omega⟩⟩
    simp [r_law_take, fnM, runB, b_law_take, s_seq, s_if, t_b, e_op, e_var, e_c, ixP, asS, asL, e, es, atI, ixN, gtP, cmpP, s_set, modP, hk, s_asgT, g_sub, fdivP, l1, l2, setP, noRef, s_ret, sealR, sealD, take_set, powP, nk, s_nil, addP, mulP, i48, c1, c2, once, twice]
theorem m_take_ok {k : Int} (hk : 0 < k) (hk7 : k ≤ 10000000) {h : Hd} {b N : Nat} (hb : BoxAt h b N) (hN : N < 2 ^ 40) :
    ∃ r h', m_law_take [.ref b, .int k] h = .ok (.int r) h' ∧ 0 ≤ r ∧ r < k ∧ Drawn b h h' N 1 := law_take_ok 3 hk hk7 hb hN
end Mini
namespace Mini
open PySem L2
/-! ### of: one of a list -/
theorem of_ok {L : List D} (hL : 0 < L.length) (h7 : L.length ≤ 100000) (nr : noRefs L = true) {h : Hd} {b N : Nat} (hb : BoxAt h b N) (hN : N < 2 ^ 40) :
    ∃ (i : Nat) (hi : i < L.length) (h' : Hd), m_law_of [.ref b, .lv L] h = .ok L[i] h' ∧ Drawn b h h' N 1 := by
  obtain ⟨t, h', et, t0, t1, dr⟩ := m_take_ok (k := ((L.length : Nat) : Int)) (by omega) (by omega) hb hN
  obtain ⟨i, rfl⟩ : ∃ n : Nat, t = (n : Nat) := ⟨t.toNat, by omega⟩
  have hi : i < L.length := by omega
  refine ⟨i, hi, h', ?_, dr⟩
  have ix : ixP (.lv L) (.int (i : Nat)) h' = some (L[i], h') := by
    simp only [ixP, asS, asL, atI_nat (List.getElem?_eq_getElem hi)]
  have hr : noRef L[i] = true := (noRefs_iff L).mp nr _ (List.getElem_mem hi)
  have sd : sealD h.length L[i] h' = some L[i] := by
    cases q : L[i] with
    | ref k => rw [q] at hr; simp [noRef] at hr
    | _ => rw [q] at hr; simp only [sealD, hr, if_true]
  have r := fn_rt (np := 2) (n := 2) (b := b_law_of) (ds := [.ref b, .lv L]) (h := h) (h' := h') (d := L[i]) [some (.ref b), some (.lv L)] L[i] (ret_ok (op_ok var_ok (own_ok (a2_ok var_ok (call_ok (a1_ok var_ok) (by simp only [lenP, asS, asL]))) et) ix)) sd
  rw [← dr.len, take_self] at r
  exact r
end Mini
namespace Mini
open PySem L2
/-! ### strolled: some exchanges -/
theorem strolled_ok {n : Nat} {A : List Nat} (x : Am n A) {turns : Nat} (ht : turns ≤ 1000) {h : Hd} {b N : Nat} (hb : BoxAt h b N) (hN : N + 1000 < 2 ^ 40) :
    ∃ B h', m_law_strolled [.ref b, ar false A, .int (turns : Nat)] h = .ok (ar false B) h' ∧ Am n B ∧ Drawn b h h' N turns := by
  have loop : ∃ B h' v3 v4, forM (.nm 3) x_law_strolled_f0 (rangeL 0 turns) [some (.ref b), some (ar false A), some (.int (turns : Nat)), none, none] h = .ok (.nx [some (.ref b), some (ar false B), some (.int (turns : Nat)), v3, v4]) h' ∧ Am n B ∧ Drawn b h h' N turns := by
    refine for_wp (Q := fun r => ∃ B h' v3 v4, r = .ok (.nx [some (.ref b), some (ar false B), some (.int (turns : Nat)), v3, v4]) h' ∧ Am n B ∧ Drawn b h h' N turns) (fun i s H => i ≤ turns ∧ ∃ B v3 v4, s = [some (.ref b), some (ar false B), some (.int (turns : Nat)), v3, v4] ∧ Am n B ∧ Drawn b h H N i) _ _ _ ⟨by omega, A, none, none, rfl, x, Drawn.refl hb⟩ ?_ ?_
    · rintro i d s H hd ⟨_, B, v3, v4, rfl, y, dr⟩
      obtain ⟨hi, rfl⟩ := rangeL_at d hd
      refine ⟨[some (.ref b), some (ar false B), some (.int (turns : Nat)), some (.int (i : Nat)), v4], rfl, .inl ?_⟩
      have es := swaps_ok y false H
      have eq : eqP true (.lv (PS (exL B))) (.lv []) H = some (.bl (!decide (exL B = [])), H) := (eqP_pairs true (exL B) [] H).trans (by simp only [if_true])
      by_cases q : exL B = []
      · rw [decide_eq_true q] at eq
        exact ⟨_, H, seq_then (set_ok (own_ok (a1_ok var_ok) es)) (if_no (b_ok (op_ok var_ok (lst_ok anil_ok (Nat.zero_le _)) eq))), by omega, B, _, _, rfl, y, dr.mono (by omega)⟩
      · rw [decide_eq_false q] at eq
        have lx := exL_len y
        obtain ⟨j, hj, h', e, d'⟩ := of_ok (L := PS (exL B)) (by rw [PS_len]; exact List.length_pos_iff.mpr q) (by rw [PS_len]; omega) (noRefs_map (α := Nat × Nat) _) dr.box (by omega)
        have hj' : j < (exL B).length := by rw [PS_len] at hj; exact hj
        have ej : (PS (exL B))[j] = PR2 (exL B)[j] := by simp [PS]
        rw [ej] at e
        obtain ⟨a, c⟩ : ∃ a c, (exL B)[j] = (a, c) := ⟨_, _, rfl⟩
        obtain ⟨c, ec⟩ := c
        have P := (mem_exPs y.toArr).mp (ec ▸ List.getElem_mem hj')
        rw [ec] at e
        have sw := swapped_ok y false ⟨P.ab, P.hb, P.la, P.lb⟩ h'
        unfold swD at sw
        rw [(pos_ps y.toArr P.ab P.hb P.la P.lb).mpr P, if_pos rfl] at sw
        exact ⟨_, h', seq_then (set_ok (own_ok (a1_ok var_ok) es)) ((if_t (b_ok (op_ok var_ok (lst_ok anil_ok (Nat.zero_le _)) eq))).trans (set_ok (own_ok (acons_ok var_ok (acons_ok (own_ok (acons_ok var_ok (acons_ok var_ok anil_ok)) e) anil_ok)) sw))), by omega, _, _, _, rfl, P.am y, dr.to d' (by omega)⟩
    · rintro s H ⟨_, B, v3, v4, rfl, y, dr⟩
      rw [rangeL_len] at dr
      exact ⟨B, H, v3, v4, rfl, y, dr⟩
  obtain ⟨B, h', v3, v4, e, y, dr⟩ := loop
  refine ⟨B, h', ?_, y, dr⟩
  have r := fn_rt (np := 3) (n := 5) (b := b_law_strolled) (ds := [.ref b, ar false A, .int (turns : Nat)]) (h := h) (h' := h') (d := ar false B) [some (.ref b), some (ar false A), some (.int (turns : Nat)), none, none] (ar false B) (seq_then ((for_ok (rng_ok (a1_ok var_ok) (by omega))).trans e) (ret_ok var_ok)) (by
    have : noRef (ar false B) = true := by simp only [ar, Bool.false_eq_true, if_false, noRef]; exact noRefs_map (α := Nat) _
    unfold ar at this ⊢
    simp only [Bool.false_eq_true, if_false] at this ⊢
    simp only [sealD, this, if_true])
  rw [← dr.len, take_self] at r
  exact r
end Mini
namespace Mini
open PySem L2
theorem hall_loop {few : Nat} (hf : few ≤ 400) {h : Hd} {b N : Nat} (hb : BoxAt h b N) (hN : N + 1000 < 2 ^ 40) (hbl : b < h.length) : ∀ (H : Hd) (A : List Nat) (st : List (Nat × Nat)) (q : Nat) (v4 v5 v6 : Option D) (j : Nat), HS (2 * few) A st → h.length < q → H[h.length]? = some (.lst (NI A)) → H[q]? = some (.lst (PS st)) → j + weight st ≤ 2 * few + 1 →
      (∀ m, m ≠ b → m < h.length → H[m]? = h[m]?) → BoxAt H b (N + j) →
      ∃ H' A' q' v4' v5' v6', whileM x_law_hall_t0 x_law_hall_w0 1000 [some (.ref b), some (.int (few : Nat)), some (.ref h.length), some (.ref q), v4, v5, v6] H = .ok (.nx [some (.ref b), some (.int (few : Nat)), some (.ref h.length), some (.ref q'), v4', v5', v6']) H' ∧
        Arr (2 * few) A' ∧ H'[h.length]? = some (.lst (NI A')) ∧ (∀ m, m ≠ b → m < h.length → H'[m]? = h[m]?) ∧ BoxAt H' b (N + (2 * few + 1)) := by
    intro H A st q v4 v5 v6 j hs hq ep eq hj ho hbx
    refine while_wp (Q := fun r => ∃ H' A' q' v4' v5' v6', r = .ok (.nx [some (.ref b), some (.int (few : Nat)), some (.ref h.length), some (.ref q'), v4', v5', v6']) H' ∧
        Arr (2 * few) A' ∧ H'[h.length]? = some (.lst (NI A')) ∧ (∀ m, m ≠ b → m < h.length → H'[m]? = h[m]?) ∧ BoxAt H' b (N + (2 * few + 1)))
      (fun k s H => ∃ (A : List Nat) (st : List (Nat × Nat)) (q : Nat) (v4 v5 v6 : Option D) (j : Nat), k = weight st ∧ s = [some (.ref b), some (.int (few : Nat)), some (.ref h.length), some (.ref q), v4, v5, v6] ∧ HS (2 * few) A st ∧ h.length < q ∧ H[h.length]? = some (.lst (NI A)) ∧ H[q]? = some (.lst (PS st)) ∧ j + weight st ≤ 2 * few + 1 ∧
        (∀ m, m ≠ b → m < h.length → H[m]? = h[m]?) ∧ BoxAt H b (N + j)) ?_ 1000 (weight st) _ H (by omega) ⟨A, st, q, v4, v5, v6, j, rfl, rfl, hs, hq, ep, eq, hj, ho, hbx⟩
    clear hs hq ep eq hj ho hbx
    rintro k s H ⟨A, st, q, v4, v5, v6, j, rfl, rfl, hs, hq, ep, eq, hj, ho, hbx⟩
    have ht : x_law_hall_t0 [some (.ref b), some (.int (few : Nat)), some (.ref h.length), some (.ref q), v4, v5, v6] H = .ok (!st.isEmpty) H := by
      simp [x_law_hall_t0, t_b, e_op, e_var, e_lst, a_nil, mkL, eqP_nil_PS eq]
    rcases List.eq_nil_or_concat st with rfl | ⟨rest, ⟨lo, hi⟩, rfl⟩
    · left
      exact ⟨H, by rw [ht]; rfl, H, A, q, v4, v5, v6, rfl, hs.done, ep, ho, hbx.mono (by omega)⟩
    · right
      rw [List.concat_eq_append] at *
      refine ⟨H, by rw [ht]; simp, ?_⟩
      left
      have hql : q < H.length := (List.getElem?_eq_some_iff.mp eq).1
      have hiv := hs.iv (lo, hi) (by simp)
      simp only at hiv
      have hpop : popP (.ref q) [] H = some (.tup [.int ((lo : Nat) : Int), .int ((hi : Nat) : Int)], H.set q (.lst (PS rest))) := by
        simp only [popP, eq]
        simp [PS]
      have hty : lstTy (.ref q) H = true := by simp [lstTy, asL, eq]
      have bq : b ≠ q := by omega
      by_cases hlt : lo < hi
      · -- a pair is drawn
        have hw := weight_drop rest lo hi
        have hbx1 : BoxAt (H.set q (.lst (PS rest))) b (N + j) := by
          obtain ⟨x, y, z, e, r⟩ := hbx
          exact ⟨x, y, z, by rw [List.getElem?_set_ne (Ne.symm bq)]; exact e, r⟩
        obtain ⟨t, H1, et, ht0, ht1, dr⟩ := m_take_ok (k := ((hi : Int) - lo) / 2) (by omega) (by omega) hbx1 (by omega)
        have hm : ∃ m : Nat, (lo : Int) + 1 + 2 * t = (m : Nat) ∧ lo < m ∧ m < hi ∧ (m - lo) % 2 = 1 := ⟨lo + 1 + 2 * t.toNat, by omega, by omega, by omega, by omega⟩
        obtain ⟨m, em, m1, m2, m3⟩ := hm
        have hl := hs.len
        have e1p : H1[h.length]? = some (.lst (NI A)) := by rw [dr.oth _ (by omega), List.getElem?_set_ne (by omega)]; exact ep
        have e1q : H1[q]? = some (.lst (PS rest)) := by rw [dr.oth _ (Ne.symm bq), List.getElem?_set_self hql]
        have hH1 : H1.length = H.length := by rw [dr.len]; simp
        have s1 : setP (.ref h.length) (.int ((lo : Nat) : Int)) (.int ((m : Nat) : Int)) H1 = some (H1.set h.length (.lst (NI (A.set lo m)))) := by
          simp only [setP, e1p]
          rw [ixN_nat (by simp; omega)]
          simp [noRef, NI, List.map_set]
        have e2p : (H1.set h.length (.lst (NI (A.set lo m))))[h.length]? = some (.lst (NI (A.set lo m))) := List.getElem?_set_self (by omega)
        have s2 : setP (.ref h.length) (.int ((m : Nat) : Int)) (.int ((lo : Nat) : Int)) (H1.set h.length (.lst (NI (A.set lo m)))) = some (H1.set h.length (.lst (NI ((A.set lo m).set m lo)))) := by
          simp only [setP, e2p]
          rw [ixN_nat (by simp; omega)]
          simp [noRef, NI, List.map_set]
        have e3q : (H1.set h.length (.lst (NI ((A.set lo m).set m lo))))[q]? = some (.lst (PS rest)) := by rw [List.getElem?_set_ne (by omega)]; exact e1q
        have hrl : rest.length ≤ 2 * few + 1 := by
          have : rest.length ≤ weight rest := by
            unfold weight
            clear hw e1q e3q hpop ht hiv hj hs eq hbx1 et dr e1p s1 s2 hH1 e2p
            induction rest with
            | nil => simp
            | cons a r ih => simp; omega
          omega
        have s3 : addP true (.ref q) (.lv [.tup [.int ((lo : Int) + 1), .int ((m : Nat) : Int)], .tup [.int ((m : Int) + 1), .int ((hi : Nat) : Int)]]) (H1.set h.length (.lst (NI ((A.set lo m).set m lo)))) =
            some (.ref H1.length, H1.set h.length (.lst (NI ((A.set lo m).set m lo))) ++ [.lst (PS (rest ++ [(lo + 1, m), (m + 1, hi)]))]) := by
          have hz : (PS rest).length + 2 ≤ sizeLine := by simp; exact Nat.le_trans (show rest.length + 2 ≤ 1000 by omega) (by decide)
          simp only [addP, lstOf, e3q]
          rw [if_pos (by simpa using hz)]
          simp [mkL, PS]
        refine ⟨_, H1.set h.length (.lst (NI ((A.set lo m).set m lo))) ++ [.lst (PS (rest ++ [(lo + 1, m), (m + 1, hi)]))], weight (rest ++ [(lo + 1, m), (m + 1, hi)]), ?_, ?_, (A.set lo m).set m lo, rest ++ [(lo + 1, m), (m + 1, hi)], H1.length, some (.int ((lo : Nat) : Int)), some (.int ((hi : Nat) : Int)), some (.int ((m : Nat) : Int)), j + 1, rfl, rfl, hs.step m1 m2 m3, by omega, ?_, ?_, ?_, fun k hk hkl => ?_, ?_⟩
        · have hlt' : (lo : Int) < hi := by omega
          have two2 : sizeLine ≥ 2 := by decide
          simp [x_law_hall_w0, s_seq, s_asg, e_lm, e_var, hty, a_nil, hpop, patD_two, s_if, t_b, e_op, hlt, s_set, mul2_int, e_c, e_own, a_cons, div2_int, et, em, s_asgT, e_tup, two2, g_tup, g_cons, g_sub, g_nil, s1, s2, e_lst, mkL, s3]
        · rw [weight_two, hw]; omega
        · rw [List.getElem?_append_left (by simp; omega)]
          exact List.getElem?_set_self (by omega)
        · rw [List.getElem?_append_right (by simp)]
          simp
        · rw [weight_two]; rw [hw] at hj; omega
        · rw [List.getElem?_append_left (by simp; omega), List.getElem?_set_ne (by omega), dr.oth k hk, List.getElem?_set_ne (by omega)]
          exact ho k hk hkl
        · obtain ⟨x, y, z, e, r⟩ := dr.box
          exact ⟨x, y, z, by rw [List.getElem?_append_left (by simp; omega), List.getElem?_set_ne (by omega)]; exact e, r⟩
      · -- an empty gap
        have he : lo = hi := by omega
        subst he
        have hw := weight_drop rest lo lo
        have nlt : ¬ (lo : Int) < lo := by omega
        refine ⟨_, H.set q (.lst (PS rest)), weight rest, ?_, by omega, A, rest, q, some (.int ((lo : Nat) : Int)), some (.int ((lo : Nat) : Int)), v6, j, rfl, rfl, hs.drop, hq, ?_, ?_, by omega, fun k hk hkl => ?_, ?_⟩
        · simp [x_law_hall_w0, s_seq, s_asg, e_lm, e_var, hty, a_nil, hpop, patD_two, s_if, t_b, e_op, s_nil]
        · rw [List.getElem?_set_ne (by omega)]; exact ep
        · rw [List.getElem?_set_self hql]
        · rw [List.getElem?_set_ne (by omega)]; exact ho k hk hkl
        · obtain ⟨x, y, z, e, r⟩ := hbx
          exact ⟨x, y, z, by rw [List.getElem?_set_ne (by omega)]; exact e, r⟩
theorem hall_ok {few : Nat} (hf : few ≤ 400) {h : Hd} {b N : Nat} (hb : BoxAt h b N) (hN : N + 1000 < 2 ^ 40) :
    ∃ A h', m_law_hall [.ref b, .int (few : Nat)] h = .ok (.tup (NI A)) h' ∧ Arr (2 * few) A ∧ Drawn b h h' N (2 * few + 1) := by
  have hbl := hb.lt
  have loop := hall_loop hf hb hN hbl
  have hw0 : weight [(0, 2 * few)] = 2 * few + 1 := by simp [weight]
  have h0 : (List.replicate (2 * (few : Int)).toNat [D.int 0]).flatten = NI (List.replicate (2 * few) 0) := by
    have : (2 * (few : Int)).toNat = 2 * few := by omega
    rw [this]
    induction 2 * few with
    | zero => rfl
    | succ n ih => simp only [List.replicate_succ, List.flatten_cons, ih, NI, List.map_cons]; rfl
  have c1 : (in63 (2 * (few : Int)) && decide (([D.int 0] : List D).length * (2 * (few : Int)).toNat ≤ sizeLine)) = true := by
    have a1 : in63 (2 * (few : Int)) = true := by unfold in63; rw [decide_eq_true (by omega), decide_eq_true (by omega)]; rfl
    have a2 : ([D.int 0] : List D).length * (2 * (few : Int)).toNat ≤ sizeLine := by simp only [List.length_cons, List.length_nil]; exact Nat.le_trans (show (0 + 1) * (2 * (few : Int)).toNat ≤ 1000 by omega) (by decide)
    rw [a1, decide_eq_true a2]; rfl
  obtain ⟨H', A', q', v4, v5, v6, ew, arr, ep, ho, hbx⟩ := loop (h ++ [.lst (NI (List.replicate (2 * few) 0)), .lst (PS [(0, 2 * few)])]) (List.replicate (2 * few) 0) [(0, 2 * few)] (h.length + 1) none none none 0 (HS.start _ (by omega)) (by omega)
    (by simp) (by simp) (by omega) (fun m hm hl => List.getElem?_append_left hl) (by obtain ⟨x, y, z, e, r⟩ := hb; exact ⟨x, y, z, by rw [List.getElem?_append_left hbl]; exact e, r⟩)
  have hpl : h.length < H'.length := (List.getElem?_eq_some_iff.mp ep).1
  refine ⟨A', H'.take h.length, ?_, arr, by simp; omega, fun m hm => ?_, ?_⟩
  · have one : (1 : Nat) ≤ sizeLine := by decide
    have two : (2 : Nat) ≤ sizeLine := by decide
    have c1' : mulP true (.lv [.int 0]) (.int (2 * (few : Int))) h = some (.ref h.length, h ++ [.lst (NI (List.replicate (2 * few) 0))]) := by
      simp only [mulP, lstOf, c1, if_true, h0, mkL]
    have e1 : s_par 2 3 (a_cons (e_op (mulP true) (e_lst false (a_cons (e_c (D.int 0)) a_nil)) (e_op (mulP false) (e_c (D.int 2)) (e_var 1))) (a_cons (e_lst true (a_cons (e_tup (a_cons (e_c (D.int 0)) (a_cons (e_op (mulP false) (e_c (D.int 2)) (e_var 1)) a_nil))) a_nil)) a_nil)) [some (.ref b), some (.int (few : Nat)), none, none, none, none, none] h =
        .ok (.nx [some (.ref b), some (.int (few : Nat)), some (.ref h.length), some (.ref (h.length + 1)), none, none, none]) (h ++ [.lst (NI (List.replicate (2 * few) 0)), .lst (PS [(0, 2 * few)])]) := by
      simp [s_par, a_cons, a_nil, e_op, e_lst, e_c, e_var, mkL, one, two, mul2_int, c1', e_tup, PS]
    refine fn_rt [some (.ref b), some (.int (few : Nat)), none, none, none, none, none] (.tup (NI A')) (d := .tup (NI A')) ?_ (by rw [NI_I]; exact sealD_tup_I _ _ _)
    show s_seq _ _ _ _ = _
    rw [seq_nx e1, seq_nx ew]
    simp [s_ret, e_call, a_cons, a_nil, e_var, tupleP, asL, ep]
  · by_cases hl : m < h.length
    · rw [List.getElem?_take_of_lt hl]; exact ho m hm hl
    · rw [List.getElem?_eq_none (by simp; omega), List.getElem?_eq_none (by omega)]
  · obtain ⟨x, y, z, e, r⟩ := hbx
    exact ⟨x, y, z, by rw [List.getElem?_take_of_lt hbl]; exact e, r⟩
end Mini
namespace Mini
open PySem L2
theorem hall_am {few : Nat} (hf : few ≤ 50) {h : Hd} {b N : Nat} (hb : BoxAt h b N) (hN : N + 1000 < 2 ^ 40) : ∃ A h', m_law_hall [.ref b, .int (few : Nat)] h = .ok (ar false A) h' ∧ Am (2 * few) A ∧ Drawn b h h' N (2 * few + 1) := by
  obtain ⟨A, h', e, a, d⟩ := hall_ok (few := few) (by omega) hb hN
  exact ⟨A, h', e, ⟨a, by omega⟩, d⟩
end Mini
namespace Mini
open PySem L2
theorem law_cell_at_ok (ns : List Int) (k : Nat) (h : Hd) (hl : ns.length ≤ 1000) : m_law_cell_at [.fl (I ns), .int k] h = .ok (.int (ns.getD k 0)) h := by
  by_cases hk : k < ns.length
  · have e : ns[k]? = some (ns.getD k 0) := by simp [List.getD_eq_getElem?_getD, hk]
    have := atI_I e
    simp [m_law_cell_at, fnM, runB, b_law_cell_at, s_seq, s_if, t_b, e_op, e_var, e_c, e_call, a_cons, a_nil, lenP, asS, asL, ltP, cmpP, hk, s_ret, ixP, sealR, sealD, noRef]
    rw [this]
    simp [sealR, sealD, noRef, List.getD_eq_getElem?_getD, hk]
  · have : ns.getD k 0 = 0 := by simp [List.getD_eq_getElem?_getD, hk]
    rw [this]
    have hk' : ¬ (k : Int) < (ns.length : Int) := by omega
    simp [m_law_cell_at, fnM, runB, b_law_cell_at, s_seq, s_if, t_b, e_op, e_var, e_c, e_call, a_cons, a_nil, lenP, asS, asL, ltP, cmpP, hk', s_ret, s_nil, sealR, sealD, noRef]
theorem law_box_ok (ns : List Int) (k : Nat) (h : Hd) (hl : ns.length ≤ 1000) (hk : k ≤ 1000) : ∃ c, m_law_box [.fl (I ns), .int k] h = .ok (.ref h.length) (h ++ [.lst c]) ∧ BoxAt (h ++ [.lst c]) h.length 0 := by
  let core := ns.getD k 0
  let fl : Int := if (10 : Int) ^ 18 ≤ (if core < 0 then -core else core) then 1 else 0
  refine ⟨[.int ((if core < 0 then -core else core) * fl), .int (core % 2305843009213693951 + 39373 * k + 29), .int 0], ?_, ⟨_, _, _, by simp; exact ⟨rfl, rfl, rfl⟩, ?_, by omega, by omega, by omega, by omega⟩⟩
  · have hc := law_cell_at_ok ns k h hl
    have i393 : in64 39373 = true := by decide
    have hp : (10 : Int) ^ 18 = 1000000000000000000 := by decide
    have hfl2 : ∀ c : Int, in64 (if (1000000000000000000 : Int) ≤ c then 1 else 0) = true := fun c => by split <;> decide
    simp [m_law_box, runB, b_law_box, s_seq, s_set, e_own, a_cons, a_nil, e_var, hc, s_ret, e_lst, e_op, e_call, absP, intP, geP, cmpP, powP, e_c, modP, addP, mulP, i393, mkL, sizeLine, hfl2, fl, core]
  · show 0 ≤ (if core < 0 then -core else core) * fl
    apply Int.mul_nonneg
    · split <;> omega
    · simp only [fl]; split <;> split <;> omega
end Mini
namespace Mini
open PySem L2
/-! ### law: all of law_right over the boxes -/
theorem law_of_right (right : ∀ (h : Hd) (b : Nat), BoxAt h b 0 → ∃ h', m_law_right [.ref b] h = .ok (.bl true) h') : ∀ ns : List Int, ns.length ≤ 63 → ∃ h, m_law [.fl (ns.map D.int)] [] = .ok (.bl true) h := by
  intro ns hl
  have lc : ∃ n H, e_lc [1] (i_rng1 (a_cons (e_op (addP false) (e_c (D.int 1)) (e_call min2P (a_cons (e_c (D.int 2)) (a_cons (e_call lenP (a_cons (e_var 0) a_nil)) a_nil)))) a_nil)) (.nm 1) t_yes (e_own m_law_right (a_cons (e_own m_law_box (a_cons (e_var 0) (a_cons (e_var 1) a_nil))) a_nil)) [some (.fl (I ns)), none] [] = .ok (.lv (List.replicate n (.bl true))) H := by
    obtain ⟨c, hc, ec⟩ : ∃ c : Nat, c ≤ 4 ∧ i_rng1 (a_cons (e_op (addP false) (e_c (D.int 1)) (e_call min2P (a_cons (e_c (D.int 2)) (a_cons (e_call lenP (a_cons (e_var 0) a_nil)) a_nil)))) a_nil) [some (.fl (I ns)), none] [] = .ok (rangeL 0 c) [] := by
      have ln : e_call lenP (a_cons (e_var 0) a_nil) [some (.fl (I ns)), none] [] = .ok (.int (ns.length : Nat)) [] := call_ok (a1_ok var_ok) (by simp [lenP, asS, asL])
      have mn : e_call min2P (a_cons (e_c (D.int 2)) (a_cons (e_call lenP (a_cons (e_var 0) a_nil)) a_nil)) [some (.fl (I ns)), none] [] = .ok (.int (if (ns.length : Int) < 2 then (ns.length : Int) else 2)) [] := call_ok (a2_ok c_ok ln) rfl
      have ad := op_ok c_ok mn (addP_int false 1 _ [])
      refine ⟨(1 + (if (ns.length : Int) < 2 then (ns.length : Int) else 2)).toNat, by split <;> omega, ?_⟩
      have i6 : in62 (1 + (if (ns.length : Int) < 2 then (ns.length : Int) else 2)) = true := by
        unfold in62; rw [decide_eq_true (by split <;> omega), decide_eq_true (by split <;> omega)]; rfl
      simp only [i_rng1, a1_ok ad, bind_ok, i6, if_true]
    have w := lc_wp (p := .nm 1) (tt := t_yes) (te := e_own m_law_right (a_cons (e_own m_law_box (a_cons (e_var 0) (a_cons (e_var 1) a_nil))) a_nil)) (s0 := wipeD [some (.fl (I ns)), none] [1]) (Q := fun r => ∃ n H, r = some (List.replicate n (.bl true), H))
      (fun i acc H => acc = List.replicate i (.bl true)) (rangeL 0 c) [] rfl (by
        rintro i d acc H hd rfl
        obtain ⟨hi, rfl⟩ := rangeL_at d hd
        obtain ⟨cc, e1, bx⟩ := law_box_ok ns i H (by omega) (by omega)
        obtain ⟨h', e2⟩ := right _ _ bx
        refine ⟨[some (.fl (I ns)), some (.int (i : Nat))], rfl, .inr ⟨H, .bl true, h', rfl, own_ok (a1_ok (own_ok (a2_ok var_ok var_ok) e1)) e2, ?_, ?_⟩⟩
        · simp; exact Nat.lt_of_lt_of_le (show i < 1000 by omega) (by decide)
        · rw [List.replicate_succ'])
      (fun acc H q => ⟨(rangeL 0 c).length, H, by rw [q]⟩)
    obtain ⟨n, H, e⟩ := w
    refine ⟨n, H, ?_⟩
    unfold e_lc
    rw [ec, bind_ok, e]
  obtain ⟨n, H, e⟩ := lc
  refine ⟨_, fn_rt (np := 1) (n := 2) (b := b_law) (ds := [.fl (I ns)]) (h := []) (h' := H) (d := .bl true) [some (.fl (I ns)), none] (.bl true) (ret_ok (call_ok (a1_ok e) ?_)) rfl⟩
  have eb : List.replicate n (D.bl true) = (List.replicate n true).map D.bl := by simp
  simp only [allP, asL, Option.bind_some, eb, blsOf_B]
  congr 2
  simp
end Mini
namespace Mini
open PySem L2
local macro_rules | `(tactic| walk_at "prim") => `(tactic| first | with_reducible assumption | with_reducible exact addP_int _ _ _ _ | with_reducible exact subP_int _ _ _ | with_reducible exact negP_int _ _ | with_reducible exact ltP_nat _ _ _ | with_reducible exact leP_nat _ _ _ | with_reducible exact gtP_nat _ _ _ | with_reducible exact geP_nat _ _ _ | with_reducible exact ltP_int _ _ _ | with_reducible exact leP_int _ _ _ | with_reducible exact gtP_int _ _ _ | with_reducible exact geP_int _ _ _ | with_reducible exact eqT_int _ _ _ | with_reducible exact eqF_int _ _ _ | with_reducible exact tupleP_lv | with_reducible exact sl_from1 | with_reducible exact sl_to1 | with_reducible exact sl_from1T | with_reducible exact sl_to1T | with_reducible exact sl_from | with_reducible exact sl_to | with_reducible exact sl_fromT | with_reducible exact sl_toT | with_reducible exact lenP_ar _ _ _ | with_reducible exact lenP_lv _ _ | with_reducible exact ix_tup0 | with_reducible exact ix_tup1 | with_reducible exact ix_lv0 | with_reducible exact ix_lv1 | with_reducible exact all_true _ _ | with_reducible exact lenP_tup | with_reducible exact modL (by decide) _ | with_reducible exact divL (by decide) _ | exact szl rfl | with_reducible rfl)
local macro_rules | `(tactic| walk_at "st") => `(tactic| first | ((with_reducible apply var_st); exact rfl) | with_reducible exact c_ok | with_reducible exact anil_ok | with_reducible exact onone_ok | with_reducible exact nil_ok | with_reducible apply op_ok | with_reducible apply un_ok | with_reducible apply acons_ok | with_reducible apply call_ok | with_reducible apply own_ok | with_reducible apply set_ok | with_reducible apply ret_to | with_reducible apply seq_then | with_reducible apply b_ok | with_reducible apply tru_ok | with_reducible apply not_ok | with_reducible apply enot_ok | with_reducible apply expr_ok | with_reducible apply if_ok | with_reducible apply osome_ok | with_reducible apply slice_ok | with_reducible apply asg_ok | with_reducible apply asgT_ok | with_reducible apply or_u | with_reducible apply and_u | with_reducible apply eand_u | with_reducible apply eor_u | with_reducible apply par_ok | with_reducible apply par3_ok | with_reducible apply lst_ok | with_reducible apply lstM_ok | with_reducible apply tup_ok | with_reducible apply iteT | with_reducible apply iteF | walk_at "prim")
local macro_rules | `(tactic| walk_at "ev") => `(tactic| repeat walk_at "st")
theorem spaces_loop {n : Nat} {f : Nat → Nat} (hn : n < 64) (h : Hd) {s : Ev} (h5 : s[5]? = some (some (.ref h.length))) (h6 : 6 < s.length) : ∃ v, forM (.nm 6) x_law_hall_right_f0 (TT (roomsL n f)) s (h ++ [.lst []]) = .ok (.nx (s.set 6 v)) (h ++ [.lst (NI (roomsL n f).flatten)]) := by
  have tot : ((roomsL n f).flatten).length = n := by rw [rooms_all.length_eq, List.length_range]
  refine for_wp (Q := fun r => ∃ v, r = .ok (.nx (s.set 6 v)) (h ++ [.lst (NI (roomsL n f).flatten)])) (fun i s' H => H = h ++ [.lst (NI ((roomsL n f).take i).flatten)] ∧ ∃ v, s' = s.set 6 v) _ _ (h ++ [.lst []]) ⟨rfl, s[6], by simp⟩ ?_ ?_
  · rintro i d s' H hd ⟨rfl, v, rfl⟩
    rw [TT, List.getElem?_map] at hd
    have hi : i < (roomsL n f).length := by
      rcases Nat.lt_or_ge i (roomsL n f).length with q | q
      · exact q
      · rw [List.getElem?_eq_none q] at hd; cases hd
    rw [List.getElem?_eq_getElem hi] at hd
    simp only [Option.map_some, Option.some.injEq] at hd
    subst hd
    refine ⟨_, rfl, .inl ⟨_, h ++ [.lst (NI ((roomsL n f).take (i + 1)).flatten)], expr_ok (lm_ok (d := .non) (d1 := .ref h.length) (h1 := h ++ [.lst (NI ((roomsL n f).take i).flatten)]) (h2 := h ++ [.lst (NI ((roomsL n f).take i).flatten)]) (ds := [.tup (NI (roomsL n f)[i])]) (var_ok ?_) ?_ (a1_ok (var_ok ?_)) ?_), rfl, some (.tup (NI (roomsL n f)[i])), ?_⟩⟩
    · rw [List.getElem?_set_ne (by decide), List.getElem?_set_ne (by decide)]; exact h5
    · simp [lstTy, asL]
    · rw [List.getElem?_set_self (by simpa using h6)]
    · have l1 : ((roomsL n f).take i).flatten.length + (roomsL n f)[i].length ≤ n := by
        have t2 : ((roomsL n f).take i).flatten.length + ((roomsL n f).drop i).flatten.length = n := by rw [← List.length_append, ← List.flatten_append, List.take_append_drop, tot]
        rw [List.drop_eq_getElem_cons hi, List.flatten_cons, List.length_append] at t2
        omega
      have sz : (NI ((roomsL n f).take i).flatten).length + (NI (roomsL n f)[i]).length ≤ sizeLine := by
        rw [NI_len, NI_len]; exact Nat.le_trans (show _ ≤ 1000 by omega) (by decide)
      have nr : noRefs (NI (roomsL n f)[i]) = true := noRefs_map (α := Nat) _
      simp only [extP, last_get, asV, notFl, nr, decide_eq_true sz, Bool.and_self, if_true, set_last]
      rw [List.take_succ_eq_append_getElem hi, List.flatten_append, NI_app]
      simp
    · simp
  · rintro s' H ⟨rfl, v, rfl⟩
    refine ⟨v, ?_⟩
    rw [TT, List.length_map, List.take_of_length_le (Nat.le_refl _)]
theorem eqP_ar' (A B : List Nat) (h : Hd) : eqP true (ar false A) (ar false B) h = some (.bl (!decide (A = B)), h) := (eqP_ar true A B h).trans rfl
theorem cut_mem {L : List (Nat × Nat)} {lo hi : Option Int} : ∃ M : List (Nat × Nat), cutD (PS L) lo hi = PS M ∧ (∀ p ∈ M, p ∈ L) ∧ M.length ≤ L.length := by
  refine ⟨(L.drop (HT.sIx (PS L).length 0 lo)).take (HT.sIx (PS L).length (PS L).length hi - HT.sIx (PS L).length 0 lo), ?_, fun p hp => List.mem_of_mem_drop (List.mem_of_mem_take hp), ?_⟩
  · unfold cutD
    simp only [PS, List.map_drop, List.map_take]
  · rw [List.length_take, List.length_drop]; omega
theorem sumN (L : List Int) (h : Hd) : sumP [.lv (L.map D.int)] h = some (.int L.sum, h) := by
  have : intsOf (L.map D.int) = some L := intsOf_I L
  simp only [sumP, asL, Option.bind_some, this]
theorem tri_sum (L : List (List Nat)) : (L.map fun R => (((NI R).length : Nat) : Int) * ((((NI R).length : Nat) : Int) - 1)).sum = (((L.map fun R => R.length * (R.length - 1)).sum : Nat) : Int) := by
  induction L with
  | nil => rfl
  | cons R L ih =>
    simp only [NI_len] at ih
    simp only [List.map_cons, List.sum_cons, NI_len, ih, Int.natCast_add, Int.natCast_mul]
    congr 1
    cases R with
    | nil => simp
    | cons x R => simp
theorem swaps_loop {n : Nat} {A : List Nat} (x : Am n A) (hn : n < 64) (H : Hd) : ∀ (M : List (Nat × Nat)), (∀ p ∈ M, p ∈ exL A) → ∀ s : Ev, s[1]? = some (some (ar false A)) → 8 < s.length → ∃ v, forM (.nm 8) x_law_hall_right_f1 (PS M) s H = .ok (.nx (s.set 8 v)) H
  | [], _, s, _, hl => ⟨s[8], by rw [List.set_getElem_self]; rfl⟩
  | p :: M, hM, s, hs, hl => by
    obtain ⟨a, b⟩ := p
    have P := (mem_exPs x.toArr).mp (hM (a, b) (by simp))
    obtain ⟨v, e⟩ := swaps_loop x hn H M (fun q hq => hM q (by simp [hq])) (s.set 8 (some (PR2 (a, b)))) (by rw [List.getElem?_set_ne (by decide)]; exact hs) (by simpa using hl)
    refine ⟨v, ?_⟩
    refine for_cons rfl (s1 := s.set 8 (some (PR2 (a, b)))) (s2 := s.set 8 (some (PR2 (a, b)))) (h2 := H) (if_no (not_t (tru_ok (own_ok (acons_ok (var_ok ?_) (acons_ok (var_ok ?_) anil_ok)) (swap_right_ok x hn P H))))) (e.trans (by rw [List.set_set]))
    · rw [List.getElem?_set_ne (by decide)]; exact hs
    · rw [List.getElem?_set_self hl]
theorem evens_ok {n : Nat} {A : List Nat} (x : Am n A) (hn : n < 64) {s : Ev} {h : Hd} {i v : Nat} (hi : s[i]? = some (some (ar false A))) (hv : v < (wipeD s [v]).length) : e_call lenP (a_cons (e_lc [v] (i_seq (e_own m_areas (a_cons (e_var i) a_nil))) (.nm v) (t_b (e_op (eqP false) (e_op modP (e_op ixP (e_var v) (e_c (D.int 0))) (e_c (D.int 2))) (e_c (D.int 0)))) (e_var v)) a_nil) s h = .ok (.int (evens n (fn A) : Nat)) h := by
  have rl := roomsL_len (n := n) (f := fn A)
  refine call_ok (a1_ok (lc_x (roomsL n (fn A)) (fun R => D.tup (NI R)) evB (fun R => D.tup (NI R)) (ys := TT ((roomsL n (fn A)).filter evB)) (seq_lv (own_ok (a1_ok (var_ok hi)) (areas_ok x hn false h))) (by omega) rfl fun R hR => ⟨_, rfl, ?_, fun _ => var_ok (List.getElem?_set_self hv)⟩)) ((lenP_lv _ _).trans ?_)
  · obtain ⟨u, hu, rfl⟩ := mem_roomsL.mp hR
    have m := mem_room.mpr ⟨hu, Ns.rfl (n := n) (f := fn A)⟩
    cases e : room n (fn A) u with
    | nil => rw [e] at m; simp at m
    | cons c r =>
      have ev : decide (((c : Nat) : Int) % 2 = 0) = evB (c :: r) := by
        show _ = decide (c % 2 = 0)
        by_cases q : c % 2 = 0
        · rw [decide_eq_true q, decide_eq_true (by omega)]
        · rw [decide_eq_false q, decide_eq_false (by omega)]
      exact b_ok (op_ok (op_ok (op_ok (var_ok (List.getElem?_set_self hv)) c_ok ix_tup0) c_ok (modL (by decide) _)) c_ok ((eqF_int _ _ _).trans (by rw [ev])))
  · rw [TT, List.length_map, ← List.countP_eq_length_filter]; rfl
theorem hall_right_ok {n : Nat} {A : List Nat} (x : Am n A) (hn : n < 64) (he : n % 2 = 0) {h : Hd} {b N : Nat} (hb : BoxAt h b N) (hN : N + 2000 < 2 ^ 40) : ∃ h', m_law_hall_right [.ref b, ar false A] h = .ok (.bl true) h' ∧ Drawn b h h' N 4 := by
  have Nn := x.toArr.Nc
  have lA := x.len
  subst lA
  have e0 := areas_ok x hn false h
  have e1 := exchanges_ok x false h
  obtain ⟨v6, sl⟩ := spaces_loop (n := A.length) (f := fn A) hn h (s := [some (.ref b), some (ar false A), some (.int (A.length : Nat)), some (.lv (TT (roomsL A.length (fn A)))), some (.lv (PS (exL A))), some (.ref h.length), none, none, none, none, none, none]) rfl (ltb rfl)
  generalize hH : h ++ [.lst (NI (roomsL A.length (fn A)).flatten)] = H at sl
  have hbH : BoxAt H b N := hH ▸ hb.app _
  obtain ⟨t, H1, e2, t0, t1, d1⟩ := m_take_ok (k := 3) (by omega) (by omega) hbH (by omega)
  obtain ⟨tn, rfl⟩ : ∃ k : Nat, t = (k : Nat) := ⟨t.toNat, by omega⟩
  obtain ⟨B, H2, e3, y, d2⟩ := strolled_ok x (turns := 1 + tn) (by omega) d1.box (by omega)
  have dr : Drawn b h (H2.take h.length) N 4 := by
    have : Drawn b H H2 N (1 + (1 + tn)) := d1.trans d2
    rw [← hH] at this
    exact (this.mono (by omega)).cut hb.lt
  have rl := roomsL_len (n := A.length) (f := fn A)
  have so : sortP false [.ref h.length] H = some (.lv (NI (List.range A.length)), H) := by
    rw [sort_N false (roomsL A.length (fn A)).flatten (by rw [← hH]; simp only [asS, asL, last_get]), srt_flat]; rfl
  have q1 : eqP true (.lv (NI (List.range A.length))) (.lv (NI (List.range A.length))) H = some (.bl false, H) := by rw [eqP_NI]; simp
  have by1 := by_areas_ok x hn H
  have q2 : eqP true (ar false A) (ar false A) H = some (.bl false, H) := by rw [eqP_ar']; simp
  have q3 : eqP true (.lv (PS (exL A))) (.lv (PS (exL A))) H = some (.bl false, H) := by rw [eqP_pairs]; simp
  have sd := swaps_due_ok x hn he H
  have cnt : ((roomsL A.length (fn A)).map fun R => (((NI R).length : Nat) : Int) * ((((NI R).length : Nat) : Int) - 1)).sum / 2 = (((PS (exL A)).length : Nat) : Int) := by
    rw [tri_sum, ← dueL_len Nn he, PS_len, (exL_due x).length_eq]
    omega
  have e3' : m_law_strolled [.ref b, ar false A, .int (1 + (tn : Int))] H1 = .ok (ar false B) H2 := by
    rw [← e3]; congr 3
  have rll : ∀ R ∈ roomsL A.length (fn A), R.length ≤ A.length := fun R hR => by
    obtain ⟨u, hu, rfl⟩ := mem_roomsL.mp hR
    exact room_len u
  obtain ⟨M1, c1, m1, l1⟩ := cut_mem (L := exL A) (lo := none) (hi := some 3)
  obtain ⟨M2, c2, m2, l2⟩ := cut_mem (L := exL A) (lo := some (-3)) (hi := none)
  have s1 : slP false (.lv (PS (exL A))) none (some 3) H = some (.lv (PS M1), H) := by simp only [slP, asL]; rw [c1]; rfl
  have s2 : slP false (.lv (PS (exL A))) (some (-3)) none H = some (.lv (PS M2), H) := by simp only [slP, asL]; rw [c2]; rfl
  have xl := exL_len x
  have s3 : addP false (.lv (PS M1)) (.lv (PS M2)) H = some (.lv (PS (M1 ++ M2)), H) := by
    rw [catP_lv (by rw [PS_len, PS_len]; exact Nat.le_trans (show _ ≤ 1000000 by omega) (by decide))]
    simp [PS]
  obtain ⟨v8, wl⟩ := swaps_loop x hn H (M1 ++ M2) (fun p hp => (List.mem_append.mp hp).elim (m1 p) (m2 p)) [some (.ref b), some (ar false A), some (.int (A.length : Nat)), some (.lv (TT (roomsL A.length (fn A)))), some (.lv (PS (exL A))), some (.ref h.length), v6, some (.int (PS (exL A)).length), none, none, none, none] rfl (ltb rfl)
  have dp := (planL_led x.toArr y.toArr).evens he x.toArr
  rw [planL_len x.toArr y.toArr] at dp
  have ds := distance_ok x y false false H2
  refine ⟨H2.take h.length, fn_d [some (.ref b), some (ar false A), none, none, none, none, none, none, none, none, none, none] (b := b_law_hall_right) ?_ rfl, dr⟩
  unfold b_law_hall_right
  walk_at "ev"
  · exact (for_ok (seq_lv var_ok)).trans sl
  walk_at "ev"
  · exact lrg_ok (n := A.length) (by omega) var_ok
  walk_at "ev"
  refine iteR rfl ?_
  walk_at "ev"
  · refine lc_y (roomsL A.length (fn A)) (fun R => D.tup (NI R)) (fun R => D.int ((((NI R).length : Nat) : Int) * ((((NI R).length : Nat) : Int) - 1))) (ys := ((roomsL A.length (fn A)).map fun R => (((NI R).length : Nat) : Int) * ((((NI R).length : Nat) : Int) - 1)).map D.int) (seq_lv var_ok) (by omega) (by rw [List.map_map]; rfl) fun R hR => ⟨_, rfl, ?_⟩
    have := rll R hR
    refine op_ok (call_ok (a1_ok var_ok) lenP_tup) (op_ok (call_ok (a1_ok var_ok) lenP_tup) c_ok (subP_int _ _ _)) (mulN ?_ _ _)
    rw [in64_of (by rw [NI_len]; omega) (by rw [NI_len]; omega)]; rfl
  walk_at "ev"
  · exact sumN ((roomsL A.length (fn A)).map fun R => (((NI R).length : Nat) : Int) * ((((NI R).length : Nat) : Int) - 1)) _
  walk_at "ev"
  rw [cnt]
  walk_at "ev"
  refine iteR (by simp) ?_
  walk_at "ev"
  · refine lc_y (roomsL A.length (fn A)) (fun R => D.tup (NI R)) (fun R => D.bl true) (seq_lv var_ok) (by omega) rfl fun R hR => ⟨_, rfl, ?_⟩
    obtain ⟨u, hu, rfl⟩ := mem_roomsL.mp hR
    refine op_ok (call_ok (a1_ok (own_ok (acons_ok var_ok (acons_ok var_ok anil_ok)) (room_arms_ok x hn he hu _))) (lenP_lv _ _)) (call_ok (a1_ok var_ok) lenP_tup) (eqN ?_)
    rw [PS_len, List.length_map, armLow_len Nn he hu, NI_len]; simp
  walk_at "ev"
  · refine iteR rfl ?_
    walk_at "ev"
  apply seq_then
  · exact (for_ok (seq_lv (op_ok (slice_ok var_ok onone_ok (osome_ok c_ok) s1) (slice_ok var_ok (osome_ok (un_ok c_ok rfl)) onone_ok s2) s3))).trans wl
  walk_at "ev"
  · refine lc_x (armsL A) PR2 (fun _ => false) (fun p => PR2 p) (ys := PS []) (seq_lv (own_ok (a1_ok var_ok) (arms_ok false A x.al H))) (Nat.le_trans (armsL_len A) (by omega)) (by simp [PS]) fun p hp => ⟨_, rfl, ?_, fun h => by cases h⟩
    obtain ⟨a, c⟩ := p
    obtain ⟨ha, la, hc⟩ := mem_armsL.mp hp
    simp only at ha la hc
    subst hc
    have qa : eqP false (.tup (NI (room A.length (fn A) a))) (.tup [.int (a : Nat)]) H = some (.bl (decide (room A.length (fn A) a = [a])), H) := (eqP_ar false _ [a] H).trans rfl
    have ao := area_of_ok x false ha H
    walk_at "ev"
    · exact qa
    refine eqP_iff H ?_
    rw [room_one Nn la ha]
    omega
  walk_at "ev"
  · exact (eqP_pairs true [] [] H).trans rfl
  refine iteR rfl ?_
  walk_at "ev"
  · refine lc_y [A, B] (ar false) (fun X => .int ((evens A.length (fn X) : Nat) : Int)) (ys := [.int ((evens A.length (fn A) : Nat) : Int), .int ((evens A.length (fn B) : Nat) : Int)]) (seq_tup (tup_ok (acons_ok var_ok (acons_ok var_ok anil_ok)) two_sz)) (by simp) rfl fun X hX => ⟨_, rfl, ?_⟩
    simp only [List.mem_cons, List.not_mem_nil, or_false] at hX
    rcases hX with rfl | rfl
    · exact evens_ok x hn rfl (ltb rfl)
    · exact evens_ok y hn rfl (ltb rfl)
  walk_at "ev"
  rw [decide_eq_true (by omega)]
theorem right_ok (h : Hd) (b N : Nat) (hb : BoxAt h b N) (hN : N ≤ 1000000000) : ∃ h', m_law_right [.ref b] h = .ok (.bl true) h' := by
  obtain ⟨t, h1, e1, t0, t1, d1⟩ := m_take_ok (k := 12) (by omega) (by omega) hb (by omega)
  obtain ⟨few, rfl⟩ : ∃ k : Nat, t = (k : Nat) := ⟨t.toNat, by omega⟩
  obtain ⟨A, h2, e2, x, d2⟩ := hall_am (few := 1 + few) (by omega) d1.box (by omega)
  obtain ⟨h3, e3, d3⟩ := hall_right_ok x (by omega) (by omega) d2.box (by omega)
  obtain ⟨B, h4, e4, y, d4⟩ := strolled_ok x (turns := 2) (by omega) d3.box (by omega)
  obtain ⟨h5, e5, d5⟩ := hall_right_ok y (by omega) (by omega) d4.box (by omega)
  have e2' : m_law_hall [.ref b, .int (1 + (few : Int))] h1 = .ok (ar false A) h2 := by rw [← e2]; congr 3
  have e4' : m_law_strolled [.ref b, ar false A, .int 2] h3 = .ok (ar false B) h4 := e4
  refine ⟨_, fn_d (H := h5) [some (.ref b), none] (b := b_law_right) ?_ rfl⟩
  unfold b_law_right
  walk_at "ev"
  · refine (eand_t (h1 := h3) ?_).trans ?_
    all_goals walk_at "ev"
  walk_at "ev"
theorem spec_law : ∀ ns : List Int, ns.length ≤ 63 → ∃ h, m_law [.fl (ns.map D.int)] [] = .ok (.bl true) h := law_of_right fun h b hb => right_ok h b 0 hb (by omega)
end Mini
namespace Mini
open PySem PySem.Spec PyProof.Rows L2
/-! ### the text and its derivations -/
def top (i : Nat) : Stmt := PySem.Challenge.pw_handshakes_k81_whole_exchanges_and_areas.main.body.getD i (.Pass ⟨0, 0, 0, 0⟩)
structure Txt (mg : Str → Option Value) : Prop where
  n_abs : mg "abs" = none
  n_all : mg "all" = none
  n_any : mg "any" = none
  n_bool : mg "bool" = none
  n_enumerate : mg "enumerate" = none
  n_int : mg "int" = none
  n_isinstance : mg "isinstance" = none
  n_len : mg "len" = none
  n_list : mg "list" = none
  n_max : mg "max" = none
  n_min : mg "min" = none
  n_range : mg "range" = none
  n_set : mg "set" = none
  n_sorted : mg "sorted" = none
  n_sum : mg "sum" = none
  n_tuple : mg "tuple" = none
  n_zip : mg "zip" = none
section
variable {P : Program} {w : World} {K : PySem.W.Frag} {mg : Str → Option Value} {base : Heap}
abbrev s_is_number : Stmt := top 6
theorem sc_is_number : FnScope n_is_number ["thing"] (defScope s_is_number) := ⟨rfl, rfl, rfl, by decide +kernel, rfl, by decide +kernel, by decide +kernel⟩
theorem ok_is_number {f : Addr} {fd : FuncData} (F : Fun K "is_number" "is_number" s_is_number f fd) (T : Txt mg) : FnOk P w K mg base (L2.CX P w) 1 f fd ["thing"] (spM K mg m_is_number) :=
  fn_ok (k := 0) F sc_is_number fun cdv A outer s H E hr => by
    have tk : Takes (cxOf (L2.CX P w) P w K mg base n_is_number "is_number" (defScope s_is_number) f cdv A outer s H E) (fun cls d _ H => E cls d H) := takes_of rfl rfl rfl rfl
    have sc := sc_is_number
    exact (r_last (r_ret (r_andV (r_isi T.n_isinstance (r_var 0) T.n_int (by decide +kernel) kit_int) (r_one (r_notV (r_isi T.n_isinstance (r_var 0) T.n_bool (by decide +kernel) kit_bool))))))
abbrev s_cross : Stmt := top 7
theorem sc_cross : FnScope n_cross ["one", "other"] (defScope s_cross) := ⟨rfl, rfl, rfl, by decide +kernel, rfl, by decide +kernel, by decide +kernel⟩
theorem ok_cross {f : Addr} {fd : FuncData} (F : Fun K "cross" "cross" s_cross f fd) (T : Txt mg) : FnOk P w K mg base (L2.CX P w) 1 f fd ["one", "other"] (spM K mg m_cross) :=
  fn_ok (k := 0) F sc_cross fun cdv A outer s H E hr => by
    have tk : Takes (cxOf (L2.CX P w) P w K mg base n_cross "cross" (defScope s_cross) f cdv A outer s H E) (fun cls d _ H => E cls d H) := takes_of rfl rfl rfl rfl
    have sc := sc_cross
    exact (r_last (r_ret (r_cmp (p_eq hr.units) (r_callB c_len T.n_len (by decide +kernel) (ra_cons (r_lc sc.nd rfl (ri_seq (r_var 1)) (blkOk_by (own := [("person", 2)]) (N := n_cross) (sc := defScope s_cross) (by decide +kernel)) ⟨fun _ _ _ _ _ => (g_nm sc.nd), fun _ _ _ _ _ => (rts_one (r_tchain p_lt p_lt (r_callB (c_min (room1 hr) rfl) T.n_min (by decide +kernel) (ra_cons (r_var 0) ra_nil)) (r_var 2) (r_callB (c_max (room1 hr) rfl) T.n_max (by decide +kernel) (ra_cons (r_var 0) ra_nil)))), fun _ _ _ _ _ => (r_var 2)⟩ (by decide)) ra_nil)) r_int)))
abbrev s_are_crossed : Stmt := top 8
theorem sc_are_crossed : FnScope n_are_crossed ["pairs"] (defScope s_are_crossed) := ⟨rfl, rfl, rfl, by decide +kernel, rfl, by decide +kernel, by decide +kernel⟩
theorem ok_are_crossed {f : Addr} {fd : FuncData} (F : Fun K "are_crossed" "are_crossed" s_are_crossed f fd) (T : Txt mg) {f_cross : Addr} {fd_cross : FuncData} (d_cross : Df P w K mg base 1 "cross" ["one", "other"] f_cross fd_cross m_cross) : FnOk P w K mg base (L2.CX P w) 2 f fd ["pairs"] (spM K mg m_are_crossed) :=
  fn_ok (k := 1) F sc_are_crossed fun cdv A outer s H E hr => by
    have tk : Takes (cxOf (L2.CX P w) P w K mg base n_are_crossed "are_crossed" (defScope s_are_crossed) f cdv A outer s H E) (fun cls d _ H => E cls d H) := takes_of rfl rfl rfl rfl
    have sc := sc_are_crossed
    exact (r_seq (r_for (passes_of rfl) rfl (ri_enum T.n_enumerate (ra_cons (r_var 0) ra_nil)) (g_tp rfl (gs_cons (g_nm sc.nd) (gs_cons (g_nm sc.nd) gs_nil)))
      (r_last (r_if (r_tru (r_callB (c_any rfl) T.n_any (by decide +kernel) (ra_cons (r_lc sc.nd rfl (ri_seq (r_slice false (r_var 0) (ro_some (r_op (p_add false) (r_var 1) r_int)) ro_none)) (blkOk_by (own := [("other", 3)]) (N := n_are_crossed) (sc := defScope s_are_crossed) (by decide +kernel)) ⟨fun _ _ _ _ _ => (g_nm sc.nd), fun _ _ _ _ _ => rts_nil, fun _ _ _ _ _ => (r_own d_cross hr takes0 (ra_cons (r_var 2) (ra_cons (r_var 3) ra_nil)))⟩ (by decide)) ra_nil)))
      (r_last (r_ret r_bl))
      r_nil)))
    (r_last (r_ret r_bl)))
abbrev s_arms : Stmt := top 9
theorem sc_arms : FnScope n_arms ["arrangement"] (defScope s_arms) := ⟨rfl, rfl, rfl, by decide +kernel, rfl, by decide +kernel, by decide +kernel⟩
theorem ok_arms {f : Addr} {fd : FuncData} (F : Fun K "arms" "arms" s_arms f fd) (T : Txt mg) : FnOk P w K mg base (L2.CX P w) 1 f fd ["arrangement"] (spM K mg m_arms) :=
  fn_ok (k := 0) F sc_arms fun cdv A outer s H E hr => by
    have tk : Takes (cxOf (L2.CX P w) P w K mg base n_arms "arms" (defScope s_arms) f cdv A outer s H E) (fun cls d _ H => E cls d H) := takes_of rfl rfl rfl rfl
    have sc := sc_arms
    exact (r_last (r_ret (r_lc sc.nd rfl (ri_enum T.n_enumerate (ra_cons (r_var 0) ra_nil)) (blkOk_by (own := [("person", 2), ("partner", 1)]) (N := n_arms) (sc := defScope s_arms) (by decide +kernel)) ⟨fun _ _ _ _ _ => (g_tp rfl (gs_cons (g_nm sc.nd) (gs_cons (g_nm sc.nd) gs_nil))), fun _ _ _ _ _ => (rts_one (r_tcmp p_lt (r_var 2) (r_var 1))), fun _ _ _ _ _ => (r_tup (ra_cons (r_var 2) (ra_cons (r_var 1) ra_nil)))⟩ (by decide))))
abbrev s_is_paired : Stmt := top 10
theorem sc_is_paired : FnScope n_is_paired ["thing"] (defScope s_is_paired) := ⟨rfl, rfl, rfl, by decide +kernel, rfl, by decide +kernel, by decide +kernel⟩
theorem ok_is_paired {f : Addr} {fd : FuncData} (F : Fun K "is_paired" "is_paired" s_is_paired f fd) (T : Txt mg) {f_is_number : Addr} {fd_is_number : FuncData} (d_is_number : Df P w K mg base 1 "is_number" ["thing"] f_is_number fd_is_number m_is_number) : FnOk P w K mg base (L2.CX P w) 2 f fd ["thing"] (spM K mg m_is_paired) :=
  fn_ok (k := 1) F sc_is_paired fun cdv A outer s H E hr => by
    have tk : Takes (cxOf (L2.CX P w) P w K mg base n_is_paired "is_paired" (defScope s_is_paired) f cdv A outer s H E) (fun cls d _ H => E cls d H) := takes_of rfl rfl rfl rfl
    have sc := sc_is_paired
    exact (r_seq (r_for (passes_of rfl) rfl (ri_enum T.n_enumerate (ra_cons (r_var 0) ra_nil)) (g_tp rfl (gs_cons (g_nm sc.nd) (gs_cons (g_nm sc.nd) gs_nil)))
      (r_last (r_if (r_bool (r_or (r_not (r_tru (r_own d_is_number hr tk (ra_cons (r_var 2) ra_nil)))) (r_or (r_not (r_tchain p_le p_lt r_int (r_var 2) (r_callB c_len T.n_len (by decide +kernel) (ra_cons (r_var 0) ra_nil)))) (r_or1 (r_tcmp (p_eq hr.units) (r_var 2) (r_var 1))))))
      (r_last (r_ret r_bl))
      r_nil)))
    (r_last (r_ret (r_callB (c_all rfl) T.n_all (by decide +kernel) (ra_cons (r_lc sc.nd rfl (ri_enum T.n_enumerate (ra_cons (r_var 0) ra_nil)) (blkOk_by (own := [("person", 1), ("partner", 2)]) (N := n_is_paired) (sc := defScope s_is_paired) (by decide +kernel)) ⟨fun _ _ _ _ _ => (g_tp rfl (gs_cons (g_nm sc.nd) (gs_cons (g_nm sc.nd) gs_nil))), fun _ _ _ _ _ => rts_nil, fun _ _ _ _ _ => (r_cmp (p_eq hr.units) (r_ix p_ix (r_var 0) (r_var 2)) (r_var 1))⟩ (by decide)) ra_nil)))))
abbrev s_is_arrangement : Stmt := top 11
theorem sc_is_arrangement : FnScope n_is_arrangement ["thing"] (defScope s_is_arrangement) := ⟨rfl, rfl, rfl, by decide +kernel, rfl, by decide +kernel, by decide +kernel⟩
theorem ok_is_arrangement {f : Addr} {fd : FuncData} (F : Fun K "is_arrangement" "is_arrangement" s_is_arrangement f fd) (T : Txt mg) {f_is_paired : Addr} {fd_is_paired : FuncData} (d_is_paired : Df P w K mg base 2 "is_paired" ["thing"] f_is_paired fd_is_paired m_is_paired) {f_are_crossed : Addr} {fd_are_crossed : FuncData} (d_are_crossed : Df P w K mg base 2 "are_crossed" ["pairs"] f_are_crossed fd_are_crossed m_are_crossed) {f_arms : Addr} {fd_arms : FuncData} (d_arms : Df P w K mg base 1 "arms" ["arrangement"] f_arms fd_arms m_arms) : FnOk P w K mg base (L2.CX P w) 3 f fd ["thing"] (spM K mg m_is_arrangement) :=
  fn_ok (k := 2) F sc_is_arrangement fun cdv A outer s H E hr => by
    have tk : Takes (cxOf (L2.CX P w) P w K mg base n_is_arrangement "is_arrangement" (defScope s_is_arrangement) f cdv A outer s H E) (fun cls d _ H => E cls d H) := takes_of rfl rfl rfl rfl
    have sc := sc_is_arrangement
    exact (r_last (r_ret (r_andV (r_isi T.n_isinstance (r_var 0) T.n_tuple (by decide +kernel) kit_tuple) (r_andV (r_own d_is_paired hr tk (ra_cons (r_var 0) ra_nil)) (r_one (r_notV (r_own d_are_crossed hr tk (ra_cons (r_own d_arms hr tk (ra_cons (r_var 0) ra_nil)) ra_nil))))))))
abbrev s_look_same : Stmt := top 12
theorem sc_look_same : FnScope n_look_same ["one", "other"] (defScope s_look_same) := ⟨rfl, rfl, rfl, by decide +kernel, rfl, by decide +kernel, by decide +kernel⟩
theorem ok_look_same {f : Addr} {fd : FuncData} (F : Fun K "look_same" "look_same" s_look_same f fd) (T : Txt mg) : FnOk P w K mg base (L2.CX P w) 1 f fd ["one", "other"] (spM K mg m_look_same) :=
  fn_ok (k := 0) F sc_look_same fun cdv A outer s H E hr => by
    have tk : Takes (cxOf (L2.CX P w) P w K mg base n_look_same "look_same" (defScope s_look_same) f cdv A outer s H E) (fun cls d _ H => E cls d H) := takes_of rfl rfl rfl rfl
    have sc := sc_look_same
    exact (r_last (r_if (r_tcmp (p_ne hr.units) (r_callB c_len T.n_len (by decide +kernel) (ra_cons (r_var 0) ra_nil)) (r_callB c_len T.n_len (by decide +kernel) (ra_cons (r_var 1) ra_nil)))
      (r_last r_never)
      r_nil))
abbrev s_is_lesser : Stmt := top 14
theorem sc_is_lesser : FnScope n_is_lesser ["arrangement", "person"] (defScope s_is_lesser) := ⟨rfl, rfl, rfl, by decide +kernel, rfl, by decide +kernel, by decide +kernel⟩
theorem ok_is_lesser {f : Addr} {fd : FuncData} (F : Fun K "is_lesser" "is_lesser" s_is_lesser f fd) (T : Txt mg) : FnOk P w K mg base (L2.CX P w) 1 f fd ["arrangement", "person"] (spM K mg m_is_lesser) :=
  fn_ok (k := 0) F sc_is_lesser fun cdv A outer s H E hr => by
    have tk : Takes (cxOf (L2.CX P w) P w K mg base n_is_lesser "is_lesser" (defScope s_is_lesser) f cdv A outer s H E) (fun cls d _ H => E cls d H) := takes_of rfl rfl rfl rfl
    have sc := sc_is_lesser
    exact (r_last (r_ret (r_andV (r_chain p_le p_lt r_int (r_var 1) (r_callB c_len T.n_len (by decide +kernel) (ra_cons (r_var 0) ra_nil))) (r_one (r_cmp p_gt (r_ix p_ix (r_var 0) (r_var 1)) (r_var 1))))))
abbrev s_new_arms : Stmt := top 15
theorem sc_new_arms : FnScope n_new_arms ["arrangement", "exchange"] (defScope s_new_arms) := ⟨rfl, rfl, rfl, by decide +kernel, rfl, by decide +kernel, by decide +kernel⟩
theorem ok_new_arms {f : Addr} {fd : FuncData} (F : Fun K "new_arms" "new_arms" s_new_arms f fd) (T : Txt mg) : FnOk P w K mg base (L2.CX P w) 1 f fd ["arrangement", "exchange"] (spM K mg m_new_arms) :=
  fn_ok (k := 0) F sc_new_arms fun cdv A outer s H E hr => by
    have tk : Takes (cxOf (L2.CX P w) P w K mg base n_new_arms "new_arms" (defScope s_new_arms) f cdv A outer s H E) (fun cls d _ H => E cls d H) := takes_of rfl rfl rfl rfl
    have sc := sc_new_arms
    exact (r_seq (r_asg (r_var 1) (g_tp rfl (gs_cons (g_nm sc.nd) (gs_cons (g_nm sc.nd) gs_nil))))
    (r_seq (r_asg (r_callB (c_sort false (room65 hr)) T.n_sorted (by decide +kernel) (ra_cons (r_lst false (ra_cons (r_var 2) (ra_cons (r_var 3) (ra_cons (r_ix p_ix (r_var 0) (r_var 2)) (ra_cons (r_ix p_ix (r_var 0) (r_var 3)) ra_nil))))) ra_nil)) (g_tp rfl (gs_cons (g_nm sc.nd) (gs_cons (g_nm sc.nd) (gs_cons (g_nm sc.nd) (gs_cons (g_nm sc.nd) gs_nil))))))
    (r_seq (r_if (r_tcmp (p_eq hr.units) (r_ix p_ix (r_var 0) (r_var 4)) (r_var 5))
      (r_last (r_ret (r_lst false (ra_cons (r_tup (ra_cons (r_var 4) (ra_cons (r_var 7) ra_nil))) (ra_cons (r_tup (ra_cons (r_var 5) (ra_cons (r_var 6) ra_nil))) ra_nil)))))
      r_nil)
    (r_last (r_ret (r_lst false (ra_cons (r_tup (ra_cons (r_var 4) (ra_cons (r_var 5) ra_nil))) (ra_cons (r_tup (ra_cons (r_var 6) (ra_cons (r_var 7) ra_nil))) ra_nil))))))))
abbrev s_is_possible : Stmt := top 16
theorem sc_is_possible : FnScope n_is_possible ["arrangement", "exchange"] (defScope s_is_possible) := ⟨rfl, rfl, rfl, by decide +kernel, rfl, by decide +kernel, by decide +kernel⟩
theorem ok_is_possible {f : Addr} {fd : FuncData} (F : Fun K "is_possible" "is_possible" s_is_possible f fd) (T : Txt mg) {f_new_arms : Addr} {fd_new_arms : FuncData} (d_new_arms : Df P w K mg base 1 "new_arms" ["arrangement", "exchange"] f_new_arms fd_new_arms m_new_arms) {f_arms : Addr} {fd_arms : FuncData} (d_arms : Df P w K mg base 1 "arms" ["arrangement"] f_arms fd_arms m_arms) {f_cross : Addr} {fd_cross : FuncData} (d_cross : Df P w K mg base 1 "cross" ["one", "other"] f_cross fd_cross m_cross) : FnOk P w K mg base (L2.CX P w) 2 f fd ["arrangement", "exchange"] (spM K mg m_is_possible) :=
  fn_ok (k := 1) F sc_is_possible fun cdv A outer s H E hr => by
    have tk : Takes (cxOf (L2.CX P w) P w K mg base n_is_possible "is_possible" (defScope s_is_possible) f cdv A outer s H E) (fun cls d _ H => E cls d H) := takes_of rfl rfl rfl rfl
    have sc := sc_is_possible
    exact (r_seq (r_set sc.nd (r_own d_new_arms hr tk (ra_cons (r_var 0) (ra_cons (r_var 1) ra_nil))))
    (r_seq (r_set sc.nd (r_lc sc.nd rfl (ri_seq (r_own d_arms hr tk (ra_cons (r_var 0) ra_nil))) (blkOk_by (own := [("arm", 4)]) (N := n_is_possible) (sc := defScope s_is_possible) (by decide +kernel)) ⟨fun _ _ _ _ _ => (g_nm sc.nd), fun _ _ _ _ _ => (rts_one (r_tcmp (p_notIn (room65 hr)) (r_ix p_ix (r_var 4) r_int) (r_var 1))), fun _ _ _ _ _ => (r_var 4)⟩ (by decide)))
    (r_last (r_ret (r_notV (r_callB (c_any rfl) T.n_any (by decide +kernel) (ra_cons (r_lc2 sc.nd rfl (ri_seq (r_var 2)) (blkOk_by (own := [("arm", 4), ("other", 5)]) (N := n_is_possible) (sc := defScope s_is_possible) (by decide +kernel)) ⟨fun _ _ _ _ _ => (g_nm sc.nd), fun _ _ _ _ _ => rts_nil, fun _ _ _ _ _ => (r_own d_cross hr takes0 (ra_cons (r_var 4) (ra_cons (r_var 5) ra_nil)))⟩ ⟨fun _ _ _ _ _ => (ri_seq (r_var 3)), fun _ _ _ _ _ => (g_nm sc.nd), fun _ _ _ _ _ => rts_nil⟩ (by decide) (by decide) (by decide)) ra_nil)))))))
abbrev s_exchanges : Stmt := top 17
theorem sc_exchanges : FnScope n_exchanges ["arrangement"] (defScope s_exchanges) := ⟨rfl, rfl, rfl, by decide +kernel, rfl, by decide +kernel, by decide +kernel⟩
theorem ok_exchanges {f : Addr} {fd : FuncData} (F : Fun K "exchanges" "exchanges" s_exchanges f fd) (T : Txt mg) {f_arms : Addr} {fd_arms : FuncData} (d_arms : Df P w K mg base 1 "arms" ["arrangement"] f_arms fd_arms m_arms) {f_is_possible : Addr} {fd_is_possible : FuncData} (d_is_possible : Df P w K mg base 2 "is_possible" ["arrangement", "exchange"] f_is_possible fd_is_possible m_is_possible) : FnOk P w K mg base (L2.CX P w) 3 f fd ["arrangement"] (spM K mg m_exchanges) :=
  fn_ok (k := 2) F sc_exchanges fun cdv A outer s H E hr => by
    have tk : Takes (cxOf (L2.CX P w) P w K mg base n_exchanges "exchanges" (defScope s_exchanges) f cdv A outer s H E) (fun cls d _ H => E cls d H) := takes_of rfl rfl rfl rfl
    have sc := sc_exchanges
    exact (r_seq (r_par sc.nd rfl (ra_cons (r_lst true ra_nil) (ra_cons (r_lc sc.nd rfl (ri_seq (r_own d_arms hr tk (ra_cons (r_var 0) ra_nil))) (blkOk_by (own := [("arm", 5)]) (N := n_exchanges) (sc := defScope s_exchanges) (by decide +kernel)) ⟨fun _ _ _ _ _ => (g_nm sc.nd), fun _ _ _ _ _ => rts_nil, fun _ _ _ _ _ => (r_ix p_ix (r_var 5) r_int)⟩ (by decide)) ra_nil)))
    (r_seq (r_for (passes_of rfl) rfl (ri_enum T.n_enumerate (ra_cons (r_var 2) ra_nil)) (g_tp rfl (gs_cons (g_nm sc.nd) (gs_cons (g_nm sc.nd) gs_nil)))
      (r_last (r_expr (r_lm PySem.F.slot_list_extend PySem.F.type_list_extend m_ext (r_var 1) (ra_cons (r_lc sc.nd rfl (ri_seq (r_slice false (r_var 2) (ro_some (r_op (p_add false) (r_var 3) r_int)) ro_none)) (blkOk_by (own := [("other", 6)]) (N := n_exchanges) (sc := defScope s_exchanges) (by decide +kernel)) ⟨fun _ _ _ _ _ => (g_nm sc.nd), fun _ _ _ _ _ => (rts_one (r_tru (r_own d_is_possible hr takes0 (ra_cons (r_var 0) (ra_cons (r_tup (ra_cons (r_var 4) (ra_cons (r_var 6) ra_nil))) ra_nil))))), fun _ _ _ _ _ => (r_tup (ra_cons (r_var 4) (ra_cons (r_var 6) ra_nil)))⟩ (by decide)) ra_nil)))))
    (r_last (r_ret (r_var 1)))))
abbrev s_changed : Stmt := top 18
theorem sc_changed : FnScope n_changed ["arrangement", "exchange"] (defScope s_changed) := ⟨rfl, rfl, rfl, by decide +kernel, rfl, by decide +kernel, by decide +kernel⟩
theorem ok_changed {f : Addr} {fd : FuncData} (F : Fun K "changed" "changed" s_changed f fd) (T : Txt mg) {f_new_arms : Addr} {fd_new_arms : FuncData} (d_new_arms : Df P w K mg base 1 "new_arms" ["arrangement", "exchange"] f_new_arms fd_new_arms m_new_arms) : FnOk P w K mg base (L2.CX P w) 2 f fd ["arrangement", "exchange"] (spM K mg m_changed) :=
  fn_ok (k := 1) F sc_changed fun cdv A outer s H E hr => by
    have tk : Takes (cxOf (L2.CX P w) P w K mg base n_changed "changed" (defScope s_changed) f cdv A outer s H E) (fun cls d _ H => E cls d H) := takes_of rfl rfl rfl rfl
    have sc := sc_changed
    exact (r_seq (r_set sc.nd (r_callTy (c_list true) T.n_list (by decide +kernel) (ra_cons (r_var 0) ra_nil)))
    (r_seq (r_for (passes_of rfl) rfl (ri_seq (r_own d_new_arms hr tk (ra_cons (r_var 0) (ra_cons (r_var 1) ra_nil)))) (g_tp rfl (gs_cons (g_nm sc.nd) (gs_cons (g_nm sc.nd) gs_nil)))
      (r_last (r_asgT (r_tup (ra_cons (r_var 4) (ra_cons (r_var 3) ra_nil))) (q_tup rfl (qs_cons (q_sub (W := W0) p_set (r_var 2) (r_var 3)) (qs_cons (q_sub (W := W0) p_set (r_var 2) (r_var 4)) qs_nil))))))
    (r_last (r_ret (r_callTy c_tuple T.n_tuple (by decide +kernel) (ra_cons (r_var 2) ra_nil))))))
abbrev s_exchanged : Stmt := top 19
theorem sc_exchanged : FnScope n_exchanged ["arrangement", "exchange"] (defScope s_exchanged) := ⟨rfl, rfl, rfl, by decide +kernel, rfl, by decide +kernel, by decide +kernel⟩
theorem ok_exchanged {f : Addr} {fd : FuncData} (F : Fun K "exchanged" "exchanged" s_exchanged f fd) (T : Txt mg) {f_changed : Addr} {fd_changed : FuncData} (d_changed : Df P w K mg base 2 "changed" ["arrangement", "exchange"] f_changed fd_changed m_changed) {f_is_lesser : Addr} {fd_is_lesser : FuncData} (d_is_lesser : Df P w K mg base 1 "is_lesser" ["arrangement", "person"] f_is_lesser fd_is_lesser m_is_lesser) {f_is_possible : Addr} {fd_is_possible : FuncData} (d_is_possible : Df P w K mg base 2 "is_possible" ["arrangement", "exchange"] f_is_possible fd_is_possible m_is_possible) : FnOk P w K mg base (L2.CX P w) 3 f fd ["arrangement", "exchange"] (spM K mg m_exchanged) :=
  fn_ok (k := 2) F sc_exchanged fun cdv A outer s H E hr => by
    have tk : Takes (cxOf (L2.CX P w) P w K mg base n_exchanged "exchanged" (defScope s_exchanged) f cdv A outer s H E) (fun cls d _ H => E cls d H) := takes_of rfl rfl rfl rfl
    have sc := sc_exchanged
    exact (r_seq (r_for (passes_of rfl) rfl (ri_seq (r_var 1)) (g_nm sc.nd)
      (r_last (r_if (r_not (r_tru (r_own d_is_lesser hr tk (ra_cons (r_var 0) (ra_cons (r_var 2) ra_nil)))))
      (r_last r_never)
      r_nil)))
    (r_seq (r_if (r_bool (r_or (r_tcmp p_ge (r_ix p_ix (r_var 1) r_int) (r_ix p_ix (r_var 1) r_int)) (r_or1 (r_not (r_tru (r_own d_is_possible hr tk (ra_cons (r_var 0) (ra_cons (r_var 1) ra_nil))))))))
      (r_last r_never)
      r_nil)
    (r_last (r_ret (r_own d_changed hr tk (ra_cons (r_var 0) (ra_cons (r_var 1) ra_nil)))))))
abbrev s_walk : Stmt := top 21
theorem sc_walk : FnScope n_walk ["arrangement", "place"] (defScope s_walk) := ⟨rfl, rfl, rfl, by decide +kernel, rfl, by decide +kernel, by decide +kernel⟩
theorem ok_walk {f : Addr} {fd : FuncData} (F : Fun K "walk" "walk" s_walk f fd) (T : Txt mg) : FnOk P w K mg base (L2.CX P w) 1 f fd ["arrangement", "place"] (spM K mg m_walk) :=
  fn_ok (k := 0) F sc_walk fun cdv A outer s H E hr => by
    have tk : Takes (cxOf (L2.CX P w) P w K mg base n_walk "walk" (defScope s_walk) f cdv A outer s H E) (fun cls d _ H => E cls d H) := takes_of rfl rfl rfl rfl
    have sc := sc_walk
    exact (r_seq (r_set sc.nd (r_lst true (ra_cons (r_var 1) ra_nil)))
    (r_last (r_while 1000 (passes_of rfl) (r_tru r_bl)
      (r_seq (r_set sc.nd (r_ix p_ix (r_var 0) (r_op p_mod (r_op (p_add false) (r_var 1) r_int) (r_callB c_len T.n_len (by decide +kernel) (ra_cons (r_var 0) ra_nil)))))
    (r_seq (r_if (r_tcmp (p_eq hr.units) (r_var 1) (r_ix p_ix (r_var 2) r_int))
      (r_last (r_ret (r_callTy c_tuple T.n_tuple (by decide +kernel) (ra_cons (r_callB (c_sort false (room65 hr)) T.n_sorted (by decide +kernel) (ra_cons (r_var 2) ra_nil)) ra_nil))))
      r_nil)
    (r_last (r_expr (r_lm PySem.F.slot_list_append PySem.F.type_list_append m_append (r_var 2) (ra_cons (r_var 1) ra_nil)))))))))
abbrev s_areas : Stmt := top 22
theorem sc_areas : FnScope n_areas ["arrangement"] (defScope s_areas) := ⟨rfl, rfl, rfl, by decide +kernel, rfl, by decide +kernel, by decide +kernel⟩
theorem ok_areas {f : Addr} {fd : FuncData} (F : Fun K "areas" "areas" s_areas f fd) (T : Txt mg) {f_walk : Addr} {fd_walk : FuncData} (d_walk : Df P w K mg base 1 "walk" ["arrangement", "place"] f_walk fd_walk m_walk) : FnOk P w K mg base (L2.CX P w) 2 f fd ["arrangement"] (spM K mg m_areas) :=
  fn_ok (k := 1) F sc_areas fun cdv A outer s H E hr => by
    have tk : Takes (cxOf (L2.CX P w) P w K mg base n_areas "areas" (defScope s_areas) f cdv A outer s H E) (fun cls d _ H => E cls d H) := takes_of rfl rfl rfl rfl
    have sc := sc_areas
    exact (r_last (r_ret (r_sset false (room65 hr) rfl T.n_sorted T.n_set (r_lc sc.nd rfl (ri_range1 T.n_range (ra_cons (r_callB c_len T.n_len (by decide +kernel) (ra_cons (r_var 0) ra_nil)) ra_nil)) (blkOk_by (own := [("place", 1)]) (N := n_areas) (sc := defScope s_areas) (by decide +kernel)) ⟨fun _ _ _ _ _ => (g_nm sc.nd), fun _ _ _ _ _ => rts_nil, fun _ _ _ _ _ => (r_own d_walk hr takes0 (ra_cons (r_var 0) (ra_cons (r_var 1) ra_nil)))⟩ (by decide)))))
abbrev s_area_of : Stmt := top 23
theorem sc_area_of : FnScope n_area_of ["arrangement", "place"] (defScope s_area_of) := ⟨rfl, rfl, rfl, by decide +kernel, rfl, by decide +kernel, by decide +kernel⟩
theorem ok_area_of {f : Addr} {fd : FuncData} (F : Fun K "area_of" "area_of" s_area_of f fd) (T : Txt mg) {f_walk : Addr} {fd_walk : FuncData} (d_walk : Df P w K mg base 1 "walk" ["arrangement", "place"] f_walk fd_walk m_walk) : FnOk P w K mg base (L2.CX P w) 2 f fd ["arrangement", "place"] (spM K mg m_area_of) :=
  fn_ok (k := 1) F sc_area_of fun cdv A outer s H E hr => by
    have tk : Takes (cxOf (L2.CX P w) P w K mg base n_area_of "area_of" (defScope s_area_of) f cdv A outer s H E) (fun cls d _ H => E cls d H) := takes_of rfl rfl rfl rfl
    have sc := sc_area_of
    exact (r_seq (r_if (r_not (r_tchain p_le p_lt r_int (r_var 1) (r_callB c_len T.n_len (by decide +kernel) (ra_cons (r_var 0) ra_nil))))
      (r_last r_never)
      r_nil)
    (r_last (r_ret (r_own d_walk hr tk (ra_cons (r_var 0) (ra_cons (r_var 1) ra_nil))))))
abbrev s_by_areas : Stmt := top 24
theorem sc_by_areas : FnScope n_by_areas ["people", "some"] (defScope s_by_areas) := ⟨rfl, rfl, rfl, by decide +kernel, rfl, by decide +kernel, by decide +kernel⟩
theorem ok_by_areas {f : Addr} {fd : FuncData} (F : Fun K "by_areas" "by_areas" s_by_areas f fd) (T : Txt mg) {f_is_arrangement : Addr} {fd_is_arrangement : FuncData} (d_is_arrangement : Df P w K mg base 3 "is_arrangement" ["thing"] f_is_arrangement fd_is_arrangement m_is_arrangement) {f_areas : Addr} {fd_areas : FuncData} (d_areas : Df P w K mg base 2 "areas" ["arrangement"] f_areas fd_areas m_areas) : FnOk P w K mg base (L2.CX P w) 4 f fd ["people", "some"] (spM K mg m_by_areas) :=
  fn_ok (k := 3) F sc_by_areas fun cdv A outer s H E hr => by
    have tk : Takes (cxOf (L2.CX P w) P w K mg base n_by_areas "by_areas" (defScope s_by_areas) f cdv A outer s H E) (fun cls d _ H => E cls d H) := takes_of rfl rfl rfl rfl
    have sc := sc_by_areas
    exact (r_seq (r_set sc.nd (r_callB (c_sort false (room65 hr)) T.n_sorted (by decide +kernel) (ra_cons (r_lc sc.nd rfl (ri_seq (r_var 1)) (blkOk_by (own := [("area", 4)]) (N := n_by_areas) (sc := defScope s_by_areas) (by decide +kernel)) ⟨fun _ _ _ _ _ => (g_nm sc.nd), fun _ _ _ _ _ => rts_nil, fun _ _ _ _ _ => (r_callTy c_tuple T.n_tuple (by decide +kernel) (ra_cons (r_callB (c_sort false (room65 hr)) T.n_sorted (by decide +kernel) (ra_cons (r_var 4) ra_nil)) ra_nil))⟩ (by decide)) ra_nil)))
    (r_seq (r_if (r_tcmp (p_ne hr.units) (r_callB (c_sort false (room65 hr)) T.n_sorted (by decide +kernel) (ra_cons (r_lc2 sc.nd rfl (ri_seq (r_var 2)) (blkOk_by (own := [("area", 4), ("place", 5)]) (N := n_by_areas) (sc := defScope s_by_areas) (by decide +kernel)) ⟨fun _ _ _ _ _ => (g_nm sc.nd), fun _ _ _ _ _ => rts_nil, fun _ _ _ _ _ => (r_var 5)⟩ ⟨fun _ _ _ _ _ => (ri_seq (r_var 4)), fun _ _ _ _ _ => (g_nm sc.nd), fun _ _ _ _ _ => rts_nil⟩ (by decide) (by decide) (by decide)) ra_nil)) (r_lrg false rfl T.n_list (rg_1 T.n_range (r_var 0))))
      (r_last (r_ret r_non))
      r_nil)
    (r_seq (r_set sc.nd (r_op (p_mul true) (r_lst false (ra_cons r_int ra_nil)) (r_var 0)))
    (r_seq (r_for (passes_of rfl) rfl (ri_seq (r_var 2)) (g_nm sc.nd)
      (r_last (r_for (passes_of rfl) rfl (ri_zip T.n_zip (ra_cons (r_var 4) (ra_cons (r_op (p_add false) (r_slice false (r_var 4) (ro_some r_int) ro_none) (r_slice false (r_var 4) ro_none (ro_some r_int))) ra_nil))) (g_tp rfl (gs_cons (g_nm sc.nd) (gs_cons (g_nm sc.nd) gs_nil)))
      (r_last (r_asgT (r_var 6) (q_sub (W := W0) p_set (r_var 3) (r_op p_mod (r_op (p_add false) (r_var 5) r_int) (r_var 0))))))))
    (r_freeze 3 (r_seq (r_if (r_bool (r_or (r_not (r_tru (r_own d_is_arrangement hr tk (ra_cons (r_callTy c_tuple T.n_tuple (by decide +kernel) (ra_cons (r_var 3) ra_nil)) ra_nil)))) (r_or1 (r_tcmp (p_ne hr.units) (r_own d_areas hr tk (ra_cons (r_var 3) ra_nil)) (r_var 2)))))
      (r_last (r_ret r_non))
      r_nil)
    (r_last (r_ret (r_callTy c_tuple T.n_tuple (by decide +kernel) (ra_cons (r_var 3) ra_nil))))))))))
abbrev s_ring_of : Stmt := top 26
theorem sc_ring_of : FnScope n_ring_of ["one", "other", "person"] (defScope s_ring_of) := ⟨rfl, rfl, rfl, by decide +kernel, rfl, by decide +kernel, by decide +kernel⟩
theorem ok_ring_of {f : Addr} {fd : FuncData} (F : Fun K "ring_of" "ring_of" s_ring_of f fd) (T : Txt mg) : FnOk P w K mg base (L2.CX P w) 1 f fd ["one", "other", "person"] (spM K mg m_ring_of) :=
  fn_ok (k := 0) F sc_ring_of fun cdv A outer s H E hr => by
    have tk : Takes (cxOf (L2.CX P w) P w K mg base n_ring_of "ring_of" (defScope s_ring_of) f cdv A outer s H E) (fun cls d _ H => E cls d H) := takes_of rfl rfl rfl rfl
    have sc := sc_ring_of
    exact (r_seq (r_set sc.nd (r_lst true (ra_cons (r_var 2) (ra_cons (r_ix p_ix (r_var 0) (r_var 2)) ra_nil))))
    (r_seq (r_while 1000 (passes_of rfl) (r_tcmp (p_ne hr.units) (r_ix p_ix (r_var 1) (r_ix p_ix (r_var 3) (r_un p_neg r_int))) (r_var 2))
      (r_seq (r_expr (r_lm PySem.F.slot_list_append PySem.F.type_list_append m_append (r_var 3) (ra_cons (r_ix p_ix (r_var 1) (r_ix p_ix (r_var 3) (r_un p_neg r_int))) ra_nil)))
    (r_last (r_expr (r_lm PySem.F.slot_list_append PySem.F.type_list_append m_append (r_var 3) (ra_cons (r_ix p_ix (r_var 0) (r_ix p_ix (r_var 3) (r_un p_neg r_int))) ra_nil))))))
    (r_last (r_ret (r_callTy c_tuple T.n_tuple (by decide +kernel) (ra_cons (r_var 3) ra_nil))))))
abbrev s_rings : Stmt := top 27
theorem sc_rings : FnScope n_rings ["one", "other"] (defScope s_rings) := ⟨rfl, rfl, rfl, by decide +kernel, rfl, by decide +kernel, by decide +kernel⟩
theorem ok_rings {f : Addr} {fd : FuncData} (F : Fun K "rings" "rings" s_rings f fd) (T : Txt mg) {f_look_same : Addr} {fd_look_same : FuncData} (d_look_same : Df P w K mg base 1 "look_same" ["one", "other"] f_look_same fd_look_same m_look_same) {f_ring_of : Addr} {fd_ring_of : FuncData} (d_ring_of : Df P w K mg base 1 "ring_of" ["one", "other", "person"] f_ring_of fd_ring_of m_ring_of) : FnOk P w K mg base (L2.CX P w) 2 f fd ["one", "other"] (spM K mg m_rings) :=
  fn_ok (k := 1) F sc_rings fun cdv A outer s H E hr => by
    have tk : Takes (cxOf (L2.CX P w) P w K mg base n_rings "rings" (defScope s_rings) f cdv A outer s H E) (fun cls d _ H => E cls d H) := takes_of rfl rfl rfl rfl
    have sc := sc_rings
    exact (r_seq (r_expr (r_own d_look_same hr tk (ra_cons (r_var 0) (ra_cons (r_var 1) ra_nil))))
    (r_seq (r_par sc.nd rfl (ra_cons (r_lst true ra_nil) (ra_cons (r_lst true ra_nil) ra_nil)))
    (r_seq (r_for (passes_of rfl) rfl (ri_range1 T.n_range (ra_cons (r_callB c_len T.n_len (by decide +kernel) (ra_cons (r_var 0) ra_nil)) ra_nil)) (g_nm sc.nd)
      (r_last (r_if (r_tcmp (p_notIn (room65 hr)) (r_var 4) (r_var 3))
      (r_seq (r_expr (r_lm PySem.F.slot_list_append PySem.F.type_list_append m_append (r_var 2) (ra_cons (r_own d_ring_of hr tk (ra_cons (r_var 0) (ra_cons (r_var 1) (ra_cons (r_var 4) ra_nil)))) ra_nil)))
    (r_last (r_expr (r_lm PySem.F.slot_list_extend PySem.F.type_list_extend m_ext (r_var 3) (ra_cons (r_ix p_ix (r_var 2) (r_un p_neg r_int)) ra_nil)))))
      r_nil)))
    (r_last (r_ret (r_var 2))))))
abbrev s_distance : Stmt := top 28
theorem sc_distance : FnScope n_distance ["one", "other"] (defScope s_distance) := ⟨rfl, rfl, rfl, by decide +kernel, rfl, by decide +kernel, by decide +kernel⟩
theorem ok_distance {f : Addr} {fd : FuncData} (F : Fun K "distance" "distance" s_distance f fd) (T : Txt mg) {f_rings : Addr} {fd_rings : FuncData} (d_rings : Df P w K mg base 2 "rings" ["one", "other"] f_rings fd_rings m_rings) : FnOk P w K mg base (L2.CX P w) 3 f fd ["one", "other"] (spM K mg m_distance) :=
  fn_ok (k := 2) F sc_distance fun cdv A outer s H E hr => by
    have tk : Takes (cxOf (L2.CX P w) P w K mg base n_distance "distance" (defScope s_distance) f cdv A outer s H E) (fun cls d _ H => E cls d H) := takes_of rfl rfl rfl rfl
    have sc := sc_distance
    exact (r_last (r_ret (r_op p_sub (r_op p_fdiv (r_callB c_len T.n_len (by decide +kernel) (ra_cons (r_var 0) ra_nil)) r_int) (r_callB c_len T.n_len (by decide +kernel) (ra_cons (r_own d_rings hr tk (ra_cons (r_var 0) (ra_cons (r_var 1) ra_nil))) ra_nil)))))
abbrev s_law_cell_at : Stmt := top 30
theorem sc_law_cell_at : FnScope n_law_cell_at ["_law_script", "_law_k"] (defScope s_law_cell_at) := ⟨rfl, rfl, rfl, by decide +kernel, rfl, by decide +kernel, by decide +kernel⟩
theorem ok_law_cell_at {f : Addr} {fd : FuncData} (F : Fun K "_law_cell_at" "_law_cell_at" s_law_cell_at f fd) (T : Txt mg) : FnOk P w K mg base (L2.CX P w) 1 f fd ["_law_script", "_law_k"] (spM K mg m_law_cell_at) :=
  fn_ok (k := 0) F sc_law_cell_at fun cdv A outer s H E hr => by
    have tk : Takes (cxOf (L2.CX P w) P w K mg base n_law_cell_at "_law_cell_at" (defScope s_law_cell_at) f cdv A outer s H E) (fun cls d _ H => E cls d H) := takes_of rfl rfl rfl rfl
    have sc := sc_law_cell_at
    exact (r_seq (r_if (r_tcmp p_lt (r_var 1) (r_callB c_len T.n_len (by decide +kernel) (ra_cons (r_var 0) ra_nil)))
      (r_last (r_ret (r_ix p_ix (r_var 0) (r_var 1))))
      r_nil)
    (r_last (r_ret r_int)))
abbrev s_law_box : Stmt := top 31
theorem sc_law_box : FnScope n_law_box ["_law_script", "_law_k"] (defScope s_law_box) := ⟨rfl, rfl, rfl, by decide +kernel, rfl, by decide +kernel, by decide +kernel⟩
theorem ok_law_box {f : Addr} {fd : FuncData} (F : Fun K "_law_box" "_law_box" s_law_box f fd) (T : Txt mg) {f_law_cell_at : Addr} {fd_law_cell_at : FuncData} (d_law_cell_at : Df P w K mg base 1 "_law_cell_at" ["_law_script", "_law_k"] f_law_cell_at fd_law_cell_at m_law_cell_at) : FnOk P w K mg base (L2.CX P w) 2 f fd ["_law_script", "_law_k"] (spM K mg m_law_box) :=
  fn_okR (k := 1) F sc_law_box fun cdv A outer s H E hr => by
    have tk : Takes (cxOf (L2.CX P w) P w K mg base n_law_box "_law_box" (defScope s_law_box) f cdv A outer s H E) (fun cls d _ H => E cls d H) := takes_of rfl rfl rfl rfl
    have sc := sc_law_box
    exact (r_seq (r_set sc.nd (r_own d_law_cell_at hr tk (ra_cons (r_var 0) (ra_cons (r_var 1) ra_nil))))
    (r_last (r_ret (r_lst true (ra_cons (r_op (p_mul false) (r_callB c_abs T.n_abs (by decide +kernel) (ra_cons (r_var 2) ra_nil)) (r_callTy c_int T.n_int (by decide +kernel) (ra_cons (r_cmp p_ge (r_callB c_abs T.n_abs (by decide +kernel) (ra_cons (r_var 2) ra_nil)) (r_op p_pow r_int r_int)) ra_nil))) (ra_cons (r_op (p_add false) (r_op (p_add false) (r_op p_mod (r_var 2) r_int) (r_op (p_mul false) r_int (r_var 1))) r_int) (ra_cons r_int ra_nil)))))))
abbrev s_law_take : Stmt := top 32
theorem sc_law_take : FnScope n_law_take ["_law_box_here", "_law_below"] (defScope s_law_take) := ⟨rfl, rfl, rfl, by decide +kernel, rfl, by decide +kernel, by decide +kernel⟩
theorem ok_law_take {f : Addr} {fd : FuncData} (F : Fun K "_law_take" "_law_take" s_law_take f fd) (T : Txt mg) (gl : mg "_law_take" = some (.ref f)) (bd : Binds K fd ["_law_box_here", "_law_below"] []) : ∀ n : Nat, n ≤ 4 → FnOk P w K mg base (L2.CX P w) (0 + n) f fd ["_law_box_here", "_law_below"] (spM K mg (r_law_take n))
  | 0, _ => fn_zero
  | n + 1, hn => fn_ok (k := 0 + n) F sc_law_take fun cdv A outer s H E hr => by
    have tk : Takes (cxOf (L2.CX P w) P w K mg base n_law_take "_law_take" (defScope s_law_take) f cdv A outer s H E) (fun cls d _ H => E cls d H) := takes_of rfl rfl rfl rfl
    have sc := sc_law_take
    have d_law_take : Df P w K mg base (0 + n) "_law_take" ["_law_box_here", "_law_below"] f fd (r_law_take n) := ⟨ok_law_take F T gl bd  n (Nat.le_of_succ_le hn), gl, F.kp, bd⟩
    exact (r_seq (r_if (r_tcmp p_gt (r_ix p_ix (r_var 0) r_int) r_int)
      (r_seq (r_set sc.nd (r_op p_mod (r_ix p_ix (r_var 0) r_int) (r_var 1)))
    (r_seq (r_asgT (r_op p_fdiv (r_ix p_ix (r_var 0) r_int) (r_var 1)) (q_sub (W := W0) p_set (r_var 0) r_int))
    (r_last (r_ret (r_var 2)))))
      r_nil)
    (r_seq (r_if (r_tcmp p_gt (r_var 1) (r_op p_pow r_int r_int))
      (r_last (r_ret (r_op p_mod (r_op (p_add false) (r_own (hj := Nat.le_refl _) d_law_take hr tk (ra_cons (r_var 0) (ra_cons (r_op p_pow r_int r_int) ra_nil))) (r_op (p_mul false) (r_op p_pow r_int r_int) (r_own (hj := Nat.le_refl _) d_law_take hr tk (ra_cons (r_var 0) (ra_cons (r_op (p_add false) (r_op p_fdiv (r_var 1) (r_op p_pow r_int r_int)) r_int) ra_nil))))) (r_var 1))))
      r_nil)
    (r_seq (r_asgT (r_op (p_add false) (r_ix p_ix (r_var 0) r_int) r_int) (q_sub (W := W0) p_set (r_var 0) r_int))
    (r_seq (r_set sc.nd (r_op p_mod (r_op (p_mul false) (r_op (p_add false) (r_ix p_ix (r_var 0) r_int) (r_op (p_mul false) r_int (r_ix p_ix (r_var 0) r_int))) (r_op (p_add false) r_int (r_ix p_ix (r_var 0) r_int))) r_int))
    (r_seq (r_set sc.nd (r_op p_mod (r_op (p_mul false) (r_op (p_add false) (r_op (p_add false) (r_var 3) (r_ix p_ix (r_var 0) r_int)) (r_op p_fdiv (r_ix p_ix (r_var 0) r_int) r_int)) (r_op (p_add false) (r_op p_mod (r_var 3) r_int) r_int)) r_int))
    (r_last (r_ret (r_op p_mod (r_op p_fdiv (r_op p_mod (r_op (p_add false) (r_op (p_mul false) (r_var 4) r_int) (r_var 3)) r_int) r_int) (r_var 1)))))))))
abbrev s_law_of : Stmt := top 33
theorem sc_law_of : FnScope n_law_of ["_law_box_here", "_law_pool"] (defScope s_law_of) := ⟨rfl, rfl, rfl, by decide +kernel, rfl, by decide +kernel, by decide +kernel⟩
theorem ok_law_of {f : Addr} {fd : FuncData} (F : Fun K "_law_of" "_law_of" s_law_of f fd) (T : Txt mg) {f_law_take : Addr} {fd_law_take : FuncData} (d_law_take : Df P w K mg base 4 "_law_take" ["_law_box_here", "_law_below"] f_law_take fd_law_take m_law_take) : FnOk P w K mg base (L2.CX P w) 5 f fd ["_law_box_here", "_law_pool"] (spM K mg m_law_of) :=
  fn_ok (k := 4) F sc_law_of fun cdv A outer s H E hr => by
    have tk : Takes (cxOf (L2.CX P w) P w K mg base n_law_of "_law_of" (defScope s_law_of) f cdv A outer s H E) (fun cls d _ H => E cls d H) := takes_of rfl rfl rfl rfl
    have sc := sc_law_of
    exact (r_last (r_ret (r_ix p_ix (r_var 1) (r_own d_law_take hr tk (ra_cons (r_var 0) (ra_cons (r_callB c_len T.n_len (by decide +kernel) (ra_cons (r_var 1) ra_nil)) ra_nil))))))
abbrev s_law_hall : Stmt := top 34
theorem sc_law_hall : FnScope n_law_hall ["_law_box_here", "_law_few"] (defScope s_law_hall) := ⟨rfl, rfl, rfl, by decide +kernel, rfl, by decide +kernel, by decide +kernel⟩
theorem ok_law_hall {f : Addr} {fd : FuncData} (F : Fun K "_law_hall" "_law_hall" s_law_hall f fd) (T : Txt mg) {f_law_take : Addr} {fd_law_take : FuncData} (d_law_take : Df P w K mg base 4 "_law_take" ["_law_box_here", "_law_below"] f_law_take fd_law_take m_law_take) : FnOk P w K mg base (L2.CX P w) 5 f fd ["_law_box_here", "_law_few"] (spM K mg m_law_hall) :=
  fn_ok (k := 4) F sc_law_hall fun cdv A outer s H E hr => by
    have tk : Takes (cxOf (L2.CX P w) P w K mg base n_law_hall "_law_hall" (defScope s_law_hall) f cdv A outer s H E) (fun cls d _ H => E cls d H) := takes_of rfl rfl rfl rfl
    have sc := sc_law_hall
    exact (r_seq (r_par sc.nd rfl (ra_cons (r_op (p_mul true) (r_lst false (ra_cons r_int ra_nil)) (r_op (p_mul false) r_int (r_var 1))) (ra_cons (r_lst true (ra_cons (r_tup (ra_cons r_int (ra_cons (r_op (p_mul false) r_int (r_var 1)) ra_nil))) ra_nil)) ra_nil)))
    (r_seq (r_while 1000 (passes_of rfl) (r_tcmp (p_ne hr.units) (r_var 3) (r_lst false ra_nil))
      (r_seq (r_asg (r_lm0 PySem.F.slot_list_pop PySem.F.type_list_pop m_pop (r_var 3)) (g_tp rfl (gs_cons (g_nm sc.nd) (gs_cons (g_nm sc.nd) gs_nil))))
    (r_last (r_if (r_tcmp p_lt (r_var 4) (r_var 5))
      (r_seq (r_set sc.nd (r_op (p_add false) (r_op (p_add false) (r_var 4) r_int) (r_op (p_mul false) r_int (r_own d_law_take hr tk (ra_cons (r_var 0) (ra_cons (r_op p_fdiv (r_op p_sub (r_var 5) (r_var 4)) r_int) ra_nil))))))
    (r_seq (r_asgT (r_tup (ra_cons (r_var 6) (ra_cons (r_var 4) ra_nil))) (q_tup rfl (qs_cons (q_sub (W := W0) p_set (r_var 2) (r_var 4)) (qs_cons (q_sub (W := W0) p_set (r_var 2) (r_var 6)) qs_nil))))
    (r_last (r_set sc.nd (r_op (p_add true) (r_var 3) (r_lst false (ra_cons (r_tup (ra_cons (r_op (p_add false) (r_var 4) r_int) (ra_cons (r_var 6) ra_nil))) (ra_cons (r_tup (ra_cons (r_op (p_add false) (r_var 6) r_int) (ra_cons (r_var 5) ra_nil))) ra_nil))))))))
      r_nil))))
    (r_last (r_ret (r_callTy c_tuple T.n_tuple (by decide +kernel) (ra_cons (r_var 2) ra_nil))))))
abbrev s_law_pairs : Stmt := top 35
theorem sc_law_pairs : FnScope n_law_pairs ["_law_hall_here"] (defScope s_law_pairs) := ⟨rfl, rfl, rfl, by decide +kernel, rfl, by decide +kernel, by decide +kernel⟩
theorem ok_law_pairs {f : Addr} {fd : FuncData} (F : Fun K "_law_pairs" "_law_pairs" s_law_pairs f fd) (T : Txt mg) : FnOk P w K mg base (L2.CX P w) 1 f fd ["_law_hall_here"] (spM K mg m_law_pairs) :=
  fn_ok (k := 0) F sc_law_pairs fun cdv A outer s H E hr => by
    have tk : Takes (cxOf (L2.CX P w) P w K mg base n_law_pairs "_law_pairs" (defScope s_law_pairs) f cdv A outer s H E) (fun cls d _ H => E cls d H) := takes_of rfl rfl rfl rfl
    have sc := sc_law_pairs
    exact (r_last (r_ret (r_lc sc.nd rfl (ri_enum T.n_enumerate (ra_cons (r_var 0) ra_nil)) (blkOk_by (own := [("_law_k", 1), ("_law_mate", 2)]) (N := n_law_pairs) (sc := defScope s_law_pairs) (by decide +kernel)) ⟨fun _ _ _ _ _ => (g_tp rfl (gs_cons (g_nm sc.nd) (gs_cons (g_nm sc.nd) gs_nil))), fun _ _ _ _ _ => (rts_one (r_tcmp p_lt (r_var 1) (r_var 2))), fun _ _ _ _ _ => (r_tup (ra_cons (r_var 1) (ra_cons (r_var 2) ra_nil)))⟩ (by decide))))
abbrev s_law_crossed : Stmt := top 36
theorem sc_law_crossed : FnScope n_law_crossed ["_law_duo", "_law_its"] (defScope s_law_crossed) := ⟨rfl, rfl, rfl, by decide +kernel, rfl, by decide +kernel, by decide +kernel⟩
theorem ok_law_crossed {f : Addr} {fd : FuncData} (F : Fun K "_law_crossed" "_law_crossed" s_law_crossed f fd) (T : Txt mg) : FnOk P w K mg base (L2.CX P w) 1 f fd ["_law_duo", "_law_its"] (spM K mg m_law_crossed) :=
  fn_ok (k := 0) F sc_law_crossed fun cdv A outer s H E hr => by
    have tk : Takes (cxOf (L2.CX P w) P w K mg base n_law_crossed "_law_crossed" (defScope s_law_crossed) f cdv A outer s H E) (fun cls d _ H => E cls d H) := takes_of rfl rfl rfl rfl
    have sc := sc_law_crossed
    exact (r_last (r_ret (r_cmp (p_ne hr.units) (r_chain p_lt p_lt (r_callB (c_min (room1 hr) rfl) T.n_min (by decide +kernel) (ra_cons (r_var 0) ra_nil)) (r_ix p_ix (r_var 1) r_int) (r_callB (c_max (room1 hr) rfl) T.n_max (by decide +kernel) (ra_cons (r_var 0) ra_nil))) (r_chain p_lt p_lt (r_callB (c_min (room1 hr) rfl) T.n_min (by decide +kernel) (ra_cons (r_var 0) ra_nil)) (r_ix p_ix (r_var 1) r_int) (r_callB (c_max (room1 hr) rfl) T.n_max (by decide +kernel) (ra_cons (r_var 0) ra_nil))))))
abbrev s_law_clear : Stmt := top 37
theorem sc_law_clear : FnScope n_law_clear ["_law_duos"] (defScope s_law_clear) := ⟨rfl, rfl, rfl, by decide +kernel, rfl, by decide +kernel, by decide +kernel⟩
theorem ok_law_clear {f : Addr} {fd : FuncData} (F : Fun K "_law_clear" "_law_clear" s_law_clear f fd) (T : Txt mg) {f_law_crossed : Addr} {fd_law_crossed : FuncData} (d_law_crossed : Df P w K mg base 1 "_law_crossed" ["_law_duo", "_law_its"] f_law_crossed fd_law_crossed m_law_crossed) : FnOk P w K mg base (L2.CX P w) 2 f fd ["_law_duos"] (spM K mg m_law_clear) :=
  fn_ok (k := 1) F sc_law_clear fun cdv A outer s H E hr => by
    have tk : Takes (cxOf (L2.CX P w) P w K mg base n_law_clear "_law_clear" (defScope s_law_clear) f cdv A outer s H E) (fun cls d _ H => E cls d H) := takes_of rfl rfl rfl rfl
    have sc := sc_law_clear
    exact (r_seq (r_for (passes_of rfl) rfl (ri_enum T.n_enumerate (ra_cons (r_var 0) ra_nil)) (g_tp rfl (gs_cons (g_nm sc.nd) (gs_cons (g_nm sc.nd) gs_nil)))
      (r_last (r_if (r_tru (r_callB (c_any rfl) T.n_any (by decide +kernel) (ra_cons (r_lc sc.nd rfl (ri_seq (r_slice false (r_var 0) ro_none (ro_some (r_var 1)))) (blkOk_by (own := [("_law_its", 3)]) (N := n_law_clear) (sc := defScope s_law_clear) (by decide +kernel)) ⟨fun _ _ _ _ _ => (g_nm sc.nd), fun _ _ _ _ _ => rts_nil, fun _ _ _ _ _ => (r_own d_law_crossed hr takes0 (ra_cons (r_var 2) (ra_cons (r_var 3) ra_nil)))⟩ (by decide)) ra_nil)))
      (r_last (r_ret r_bl))
      r_nil)))
    (r_last (r_ret r_bl)))
abbrev s_law_seated : Stmt := top 38
theorem sc_law_seated : FnScope n_law_seated ["_law_size", "_law_duos"] (defScope s_law_seated) := ⟨rfl, rfl, rfl, by decide +kernel, rfl, by decide +kernel, by decide +kernel⟩
theorem ok_law_seated {f : Addr} {fd : FuncData} (F : Fun K "_law_seated" "_law_seated" s_law_seated f fd) (T : Txt mg) : FnOk P w K mg base (L2.CX P w) 1 f fd ["_law_size", "_law_duos"] (spM K mg m_law_seated) :=
  fn_ok (k := 0) F sc_law_seated fun cdv A outer s H E hr => by
    have tk : Takes (cxOf (L2.CX P w) P w K mg base n_law_seated "_law_seated" (defScope s_law_seated) f cdv A outer s H E) (fun cls d _ H => E cls d H) := takes_of rfl rfl rfl rfl
    have sc := sc_law_seated
    exact (r_seq (r_set sc.nd (r_op (p_mul true) (r_lst false (ra_cons r_int ra_nil)) (r_var 0)))
    (r_seq (r_for (passes_of rfl) rfl (ri_seq (r_var 1)) (g_tp rfl (gs_cons (g_nm sc.nd) (gs_cons (g_nm sc.nd) gs_nil)))
      (r_last (r_asgT (r_tup (ra_cons (r_var 4) (ra_cons (r_var 3) ra_nil))) (q_tup rfl (qs_cons (q_sub (W := W0) p_set (r_var 2) (r_var 3)) (qs_cons (q_sub (W := W0) p_set (r_var 2) (r_var 4)) qs_nil))))))
    (r_last (r_ret (r_callTy c_tuple T.n_tuple (by decide +kernel) (ra_cons (r_var 2) ra_nil))))))
abbrev s_law_swapped : Stmt := top 39
theorem sc_law_swapped : FnScope n_law_swapped ["_law_hall_here", "_law_duo"] (defScope s_law_swapped) := ⟨rfl, rfl, rfl, by decide +kernel, rfl, by decide +kernel, by decide +kernel⟩
theorem ok_law_swapped {f : Addr} {fd : FuncData} (F : Fun K "_law_swapped" "_law_swapped" s_law_swapped f fd) (T : Txt mg) {f_law_clear : Addr} {fd_law_clear : FuncData} (d_law_clear : Df P w K mg base 2 "_law_clear" ["_law_duos"] f_law_clear fd_law_clear m_law_clear) {f_law_seated : Addr} {fd_law_seated : FuncData} (d_law_seated : Df P w K mg base 1 "_law_seated" ["_law_size", "_law_duos"] f_law_seated fd_law_seated m_law_seated) {f_law_pairs : Addr} {fd_law_pairs : FuncData} (d_law_pairs : Df P w K mg base 1 "_law_pairs" ["_law_hall_here"] f_law_pairs fd_law_pairs m_law_pairs) : FnOk P w K mg base (L2.CX P w) 3 f fd ["_law_hall_here", "_law_duo"] (spM K mg m_law_swapped) :=
  fn_ok (k := 2) F sc_law_swapped fun cdv A outer s H E hr => by
    have tk : Takes (cxOf (L2.CX P w) P w K mg base n_law_swapped "_law_swapped" (defScope s_law_swapped) f cdv A outer s H E) (fun cls d _ H => E cls d H) := takes_of rfl rfl rfl rfl
    have sc := sc_law_swapped
    exact (r_seq (r_asg (r_callB (c_sort false (room65 hr)) T.n_sorted (by decide +kernel) (ra_cons (r_lst false (ra_cons (r_ix p_ix (r_var 1) r_int) (ra_cons (r_ix p_ix (r_var 1) r_int) (ra_cons (r_ix p_ix (r_var 0) (r_ix p_ix (r_var 1) r_int)) (ra_cons (r_ix p_ix (r_var 0) (r_ix p_ix (r_var 1) r_int)) ra_nil))))) ra_nil)) (g_tp rfl (gs_cons (g_nm sc.nd) (gs_cons (g_nm sc.nd) (gs_cons (g_nm sc.nd) (gs_cons (g_nm sc.nd) gs_nil))))))
    (r_seq (r_set sc.nd (r_ifE (r_tcmp (p_eq hr.units) (r_ix p_ix (r_var 0) (r_var 2)) (r_var 3)) (r_lst false (ra_cons (r_tup (ra_cons (r_var 2) (ra_cons (r_var 5) ra_nil))) (ra_cons (r_tup (ra_cons (r_var 3) (ra_cons (r_var 4) ra_nil))) ra_nil))) (r_lst false (ra_cons (r_tup (ra_cons (r_var 2) (ra_cons (r_var 3) ra_nil))) (ra_cons (r_tup (ra_cons (r_var 4) (ra_cons (r_var 5) ra_nil))) ra_nil)))))
    (r_seq (r_setLc sc.nd rfl (ri_seq (r_own d_law_pairs hr tk (ra_cons (r_var 0) ra_nil))) (blkOk_by (own := [("_law_its", 8)]) (N := n_law_swapped) (sc := defScope s_law_swapped) (by decide +kernel)) ⟨fun _ _ _ _ _ => (g_nm sc.nd), fun _ _ _ _ _ => (rts_one (r_tcmp (p_notIn (room65 hr)) (r_ix p_ix (r_var 8) r_int) (r_var 1))), fun _ _ _ _ _ => (r_var 8)⟩ (by decide) (sw_true rfl rfl rfl (by decide +kernel)))
    (r_last (r_ret (r_ifE (r_tru (r_own d_law_clear hr tk (ra_cons (r_op (p_add false) (r_var 7) (r_var 6)) ra_nil))) (r_own d_law_seated hr tk (ra_cons (r_callB c_len T.n_len (by decide +kernel) (ra_cons (r_var 0) ra_nil)) (ra_cons (r_op (p_add false) (r_var 7) (r_var 6)) ra_nil))) r_non))))))
abbrev s_law_swaps : Stmt := top 40
theorem sc_law_swaps : FnScope n_law_swaps ["_law_hall_here"] (defScope s_law_swaps) := ⟨rfl, rfl, rfl, by decide +kernel, rfl, by decide +kernel, by decide +kernel⟩
theorem ok_law_swaps {f : Addr} {fd : FuncData} (F : Fun K "_law_swaps" "_law_swaps" s_law_swaps f fd) (T : Txt mg) {f_law_pairs : Addr} {fd_law_pairs : FuncData} (d_law_pairs : Df P w K mg base 1 "_law_pairs" ["_law_hall_here"] f_law_pairs fd_law_pairs m_law_pairs) {f_law_swapped : Addr} {fd_law_swapped : FuncData} (d_law_swapped : Df P w K mg base 3 "_law_swapped" ["_law_hall_here", "_law_duo"] f_law_swapped fd_law_swapped m_law_swapped) : FnOk P w K mg base (L2.CX P w) 4 f fd ["_law_hall_here"] (spM K mg m_law_swaps) :=
  fn_ok (k := 3) F sc_law_swaps fun cdv A outer s H E hr => by
    have tk : Takes (cxOf (L2.CX P w) P w K mg base n_law_swaps "_law_swaps" (defScope s_law_swaps) f cdv A outer s H E) (fun cls d _ H => E cls d H) := takes_of rfl rfl rfl rfl
    have sc := sc_law_swaps
    exact (r_seq (r_par sc.nd rfl (ra_cons (r_lc sc.nd rfl (ri_seq (r_own d_law_pairs hr tk (ra_cons (r_var 0) ra_nil))) (blkOk_by (own := [("_law_low", 6), ("_law_high", 5)]) (N := n_law_swaps) (sc := defScope s_law_swaps) (by decide +kernel)) ⟨fun _ _ _ _ _ => (g_tp rfl (gs_cons (g_nm sc.nd) (gs_cons (g_nm sc.nd) gs_nil))), fun _ _ _ _ _ => rts_nil, fun _ _ _ _ _ => (r_var 6)⟩ (by decide)) (ra_cons (r_lst true ra_nil) ra_nil)))
    (r_seq (r_for (passes_of rfl) rfl (ri_enum T.n_enumerate (ra_cons (r_var 1) ra_nil)) (g_tp rfl (gs_cons (g_nm sc.nd) (gs_cons (g_nm sc.nd) gs_nil)))
      (r_last (r_expr (r_lm PySem.F.slot_list_extend PySem.F.type_list_extend m_ext (r_var 2) (ra_cons (r_lc sc.nd rfl (ri_seq (r_slice false (r_var 1) ro_none (ro_some (r_var 3)))) (blkOk_by (own := [("_law_low", 6)]) (N := n_law_swaps) (sc := defScope s_law_swaps) (by decide +kernel)) ⟨fun _ _ _ _ _ => (g_nm sc.nd), fun _ _ _ _ _ => (rts_one (r_tcmp p_notN (r_own d_law_swapped hr takes0 (ra_cons (r_var 0) (ra_cons (r_tup (ra_cons (r_var 6) (ra_cons (r_var 4) ra_nil))) ra_nil))) r_non)), fun _ _ _ _ _ => (r_tup (ra_cons (r_var 6) (ra_cons (r_var 4) ra_nil)))⟩ (by decide)) ra_nil)))))
    (r_last (r_ret (r_callB (c_sort false (room65 hr)) T.n_sorted (by decide +kernel) (ra_cons (r_var 2) ra_nil))))))
abbrev s_law_strolled : Stmt := top 41
theorem sc_law_strolled : FnScope n_law_strolled ["_law_box_here", "_law_hall_here", "_law_turns"] (defScope s_law_strolled) := ⟨rfl, rfl, rfl, by decide +kernel, rfl, by decide +kernel, by decide +kernel⟩
theorem ok_law_strolled {f : Addr} {fd : FuncData} (F : Fun K "_law_strolled" "_law_strolled" s_law_strolled f fd) (T : Txt mg) {f_law_swaps : Addr} {fd_law_swaps : FuncData} (d_law_swaps : Df P w K mg base 4 "_law_swaps" ["_law_hall_here"] f_law_swaps fd_law_swaps m_law_swaps) {f_law_swapped : Addr} {fd_law_swapped : FuncData} (d_law_swapped : Df P w K mg base 3 "_law_swapped" ["_law_hall_here", "_law_duo"] f_law_swapped fd_law_swapped m_law_swapped) {f_law_of : Addr} {fd_law_of : FuncData} (d_law_of : Df P w K mg base 5 "_law_of" ["_law_box_here", "_law_pool"] f_law_of fd_law_of m_law_of) : FnOk P w K mg base (L2.CX P w) 6 f fd ["_law_box_here", "_law_hall_here", "_law_turns"] (spM K mg m_law_strolled) :=
  fn_ok (k := 5) F sc_law_strolled fun cdv A outer s H E hr => by
    have tk : Takes (cxOf (L2.CX P w) P w K mg base n_law_strolled "_law_strolled" (defScope s_law_strolled) f cdv A outer s H E) (fun cls d _ H => E cls d H) := takes_of rfl rfl rfl rfl
    have sc := sc_law_strolled
    exact (r_seq (r_for (passes_of rfl) rfl (ri_range1 T.n_range (ra_cons (r_var 2) ra_nil)) (g_nm sc.nd)
      (r_seq (r_set sc.nd (r_own d_law_swaps hr tk (ra_cons (r_var 1) ra_nil)))
    (r_last (r_if (r_tcmp (p_ne hr.units) (r_var 4) (r_lst false ra_nil))
      (r_last (r_set sc.nd (r_own d_law_swapped hr tk (ra_cons (r_var 1) (ra_cons (r_own d_law_of hr tk (ra_cons (r_var 0) (ra_cons (r_var 4) ra_nil))) ra_nil)))))
      r_nil))))
    (r_last (r_ret (r_var 1))))
abbrev s_law_room_arms : Stmt := top 42
theorem sc_law_room_arms : FnScope n_law_room_arms ["_law_hall_here", "_law_room"] (defScope s_law_room_arms) := ⟨rfl, rfl, rfl, by decide +kernel, rfl, by decide +kernel, by decide +kernel⟩
theorem ok_law_room_arms {f : Addr} {fd : FuncData} (F : Fun K "_law_room_arms" "_law_room_arms" s_law_room_arms f fd) (T : Txt mg) : FnOk P w K mg base (L2.CX P w) 1 f fd ["_law_hall_here", "_law_room"] (spM K mg m_law_room_arms) :=
  fn_ok (k := 0) F sc_law_room_arms fun cdv A outer s H E hr => by
    have tk : Takes (cxOf (L2.CX P w) P w K mg base n_law_room_arms "_law_room_arms" (defScope s_law_room_arms) f cdv A outer s H E) (fun cls d _ H => E cls d H) := takes_of rfl rfl rfl rfl
    have sc := sc_law_room_arms
    exact (r_seq (r_set sc.nd (r_callB c_len T.n_len (by decide +kernel) (ra_cons (r_var 0) ra_nil)))
    (r_last (r_ret (r_sset false (room65 hr) rfl T.n_sorted T.n_set (r_lc sc.nd rfl (ri_seq (r_var 1)) (blkOk_by (own := [("_law_space", 3)]) (N := n_law_room_arms) (sc := defScope s_law_room_arms) (by decide +kernel)) ⟨fun _ _ _ _ _ => (g_nm sc.nd), fun _ _ _ _ _ => rts_nil, fun _ _ _ _ _ => (r_callTy c_tuple T.n_tuple (by decide +kernel) (ra_cons (r_callB (c_sort false (room65 hr)) T.n_sorted (by decide +kernel) (ra_cons (r_lst false (ra_cons (r_op p_mod (r_op (p_add false) (r_var 3) r_int) (r_var 2)) (ra_cons (r_ix p_ix (r_var 0) (r_op p_mod (r_op (p_add false) (r_var 3) r_int) (r_var 2))) ra_nil))) ra_nil)) ra_nil))⟩ (by decide))))))
abbrev s_law_swaps_due : Stmt := top 43
theorem sc_law_swaps_due : FnScope n_law_swaps_due ["_law_hall_here", "_law_rooms"] (defScope s_law_swaps_due) := ⟨rfl, rfl, rfl, by decide +kernel, rfl, by decide +kernel, by decide +kernel⟩
theorem ok_law_swaps_due {f : Addr} {fd : FuncData} (F : Fun K "_law_swaps_due" "_law_swaps_due" s_law_swaps_due f fd) (T : Txt mg) {f_law_room_arms : Addr} {fd_law_room_arms : FuncData} (d_law_room_arms : Df P w K mg base 1 "_law_room_arms" ["_law_hall_here", "_law_room"] f_law_room_arms fd_law_room_arms m_law_room_arms) : FnOk P w K mg base (L2.CX P w) 2 f fd ["_law_hall_here", "_law_rooms"] (spM K mg m_law_swaps_due) :=
  fn_ok (k := 1) F sc_law_swaps_due fun cdv A outer s H E hr => by
    have tk : Takes (cxOf (L2.CX P w) P w K mg base n_law_swaps_due "_law_swaps_due" (defScope s_law_swaps_due) f cdv A outer s H E) (fun cls d _ H => E cls d H) := takes_of rfl rfl rfl rfl
    have sc := sc_law_swaps_due
    exact (r_seq (r_set sc.nd (r_lst true ra_nil))
    (r_seq (r_for (passes_of rfl) rfl (ri_seq (r_var 1)) (g_nm sc.nd)
      (r_seq (r_setLc sc.nd rfl (ri_seq (r_own d_law_room_arms hr tk (ra_cons (r_var 0) (ra_cons (r_var 3) ra_nil)))) (blkOk_by (own := [("_law_duo", 7)]) (N := n_law_swaps_due) (sc := defScope s_law_swaps_due) (by decide +kernel)) ⟨fun _ _ _ _ _ => (g_nm sc.nd), fun _ _ _ _ _ => rts_nil, fun _ _ _ _ _ => (r_ix p_ix (r_var 7) r_int)⟩ (by decide) (sw_true rfl rfl rfl (by decide +kernel)))
    (r_last (r_for (passes_of rfl) rfl (ri_enum T.n_enumerate (ra_cons (r_var 4) ra_nil)) (g_tp rfl (gs_cons (g_nm sc.nd) (gs_cons (g_nm sc.nd) gs_nil)))
      (r_last (r_expr (r_lm PySem.F.slot_list_extend PySem.F.type_list_extend m_ext (r_var 2) (ra_cons (r_lc sc.nd rfl (ri_seq (r_slice false (r_var 4) (ro_some (r_op (p_add false) (r_var 5) r_int)) ro_none)) (blkOk_by (own := [("_law_its", 8)]) (N := n_law_swaps_due) (sc := defScope s_law_swaps_due) (by decide +kernel)) ⟨fun _ _ _ _ _ => (g_nm sc.nd), fun _ _ _ _ _ => rts_nil, fun _ _ _ _ _ => (r_tup (ra_cons (r_var 6) (ra_cons (r_var 8) ra_nil)))⟩ (by decide)) ra_nil))))))))
    (r_last (r_ret (r_callB (c_sort false (room65 hr)) T.n_sorted (by decide +kernel) (ra_cons (r_var 2) ra_nil))))))
abbrev s_law_swap_right : Stmt := top 44
theorem sc_law_swap_right : FnScope n_law_swap_right ["_law_hall_here", "_law_duo"] (defScope s_law_swap_right) := ⟨rfl, rfl, rfl, by decide +kernel, rfl, by decide +kernel, by decide +kernel⟩
theorem ok_law_swap_right {f : Addr} {fd : FuncData} (F : Fun K "_law_swap_right" "_law_swap_right" s_law_swap_right f fd) (T : Txt mg) {f_areas : Addr} {fd_areas : FuncData} (d_areas : Df P w K mg base 2 "areas" ["arrangement"] f_areas fd_areas m_areas) {f_exchanged : Addr} {fd_exchanged : FuncData} (d_exchanged : Df P w K mg base 3 "exchanged" ["arrangement", "exchange"] f_exchanged fd_exchanged m_exchanged) : FnOk P w K mg base (L2.CX P w) 4 f fd ["_law_hall_here", "_law_duo"] (spM K mg m_law_swap_right) :=
  fn_ok (k := 3) F sc_law_swap_right fun cdv A outer s H E hr => by
    have tk : Takes (cxOf (L2.CX P w) P w K mg base n_law_swap_right "_law_swap_right" (defScope s_law_swap_right) f cdv A outer s H E) (fun cls d _ H => E cls d H) := takes_of rfl rfl rfl rfl
    have sc := sc_law_swap_right
    exact (r_seq (r_asgT (r_tup (ra_cons (r_own d_areas hr tk (ra_cons (r_var 0) ra_nil)) (ra_cons (r_own d_areas hr tk (ra_cons (r_own d_exchanged hr tk (ra_cons (r_var 0) (ra_cons (r_var 1) ra_nil))) ra_nil)) ra_nil))) (q_tup rfl (qs_cons (q_name sc.nd) (qs_cons (q_name sc.nd) qs_nil))))
    (r_seq (r_par sc.nd rfl (ra_cons (r_lc sc.nd rfl (ri_seq (r_var 2)) (blkOk_by (own := [("_law_room", 10)]) (N := n_law_swap_right) (sc := defScope s_law_swap_right) (by decide +kernel)) ⟨fun _ _ _ _ _ => (g_nm sc.nd), fun _ _ _ _ _ => (rts_one (r_tcmp (p_notIn (room65 hr)) (r_var 10) (r_var 3))), fun _ _ _ _ _ => (r_var 10)⟩ (by decide)) (ra_cons (r_lc sc.nd rfl (ri_seq (r_var 3)) (blkOk_by (own := [("_law_room", 10)]) (N := n_law_swap_right) (sc := defScope s_law_swap_right) (by decide +kernel)) ⟨fun _ _ _ _ _ => (g_nm sc.nd), fun _ _ _ _ _ => (rts_one (r_tcmp (p_notIn (room65 hr)) (r_var 10) (r_var 2))), fun _ _ _ _ _ => (r_var 10)⟩ (by decide)) ra_nil)))
    (r_seq (r_if (r_bool (r_or (r_tcmp (p_ne hr.units) (r_callB c_len T.n_len (by decide +kernel) (ra_cons (r_var 4) ra_nil)) r_int) (r_or1 (r_tcmp (p_ne hr.units) (r_callB c_len T.n_len (by decide +kernel) (ra_cons (r_var 5) ra_nil)) r_int))))
      (r_last (r_ret r_bl))
      r_nil)
    (r_seq (r_set sc.nd (r_lc sc.nd rfl (ri_zip T.n_zip (ra_cons (r_var 5) (ra_cons (r_op (p_add false) (r_slice false (r_var 5) (ro_some r_int) ro_none) (r_slice false (r_var 5) ro_none (ro_some r_int))) ra_nil))) (blkOk_by (own := [("_law_a", 11), ("_law_b", 12)]) (N := n_law_swap_right) (sc := defScope s_law_swap_right) (by decide +kernel)) ⟨fun _ _ _ _ _ => (g_tp rfl (gs_cons (g_nm sc.nd) (gs_cons (g_nm sc.nd) gs_nil))), fun _ _ _ _ _ => rts_nil, fun _ _ _ _ _ => (r_callTy c_tuple T.n_tuple (by decide +kernel) (ra_cons (r_callB (c_sort false (room65 hr)) T.n_sorted (by decide +kernel) (ra_cons (r_op (p_add false) (r_var 11) (r_var 12)) ra_nil)) ra_nil))⟩ (by decide)))
    (r_seq (r_set sc.nd (r_lc sc.nd rfl (ri_zip T.n_zip (ra_cons (r_var 4) (ra_cons (r_op (p_add false) (r_slice false (r_var 4) (ro_some r_int) ro_none) (r_slice false (r_var 4) ro_none (ro_some r_int))) ra_nil))) (blkOk_by (own := [("_law_a", 11), ("_law_b", 12)]) (N := n_law_swap_right) (sc := defScope s_law_swap_right) (by decide +kernel)) ⟨fun _ _ _ _ _ => (g_tp rfl (gs_cons (g_nm sc.nd) (gs_cons (g_nm sc.nd) gs_nil))), fun _ _ _ _ _ => rts_nil, fun _ _ _ _ _ => (r_callTy c_tuple T.n_tuple (by decide +kernel) (ra_cons (r_callB (c_sort false (room65 hr)) T.n_sorted (by decide +kernel) (ra_cons (r_op (p_add false) (r_var 11) (r_var 12)) ra_nil)) ra_nil))⟩ (by decide)))
    (r_seq (r_par sc.nd rfl (ra_cons (r_lc sc.nd rfl (ri_seq (r_var 4)) (blkOk_by (own := [("_law_room", 10)]) (N := n_law_swap_right) (sc := defScope s_law_swap_right) (by decide +kernel)) ⟨fun _ _ _ _ _ => (g_nm sc.nd), fun _ _ _ _ _ => (rts_one (r_tcmp (p_in (room65 hr)) (r_var 10) (r_var 6))), fun _ _ _ _ _ => (r_var 10)⟩ (by decide)) (ra_cons (r_lc sc.nd rfl (ri_seq (r_var 5)) (blkOk_by (own := [("_law_room", 10)]) (N := n_law_swap_right) (sc := defScope s_law_swap_right) (by decide +kernel)) ⟨fun _ _ _ _ _ => (g_nm sc.nd), fun _ _ _ _ _ => (rts_one (r_tcmp (p_in (room65 hr)) (r_var 10) (r_var 7))), fun _ _ _ _ _ => (r_var 10)⟩ (by decide)) ra_nil)))
    (r_last (r_ret (r_andV (r_cmp (p_eq hr.units) (r_callB c_len T.n_len (by decide +kernel) (ra_cons (r_var 8) ra_nil)) r_int) (r_one (r_cmp (p_eq hr.units) (r_callB c_len T.n_len (by decide +kernel) (ra_cons (r_var 9) ra_nil)) r_int)))))))))))
abbrev s_law_hall_right : Stmt := top 45
theorem sc_law_hall_right : FnScope n_law_hall_right ["_law_box_here", "_law_hall_here"] (defScope s_law_hall_right) := ⟨rfl, rfl, rfl, by decide +kernel, rfl, by decide +kernel, by decide +kernel⟩
theorem ok_law_hall_right {f : Addr} {fd : FuncData} (F : Fun K "_law_hall_right" "_law_hall_right" s_law_hall_right f fd) (T : Txt mg) {f_law_strolled : Addr} {fd_law_strolled : FuncData} (d_law_strolled : Df P w K mg base 6 "_law_strolled" ["_law_box_here", "_law_hall_here", "_law_turns"] f_law_strolled fd_law_strolled m_law_strolled) {f_areas : Addr} {fd_areas : FuncData} (d_areas : Df P w K mg base 2 "areas" ["arrangement"] f_areas fd_areas m_areas) {f_exchanges : Addr} {fd_exchanges : FuncData} (d_exchanges : Df P w K mg base 3 "exchanges" ["arrangement"] f_exchanges fd_exchanges m_exchanges) {f_by_areas : Addr} {fd_by_areas : FuncData} (d_by_areas : Df P w K mg base 4 "by_areas" ["people", "some"] f_by_areas fd_by_areas m_by_areas) {f_law_swaps_due : Addr} {fd_law_swaps_due : FuncData} (d_law_swaps_due : Df P w K mg base 2 "_law_swaps_due" ["_law_hall_here", "_law_rooms"] f_law_swaps_due fd_law_swaps_due m_law_swaps_due) {f_law_swap_right : Addr} {fd_law_swap_right : FuncData} (d_law_swap_right : Df P w K mg base 4 "_law_swap_right" ["_law_hall_here", "_law_duo"] f_law_swap_right fd_law_swap_right m_law_swap_right) {f_law_take : Addr} {fd_law_take : FuncData} (d_law_take : Df P w K mg base 4 "_law_take" ["_law_box_here", "_law_below"] f_law_take fd_law_take m_law_take) {f_distance : Addr} {fd_distance : FuncData} (d_distance : Df P w K mg base 3 "distance" ["one", "other"] f_distance fd_distance m_distance) {f_arms : Addr} {fd_arms : FuncData} (d_arms : Df P w K mg base 1 "arms" ["arrangement"] f_arms fd_arms m_arms) {f_law_room_arms : Addr} {fd_law_room_arms : FuncData} (d_law_room_arms : Df P w K mg base 1 "_law_room_arms" ["_law_hall_here", "_law_room"] f_law_room_arms fd_law_room_arms m_law_room_arms) {f_area_of : Addr} {fd_area_of : FuncData} (d_area_of : Df P w K mg base 2 "area_of" ["arrangement", "place"] f_area_of fd_area_of m_area_of) : FnOk P w K mg base (L2.CX P w) 7 f fd ["_law_box_here", "_law_hall_here"] (spM K mg m_law_hall_right) :=
  fn_ok (k := 6) F sc_law_hall_right fun cdv A outer s H E hr => by
    have tk : Takes (cxOf (L2.CX P w) P w K mg base n_law_hall_right "_law_hall_right" (defScope s_law_hall_right) f cdv A outer s H E) (fun cls d _ H => E cls d H) := takes_of rfl rfl rfl rfl
    have sc := sc_law_hall_right
    exact (r_seq (r_par3 sc.nd rfl (ra_cons (r_callB c_len T.n_len (by decide +kernel) (ra_cons (r_var 1) ra_nil)) (ra_cons (r_own d_areas hr tk (ra_cons (r_var 1) ra_nil)) (ra_cons (r_own d_exchanges hr tk (ra_cons (r_var 1) ra_nil)) ra_nil))))
    (r_seq (r_set sc.nd (r_lst true ra_nil))
    (r_seq (r_for (passes_of rfl) rfl (ri_seq (r_var 3)) (g_nm sc.nd)
      (r_last (r_expr (r_lm PySem.F.slot_list_extend PySem.F.type_list_extend m_ext (r_var 5) (ra_cons (r_var 6) ra_nil)))))
    (r_seq (r_if (r_bool (r_or (r_tcmp (p_ne hr.units) (r_callB (c_sort false (room65 hr)) T.n_sorted (by decide +kernel) (ra_cons (r_var 5) ra_nil)) (r_lrg false rfl T.n_list (rg_1 T.n_range (r_var 2)))) (r_or1 (r_tcmp (p_ne hr.units) (r_own d_by_areas hr tk (ra_cons (r_var 2) (ra_cons (r_var 3) ra_nil))) (r_var 1)))))
      (r_last (r_ret r_bl))
      r_nil)
    (r_seq (r_set sc.nd (r_op p_fdiv (r_callB (c_sum rfl) T.n_sum (by decide +kernel) (ra_cons (r_lc sc.nd rfl (ri_seq (r_var 3)) (blkOk_by (own := [("_law_room", 6)]) (N := n_law_hall_right) (sc := defScope s_law_hall_right) (by decide +kernel)) ⟨fun _ _ _ _ _ => (g_nm sc.nd), fun _ _ _ _ _ => rts_nil, fun _ _ _ _ _ => (r_op (p_mul false) (r_callB c_len T.n_len (by decide +kernel) (ra_cons (r_var 6) ra_nil)) (r_op p_sub (r_callB c_len T.n_len (by decide +kernel) (ra_cons (r_var 6) ra_nil)) r_int))⟩ (by decide)) ra_nil)) r_int))
    (r_seq (r_if (r_bool (r_or (r_tcmp (p_ne hr.units) (r_var 4) (r_own d_law_swaps_due hr tk (ra_cons (r_var 1) (ra_cons (r_var 3) ra_nil)))) (r_or1 (r_tcmp (p_ne hr.units) (r_callB c_len T.n_len (by decide +kernel) (ra_cons (r_var 4) ra_nil)) (r_var 7)))))
      (r_last (r_ret r_bl))
      r_nil)
    (r_seq (r_if (r_not (r_tru (r_callB (c_all rfl) T.n_all (by decide +kernel) (ra_cons (r_lc sc.nd rfl (ri_seq (r_var 3)) (blkOk_by (own := [("_law_room", 6)]) (N := n_law_hall_right) (sc := defScope s_law_hall_right) (by decide +kernel)) ⟨fun _ _ _ _ _ => (g_nm sc.nd), fun _ _ _ _ _ => rts_nil, fun _ _ _ _ _ => (r_cmp (p_eq hr.units) (r_callB c_len T.n_len (by decide +kernel) (ra_cons (r_own d_law_room_arms hr takes0 (ra_cons (r_var 1) (ra_cons (r_var 6) ra_nil))) ra_nil)) (r_callB c_len T.n_len (by decide +kernel) (ra_cons (r_var 6) ra_nil)))⟩ (by decide)) ra_nil))))
      (r_last (r_ret r_bl))
      r_nil)
    (r_seq (r_for (passes_of rfl) rfl (ri_seq (r_op (p_add false) (r_slice false (r_var 4) ro_none (ro_some r_int)) (r_slice false (r_var 4) (ro_some (r_un p_neg r_int)) ro_none))) (g_nm sc.nd)
      (r_last (r_if (r_not (r_tru (r_own d_law_swap_right hr tk (ra_cons (r_var 1) (ra_cons (r_var 8) ra_nil)))))
      (r_last (r_ret r_bl))
      r_nil)))
    (r_seq (r_if (r_tcmp (p_ne hr.units) (r_lc sc.nd rfl (ri_seq (r_own d_arms hr tk (ra_cons (r_var 1) ra_nil))) (blkOk_by (own := [("_law_duo", 8)]) (N := n_law_hall_right) (sc := defScope s_law_hall_right) (by decide +kernel)) ⟨fun _ _ _ _ _ => (g_nm sc.nd), fun _ _ _ _ _ => (rts_one (r_tcmp (p_ne hr.units) (r_cmp (p_eq hr.units) (r_op p_sub (r_ix p_ix (r_var 8) r_int) (r_ix p_ix (r_var 8) r_int)) r_int) (r_cmp (p_eq hr.units) (r_own d_area_of hr takes0 (ra_cons (r_var 1) (ra_cons (r_ix p_ix (r_var 8) r_int) ra_nil))) (r_slice false (r_var 8) ro_none (ro_some r_int))))), fun _ _ _ _ _ => (r_var 8)⟩ (by decide)) (r_lst false ra_nil))
      (r_last (r_ret r_bl))
      r_nil)
    (r_seq (r_set sc.nd (r_own d_law_strolled hr tk (ra_cons (r_var 0) (ra_cons (r_var 1) (ra_cons (r_op (p_add false) r_int (r_own d_law_take hr tk (ra_cons (r_var 0) (ra_cons r_int ra_nil)))) ra_nil)))))
    (r_seq (r_setLc sc.nd rfl (ri_seq (r_tup (ra_cons (r_var 1) (ra_cons (r_var 9) ra_nil)))) (blkOk_by (own := [("_law_its", 11)]) (N := n_law_hall_right) (sc := defScope s_law_hall_right) (by decide +kernel)) ⟨fun _ _ _ _ _ => (g_nm sc.nd), fun _ _ _ _ _ => rts_nil, fun _ _ _ _ _ => (r_callB c_len T.n_len (by decide +kernel) (ra_cons (r_lc sc.nd rfl (ri_seq (r_own d_areas hr takes0 (ra_cons (r_var 11) ra_nil))) (blkOk_in (own := [("_law_room", 6)]) (N := n_law_hall_right) (sc := defScope s_law_hall_right) (by decide +kernel)) ⟨fun _ _ _ _ _ => (g_nm sc.nd), fun _ _ _ _ _ => (rts_one (r_tcmp (p_eq hr.units) (r_op p_mod (r_ix p_ix (r_var 6) r_int) r_int) r_int)), fun _ _ _ _ _ => (r_var 6)⟩ (by decide)) ra_nil))⟩ (by decide) (sw_true rfl rfl rfl (by decide +kernel)))
    (r_last (r_ret (r_cmp (p_eq hr.units) (r_op p_mod (r_op p_sub (r_ix p_ix (r_var 10) r_int) (r_ix p_ix (r_var 10) r_int)) r_int) (r_op p_mod (r_own d_distance hr tk (ra_cons (r_var 1) (ra_cons (r_var 9) ra_nil))) r_int)))))))))))))))
abbrev s_law_right : Stmt := top 46
theorem sc_law_right : FnScope n_law_right ["_law_box_here"] (defScope s_law_right) := ⟨rfl, rfl, rfl, by decide +kernel, rfl, by decide +kernel, by decide +kernel⟩
theorem ok_law_right {f : Addr} {fd : FuncData} (F : Fun K "_law_right" "_law_right" s_law_right f fd) (T : Txt mg) {f_law_hall : Addr} {fd_law_hall : FuncData} (d_law_hall : Df P w K mg base 5 "_law_hall" ["_law_box_here", "_law_few"] f_law_hall fd_law_hall m_law_hall) {f_law_hall_right : Addr} {fd_law_hall_right : FuncData} (d_law_hall_right : Df P w K mg base 7 "_law_hall_right" ["_law_box_here", "_law_hall_here"] f_law_hall_right fd_law_hall_right m_law_hall_right) {f_law_take : Addr} {fd_law_take : FuncData} (d_law_take : Df P w K mg base 4 "_law_take" ["_law_box_here", "_law_below"] f_law_take fd_law_take m_law_take) {f_law_strolled : Addr} {fd_law_strolled : FuncData} (d_law_strolled : Df P w K mg base 6 "_law_strolled" ["_law_box_here", "_law_hall_here", "_law_turns"] f_law_strolled fd_law_strolled m_law_strolled) : FnOk P w K mg base (L2.CX P w) 8 f fd ["_law_box_here"] (spM K mg m_law_right) :=
  fn_ok (k := 7) F sc_law_right fun cdv A outer s H E hr => by
    have tk : Takes (cxOf (L2.CX P w) P w K mg base n_law_right "_law_right" (defScope s_law_right) f cdv A outer s H E) (fun cls d _ H => E cls d H) := takes_of rfl rfl rfl rfl
    have sc := sc_law_right
    exact (r_seq (r_set sc.nd (r_own d_law_hall hr tk (ra_cons (r_var 0) (ra_cons (r_op (p_add false) r_int (r_own d_law_take hr tk (ra_cons (r_var 0) (ra_cons r_int ra_nil)))) ra_nil))))
    (r_last (r_ret (r_andV (r_own d_law_hall_right hr tk (ra_cons (r_var 0) (ra_cons (r_var 1) ra_nil))) (r_one (r_own d_law_hall_right hr tk (ra_cons (r_var 0) (ra_cons (r_own d_law_strolled hr tk (ra_cons (r_var 0) (ra_cons (r_var 1) (ra_cons r_int ra_nil)))) ra_nil))))))))
abbrev s_law : Stmt := top 47
theorem sc_law : FnScope n_law ["_law_script"] (defScope s_law) := ⟨rfl, rfl, rfl, by decide +kernel, rfl, by decide +kernel, by decide +kernel⟩
theorem ok_law {f : Addr} {fd : FuncData} (F : Fun K "law" "law" s_law f fd) (T : Txt mg) {f_law_right : Addr} {fd_law_right : FuncData} (d_law_right : Df P w K mg base 8 "_law_right" ["_law_box_here"] f_law_right fd_law_right m_law_right) {f_law_box : Addr} {fd_law_box : FuncData} (d_law_box : Df P w K mg base 2 "_law_box" ["_law_script", "_law_k"] f_law_box fd_law_box m_law_box) : FnOk P w K mg base (L2.CX P w) 9 f fd ["_law_script"] (spM K mg m_law) :=
  fn_ok (k := 8) F sc_law fun cdv A outer s H E hr => by
    have tk : Takes (cxOf (L2.CX P w) P w K mg base n_law "law" (defScope s_law) f cdv A outer s H E) (fun cls d _ H => E cls d H) := takes_of rfl rfl rfl rfl
    have sc := sc_law
    exact (r_last (r_ret (r_callB (c_all rfl) T.n_all (by decide +kernel) (ra_cons (r_lc sc.nd rfl (ri_range1 T.n_range (ra_cons (r_op (p_add false) r_int (r_callB (c_min2 rfl) T.n_min (by decide +kernel) (ra_cons r_int (ra_cons (r_callB c_len T.n_len (by decide +kernel) (ra_cons (r_var 0) ra_nil)) ra_nil)))) ra_nil)) (blkOk_by (own := [("_law_k", 1)]) (N := n_law) (sc := defScope s_law) (by decide +kernel)) ⟨fun _ _ _ _ _ => (g_nm sc.nd), fun _ _ _ _ _ => rts_nil, fun _ _ _ _ _ => (r_own d_law_right hr takes0 (ra_cons (r_own d_law_box hr takes0 (ra_cons (r_var 0) (ra_cons (r_var 1) ra_nil))) ra_nil))⟩ (by decide)) ra_nil))))
end
end Mini
namespace Mini
open PySem PySem.Spec PyProof.Rows L2
/-! ### the end -/
theorem all_mk {l : PySem.W.OpenLaw} {w : World} {K : PySem.W.Frag} {h : Heap} {mg : Str → Option Value} {fa f0 f1 f2 f3 f4 f5 f6 f7 f8 f9 f10 f11 f12 f13 f14 f15 f16 f17 f18 f19 f20 f21 f22 f23 f24 f25 f26 f27 f28 f29 f30 f31 f32 f33 f34 f35 f36 f37 : Addr} (X : K.In h) (G : h.Ns mainGlobals mg) (hfa : mg "law" = some (.ref fa))
    {od0 an0 od1 an1 od2 an2 od3 an3 od4 an4 od5 an5 od6 an6 od7 an7 od8 an8 od9 an9 od10 an10 od11 an11 od12 an12 od13 an13 od14 an14 od15 an15 od16 an16 od17 an17 od18 an18 od19 an19 od20 an20 od21 an21 od22 an22 od23 an23 od24 an24 od25 an25 od26 an26 od27 an27 od28 an28 od29 an29 od30 an30 od31 an31 od32 an32 od33 an33 od34 an34 od35 an35 od36 an36 od37 an37 : Option Addr} {sl0 sl1 sl2 sl3 sl4 sl5 sl6 sl7 sl8 sl9 sl10 sl11 sl12 sl13 sl14 sl15 sl16 sl17 sl18 sl19 sl20 sl21 sl22 sl23 sl24 sl25 sl26 sl27 sl28 sl29 sl30 sl31 sl32 sl33 sl34 sl35 sl36 sl37 : Array (Option Value)} {oc0 kV0 dc0 pm0 cd0 ct0 oc1 kV1 dc1 pm1 cd1 ct1 oc2 kV2 dc2 pm2 cd2 ct2 oc3 kV3 dc3 pm3 cd3 ct3 oc4 kV4 dc4 pm4 cd4 ct4 oc5 kV5 dc5 pm5 cd5 ct5 oc6 kV6 dc6 pm6 cd6 ct6 oc7 kV7 dc7 pm7 cd7 ct7 oc8 kV8 dc8 pm8 cd8 ct8 oc9 kV9 dc9 pm9 cd9 ct9 oc10 kV10 dc10 pm10 cd10 ct10 oc11 kV11 dc11 pm11 cd11 ct11 oc12 kV12 dc12 pm12 cd12 ct12 oc13 kV13 dc13 pm13 cd13 ct13 oc14 kV14 dc14 pm14 cd14 ct14 oc15 kV15 dc15 pm15 cd15 ct15 oc16 kV16 dc16 pm16 cd16 ct16 oc17 kV17 dc17 pm17 cd17 ct17 oc18 kV18 dc18 pm18 cd18 ct18 oc19 kV19 dc19 pm19 cd19 ct19 oc20 kV20 dc20 pm20 cd20 ct20 oc21 kV21 dc21 pm21 cd21 ct21 oc22 kV22 dc22 pm22 cd22 ct22 oc23 kV23 dc23 pm23 cd23 ct23 oc24 kV24 dc24 pm24 cd24 ct24 oc25 kV25 dc25 pm25 cd25 ct25 oc26 kV26 dc26 pm26 cd26 ct26 oc27 kV27 dc27 pm27 cd27 ct27 oc28 kV28 dc28 pm28 cd28 ct28 oc29 kV29 dc29 pm29 cd29 ct29 oc30 kV30 dc30 pm30 cd30 ct30 oc31 kV31 dc31 pm31 cd31 ct31 oc32 kV32 dc32 pm32 cd32 ct32 oc33 kV33 dc33 pm33 cd33 ct33 oc34 kV34 dc34 pm34 cd34 ct34 oc35 kV35 dc35 pm35 cd35 ct35 oc36 kV36 dc36 pm36 cd36 ct36 oc37 kV37 dc37 pm37 cd37 ct37 : Value}
    (a0 : PySem.W.nsIn K mainGlobals "is_number" = some (some (.ref f0))) (l0 : K.lookup f0 = some ⟨oc0, od0, .func (PySem.W.fnOf "is_number" "is_number" (defArgs s_is_number) (defBody s_is_number) (defScope s_is_number) .none kV0 dc0 pm0 an0 cd0 ct0), sl0⟩) (c0 : PySem.W.codeIn K cd0 "is_number" = true) (k0 : PySem.W.keepIn K (.ref f0) = true)
    (a1 : PySem.W.nsIn K mainGlobals "cross" = some (some (.ref f1))) (l1 : K.lookup f1 = some ⟨oc1, od1, .func (PySem.W.fnOf "cross" "cross" (defArgs s_cross) (defBody s_cross) (defScope s_cross) .none kV1 dc1 pm1 an1 cd1 ct1), sl1⟩) (c1 : PySem.W.codeIn K cd1 "cross" = true) (k1 : PySem.W.keepIn K (.ref f1) = true)
    (a2 : PySem.W.nsIn K mainGlobals "are_crossed" = some (some (.ref f2))) (l2 : K.lookup f2 = some ⟨oc2, od2, .func (PySem.W.fnOf "are_crossed" "are_crossed" (defArgs s_are_crossed) (defBody s_are_crossed) (defScope s_are_crossed) .none kV2 dc2 pm2 an2 cd2 ct2), sl2⟩) (c2 : PySem.W.codeIn K cd2 "are_crossed" = true) (k2 : PySem.W.keepIn K (.ref f2) = true)
    (a3 : PySem.W.nsIn K mainGlobals "arms" = some (some (.ref f3))) (l3 : K.lookup f3 = some ⟨oc3, od3, .func (PySem.W.fnOf "arms" "arms" (defArgs s_arms) (defBody s_arms) (defScope s_arms) .none kV3 dc3 pm3 an3 cd3 ct3), sl3⟩) (c3 : PySem.W.codeIn K cd3 "arms" = true) (k3 : PySem.W.keepIn K (.ref f3) = true)
    (a4 : PySem.W.nsIn K mainGlobals "is_paired" = some (some (.ref f4))) (l4 : K.lookup f4 = some ⟨oc4, od4, .func (PySem.W.fnOf "is_paired" "is_paired" (defArgs s_is_paired) (defBody s_is_paired) (defScope s_is_paired) .none kV4 dc4 pm4 an4 cd4 ct4), sl4⟩) (c4 : PySem.W.codeIn K cd4 "is_paired" = true) (k4 : PySem.W.keepIn K (.ref f4) = true)
    (a5 : PySem.W.nsIn K mainGlobals "is_arrangement" = some (some (.ref f5))) (l5 : K.lookup f5 = some ⟨oc5, od5, .func (PySem.W.fnOf "is_arrangement" "is_arrangement" (defArgs s_is_arrangement) (defBody s_is_arrangement) (defScope s_is_arrangement) .none kV5 dc5 pm5 an5 cd5 ct5), sl5⟩) (c5 : PySem.W.codeIn K cd5 "is_arrangement" = true) (k5 : PySem.W.keepIn K (.ref f5) = true)
    (a6 : PySem.W.nsIn K mainGlobals "look_same" = some (some (.ref f6))) (l6 : K.lookup f6 = some ⟨oc6, od6, .func (PySem.W.fnOf "look_same" "look_same" (defArgs s_look_same) (defBody s_look_same) (defScope s_look_same) .none kV6 dc6 pm6 an6 cd6 ct6), sl6⟩) (c6 : PySem.W.codeIn K cd6 "look_same" = true) (k6 : PySem.W.keepIn K (.ref f6) = true)
    (a7 : PySem.W.nsIn K mainGlobals "is_lesser" = some (some (.ref f7))) (l7 : K.lookup f7 = some ⟨oc7, od7, .func (PySem.W.fnOf "is_lesser" "is_lesser" (defArgs s_is_lesser) (defBody s_is_lesser) (defScope s_is_lesser) .none kV7 dc7 pm7 an7 cd7 ct7), sl7⟩) (c7 : PySem.W.codeIn K cd7 "is_lesser" = true) (k7 : PySem.W.keepIn K (.ref f7) = true)
    (a8 : PySem.W.nsIn K mainGlobals "new_arms" = some (some (.ref f8))) (l8 : K.lookup f8 = some ⟨oc8, od8, .func (PySem.W.fnOf "new_arms" "new_arms" (defArgs s_new_arms) (defBody s_new_arms) (defScope s_new_arms) .none kV8 dc8 pm8 an8 cd8 ct8), sl8⟩) (c8 : PySem.W.codeIn K cd8 "new_arms" = true) (k8 : PySem.W.keepIn K (.ref f8) = true)
    (a9 : PySem.W.nsIn K mainGlobals "is_possible" = some (some (.ref f9))) (l9 : K.lookup f9 = some ⟨oc9, od9, .func (PySem.W.fnOf "is_possible" "is_possible" (defArgs s_is_possible) (defBody s_is_possible) (defScope s_is_possible) .none kV9 dc9 pm9 an9 cd9 ct9), sl9⟩) (c9 : PySem.W.codeIn K cd9 "is_possible" = true) (k9 : PySem.W.keepIn K (.ref f9) = true)
    (a10 : PySem.W.nsIn K mainGlobals "exchanges" = some (some (.ref f10))) (l10 : K.lookup f10 = some ⟨oc10, od10, .func (PySem.W.fnOf "exchanges" "exchanges" (defArgs s_exchanges) (defBody s_exchanges) (defScope s_exchanges) .none kV10 dc10 pm10 an10 cd10 ct10), sl10⟩) (c10 : PySem.W.codeIn K cd10 "exchanges" = true) (k10 : PySem.W.keepIn K (.ref f10) = true)
    (a11 : PySem.W.nsIn K mainGlobals "changed" = some (some (.ref f11))) (l11 : K.lookup f11 = some ⟨oc11, od11, .func (PySem.W.fnOf "changed" "changed" (defArgs s_changed) (defBody s_changed) (defScope s_changed) .none kV11 dc11 pm11 an11 cd11 ct11), sl11⟩) (c11 : PySem.W.codeIn K cd11 "changed" = true) (k11 : PySem.W.keepIn K (.ref f11) = true)
    (a12 : PySem.W.nsIn K mainGlobals "exchanged" = some (some (.ref f12))) (l12 : K.lookup f12 = some ⟨oc12, od12, .func (PySem.W.fnOf "exchanged" "exchanged" (defArgs s_exchanged) (defBody s_exchanged) (defScope s_exchanged) .none kV12 dc12 pm12 an12 cd12 ct12), sl12⟩) (c12 : PySem.W.codeIn K cd12 "exchanged" = true) (k12 : PySem.W.keepIn K (.ref f12) = true)
    (a13 : PySem.W.nsIn K mainGlobals "walk" = some (some (.ref f13))) (l13 : K.lookup f13 = some ⟨oc13, od13, .func (PySem.W.fnOf "walk" "walk" (defArgs s_walk) (defBody s_walk) (defScope s_walk) .none kV13 dc13 pm13 an13 cd13 ct13), sl13⟩) (c13 : PySem.W.codeIn K cd13 "walk" = true) (k13 : PySem.W.keepIn K (.ref f13) = true)
    (a14 : PySem.W.nsIn K mainGlobals "areas" = some (some (.ref f14))) (l14 : K.lookup f14 = some ⟨oc14, od14, .func (PySem.W.fnOf "areas" "areas" (defArgs s_areas) (defBody s_areas) (defScope s_areas) .none kV14 dc14 pm14 an14 cd14 ct14), sl14⟩) (c14 : PySem.W.codeIn K cd14 "areas" = true) (k14 : PySem.W.keepIn K (.ref f14) = true)
    (a15 : PySem.W.nsIn K mainGlobals "area_of" = some (some (.ref f15))) (l15 : K.lookup f15 = some ⟨oc15, od15, .func (PySem.W.fnOf "area_of" "area_of" (defArgs s_area_of) (defBody s_area_of) (defScope s_area_of) .none kV15 dc15 pm15 an15 cd15 ct15), sl15⟩) (c15 : PySem.W.codeIn K cd15 "area_of" = true) (k15 : PySem.W.keepIn K (.ref f15) = true)
    (a16 : PySem.W.nsIn K mainGlobals "by_areas" = some (some (.ref f16))) (l16 : K.lookup f16 = some ⟨oc16, od16, .func (PySem.W.fnOf "by_areas" "by_areas" (defArgs s_by_areas) (defBody s_by_areas) (defScope s_by_areas) .none kV16 dc16 pm16 an16 cd16 ct16), sl16⟩) (c16 : PySem.W.codeIn K cd16 "by_areas" = true) (k16 : PySem.W.keepIn K (.ref f16) = true)
    (a17 : PySem.W.nsIn K mainGlobals "ring_of" = some (some (.ref f17))) (l17 : K.lookup f17 = some ⟨oc17, od17, .func (PySem.W.fnOf "ring_of" "ring_of" (defArgs s_ring_of) (defBody s_ring_of) (defScope s_ring_of) .none kV17 dc17 pm17 an17 cd17 ct17), sl17⟩) (c17 : PySem.W.codeIn K cd17 "ring_of" = true) (k17 : PySem.W.keepIn K (.ref f17) = true)
    (a18 : PySem.W.nsIn K mainGlobals "rings" = some (some (.ref f18))) (l18 : K.lookup f18 = some ⟨oc18, od18, .func (PySem.W.fnOf "rings" "rings" (defArgs s_rings) (defBody s_rings) (defScope s_rings) .none kV18 dc18 pm18 an18 cd18 ct18), sl18⟩) (c18 : PySem.W.codeIn K cd18 "rings" = true) (k18 : PySem.W.keepIn K (.ref f18) = true)
    (a19 : PySem.W.nsIn K mainGlobals "distance" = some (some (.ref f19))) (l19 : K.lookup f19 = some ⟨oc19, od19, .func (PySem.W.fnOf "distance" "distance" (defArgs s_distance) (defBody s_distance) (defScope s_distance) .none kV19 dc19 pm19 an19 cd19 ct19), sl19⟩) (c19 : PySem.W.codeIn K cd19 "distance" = true) (k19 : PySem.W.keepIn K (.ref f19) = true)
    (a20 : PySem.W.nsIn K mainGlobals "_law_cell_at" = some (some (.ref f20))) (l20 : K.lookup f20 = some ⟨oc20, od20, .func (PySem.W.fnOf "_law_cell_at" "_law_cell_at" (defArgs s_law_cell_at) (defBody s_law_cell_at) (defScope s_law_cell_at) .none kV20 dc20 pm20 an20 cd20 ct20), sl20⟩) (c20 : PySem.W.codeIn K cd20 "_law_cell_at" = true) (k20 : PySem.W.keepIn K (.ref f20) = true)
    (a21 : PySem.W.nsIn K mainGlobals "_law_box" = some (some (.ref f21))) (l21 : K.lookup f21 = some ⟨oc21, od21, .func (PySem.W.fnOf "_law_box" "_law_box" (defArgs s_law_box) (defBody s_law_box) (defScope s_law_box) .none kV21 dc21 pm21 an21 cd21 ct21), sl21⟩) (c21 : PySem.W.codeIn K cd21 "_law_box" = true) (k21 : PySem.W.keepIn K (.ref f21) = true)
    (a22 : PySem.W.nsIn K mainGlobals "_law_take" = some (some (.ref f22))) (l22 : K.lookup f22 = some ⟨oc22, od22, .func (PySem.W.fnOf "_law_take" "_law_take" (defArgs s_law_take) (defBody s_law_take) (defScope s_law_take) .none kV22 dc22 pm22 an22 cd22 ct22), sl22⟩) (c22 : PySem.W.codeIn K cd22 "_law_take" = true) (k22 : PySem.W.keepIn K (.ref f22) = true)
    (a23 : PySem.W.nsIn K mainGlobals "_law_of" = some (some (.ref f23))) (l23 : K.lookup f23 = some ⟨oc23, od23, .func (PySem.W.fnOf "_law_of" "_law_of" (defArgs s_law_of) (defBody s_law_of) (defScope s_law_of) .none kV23 dc23 pm23 an23 cd23 ct23), sl23⟩) (c23 : PySem.W.codeIn K cd23 "_law_of" = true) (k23 : PySem.W.keepIn K (.ref f23) = true)
    (a24 : PySem.W.nsIn K mainGlobals "_law_hall" = some (some (.ref f24))) (l24 : K.lookup f24 = some ⟨oc24, od24, .func (PySem.W.fnOf "_law_hall" "_law_hall" (defArgs s_law_hall) (defBody s_law_hall) (defScope s_law_hall) .none kV24 dc24 pm24 an24 cd24 ct24), sl24⟩) (c24 : PySem.W.codeIn K cd24 "_law_hall" = true) (k24 : PySem.W.keepIn K (.ref f24) = true)
    (a25 : PySem.W.nsIn K mainGlobals "_law_pairs" = some (some (.ref f25))) (l25 : K.lookup f25 = some ⟨oc25, od25, .func (PySem.W.fnOf "_law_pairs" "_law_pairs" (defArgs s_law_pairs) (defBody s_law_pairs) (defScope s_law_pairs) .none kV25 dc25 pm25 an25 cd25 ct25), sl25⟩) (c25 : PySem.W.codeIn K cd25 "_law_pairs" = true) (k25 : PySem.W.keepIn K (.ref f25) = true)
    (a26 : PySem.W.nsIn K mainGlobals "_law_crossed" = some (some (.ref f26))) (l26 : K.lookup f26 = some ⟨oc26, od26, .func (PySem.W.fnOf "_law_crossed" "_law_crossed" (defArgs s_law_crossed) (defBody s_law_crossed) (defScope s_law_crossed) .none kV26 dc26 pm26 an26 cd26 ct26), sl26⟩) (c26 : PySem.W.codeIn K cd26 "_law_crossed" = true) (k26 : PySem.W.keepIn K (.ref f26) = true)
    (a27 : PySem.W.nsIn K mainGlobals "_law_clear" = some (some (.ref f27))) (l27 : K.lookup f27 = some ⟨oc27, od27, .func (PySem.W.fnOf "_law_clear" "_law_clear" (defArgs s_law_clear) (defBody s_law_clear) (defScope s_law_clear) .none kV27 dc27 pm27 an27 cd27 ct27), sl27⟩) (c27 : PySem.W.codeIn K cd27 "_law_clear" = true) (k27 : PySem.W.keepIn K (.ref f27) = true)
    (a28 : PySem.W.nsIn K mainGlobals "_law_seated" = some (some (.ref f28))) (l28 : K.lookup f28 = some ⟨oc28, od28, .func (PySem.W.fnOf "_law_seated" "_law_seated" (defArgs s_law_seated) (defBody s_law_seated) (defScope s_law_seated) .none kV28 dc28 pm28 an28 cd28 ct28), sl28⟩) (c28 : PySem.W.codeIn K cd28 "_law_seated" = true) (k28 : PySem.W.keepIn K (.ref f28) = true)
    (a29 : PySem.W.nsIn K mainGlobals "_law_swapped" = some (some (.ref f29))) (l29 : K.lookup f29 = some ⟨oc29, od29, .func (PySem.W.fnOf "_law_swapped" "_law_swapped" (defArgs s_law_swapped) (defBody s_law_swapped) (defScope s_law_swapped) .none kV29 dc29 pm29 an29 cd29 ct29), sl29⟩) (c29 : PySem.W.codeIn K cd29 "_law_swapped" = true) (k29 : PySem.W.keepIn K (.ref f29) = true)
    (a30 : PySem.W.nsIn K mainGlobals "_law_swaps" = some (some (.ref f30))) (l30 : K.lookup f30 = some ⟨oc30, od30, .func (PySem.W.fnOf "_law_swaps" "_law_swaps" (defArgs s_law_swaps) (defBody s_law_swaps) (defScope s_law_swaps) .none kV30 dc30 pm30 an30 cd30 ct30), sl30⟩) (c30 : PySem.W.codeIn K cd30 "_law_swaps" = true) (k30 : PySem.W.keepIn K (.ref f30) = true)
    (a31 : PySem.W.nsIn K mainGlobals "_law_strolled" = some (some (.ref f31))) (l31 : K.lookup f31 = some ⟨oc31, od31, .func (PySem.W.fnOf "_law_strolled" "_law_strolled" (defArgs s_law_strolled) (defBody s_law_strolled) (defScope s_law_strolled) .none kV31 dc31 pm31 an31 cd31 ct31), sl31⟩) (c31 : PySem.W.codeIn K cd31 "_law_strolled" = true) (k31 : PySem.W.keepIn K (.ref f31) = true)
    (a32 : PySem.W.nsIn K mainGlobals "_law_room_arms" = some (some (.ref f32))) (l32 : K.lookup f32 = some ⟨oc32, od32, .func (PySem.W.fnOf "_law_room_arms" "_law_room_arms" (defArgs s_law_room_arms) (defBody s_law_room_arms) (defScope s_law_room_arms) .none kV32 dc32 pm32 an32 cd32 ct32), sl32⟩) (c32 : PySem.W.codeIn K cd32 "_law_room_arms" = true) (k32 : PySem.W.keepIn K (.ref f32) = true)
    (a33 : PySem.W.nsIn K mainGlobals "_law_swaps_due" = some (some (.ref f33))) (l33 : K.lookup f33 = some ⟨oc33, od33, .func (PySem.W.fnOf "_law_swaps_due" "_law_swaps_due" (defArgs s_law_swaps_due) (defBody s_law_swaps_due) (defScope s_law_swaps_due) .none kV33 dc33 pm33 an33 cd33 ct33), sl33⟩) (c33 : PySem.W.codeIn K cd33 "_law_swaps_due" = true) (k33 : PySem.W.keepIn K (.ref f33) = true)
    (a34 : PySem.W.nsIn K mainGlobals "_law_swap_right" = some (some (.ref f34))) (l34 : K.lookup f34 = some ⟨oc34, od34, .func (PySem.W.fnOf "_law_swap_right" "_law_swap_right" (defArgs s_law_swap_right) (defBody s_law_swap_right) (defScope s_law_swap_right) .none kV34 dc34 pm34 an34 cd34 ct34), sl34⟩) (c34 : PySem.W.codeIn K cd34 "_law_swap_right" = true) (k34 : PySem.W.keepIn K (.ref f34) = true)
    (a35 : PySem.W.nsIn K mainGlobals "_law_hall_right" = some (some (.ref f35))) (l35 : K.lookup f35 = some ⟨oc35, od35, .func (PySem.W.fnOf "_law_hall_right" "_law_hall_right" (defArgs s_law_hall_right) (defBody s_law_hall_right) (defScope s_law_hall_right) .none kV35 dc35 pm35 an35 cd35 ct35), sl35⟩) (c35 : PySem.W.codeIn K cd35 "_law_hall_right" = true) (k35 : PySem.W.keepIn K (.ref f35) = true)
    (a36 : PySem.W.nsIn K mainGlobals "_law_right" = some (some (.ref f36))) (l36 : K.lookup f36 = some ⟨oc36, od36, .func (PySem.W.fnOf "_law_right" "_law_right" (defArgs s_law_right) (defBody s_law_right) (defScope s_law_right) .none kV36 dc36 pm36 an36 cd36 ct36), sl36⟩) (c36 : PySem.W.codeIn K cd36 "_law_right" = true) (k36 : PySem.W.keepIn K (.ref f36) = true)
    (a37 : PySem.W.nsIn K mainGlobals "law" = some (some (.ref f37))) (l37 : K.lookup f37 = some ⟨oc37, od37, .func (PySem.W.fnOf "law" "law" (defArgs s_law) (defBody s_law) (defScope s_law) .none kV37 dc37 pm37 an37 cd37 ct37), sl37⟩) (c37 : PySem.W.codeIn K cd37 "law" = true) (k37 : PySem.W.keepIn K (.ref f37) = true)
    (z_abs : PySem.W.nsIn K mainGlobals "abs" = some none) (z_all : PySem.W.nsIn K mainGlobals "all" = some none) (z_any : PySem.W.nsIn K mainGlobals "any" = some none) (z_bool : PySem.W.nsIn K mainGlobals "bool" = some none) (z_enumerate : PySem.W.nsIn K mainGlobals "enumerate" = some none) (z_int : PySem.W.nsIn K mainGlobals "int" = some none) (z_isinstance : PySem.W.nsIn K mainGlobals "isinstance" = some none) (z_len : PySem.W.nsIn K mainGlobals "len" = some none) (z_list : PySem.W.nsIn K mainGlobals "list" = some none) (z_max : PySem.W.nsIn K mainGlobals "max" = some none) (z_min : PySem.W.nsIn K mainGlobals "min" = some none) (z_range : PySem.W.nsIn K mainGlobals "range" = some none) (z_set : PySem.W.nsIn K mainGlobals "set" = some none) (z_sorted : PySem.W.nsIn K mainGlobals "sorted" = some none) (z_sum : PySem.W.nsIn K mainGlobals "sum" = some none) (z_tuple : PySem.W.nsIn K mainGlobals "tuple" = some none) (z_zip : PySem.W.nsIn K mainGlobals "zip" = some none)
    (spec : ∀ ns : List Int, ns.length ≤ 63 → ∃ h, m_law [.fl (ns.map D.int)] [] = .ok (.bl true) h) :
    ∃ fd : FuncData, (∀ (s : Shared) (v : Value), BindsTo s fd ⟨[v], []⟩ [("_law_script", v)]) ∧ ∀ base : Heap, K.In base → base.Ns mainGlobals mg → FnOk l.prog w K mg base (L2.CX l.prog w) 9 fa fd ["_law_script"] (spLaw K) := by
  have e := hfa.symm.trans (PySem.W.mg_of X G a37)
  cases e
  have T : Txt mg := ⟨PySem.W.mg_none_of X G z_abs, PySem.W.mg_none_of X G z_all, PySem.W.mg_none_of X G z_any, PySem.W.mg_none_of X G z_bool, PySem.W.mg_none_of X G z_enumerate, PySem.W.mg_none_of X G z_int, PySem.W.mg_none_of X G z_isinstance, PySem.W.mg_none_of X G z_len, PySem.W.mg_none_of X G z_list, PySem.W.mg_none_of X G z_max, PySem.W.mg_none_of X G z_min, PySem.W.mg_none_of X G z_range, PySem.W.mg_none_of X G z_set, PySem.W.mg_none_of X G z_sorted, PySem.W.mg_none_of X G z_sum, PySem.W.mg_none_of X G z_tuple, PySem.W.mg_none_of X G z_zip⟩
  have F0 := fun_mk (st := s_is_number) l0 c0 k0
  have b0 := F0.binds (ps := ["thing"]) fun _ _ _ _ _ _ us hl => match us, hl with | [_], _ => rfl
  have F1 := fun_mk (st := s_cross) l1 c1 k1
  have b1 := F1.binds (ps := ["one", "other"]) fun _ _ _ _ _ _ us hl => match us, hl with | [_, _], _ => rfl
  have F2 := fun_mk (st := s_are_crossed) l2 c2 k2
  have b2 := F2.binds (ps := ["pairs"]) fun _ _ _ _ _ _ us hl => match us, hl with | [_], _ => rfl
  have F3 := fun_mk (st := s_arms) l3 c3 k3
  have b3 := F3.binds (ps := ["arrangement"]) fun _ _ _ _ _ _ us hl => match us, hl with | [_], _ => rfl
  have F4 := fun_mk (st := s_is_paired) l4 c4 k4
  have b4 := F4.binds (ps := ["thing"]) fun _ _ _ _ _ _ us hl => match us, hl with | [_], _ => rfl
  have F5 := fun_mk (st := s_is_arrangement) l5 c5 k5
  have b5 := F5.binds (ps := ["thing"]) fun _ _ _ _ _ _ us hl => match us, hl with | [_], _ => rfl
  have F6 := fun_mk (st := s_look_same) l6 c6 k6
  have b6 := F6.binds (ps := ["one", "other"]) fun _ _ _ _ _ _ us hl => match us, hl with | [_, _], _ => rfl
  have F7 := fun_mk (st := s_is_lesser) l7 c7 k7
  have b7 := F7.binds (ps := ["arrangement", "person"]) fun _ _ _ _ _ _ us hl => match us, hl with | [_, _], _ => rfl
  have F8 := fun_mk (st := s_new_arms) l8 c8 k8
  have b8 := F8.binds (ps := ["arrangement", "exchange"]) fun _ _ _ _ _ _ us hl => match us, hl with | [_, _], _ => rfl
  have F9 := fun_mk (st := s_is_possible) l9 c9 k9
  have b9 := F9.binds (ps := ["arrangement", "exchange"]) fun _ _ _ _ _ _ us hl => match us, hl with | [_, _], _ => rfl
  have F10 := fun_mk (st := s_exchanges) l10 c10 k10
  have b10 := F10.binds (ps := ["arrangement"]) fun _ _ _ _ _ _ us hl => match us, hl with | [_], _ => rfl
  have F11 := fun_mk (st := s_changed) l11 c11 k11
  have b11 := F11.binds (ps := ["arrangement", "exchange"]) fun _ _ _ _ _ _ us hl => match us, hl with | [_, _], _ => rfl
  have F12 := fun_mk (st := s_exchanged) l12 c12 k12
  have b12 := F12.binds (ps := ["arrangement", "exchange"]) fun _ _ _ _ _ _ us hl => match us, hl with | [_, _], _ => rfl
  have F13 := fun_mk (st := s_walk) l13 c13 k13
  have b13 := F13.binds (ps := ["arrangement", "place"]) fun _ _ _ _ _ _ us hl => match us, hl with | [_, _], _ => rfl
  have F14 := fun_mk (st := s_areas) l14 c14 k14
  have b14 := F14.binds (ps := ["arrangement"]) fun _ _ _ _ _ _ us hl => match us, hl with | [_], _ => rfl
  have F15 := fun_mk (st := s_area_of) l15 c15 k15
  have b15 := F15.binds (ps := ["arrangement", "place"]) fun _ _ _ _ _ _ us hl => match us, hl with | [_, _], _ => rfl
  have F16 := fun_mk (st := s_by_areas) l16 c16 k16
  have b16 := F16.binds (ps := ["people", "some"]) fun _ _ _ _ _ _ us hl => match us, hl with | [_, _], _ => rfl
  have F17 := fun_mk (st := s_ring_of) l17 c17 k17
  have b17 := F17.binds (ps := ["one", "other", "person"]) fun _ _ _ _ _ _ us hl => match us, hl with | [_, _, _], _ => rfl
  have F18 := fun_mk (st := s_rings) l18 c18 k18
  have b18 := F18.binds (ps := ["one", "other"]) fun _ _ _ _ _ _ us hl => match us, hl with | [_, _], _ => rfl
  have F19 := fun_mk (st := s_distance) l19 c19 k19
  have b19 := F19.binds (ps := ["one", "other"]) fun _ _ _ _ _ _ us hl => match us, hl with | [_, _], _ => rfl
  have F20 := fun_mk (st := s_law_cell_at) l20 c20 k20
  have b20 := F20.binds (ps := ["_law_script", "_law_k"]) fun _ _ _ _ _ _ us hl => match us, hl with | [_, _], _ => rfl
  have F21 := fun_mk (st := s_law_box) l21 c21 k21
  have b21 := F21.binds (ps := ["_law_script", "_law_k"]) fun _ _ _ _ _ _ us hl => match us, hl with | [_, _], _ => rfl
  have F22 := fun_mk (st := s_law_take) l22 c22 k22
  have b22 := F22.binds (ps := ["_law_box_here", "_law_below"]) fun _ _ _ _ _ _ us hl => match us, hl with | [_, _], _ => rfl
  have F23 := fun_mk (st := s_law_of) l23 c23 k23
  have b23 := F23.binds (ps := ["_law_box_here", "_law_pool"]) fun _ _ _ _ _ _ us hl => match us, hl with | [_, _], _ => rfl
  have F24 := fun_mk (st := s_law_hall) l24 c24 k24
  have b24 := F24.binds (ps := ["_law_box_here", "_law_few"]) fun _ _ _ _ _ _ us hl => match us, hl with | [_, _], _ => rfl
  have F25 := fun_mk (st := s_law_pairs) l25 c25 k25
  have b25 := F25.binds (ps := ["_law_hall_here"]) fun _ _ _ _ _ _ us hl => match us, hl with | [_], _ => rfl
  have F26 := fun_mk (st := s_law_crossed) l26 c26 k26
  have b26 := F26.binds (ps := ["_law_duo", "_law_its"]) fun _ _ _ _ _ _ us hl => match us, hl with | [_, _], _ => rfl
  have F27 := fun_mk (st := s_law_clear) l27 c27 k27
  have b27 := F27.binds (ps := ["_law_duos"]) fun _ _ _ _ _ _ us hl => match us, hl with | [_], _ => rfl
  have F28 := fun_mk (st := s_law_seated) l28 c28 k28
  have b28 := F28.binds (ps := ["_law_size", "_law_duos"]) fun _ _ _ _ _ _ us hl => match us, hl with | [_, _], _ => rfl
  have F29 := fun_mk (st := s_law_swapped) l29 c29 k29
  have b29 := F29.binds (ps := ["_law_hall_here", "_law_duo"]) fun _ _ _ _ _ _ us hl => match us, hl with | [_, _], _ => rfl
  have F30 := fun_mk (st := s_law_swaps) l30 c30 k30
  have b30 := F30.binds (ps := ["_law_hall_here"]) fun _ _ _ _ _ _ us hl => match us, hl with | [_], _ => rfl
  have F31 := fun_mk (st := s_law_strolled) l31 c31 k31
  have b31 := F31.binds (ps := ["_law_box_here", "_law_hall_here", "_law_turns"]) fun _ _ _ _ _ _ us hl => match us, hl with | [_, _, _], _ => rfl
  have F32 := fun_mk (st := s_law_room_arms) l32 c32 k32
  have b32 := F32.binds (ps := ["_law_hall_here", "_law_room"]) fun _ _ _ _ _ _ us hl => match us, hl with | [_, _], _ => rfl
  have F33 := fun_mk (st := s_law_swaps_due) l33 c33 k33
  have b33 := F33.binds (ps := ["_law_hall_here", "_law_rooms"]) fun _ _ _ _ _ _ us hl => match us, hl with | [_, _], _ => rfl
  have F34 := fun_mk (st := s_law_swap_right) l34 c34 k34
  have b34 := F34.binds (ps := ["_law_hall_here", "_law_duo"]) fun _ _ _ _ _ _ us hl => match us, hl with | [_, _], _ => rfl
  have F35 := fun_mk (st := s_law_hall_right) l35 c35 k35
  have b35 := F35.binds (ps := ["_law_box_here", "_law_hall_here"]) fun _ _ _ _ _ _ us hl => match us, hl with | [_, _], _ => rfl
  have F36 := fun_mk (st := s_law_right) l36 c36 k36
  have b36 := F36.binds (ps := ["_law_box_here"]) fun _ _ _ _ _ _ us hl => match us, hl with | [_], _ => rfl
  have F37 := fun_mk (st := s_law) l37 c37 k37
  have b37 := F37.binds (ps := ["_law_script"]) fun _ _ _ _ _ _ us hl => match us, hl with | [_], _ => rfl
  refine ⟨PySem.W.fnOf "law" "law" (defArgs s_law) (defBody s_law) (defScope s_law) .none kV37 dc37 pm37 an37 cd37 ct37, fun s v => .of_eq rfl, fun base _ _ => ?_⟩
  have d_law_take : Df l.prog w K mg base 4 "_law_take" ["_law_box_here", "_law_below"] f22 _ m_law_take := ⟨ok_law_take F22 T (PySem.W.mg_of X G a22) b22 4 (Nat.le_refl _), PySem.W.mg_of X G a22, F22.kp, b22⟩
  have d_law_hall : Df l.prog w K mg base 5 "_law_hall" ["_law_box_here", "_law_few"] f24 _ m_law_hall := ⟨ok_law_hall F24 T d_law_take, PySem.W.mg_of X G a24, F24.kp, b24⟩
  have d_law_pairs : Df l.prog w K mg base 1 "_law_pairs" ["_law_hall_here"] f25 _ m_law_pairs := ⟨ok_law_pairs F25 T, PySem.W.mg_of X G a25, F25.kp, b25⟩
  have d_law_crossed : Df l.prog w K mg base 1 "_law_crossed" ["_law_duo", "_law_its"] f26 _ m_law_crossed := ⟨ok_law_crossed F26 T, PySem.W.mg_of X G a26, F26.kp, b26⟩
  have d_law_clear : Df l.prog w K mg base 2 "_law_clear" ["_law_duos"] f27 _ m_law_clear := ⟨ok_law_clear F27 T d_law_crossed, PySem.W.mg_of X G a27, F27.kp, b27⟩
  have d_law_seated : Df l.prog w K mg base 1 "_law_seated" ["_law_size", "_law_duos"] f28 _ m_law_seated := ⟨ok_law_seated F28 T, PySem.W.mg_of X G a28, F28.kp, b28⟩
  have d_law_swapped : Df l.prog w K mg base 3 "_law_swapped" ["_law_hall_here", "_law_duo"] f29 _ m_law_swapped := ⟨ok_law_swapped F29 T d_law_clear d_law_seated d_law_pairs, PySem.W.mg_of X G a29, F29.kp, b29⟩
  have d_law_swaps : Df l.prog w K mg base 4 "_law_swaps" ["_law_hall_here"] f30 _ m_law_swaps := ⟨ok_law_swaps F30 T d_law_pairs d_law_swapped, PySem.W.mg_of X G a30, F30.kp, b30⟩
  have d_law_of : Df l.prog w K mg base 5 "_law_of" ["_law_box_here", "_law_pool"] f23 _ m_law_of := ⟨ok_law_of F23 T d_law_take, PySem.W.mg_of X G a23, F23.kp, b23⟩
  have d_law_strolled : Df l.prog w K mg base 6 "_law_strolled" ["_law_box_here", "_law_hall_here", "_law_turns"] f31 _ m_law_strolled := ⟨ok_law_strolled F31 T d_law_swaps d_law_swapped d_law_of, PySem.W.mg_of X G a31, F31.kp, b31⟩
  have d_walk : Df l.prog w K mg base 1 "walk" ["arrangement", "place"] f13 _ m_walk := ⟨ok_walk F13 T, PySem.W.mg_of X G a13, F13.kp, b13⟩
  have d_areas : Df l.prog w K mg base 2 "areas" ["arrangement"] f14 _ m_areas := ⟨ok_areas F14 T d_walk, PySem.W.mg_of X G a14, F14.kp, b14⟩
  have d_arms : Df l.prog w K mg base 1 "arms" ["arrangement"] f3 _ m_arms := ⟨ok_arms F3 T, PySem.W.mg_of X G a3, F3.kp, b3⟩
  have d_new_arms : Df l.prog w K mg base 1 "new_arms" ["arrangement", "exchange"] f8 _ m_new_arms := ⟨ok_new_arms F8 T, PySem.W.mg_of X G a8, F8.kp, b8⟩
  have d_cross : Df l.prog w K mg base 1 "cross" ["one", "other"] f1 _ m_cross := ⟨ok_cross F1 T, PySem.W.mg_of X G a1, F1.kp, b1⟩
  have d_is_possible : Df l.prog w K mg base 2 "is_possible" ["arrangement", "exchange"] f9 _ m_is_possible := ⟨ok_is_possible F9 T d_new_arms d_arms d_cross, PySem.W.mg_of X G a9, F9.kp, b9⟩
  have d_exchanges : Df l.prog w K mg base 3 "exchanges" ["arrangement"] f10 _ m_exchanges := ⟨ok_exchanges F10 T d_arms d_is_possible, PySem.W.mg_of X G a10, F10.kp, b10⟩
  have d_is_number : Df l.prog w K mg base 1 "is_number" ["thing"] f0 _ m_is_number := ⟨ok_is_number F0 T, PySem.W.mg_of X G a0, F0.kp, b0⟩
  have d_is_paired : Df l.prog w K mg base 2 "is_paired" ["thing"] f4 _ m_is_paired := ⟨ok_is_paired F4 T d_is_number, PySem.W.mg_of X G a4, F4.kp, b4⟩
  have d_are_crossed : Df l.prog w K mg base 2 "are_crossed" ["pairs"] f2 _ m_are_crossed := ⟨ok_are_crossed F2 T d_cross, PySem.W.mg_of X G a2, F2.kp, b2⟩
  have d_is_arrangement : Df l.prog w K mg base 3 "is_arrangement" ["thing"] f5 _ m_is_arrangement := ⟨ok_is_arrangement F5 T d_is_paired d_are_crossed d_arms, PySem.W.mg_of X G a5, F5.kp, b5⟩
  have d_by_areas : Df l.prog w K mg base 4 "by_areas" ["people", "some"] f16 _ m_by_areas := ⟨ok_by_areas F16 T d_is_arrangement d_areas, PySem.W.mg_of X G a16, F16.kp, b16⟩
  have d_law_room_arms : Df l.prog w K mg base 1 "_law_room_arms" ["_law_hall_here", "_law_room"] f32 _ m_law_room_arms := ⟨ok_law_room_arms F32 T, PySem.W.mg_of X G a32, F32.kp, b32⟩
  have d_law_swaps_due : Df l.prog w K mg base 2 "_law_swaps_due" ["_law_hall_here", "_law_rooms"] f33 _ m_law_swaps_due := ⟨ok_law_swaps_due F33 T d_law_room_arms, PySem.W.mg_of X G a33, F33.kp, b33⟩
  have d_changed : Df l.prog w K mg base 2 "changed" ["arrangement", "exchange"] f11 _ m_changed := ⟨ok_changed F11 T d_new_arms, PySem.W.mg_of X G a11, F11.kp, b11⟩
  have d_is_lesser : Df l.prog w K mg base 1 "is_lesser" ["arrangement", "person"] f7 _ m_is_lesser := ⟨ok_is_lesser F7 T, PySem.W.mg_of X G a7, F7.kp, b7⟩
  have d_exchanged : Df l.prog w K mg base 3 "exchanged" ["arrangement", "exchange"] f12 _ m_exchanged := ⟨ok_exchanged F12 T d_changed d_is_lesser d_is_possible, PySem.W.mg_of X G a12, F12.kp, b12⟩
  have d_law_swap_right : Df l.prog w K mg base 4 "_law_swap_right" ["_law_hall_here", "_law_duo"] f34 _ m_law_swap_right := ⟨ok_law_swap_right F34 T d_areas d_exchanged, PySem.W.mg_of X G a34, F34.kp, b34⟩
  have d_look_same : Df l.prog w K mg base 1 "look_same" ["one", "other"] f6 _ m_look_same := ⟨ok_look_same F6 T, PySem.W.mg_of X G a6, F6.kp, b6⟩
  have d_ring_of : Df l.prog w K mg base 1 "ring_of" ["one", "other", "person"] f17 _ m_ring_of := ⟨ok_ring_of F17 T, PySem.W.mg_of X G a17, F17.kp, b17⟩
  have d_rings : Df l.prog w K mg base 2 "rings" ["one", "other"] f18 _ m_rings := ⟨ok_rings F18 T d_look_same d_ring_of, PySem.W.mg_of X G a18, F18.kp, b18⟩
  have d_distance : Df l.prog w K mg base 3 "distance" ["one", "other"] f19 _ m_distance := ⟨ok_distance F19 T d_rings, PySem.W.mg_of X G a19, F19.kp, b19⟩
  have d_area_of : Df l.prog w K mg base 2 "area_of" ["arrangement", "place"] f15 _ m_area_of := ⟨ok_area_of F15 T d_walk, PySem.W.mg_of X G a15, F15.kp, b15⟩
  have d_law_hall_right : Df l.prog w K mg base 7 "_law_hall_right" ["_law_box_here", "_law_hall_here"] f35 _ m_law_hall_right := ⟨ok_law_hall_right F35 T d_law_strolled d_areas d_exchanges d_by_areas d_law_swaps_due d_law_swap_right d_law_take d_distance d_arms d_law_room_arms d_area_of, PySem.W.mg_of X G a35, F35.kp, b35⟩
  have d_law_right : Df l.prog w K mg base 8 "_law_right" ["_law_box_here"] f36 _ m_law_right := ⟨ok_law_right F36 T d_law_hall d_law_hall_right d_law_take d_law_strolled, PySem.W.mg_of X G a36, F36.kp, b36⟩
  have d_law_cell_at : Df l.prog w K mg base 1 "_law_cell_at" ["_law_script", "_law_k"] f20 _ m_law_cell_at := ⟨ok_law_cell_at F20 T, PySem.W.mg_of X G a20, F20.kp, b20⟩
  have d_law_box : Df l.prog w K mg base 2 "_law_box" ["_law_script", "_law_k"] f21 _ m_law_box := ⟨ok_law_box F21 T d_law_cell_at, PySem.W.mg_of X G a21, F21.kp, b21⟩
  exact (ok_law F37 T d_law_right d_law_box).imp fun vs H Q E z => spLaw_ok spec z
theorem walk {l : PySem.W.OpenLaw} {q : Program} {loose : List Str} {XP : (Str → Option Value) → Heap → Prop} {YP : World → Heap → Prop} {d : DefRec} {K : Params → PySem.W.Frag} (hn : l.most = some 63) (hdf : d.params.defaults = [])
    (hY : ∀ (w : World) (h : Heap), YP w h → (K w.params).In h)
    (F : ∀ (w : World) (mg : Str → Option Value) (fa : Addr) (h : Heap), (K w.params).In h → h.Ns mainGlobals mg → mg d.name = some (.ref fa) →
      ∃ fd : FuncData, (∀ (s : Shared) (u : Value), BindsTo s fd ⟨[u], []⟩ [("_law_script", u)]) ∧ ∀ base : Heap, (K w.params).In base → base.Ns mainGlobals mg → FnOk l.prog w (K w.params) mg base (L2.CX l.prog w) 9 fa fd ["_law_script"] (spLaw (K w.params))) :
    PySem.W.WalkO q loose XP YP l.row.toRowW d [] (fun f vs => PySem.call f vs) :=
  L2.walk_of (n := 63) (k := 9) (x := "_law_script") (CX := fun w => L2.CX l.prog w) (sp := fun w => spLaw (K w.params)) hn (by decide) hdf ⟨rfl, by decide, by decide⟩ hY F (fun _ _ a ns hl hO hS => ⟨a, ns, rfl, hl, hO, hS, fun v H e => e⟩) fun w H s e s' z => by
    obtain ⟨_, _, _, _, _, _, _, _, _, _, _, _, z⟩ := z
    exact z
end Mini
open PySem PySem.W PyProof.Rows
set_option maxRecDepth 100000 in
set_option maxHeartbeats 0 in
theorem PySem.Challenge.cw_handshakes_k81_whole_exchanges_and_areas_holds : PySem.Challenge.rw_handshakes_k81_whole_exchanges_and_areas.Holds := by
  w_on; o_law; k_head; (case hw => w_witness2)
  k_fill
  refine Mini.walk (l := PySem.Challenge.rw_handshakes_k81_whole_exchanges_and_areas) rfl rfl (fun w h Y => PySem.W.kIn_of Y) ?F
  case F =>
    intro w mg fa h KX G hmg
    refine' Mini.all_mk KX G hmg ?a0 ?l0 ?c0 ?k0 ?a1 ?l1 ?c1 ?k1 ?a2 ?l2 ?c2 ?k2 ?a3 ?l3 ?c3 ?k3 ?a4 ?l4 ?c4 ?k4 ?a5 ?l5 ?c5 ?k5 ?a6 ?l6 ?c6 ?k6 ?a7 ?l7 ?c7 ?k7 ?a8 ?l8 ?c8 ?k8 ?a9 ?l9 ?c9 ?k9 ?a10 ?l10 ?c10 ?k10 ?a11 ?l11 ?c11 ?k11 ?a12 ?l12 ?c12 ?k12 ?a13 ?l13 ?c13 ?k13 ?a14 ?l14 ?c14 ?k14 ?a15 ?l15 ?c15 ?k15 ?a16 ?l16 ?c16 ?k16 ?a17 ?l17 ?c17 ?k17 ?a18 ?l18 ?c18 ?k18 ?a19 ?l19 ?c19 ?k19 ?a20 ?l20 ?c20 ?k20 ?a21 ?l21 ?c21 ?k21 ?a22 ?l22 ?c22 ?k22 ?a23 ?l23 ?c23 ?k23 ?a24 ?l24 ?c24 ?k24 ?a25 ?l25 ?c25 ?k25 ?a26 ?l26 ?c26 ?k26 ?a27 ?l27 ?c27 ?k27 ?a28 ?l28 ?c28 ?k28 ?a29 ?l29 ?c29 ?k29 ?a30 ?l30 ?c30 ?k30 ?a31 ?l31 ?c31 ?k31 ?a32 ?l32 ?c32 ?k32 ?a33 ?l33 ?c33 ?k33 ?a34 ?l34 ?c34 ?k34 ?a35 ?l35 ?c35 ?k35 ?a36 ?l36 ?c36 ?k36 ?a37 ?l37 ?c37 ?k37 ?z_abs ?z_all ?z_any ?z_bool ?z_enumerate ?z_int ?z_isinstance ?z_len ?z_list ?z_max ?z_min ?z_range ?z_set ?z_sorted ?z_sum ?z_tuple ?z_zip Mini.spec_law
    (case a0 => k_is)
    (case l0 => k_is)
    (case c0 => k_is)
    (case k0 => k_is)
    (case a1 => k_is)
    (case l1 => k_is)
    (case c1 => k_is)
    (case k1 => k_is)
    (case a2 => k_is)
    (case l2 => k_is)
    (case c2 => k_is)
    (case k2 => k_is)
    (case a3 => k_is)
    (case l3 => k_is)
    (case c3 => k_is)
    (case k3 => k_is)
    (case a4 => k_is)
    (case l4 => k_is)
    (case c4 => k_is)
    (case k4 => k_is)
    (case a5 => k_is)
    (case l5 => k_is)
    (case c5 => k_is)
    (case k5 => k_is)
    (case a6 => k_is)
    (case l6 => k_is)
    (case c6 => k_is)
    (case k6 => k_is)
    (case a7 => k_is)
    (case l7 => k_is)
    (case c7 => k_is)
    (case k7 => k_is)
    (case a8 => k_is)
    (case l8 => k_is)
    (case c8 => k_is)
    (case k8 => k_is)
    (case a9 => k_is)
    (case l9 => k_is)
    (case c9 => k_is)
    (case k9 => k_is)
    (case a10 => k_is)
    (case l10 => k_is)
    (case c10 => k_is)
    (case k10 => k_is)
    (case a11 => k_is)
    (case l11 => k_is)
    (case c11 => k_is)
    (case k11 => k_is)
    (case a12 => k_is)
    (case l12 => k_is)
    (case c12 => k_is)
    (case k12 => k_is)
    (case a13 => k_is)
    (case l13 => k_is)
    (case c13 => k_is)
    (case k13 => k_is)
    (case a14 => k_is)
    (case l14 => k_is)
    (case c14 => k_is)
    (case k14 => k_is)
    (case a15 => k_is)
    (case l15 => k_is)
    (case c15 => k_is)
    (case k15 => k_is)
    (case a16 => k_is)
    (case l16 => k_is)
    (case c16 => k_is)
    (case k16 => k_is)
    (case a17 => k_is)
    (case l17 => k_is)
    (case c17 => k_is)
    (case k17 => k_is)
    (case a18 => k_is)
    (case l18 => k_is)
    (case c18 => k_is)
    (case k18 => k_is)
    (case a19 => k_is)
    (case l19 => k_is)
    (case c19 => k_is)
    (case k19 => k_is)
    (case a20 => k_is)
    (case l20 => k_is)
    (case c20 => k_is)
    (case k20 => k_is)
    (case a21 => k_is)
    (case l21 => k_is)
    (case c21 => k_is)
    (case k21 => k_is)
    (case a22 => k_is)
    (case l22 => k_is)
    (case c22 => k_is)
    (case k22 => k_is)
    (case a23 => k_is)
    (case l23 => k_is)
    (case c23 => k_is)
    (case k23 => k_is)
    (case a24 => k_is)
    (case l24 => k_is)
    (case c24 => k_is)
    (case k24 => k_is)
    (case a25 => k_is)
    (case l25 => k_is)
    (case c25 => k_is)
    (case k25 => k_is)
    (case a26 => k_is)
    (case l26 => k_is)
    (case c26 => k_is)
    (case k26 => k_is)
    (case a27 => k_is)
    (case l27 => k_is)
    (case c27 => k_is)
    (case k27 => k_is)
    (case a28 => k_is)
    (case l28 => k_is)
    (case c28 => k_is)
    (case k28 => k_is)
    (case a29 => k_is)
    (case l29 => k_is)
    (case c29 => k_is)
    (case k29 => k_is)
    (case a30 => k_is)
    (case l30 => k_is)
    (case c30 => k_is)
    (case k30 => k_is)
    (case a31 => k_is)
    (case l31 => k_is)
    (case c31 => k_is)
    (case k31 => k_is)
    (case a32 => k_is)
    (case l32 => k_is)
    (case c32 => k_is)
    (case k32 => k_is)
    (case a33 => k_is)
    (case l33 => k_is)
    (case c33 => k_is)
    (case k33 => k_is)
    (case a34 => k_is)
    (case l34 => k_is)
    (case c34 => k_is)
    (case k34 => k_is)
    (case a35 => k_is)
    (case l35 => k_is)
    (case c35 => k_is)
    (case k35 => k_is)
    (case a36 => k_is)
    (case l36 => k_is)
    (case c36 => k_is)
    (case k36 => k_is)
    (case a37 => k_is)
    (case l37 => k_is)
    (case c37 => k_is)
    (case k37 => k_is)
    (case z_abs => k_is)
    (case z_all => k_is)
    (case z_any => k_is)
    (case z_bool => k_is)
    (case z_enumerate => k_is)
    (case z_int => k_is)
    (case z_isinstance => k_is)
    (case z_len => k_is)
    (case z_list => k_is)
    (case z_max => k_is)
    (case z_min => k_is)
    (case z_range => k_is)
    (case z_set => k_is)
    (case z_sorted => k_is)
    (case z_sum => k_is)
    (case z_tuple => k_is)
    (case z_zip => k_is)
