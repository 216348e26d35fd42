import PyProof.Rows.All
import Wide.All
import OpenK.AllK
import Wide.FinOn
import KE.KStateDown
import HandS.ForMost
import HandS.WordsExc
import HandS.More
import HandS.Defaults
import HandS.Wide
import HandS.IsInst
import HandS.Conv
import HandS.TupAny
import HandS.Zip
import HandS.CallSlots
import HandS.Style
import HandS.Deep
import HandS.Lambda
import HandS.EndTab
import HandS.HeadWalk
import HandS.ExcIs
import HandS.HotCalls
import HandS.SetFor
import HandS.Dict
import HandS.HeadHook1
import HandS.HeadHook4
import HandS.TupMul
import HandS.Iter
import KE.GoesEnum
import HandS.HeadEnd
import HandS.Head0
import HandS.Head1
import HandS.Head2
import HandS.HeadHook2
import PyProof.ReprLen
import PySem.Challenge.RW_gunclocks_k22_rows_kept
section
set_option Elab.async false
set_option linter.all false
set_option maxRecDepth 100000
set_option maxHeartbeats 0
namespace Law
open PySem PySem.W PySem.Calls PyProof.Rows
abbrev R : PySem.W.OpenRow := PySem.W.OpenLaw.row PySem.Challenge.rw_gunclocks_k22_rows_kept
theorem f_k1 : R.wellSaid = true := by k_qdec
theorem f_bare : R.prog.bare := ⟨rfl, rfl, rfl, rfl, rfl, by decide +kernel⟩
theorem f_hw : R.toRowW.promised := by w_witness2
theorem law_of (h : R.Holds) : PySem.Challenge.rw_gunclocks_k22_rows_kept.Holds := by
  w_on; o_law
  exact h
end Law
set_option Elab.async false
set_option linter.all false
set_option maxRecDepth 100000
set_option maxHeartbeats 4000000
namespace G43
open PySem
/-! ### values without addresses -/
inductive PV where
  | non
  | bl (b : Bool)
  | int (i : Int)
  | str (s : Str)
  | tup (l : List PV)
  | lst (l : List PV)
  | fn (f : Nat)
  | obj (i : Nat)
  | scr (l : List PV)
  | dct
inductive RV where
  | pv (p : PV)
  | ref (i : Nat)
abbrev Hs := List (Option (List PV))
abbrev Env := List (Option RV)
/-! ### the small language -/
inductive BI where
  | len | abs | max | int | tuple | list | all | any | repr | str | sorted | sum | bool | set
  deriving DecidableEq
inductive Ty where
  | int | bool | tuple | str | list
  deriving DecidableEq
inductive Tg where
  | nm (i : Nat)
  | nil
  | cons (a r : Tg)
mutual
inductive E where
  | var (i : Nat)
  | cst (p : PV)
  | glo (g : Nat)
  | bin (op : Operator) (a b : E)
  | neg (a : E)
  | nt (a : E)
  | and (a b : E)
  | or (a b : E)
  | cmp (op : CmpOp) (a b : E)
  | chn (op op' : CmpOp) (a b c : E)
  | ite (t a b : E)
  | call (f : Nat) (es : EL) (dv : List PV)
  | bi (b : BI) (es : EL)
  | isi (a : E) (t : Ty)
  | idx (a i : E)
  | slo (a lo : E)
  | shi (a hi : E)
  | slh (a lo hi : E)
  | tup (es : EL)
  | lst (es : EL)
  | mls (es : EL)
  | comp (elt : E) (tg : Tg) (it : It) (ifs : EL)
  | word (e : E)
inductive EL where
  | nil
  | cons (e : E) (r : EL)
inductive It where
  | seq (e : E)
  | rng1 (e : E)
  | enm (e : E)
end
mutual
inductive S where
  | set (i : Nat) (e : E)
  | par (is : List Nat) (es : EL)
  | unp (tg : Tg) (e : E)
  | sub (o i v : E)
  | exp (e : E)
  | iff (t : E) (a b : SL)
  | for (kl : List Nat) (tg : Tg) (it : It) (body : SL)
  | whl (kl : List Nat) (t : E) (body : SL)
  | ret (e : E)
  | retN
  | rse
  | rsx (c : Nat)
  | pass
inductive SL where
  | nil
  | cons (s : S) (r : SL)
end
def EL.len : EL → Nat
  | .nil => 0
  | .cons _ r => r.len + 1
structure Df where
  name : Str
  npar : Nat
  dfl : List PV
  N : List Str
  body : SL
structure Pg where
  defs : List Df
  cons : List (Str × PV)
  blt : List Str
  exc : List (Str × Str) := []
  rai : List Nat := []
  lm : Bool := false
/-! ### equality, reading -/
/-- what is read at a value -/
def val (h : Hs) : RV → Option PV
  | .pv p => some p
  | .ref i => match h[i]? with
    | some (some c) => some (.lst c)
    | _ => none
/-! ### operations -/
/-! ### targets, loops -/
def Tg.len : Tg → Nat
  | .nm _ => 0
  | .nil => 0
  | .cons _ r => r.len + 1
def Tg.slots : Tg → List Nat
  | .nm i => [i]
  | .nil => []
  | .cons a r => a.slots ++ r.slots
/-! ### expressions -/
/-! ### calls: a def's body, so many levels deep -/
end G43
set_option Elab.async false
set_option linter.all false
set_option maxRecDepth 100000
set_option maxHeartbeats 4000000
set_option Elab.async false
set_option linter.all false
set_option maxRecDepth 100000
set_option maxHeartbeats 4000000
namespace G43
open PySem
open L2 (V HO Hp SqL SqT Rd upd upd_same upd_ne)
/-! ### where things lie -/
structure Ad where
  K : PySem.W.Frag
  F : Nat → Addr
  CA : Nat → Addr
  T : List (Addr × Str) := []
def KL (K : PySem.W.Frag) (a : Addr) (xs : List V) : Prop :=
  ∃ (o : Obj) (its : Array Value) (n : Nat), K.lookup a = some o ∧ o.cls = .type "list" ∧ o.dict = none ∧ o.data = .seq its n ∧ its.size ≤ sizeLine ∧ L2.Vals xs its.toList
mutual
inductive Rp (A : Ad) (L : Addr → Prop) (H : Hp) : PV → V → Prop
  | non : Rp A L H .non .non
  | bl (b : Bool) : Rp A L H (.bl b) (.bl b)
  | int (i : Int) : Rp A L H (.int i) (.int i)
  | str (x : Str) : Rp A L H (.str x) (.str x)
  | fn (f : Nat) : Rp A L H (.fn f) (.ref (A.F f))
  | tup {a : Addr} {xs : List V} {l : List PV} : SqT A.K H a xs → RpL A L H l xs → Rp A L H (.tup l) (.ref a)
  | lst {a : Addr} {xs : List V} {l : List PV} : H a = some (.lst xs) → ¬ L a → RpL A L H l xs → Rp A L H (.lst l) (.ref a)
  | scr {a : Addr} {xs : List V} {l : List PV} : (∃ o, H a = some (.frz o (.lst xs))) ∨ KL A.K a xs → RpL A L H l xs → Rp A L H (.scr l) (.ref a)
  | dct {a : Addr} : H a = some (.dK []) → ¬ L a → Rp A L H .dct (.ref a)
inductive RpL (A : Ad) (L : Addr → Prop) (H : Hp) : List PV → List V → Prop
  | nil : RpL A L H [] []
  | cons {p : PV} {v : V} {l : List PV} {xs : List V} : Rp A L H p v → RpL A L H l xs → RpL A L H (p :: l) (v :: xs)
end
/-- the cells that may change -/
def Lv (m : List Addr) (h : Hs) (a : Addr) : Prop := ∃ (i : Nat) (c : List PV), h[i]? = some (some c) ∧ m[i]? = some a
def Xc (B : Addr → Prop) (m : List Addr) (h : Hs) (a : Addr) : Prop := B a ∨ Lv m h a
structure Sim (A : Ad) (B : Addr → Prop) (m : List Addr) (h : Hs) (H : Hp) : Prop where
  len : m.length = h.length
  cell : ∀ (i : Nat) (c : List PV) (a : Addr), h[i]? = some (some c) → m[i]? = some a → ∃ xs, H a = some (.lst xs) ∧ RpL A (Xc B m h) H c xs
  inj : ∀ (i j : Nat) (c d : List PV) (a : Addr), h[i]? = some (some c) → h[j]? = some (some d) → m[i]? = some a → m[j]? = some a → i = j
  bn : ∀ a, B a → ¬ Lv m h a
  bt : ∀ a, B a → ∃ o, H a = some o ∧ ∀ ps, o ≠ .tbl ps
  tb : LamX.Tabs A.T H
theorem tabs_new {T : List (Addr × Str)} {H : Hp} {p : Addr} {o : HO} (t : LamX.Tabs T H) (e : H p = none) : LamX.Tabs T (upd H p o) := t.ext fun b u q => by rw [upd_ne (L2.ne_of_none q e)]; exact q
structure Mv (m : List Addr) (h : Hs) (H : Hp) (m' : List Addr) (h' : Hs) (H' : Hp) : Prop where
  pre : ∃ t, m' = m ++ t
  keep : ∀ b o, H b = some o → (∀ ps, o ≠ .tbl ps) → ¬ Lv m h b → H' b = some o ∧ ¬ Lv m' h' b
theorem Mv.refl (m : List Addr) (h : Hs) (H : Hp) : Mv m h H m h H := ⟨⟨[], by simp⟩, fun _ _ e _ n => ⟨e, n⟩⟩
theorem Mv.at {m m' : List Addr} {h h' : Hs} {H H' : Hp} (M : Mv m h H m' h' H') {i : Nat} {a : Addr} (e : m[i]? = some a) : m'[i]? = some a := by
  obtain ⟨t, rfl⟩ := M.pre
  have hi : i < m.length := (List.getElem?_eq_some_iff.mp e).1
  rw [List.getElem?_append_left hi]
  exact e
section
variable {A : Ad} {B : Addr → Prop} {m m' : List Addr} {h h' : Hs} {H H' : Hp}
theorem Sim.notTup (S : Sim A B m h H) {a : Addr} {o : HO} (e : H a = some o) (n : ∀ xs, o ≠ .lst xs) : ¬ Lv m h a := fun ⟨i, c, e1, e2⟩ => by
  obtain ⟨xs, e3, _⟩ := S.cell i c a e1 e2
  rw [e] at e3
  exact n xs (Option.some.inj e3)
/-- the cells hold lists -/
def CL (m : List Addr) (h : Hs) (H : Hp) : Prop := ∀ (i : Nat) (c : List PV) (a : Addr), h[i]? = some (some c) → m[i]? = some a → ∃ xs, H a = some (.lst xs)
theorem Sim.cl (S : Sim A B m h H) : CL m h H := fun i c a e1 e2 => let ⟨xs, e, _⟩ := S.cell i c a e1 e2; ⟨xs, e⟩
theorem CL.notTup (S : CL m h H) {a : Addr} {o : HO} (e : H a = some o) (n : ∀ xs, o ≠ .lst xs) : ¬ Lv m h a := fun ⟨i, c, e1, e2⟩ => by
  obtain ⟨xs, e3⟩ := S i c a e1 e2
  rw [e] at e3
  exact n xs (Option.some.inj e3)
theorem sqT_move (S : CL m h H) (M : Mv m h H m' h' H') {a : Addr} {xs : List V} (q : SqT A.K H a xs) : SqT A.K H' a xs := by
  rcases q with (q | ⟨o, q⟩) | q
  · exact .inl (.inl (M.keep a _ q (fun _ e => nomatch e) (S.notTup q fun _ e => nomatch e)).1)
  · exact .inl (.inr ⟨o, (M.keep a _ q (fun _ e => nomatch e) (S.notTup q fun _ e => nomatch e)).1⟩)
  · exact .inr q
theorem sqLH_move (M : Mv m h H m' h' H') {a : Addr} {xs : List V} (q : H a = some (.lst xs)) (n : ¬ Xc B m h a) : H' a = some (.lst xs) ∧ ¬ Xc B m' h' a := by
  obtain ⟨e, n'⟩ := M.keep a _ q (fun _ e => nomatch e) fun z => n (.inr z)
  exact ⟨e, fun z => z.elim (fun z => n (.inl z)) n'⟩
theorem scr_move (S : CL m h H) (M : Mv m h H m' h' H') {a : Addr} {xs : List V} (q : (∃ o, H a = some (.frz o (.lst xs))) ∨ KL A.K a xs) : (∃ o, H' a = some (.frz o (.lst xs))) ∨ KL A.K a xs := by
  rcases q with ⟨o, q⟩ | q
  · exact .inl ⟨o, (M.keep a _ q (fun _ e => nomatch e) (S.notTup q fun _ e => nomatch e)).1⟩
  · exact .inr q
mutual
theorem Rp.moveC (S : CL m h H) (M : Mv m h H m' h' H') : ∀ {p : PV} {v : V}, Rp A (Xc B m h) H p v → Rp A (Xc B m' h') H' p v
  | _, _, .non => .non
  | _, _, .bl b => .bl b
  | _, _, .int i => .int i
  | _, _, .str x => .str x
  | _, _, .fn f => .fn f
  | _, _, .tup q r => .tup (sqT_move S M q) (RpL.moveC S M r)
  | _, _, .lst q n r => .lst (sqLH_move M q n).1 (sqLH_move M q n).2 (RpL.moveC S M r)
  | _, _, .scr q r => .scr (scr_move S M q) (RpL.moveC S M r)
  | _, _, .dct q n => .dct (M.keep _ _ q (fun _ e => nomatch e) fun z => n (.inr z)).1 fun z => z.elim (fun z => n (.inl z)) (M.keep _ _ q (fun _ e => nomatch e) fun z => n (.inr z)).2
theorem RpL.moveC (S : CL m h H) (M : Mv m h H m' h' H') : ∀ {l : List PV} {xs : List V}, RpL A (Xc B m h) H l xs → RpL A (Xc B m' h') H' l xs
  | _, _, .nil => .nil
  | _, _, .cons q r => .cons (Rp.moveC S M q) (RpL.moveC S M r)
end
theorem Rp.move (S : Sim A B m h H) (M : Mv m h H m' h' H') {p : PV} {v : V} (q : Rp A (Xc B m h) H p v) : Rp A (Xc B m' h') H' p v := Rp.moveC S.cl M q
theorem RpL.move (S : Sim A B m h H) (M : Mv m h H m' h' H') {l : List PV} {xs : List V} (q : RpL A (Xc B m h) H l xs) : RpL A (Xc B m' h') H' l xs := RpL.moveC S.cl M q
theorem RpL.length {L : Addr → Prop} : ∀ {l : List PV} {xs : List V}, RpL A L H l xs → xs.length = l.length
  | _, _, .nil => rfl
  | _, _, .cons _ r => by rw [List.length_cons, List.length_cons, RpL.length r]
theorem RpL.set {L : Addr → Prop} {p : PV} {v : V} (q : Rp A L H p v) : ∀ (n : Nat) {l : List PV} {xs : List V}, RpL A L H l xs → RpL A L H (l.set n p) (xs.set n v)
  | _, _, _, .nil => .nil
  | 0, _, _, .cons _ r => .cons q r
  | n + 1, _, _, .cons z r => .cons z (RpL.set q n r)
/-- a new object that is no cell -/
theorem Sim.news (S : Sim A B m h H) {p : Addr} {o : HO} (e : H p = none) : Mv m h H m h (upd H p o) ∧ Sim A B m h (upd H p o) := by
  have M : Mv m h H m h (upd H p o) := ⟨⟨[], by simp⟩, fun b u q _ n => ⟨by rw [upd_ne (L2.ne_of_none q e)]; exact q, n⟩⟩
  refine ⟨M, S.len, fun i c a h1 h2 => ?_, S.inj, S.bn, fun a q => ?_, tabs_new S.tb e⟩
  · obtain ⟨xs, h3, h4⟩ := S.cell i c a h1 h2
    exact ⟨xs, by rw [upd_ne (L2.ne_of_none h3 e)]; exact h3, h4.move S M⟩
  · obtain ⟨o', e', n'⟩ := S.bt a q
    exact ⟨o', by rw [upd_ne (L2.ne_of_none e' e)]; exact e', n'⟩
theorem Sim.fresh (S : Sim A B m h H) {p : Addr} (e : H p = none) : ¬ Xc B m h p := fun z => by
  rcases z with z | ⟨i, c, h1, h2⟩
  · obtain ⟨o, e', _⟩ := S.bt p z
    rw [e] at e'; cases e'
  · obtain ⟨xs, h3, _⟩ := S.cell i c p h1 h2
    rw [e] at h3; cases h3
theorem Sim.tup (S : Sim A B m h H) {p : Addr} {l : List PV} {xs : List V} (e : H p = none) (q : RpL A (Xc B m h) H l xs) :
    Mv m h H m h (upd H p (.tup xs)) ∧ Sim A B m h (upd H p (.tup xs)) ∧ Rp A (Xc B m h) (upd H p (.tup xs)) (.tup l) (.ref p) := by
  obtain ⟨M, S'⟩ := S.news (o := .tup xs) e
  exact ⟨M, S', .tup (SqT.of upd_same) (q.move S M)⟩
theorem Sim.lst (S : Sim A B m h H) {p : Addr} {l : List PV} {xs : List V} (e : H p = none) (q : RpL A (Xc B m h) H l xs) :
    Mv m h H m h (upd H p (.lst xs)) ∧ Sim A B m h (upd H p (.lst xs)) ∧ Rp A (Xc B m h) (upd H p (.lst xs)) (.lst l) (.ref p) := by
  obtain ⟨M, S'⟩ := S.news (o := .lst xs) e
  exact ⟨M, S', .lst upd_same (S.fresh e) (q.move S M)⟩
/-- values of slots -/
def RpR (A : Ad) (B : Addr → Prop) (m : List Addr) (h : Hs) (H : Hp) : RV → V → Prop
  | .pv p, v => Rp A (Xc B m h) H p v
  | .ref i, v => ∃ a, m[i]? = some a ∧ v = .ref a
inductive RpRs (A : Ad) (B : Addr → Prop) (m : List Addr) (h : Hs) (H : Hp) : List RV → List V → Prop
  | nil : RpRs A B m h H [] []
  | cons {x : RV} {v : V} {xs : List RV} {vs : List V} : RpR A B m h H x v → RpRs A B m h H xs vs → RpRs A B m h H (x :: xs) (v :: vs)
theorem RpRs.length : ∀ {x : List RV} {v : List V}, RpRs A B m h H x v → v.length = x.length
  | _, _, .nil => rfl
  | _, _, .cons _ r => by rw [List.length_cons, List.length_cons, RpRs.length r]
/-- what may be read: a value, or a cell's list -/
inductive Rw (A : Ad) (L : Addr → Prop) (H : Hp) : PV → V → Prop
  | p {x : PV} {v : V} : Rp A L H x v → Rw A L H x v
  | c {a : Addr} {xs : List V} {l : List PV} : H a = some (.lst xs) → RpL A L H l xs → Rw A L H (.lst l) (.ref a)
theorem RpR.rw (S : Sim A B m h H) {x : RV} {v : V} {p : PV} (q : RpR A B m h H x v) (e : val h x = some p) : Rw A (Xc B m h) H p v := by
  cases x with
  | pv y =>
    have e1 : y = p := Option.some.inj e
    subst e1
    exact .p q
  | ref i =>
    obtain ⟨a, e1, rfl⟩ := q
    simp only [val] at e
    cases hc : h[i]? with
    | none => rw [hc] at e; cases e
    | some o =>
      cases o with
      | none => rw [hc] at e; cases e
      | some c =>
        rw [hc] at e
        have e2 : PV.lst c = p := Option.some.inj e
        subst e2
        obtain ⟨xs, h3, h4⟩ := S.cell i c a hc e1
        exact .c h3 h4
theorem Rw.lst {L : Addr → Prop} {l : List PV} {v : V} (q : Rw A L H (.lst l) v) : ∃ a xs, v = .ref a ∧ H a = some (.lst xs) ∧ RpL A L H l xs := by
  cases q with
  | p q =>
    cases q with
    | lst q n r => exact ⟨_, _, rfl, q, r⟩
  | c q r => exact ⟨_, _, rfl, q, r⟩
theorem Rw.tup {L : Addr → Prop} {l : List PV} {v : V} (q : Rw A L H (.tup l) v) : ∃ a xs, v = .ref a ∧ SqT A.K H a xs ∧ RpL A L H l xs := by
  cases q with
  | p q => cases q with
    | tup q r => exact ⟨_, _, rfl, q, r⟩
theorem Rw.int {L : Addr → Prop} {i : Int} {v : V} (q : Rw A L H (.int i) v) : v = .int i := by
  cases q with
  | p q => cases q; rfl
theorem Rw.bl {L : Addr → Prop} {i : Bool} {v : V} (q : Rw A L H (.bl i) v) : v = .bl i := by
  cases q with
  | p q => cases q; rfl
theorem Rw.str {L : Addr → Prop} {i : Str} {v : V} (q : Rw A L H (.str i) v) : v = .str i := by
  cases q with
  | p q => cases q; rfl
theorem Rw.non {L : Addr → Prop} {v : V} (q : Rw A L H .non v) : v = .non := by
  cases q with
  | p q => cases q; rfl
/-- the slots -/
structure Sl (A : Ad) (B : Addr → Prop) (m : List Addr) (h : Hs) (H : Hp) (ρ : Env) (σ : L2.St) : Prop where
  len : ρ.length = σ.length
  at_ : ∀ (i : Nat) (v : RV), ρ[i]? = some (some v) → ∃ w, σ[i]? = some (some w) ∧ RpR A B m h H v w
theorem Sl.set {ρ : Env} {σ : L2.St} (s : Sl A B m h H ρ σ) (i : Nat) {v : RV} {w : V} (q : RpR A B m h H v w) : Sl A B m h H (ρ.set i (some v)) (σ.set i (some w)) := by
  refine ⟨by rw [List.length_set, List.length_set]; exact s.len, fun j u e => ?_⟩
  by_cases hj : i = j
  · subst hj
    have hi : i < ρ.length := by
      by_cases hi : i < ρ.length
      · exact hi
      · rw [List.getElem?_eq_none (by simpa using hi)] at e; cases e
    rw [List.getElem?_set_self hi] at e
    cases e
    exact ⟨w, List.getElem?_set_self (by rw [← s.len]; exact hi), q⟩
  · rw [List.getElem?_set_ne hj] at e
    obtain ⟨z, e1, e2⟩ := s.at_ j u e
    exact ⟨z, by rw [List.getElem?_set_ne hj]; exact e1, e2⟩
end
end G43
set_option Elab.async false
set_option linter.all false
set_option maxRecDepth 100000
set_option maxHeartbeats 4000000
namespace G43
open PySem
open L2 (V HO Hp SqL SqT Rd upd upd_same upd_ne Cx OpR R2 VK CallR IxR SlR)
/-! ### values as plain data -/
section
variable {A : Ad} {B : Addr → Prop} {m : List Addr} {h : Hs} {H : Hp} {L : Addr → Prop}
/-- what is wanted of a value that is told, the cells as they are -/
def Kp (A : Ad) (B : Addr → Prop) (m : List Addr) (h : Hs) (H : Hp) (Q : VK) : PV → Prop := fun r => ∀ H' v, Sim A B m h H' → Mv m h H m h H' → Rp A (Xc B m h) H' r v → Q v H'
theorem Kp.here {Q : VK} {r : PV} {v : V} (S : Sim A B m h H) (k : Kp A B m h H Q r) (q : Rp A (Xc B m h) H r v) : Q v H := k H v S (Mv.refl _ _ _) q
theorem Kp.tup {Q : VK} {l : List PV} {xs : List V} {p : Addr} (S : Sim A B m h H) (k : Kp A B m h H Q (.tup l)) (q : RpL A (Xc B m h) H l xs) (e : H p = none) : Q (.ref p) (upd H p (.tup xs)) := by
  obtain ⟨M, S', r⟩ := S.tup e q
  exact k _ _ S' M r
theorem Kp.lst {Q : VK} {l : List PV} {xs : List V} {p : Addr} (S : Sim A B m h H) (k : Kp A B m h H Q (.lst l)) (q : RpL A (Xc B m h) H l xs) (e : H p = none) : Q (.ref p) (upd H p (.lst xs)) := by
  obtain ⟨M, S', r⟩ := S.lst e q
  exact k _ _ S' M r
end
end G43
set_option Elab.async false
set_option linter.all false
set_option maxRecDepth 100000
set_option maxHeartbeats 4000000
set_option Elab.async false
set_option linter.all false
set_option maxRecDepth 100000
set_option maxHeartbeats 4000000
namespace G43
open PySem
open L2 (V HO Hp SqL SqT Rd upd upd_same upd_ne Cx OpR R2 VK CallR IxR SlR)
section
variable {A : Ad} {B : Addr → Prop} {m : List Addr} {h : Hs} {H : Hp} {L : Addr → Prop}
inductive RwL (A : Ad) (L : Addr → Prop) (H : Hp) : List PV → List V → Prop
  | nil : RwL A L H [] []
  | cons {p : PV} {v : V} {l : List PV} {xs : List V} : Rw A L H p v → RwL A L H l xs → RwL A L H (p :: l) (v :: xs)
theorem RwL.one {p : PV} {xs : List V} (q : RwL A L H [p] xs) : ∃ v, xs = [v] ∧ Rw A L H p v := by
  cases q with
  | cons q r => cases r; exact ⟨_, rfl, q⟩
end
section
variable {X : Cx} {A : Ad}
/-! ### built-in functions -/
theorem Kp.str {B : Addr → Prop} {m : List Addr} {h : Hs} {H : Hp} {Q : VK} {x : Str} (S : Sim A B m h H) (k : Kp A B m h H Q (.str x)) : Q (.str x) H := k.here S (.str x)
/-! ### a[i], a[i:j] -/
/-! ### isinstance -/
end
end G43
set_option Elab.async false
set_option linter.all false
set_option maxRecDepth 100000
set_option maxHeartbeats 4000000
set_option Elab.async false
set_option linter.all false
set_option maxRecDepth 100000
set_option maxHeartbeats 4000000
set_option Elab.async false
set_option linter.all false
set_option maxRecDepth 100000
set_option maxHeartbeats 4000000
set_option Elab.async false
set_option linter.all false
set_option maxRecDepth 100000
set_option maxHeartbeats 4100000
/-! enumerate over a tuple: the hand layer knows lists alone. The turn is read off the library's WalksT over Draws. -/
set_option Elab.async false
set_option linter.all false
set_option maxRecDepth 100000
set_option maxHeartbeats 4000000
set_option Elab.async false
set_option linter.all false
set_option maxRecDepth 100000
set_option maxHeartbeats 4000000
set_option Elab.async false
set_option linter.all false
set_option maxRecDepth 100000
set_option maxHeartbeats 4000000
namespace G43
open PySem
open L2 (V HO Hp SqL SqT Rd upd upd_same upd_ne Cx OpR R2 VK CallR IxR SlR TE TA TS TT TI TG TGs PE PA PS PSs PT PI PG PGs XK Sp Room Vals)
open PySem.Spec PyProof.Rows
/-! ### targets -/
def Off (vs : List Nat) (σ σ' : L2.St) : Prop := σ'.length = σ.length ∧ ∀ i, i ∉ vs → σ'[i]? = σ[i]?
theorem Off.set (σ : L2.St) (i : Nat) (v : Option V) : Off [i] σ (σ.set i v) := ⟨List.length_set, fun j hj => List.getElem?_set_ne fun e => hj (by simp [e])⟩
end G43
set_option Elab.async false
set_option linter.all false
set_option maxRecDepth 100000
set_option maxHeartbeats 4000000
set_option Elab.async false
set_option linter.all false
set_option maxRecDepth 100000
set_option maxHeartbeats 4000000
set_option Elab.async false
set_option linter.all false
set_option maxRecDepth 100000
set_option maxHeartbeats 4000000
set_option Elab.async false
set_option linter.all false
set_option maxRecDepth 100000
set_option maxHeartbeats 4000000
set_option Elab.async false
set_option linter.all false
set_option maxRecDepth 100000
set_option maxHeartbeats 4000000
set_option Elab.async false
set_option linter.all false
set_option maxRecDepth 100000
set_option maxHeartbeats 4000000
set_option Elab.async false
set_option linter.all false
set_option maxRecDepth 100000
set_option maxHeartbeats 4000000
namespace G43
open PySem
open L2 (V HO Hp SqL SqT Rd upd upd_same upd_ne Cx OpR R2 VK CallR IxR SlR TE TA TS TT TI TG TGs PE PA PS PSs PT PI PG PGs XK Sp Room Vals Ends)
open PySem.Spec PyProof.Rows
/-! ### the law's call -/
abbrev noTab : Obj := { cls := .none, data := .fields #[] }
end G43
set_option Elab.async false
set_option linter.all false
set_option maxRecDepth 100000
set_option maxHeartbeats 4000000
namespace G43
open PySem
open L2 (V HO Hp SqL SqT Vals)
/-! ### the top's constants -/
mutual
def repB (K : PySem.W.Frag) : PV → Value → Bool
  | .non, .none => true
  | .bl a, .bool b => a == b
  | .int i, .int j _ => decide (i = j)
  | .str x, .str y _ => decide (x = y)
  | .tup l, .ref a => (match K.lookup a with
    | some ⟨.type c, _, .seq its _, _⟩ => decide (c = "tuple") && decide (its.size ≤ 1000) && repBs K l its.toList
    | _ => false)
  | _, _ => false
def repBs (K : PySem.W.Frag) : List PV → List Value → Bool
  | [], [] => true
  | p :: ps, u :: us => repB K p u && repBs K ps us
  | _, _ => false
end
def conB (K : PySem.W.Frag) (q : Str × PV) : Bool := match PySem.W.nsIn K mainGlobals q.1 with
  | some (some u) => repB K q.2 u
  | _ => false
/-! ### what the head tells -/
def tfOf (P : Pg) : List He.Defn := if P.lm = true then P.defs.map fun d => (d.name, none) else []
def tOf (P : Pg) (K : PySem.W.Frag) : List (Addr × Str) := if P.lm = true then P.defs.map fun df => ((He.cT K (df.name, none)).2, (df.name ++ (".<locals>." : Str)) ++ ("<lambda>" : Str)) else []
def facB (K : PySem.W.Frag) (P : Pg) (fn : List He.DefD) : Bool := P.defs.all (fun d => (He.Fa.glo d.name).ok K) && P.blt.all (fun x => (He.Fa.free x).ok K) && P.cons.all (conB K) && (fn.all fun d => d.ok K) &&
  (P.rai.all fun c => match P.exc[c]? with | some w => (He.Fa.glo w.1).ok K && (He.Fa.exc w.1).ok K | none => true) && (tOf P K).all fun p => (tOf P K).all fun q => !decide (p.1 = q.1) || decide (p.2 = q.2)
def obsP (P : Pg) (fn : List He.DefD) (ex : PySem.W.Frag → Bool) (K : PySem.W.Frag) : Bool × List He.FnW := (facB K P fn && ex K, fn.map fun d => He.fnW K d.at_)
def valP (fn : List He.DefD) : Bool × List He.FnW := (true, fn.map He.DefD.val)
def seeP (n : Nat) (P : Pg) (fn : List He.DefD) (ex : PySem.W.Frag → Bool) (g : Addr → Option Obj) : (Bool × List He.FnW) × Bool := (obsP P fn ex (He.frT g (He.asD g n)), He.tabsB g (tfOf P) (He.frT g (He.asD g n)))
/-- the tables: empty, not in K -/
def TabsE (P : Pg) (K : PySem.W.Frag) (h : Heap) : Prop := ∀ p ∈ tfOf P, PySem.W.codeHdIn K (He.cT K p).1 (He.cT K p).2 = true ∧ K.lookup (He.cT K p).2 = none ∧ h.get? (He.cT K p).2 = some noTab
theorem tabsE_of {P : Pg} {as : List Addr} {h : Heap} (e : He.tabsB h.get? (tfOf P) (He.frT h.get? as) = true) : TabsE P (He.frT h.get? as) h := by
  intro p hp
  have q := List.all_eq_true.mp e p hp
  rw [Bool.and_eq_true] at q
  refine ⟨q.1, ?_⟩
  have q2 := q.2
  cases hg : h.get? (He.cT (He.frT h.get? as) p).2 with
  | none => rw [hg] at q2; cases q2
  | some o =>
    rw [hg] at q2
    exact ⟨He.frT_none hg q2, by rw [He.emptyTab_eq q2]⟩
def hookP (n : Nat) (P : Pg) (fn : List He.DefD) (ex : PySem.W.Frag → Bool) : PySem.W.Hook where
  α := (Bool × List He.FnW) × Bool
  obs := fun s => seeP n P fn ex s.heap.get?
  val := fun _ => (valP fn, true)
  says := fun _ h => ∃ K : PySem.W.Frag, K.In h ∧ obsP P fn ex K = valP fn ∧ TabsE P K h
  of := fun _ _ e => ⟨_, He.frT_in, congrArg (fun z : (Bool × List He.FnW) × Bool => z.1) e, tabsE_of (congrArg (fun z : (Bool × List He.FnW) × Bool => z.2) e)⟩
  keeps := fun _ _ _ q k => let ⟨K, hK, c, t⟩ := q; ⟨K, PySem.W.Frag.In.keeps hK k, c, fun p hp => ⟨(t p hp).1, (t p hp).2.1, k _ _ (t p hp).2.2⟩⟩
end G43
set_option Elab.async false
set_option linter.all false
set_option maxRecDepth 100000
set_option maxHeartbeats 4000000
namespace G43
open PySem
open L2 (V HO Hp upd upd_same upd_ne SqT)
def excCB (K : PySem.W.Frag) (D : Addr) : Bool :=
  decide (PySem.W.findIn K (.ref D) "__getattribute__" = some (some (.builtin "BaseException.__getattribute__"))) && decide (PySem.W.findIn K (.ref D) "__getattr__" = some none) && decide (PySem.W.subIn K (.ref D) (.type "BaseException") = some true) && PySem.W.hasDictIn K D &&
  decide (PySem.W.findIn K (.ref D) "__class__" = some (some (.builtin "object.__class__"))) && decide (PySem.W.specialIn K (.builtin "object.__class__") "__get__" = some (some (.builtin "getset_descriptor.__get__"))) && decide (PySem.W.takesIn K (.builtin "object.__class__") = some true) && decide (PySem.W.mroIn K D (.type "object") = some true)
end G43
set_option Elab.async false
set_option linter.all false
set_option maxRecDepth 100000
set_option maxHeartbeats 4000000
set_option Elab.async false
set_option linter.all false
set_option maxRecDepth 100000
set_option maxHeartbeats 4000000
namespace G43
open PySem
/-! ### parts -/
/-- top and bottom are shorter than b bits -/
def Sz (b : Nat) (q : Rat) : Prop := q.num.natAbs < 2 ^ b ∧ q.den < 2 ^ b
theorem natAbs_div_le (n : Int) (g : Nat) : (n / (g : Int)).natAbs ≤ n.natAbs := Int.natAbs_ediv_le_natAbs n g
theorem sz_mk {b : Nat} {n : Int} {d : Nat} (hn : n.natAbs < 2 ^ b) (hd : d < 2 ^ b) (h1 : 1 ≤ b) : Sz b (mkRat n d) := by
  have h2 : 1 < 2 ^ b := Nat.one_lt_pow (by omega) (by decide)
  refine ⟨?_, ?_⟩
  · rw [Rat.num_mkRat]
    split
    · simp; omega
    · exact Nat.lt_of_le_of_lt (natAbs_div_le _ _) hn
  · rw [Rat.den_mkRat]
    split
    · exact h2
    · exact Nat.lt_of_le_of_lt (Nat.div_le_self _ _) hd
theorem Sz.neg {a : Nat} {p : Rat} (s : Sz a p) : Sz a (-p) := by
  refine ⟨?_, s.2⟩
  rw [Rat.neg_num, Int.natAbs_neg]
  exact s.1
theorem Sz.add {a b : Nat} {p q : Rat} (s : Sz a p) (t : Sz b q) : Sz (a + b + 1) (p + q) := by
  rw [Rat.add_def']
  refine sz_mk ?_ ?_ (by omega)
  · refine Nat.lt_of_le_of_lt (Int.natAbs_add_le _ _) ?_
    rw [Int.natAbs_mul, Int.natAbs_mul, Int.natAbs_natCast, Int.natAbs_natCast]
    have h1 := Nat.mul_lt_mul'' s.1 t.2
    have h2 := Nat.mul_lt_mul'' t.1 s.2
    rw [← Nat.pow_add] at h1 h2
    rw [Nat.pow_succ]
    rw [Nat.add_comm b a] at h2
    omega
  · have h1 := Nat.mul_lt_mul'' s.2 t.2
    rw [← Nat.pow_add] at h1
    rw [Nat.pow_succ]
    omega
theorem Sz.sub {a b : Nat} {p q : Rat} (s : Sz a p) (t : Sz b q) : Sz (a + b + 1) (p - q) := by
  rw [Rat.sub_eq_add_neg]
  exact s.add t.neg
/-! sums as the program makes them -/
end G43
set_option Elab.async false
set_option linter.all false
set_option maxRecDepth 100000
set_option maxHeartbeats 4000000
namespace G43
open PySem
/-! ### pens -/
structure Pen where
  a : Int
  b : Int
  c : Int
  ha : 0 ≤ a
  hc : 0 ≤ c
  hc2 : c < 2147483647
def penL (p : Pen) : List PV := [.int p.a, .int p.b, .int p.c]
/-- a pen stands at place i -/
def PenH (i : Nat) (h : Hs) : Prop := ∃ p, h[i]? = some (some (penL p))
theorem PenH.lt {i : Nat} {h : Hs} (P : PenH i h) : i < h.length := by
  obtain ⟨p, e⟩ := P
  exact (List.getElem?_eq_some_iff.mp e).1
theorem PenH.set {i : Nat} {h : Hs} (P : PenH i h) (p : Pen) : PenH i (h.set i (some (penL p))) := ⟨p, List.getElem?_set_self P.lt⟩
end G43
set_option Elab.async false
set_option linter.all false
set_option maxRecDepth 100000
set_option maxHeartbeats 4000000
namespace G43
open PySem
/-! ### clocks -/
structure OkC (b : Nat) (g : Rat) (s : List (Rat × Rat)) : Prop where
  g1 : -12 ≤ g
  g2 : g ≤ 12
  l : s.length ≤ 6
  p : ∀ x ∈ s, 0 ≤ x.1 ∧ x.2 ≠ 0
  o : s.Pairwise (fun a b => a.1 < b.1)
  z : ∀ x ∈ s, Sz b x.1 ∧ Sz b x.2
  zg : Sz b g
end G43
namespace G43
open PySem
/-- what is drawn for sets -/
structure DrS (b n : Nat) (s : List (Rat × Rat)) : Prop where
  l : s.length ≤ n
  p : ∀ x ∈ s, 0 ≤ x.1 ∧ x.2 ≠ 0
  o : s.Pairwise (fun a b => a.1 < b.1)
  z : ∀ x ∈ s, Sz b x.1 ∧ Sz b x.2
theorem DrS.ok {b : Nat} {g : Rat} {s : List (Rat × Rat)} (d : DrS b 6 s) (g1 : -12 ≤ g) (g2 : g ≤ 12) (zg : Sz b g) : OkC b g s := ⟨g1, g2, d.l, d.p, d.o, d.z, zg⟩
theorem DrS.nil {b n : Nat} : DrS b n [] := ⟨by simp, by simp, .nil, by simp⟩
end G43
set_option Elab.async false
set_option linter.all false
set_option maxRecDepth 100000
set_option maxHeartbeats 4000000
namespace G43
open PySem
theorem DrS.sub {b n : Nat} {s t : List (Rat × Rat)} (d : DrS b n s) (h : t.Sublist s) : DrS b n t := ⟨Nat.le_trans h.length_le d.l, fun x hx => d.p x (h.subset hx), d.o.sublist h, fun x hx => d.z x (h.subset hx)⟩
/-! equality of what is the same -/
end G43
set_option Elab.async false
set_option linter.all false
set_option maxRecDepth 100000
set_option maxHeartbeats 4000000
set_option Elab.async false
set_option linter.all false
set_option maxRecDepth 100000
set_option maxHeartbeats 4000000
set_option Elab.async false
set_option linter.all false
set_option maxRecDepth 100000
set_option maxHeartbeats 4000000
set_option Elab.async false
set_option linter.all false
set_option maxRecDepth 100000
set_option maxHeartbeats 4000000
set_option Elab.async false
set_option linter.all false
set_option maxRecDepth 100000
set_option maxHeartbeats 0
namespace Law
open PySem G43
/-! ### the same in the small language -/
def b_is_whole : SL := (.cons (.ret (.and (.isi (.var 0) .int) (.nt (.isi (.var 0) .bool)))) .nil)
def d_is_whole : Df := ⟨"is_whole", 1, [], ["thing"], b_is_whole⟩
def b_is_from_to : SL := (.cons (.ret (.and (.call 0 (.cons (.var 0) .nil) []) (.chn .LtE .LtE (.var 1) (.var 0) (.var 2)))) .nil)
def d_is_from_to : Df := ⟨"is_from_to", 3, [], ["thing", "least", "most"], b_is_from_to⟩
def b_shared : SL := (.cons (.set 0 (.bi .abs (.cons (.var 0) .nil))) (.cons (.whl [] (.cmp .Gt (.var 0) (.cst (.int 0))) (.cons (.par [0, 1] (.cons (.bin .Mod (.var 1) (.var 0)) (.cons (.var 0) .nil))) .nil)) (.cons (.ret (.var 1)) .nil)))
def d_shared : Df := ⟨"shared", 2, [], ["one", "other"], b_shared⟩
def b_lowest : SL := (.cons (.iff (.cmp .Lt (.var 1) (.cst (.int 0))) (.cons (.par [0, 1] (.cons (.bin .Sub (.cst (.int 0)) (.var 0)) (.cons (.bin .Sub (.cst (.int 0)) (.var 1)) .nil))) .nil) .nil) (.cons (.set 2 (.call 2 (.cons (.var 0) (.cons (.var 1) .nil)) [])) (.cons (.ret (.tup (.cons (.bin .FloorDiv (.var 0) (.var 2)) (.cons (.bin .FloorDiv (.var 1) (.var 2)) .nil)))) .nil)))
def d_lowest : Df := ⟨"lowest", 2, [], ["top", "bottom", "factor"], b_lowest⟩
def b_is_part : SL := (.cons (.iff (.or (.nt (.isi (.var 0) .tuple)) (.or (.cmp .NotEq (.bi .len (.cons (.var 0) .nil)) (.cst (.int 2))) (.or (.nt (.call 0 (.cons (.idx (.var 0) (.cst (.int 0))) .nil) [])) (.nt (.call 0 (.cons (.idx (.var 0) (.cst (.int 1))) .nil) []))))) (.cons (.ret (.cst (.bl false))) .nil) .nil) (.cons (.ret (.and (.cmp .Gt (.idx (.var 0) (.cst (.int 1))) (.cst (.int 0))) (.cmp .Eq (.call 2 (.cons (.idx (.var 0) (.cst (.int 0))) (.cons (.idx (.var 0) (.cst (.int 1))) .nil)) []) (.cst (.int 1))))) .nil))
def d_is_part : Df := ⟨"is_part", 1, [], ["thing"], b_is_part⟩
def b_minus : SL := (.cons (.ret (.call 3 (.cons (.bin .Sub (.bin .Mult (.idx (.var 0) (.cst (.int 0))) (.idx (.var 1) (.cst (.int 1)))) (.bin .Mult (.idx (.var 1) (.cst (.int 0))) (.idx (.var 0) (.cst (.int 1))))) (.cons (.bin .Mult (.idx (.var 0) (.cst (.int 1))) (.idx (.var 1) (.cst (.int 1)))) .nil)) [])) .nil)
def d_minus : Df := ⟨"minus", 2, [], ["one", "other"], b_minus⟩
def b_below : SL := (.cons (.ret (.cmp .Lt (.bin .Mult (.idx (.var 0) (.cst (.int 0))) (.idx (.var 1) (.cst (.int 1)))) (.bin .Mult (.idx (.var 1) (.cst (.int 0))) (.idx (.var 0) (.cst (.int 1)))))) .nil)
def d_below : Df := ⟨"below", 2, [], ["one", "other"], b_below⟩
def b_is_clock_number : SL := (.cons (.ret (.call 1 (.cons (.var 0) (.cons (.cst (.int 0)) (.cons (.bin .Sub (.glo 1) (.cst (.int 1))) .nil))) [])) .nil)
def d_is_clock_number : Df := ⟨"is_clock_number", 1, [], ["thing"], b_is_clock_number⟩
def b_are_bounds : SL := (.cons (.iff (.or (.cmp .Is (.var 0) (.cst .non)) (.cmp .Is (.var 1) (.cst .non))) (.cons (.ret (.or (.call 4 (.cons (.var 0) .nil) []) (.call 4 (.cons (.var 1) .nil) []))) .nil) .nil) (.cons (.ret (.and (.call 4 (.cons (.var 0) .nil) []) (.and (.call 4 (.cons (.var 1) .nil) []) (.nt (.call 6 (.cons (.var 1) (.cons (.var 0) .nil)) []))))) .nil))
def d_are_bounds : Df := ⟨"are_bounds", 2, [], ["low", "high"], b_are_bounds⟩
def b_is_telling : SL := (.cons (.iff (.or (.nt (.isi (.var 0) .tuple)) (.cmp .NotEq (.bi .len (.cons (.var 0) .nil)) (.cst (.int 4)))) (.cons (.ret (.cst (.bl false))) .nil) .nil) (.cons (.iff (.or (.nt (.call 7 (.cons (.idx (.var 0) (.cst (.int 0))) .nil) [])) (.or (.nt (.call 7 (.cons (.idx (.var 0) (.cst (.int 1))) .nil) [])) (.cmp .Eq (.idx (.var 0) (.cst (.int 0))) (.idx (.var 0) (.cst (.int 1)))))) (.cons (.ret (.cst (.bl false))) .nil) .nil) (.cons (.ret (.call 8 (.cons (.idx (.var 0) (.cst (.int 2))) (.cons (.idx (.var 0) (.cst (.int 3))) .nil)) [])) .nil)))
def d_is_telling : Df := ⟨"is_telling", 1, [], ["thing"], b_is_telling⟩
def b_are_tellings : SL := (.cons (.ret (.and (.isi (.var 0) .tuple) (.and (.cmp .LtE (.bi .len (.cons (.var 0) .nil)) (.glo 2)) (.bi .all (.cons (.comp (.call 9 (.cons (.var 1) .nil) []) (.nm 1) (.seq (.var 0)) .nil) .nil))))) .nil)
def d_are_tellings : Df := ⟨"are_tellings", 1, [], ["thing", "one"], b_are_tellings⟩
def b_need_tellings : SL := (.cons (.iff (.nt (.call 10 (.cons (.var 0) .nil) [])) (.cons (.rsx 6) .nil) .nil) .nil)
def d_need_tellings : Df := ⟨"need_tellings", 1, [], ["thing"], b_need_tellings⟩
def b_is_row : SL := (.cons (.iff (.or (.nt (.isi (.var 0) .tuple)) (.or (.cmp .NotEq (.bi .len (.cons (.var 0) .nil)) (.glo 1)) (.nt (.bi .all (.cons (.comp (.call 4 (.cons (.var 1) .nil) []) (.nm 1) (.seq (.var 0)) .nil) .nil))))) (.cons (.ret (.cst (.bl false))) .nil) .nil) (.cons (.ret (.cmp .Eq (.idx (.var 0) (.cst (.int 0))) (.glo 0))) .nil))
def d_is_row : Df := ⟨"is_row", 1, [], ["thing", "one"], b_is_row⟩
def b_need_row : SL := (.cons (.iff (.nt (.call 12 (.cons (.var 0) .nil) [])) (.cons (.rsx 7) .nil) .nil) .nil)
def d_need_row : Df := ⟨"need_row", 1, [], ["thing"], b_need_row⟩
def b_is_kept : SL := (.cons (.unp (.cons (.nm 2) (.cons (.nm 3) (.cons (.nm 4) (.cons (.nm 5) .nil)))) (.var 0)) (.cons (.set 6 (.call 5 (.cons (.idx (.var 1) (.var 3)) (.cons (.idx (.var 1) (.var 2)) .nil)) [])) (.cons (.iff (.and (.cmp .IsNot (.var 4) (.cst .non)) (.call 6 (.cons (.var 6) (.cons (.var 4) .nil)) [])) (.cons (.ret (.cst (.bl false))) .nil) .nil) (.cons (.ret (.or (.cmp .Is (.var 5) (.cst .non)) (.nt (.call 6 (.cons (.var 5) (.cons (.var 6) .nil)) [])))) .nil))))
def d_is_kept : Df := ⟨"is_kept", 2, [], ["telling", "row", "one", "other", "low", "high", "apart"], b_is_kept⟩
def b_first_broken : SL := (.cons (.exp (.call 11 (.cons (.var 0) .nil) [])) (.cons (.exp (.call 13 (.cons (.var 1) .nil) [])) (.cons (.for [2, 3] (.cons (.nm 2) (.cons (.nm 3) .nil)) (.enm (.var 0)) (.cons (.iff (.nt (.call 14 (.cons (.var 3) (.cons (.var 1) .nil)) [])) (.cons (.ret (.var 2)) .nil) .nil) .nil)) (.cons (.ret (.cst .non)) .nil))))
def d_first_broken : Df := ⟨"first_broken", 2, [], ["tellings", "row", "number", "telling"], b_first_broken⟩
def b__law_cell_at : SL := (.cons (.iff (.cmp .Lt (.var 1) (.bi .len (.cons (.var 0) .nil))) (.cons (.ret (.idx (.var 0) (.var 1))) .nil) .nil) (.cons (.ret (.cst (.int 0))) .nil))
def d__law_cell_at : Df := ⟨"_law_cell_at", 2, [], ["_law_script", "_law_k"], b__law_cell_at⟩
def b__law_next : SL := (.cons (.set 0 (.bin .Mod (.bin .Add (.var 0) (.cst (.int 7919))) (.cst (.int 2147483647)))) (.cons (.ret (.bin .Mod (.bin .Add (.bin .Add (.bin .Mult (.var 0) (.var 0)) (.bin .Mult (.cst (.int 48271)) (.var 0))) (.cst (.int 12345))) (.cst (.int 2147483629)))) .nil))
def d__law_next : Df := ⟨"_law_next", 1, [], ["_law_seed"], b__law_next⟩
def b__law_pen_of : SL := (.cons (.set 1 (.bi .max (.cons (.var 0) (.cons (.bin .Sub (.cst (.int 0)) (.var 0)) .nil)))) (.cons (.ret (.mls (.cons (.var 1) (.cons (.bi .int (.cons (.cmp .GtE (.var 1) (.bin .Pow (.cst (.int 10)) (.cst (.int 18)))) .nil)) (.cons (.bin .Mod (.var 1) (.cst (.int 1000003))) .nil))))) .nil))
def d__law_pen_of : Df := ⟨"_law_pen_of", 1, [], ["_law_cell", "_law_left"], b__law_pen_of⟩
def b__law_draw : SL := (.cons (.iff (.and (.cmp .Eq (.idx (.var 0) (.cst (.int 1))) (.cst (.int 1))) (.cmp .Gt (.idx (.var 0) (.cst (.int 0))) (.cst (.int 0)))) (.cons (.set 2 (.bin .Mod (.idx (.var 0) (.cst (.int 0))) (.var 1))) (.cons (.sub (.var 0) (.cst (.int 0)) (.bin .FloorDiv (.idx (.var 0) (.cst (.int 0))) (.var 1))) (.cons (.ret (.var 2)) .nil))) .nil) (.cons (.sub (.var 0) (.cst (.int 2)) (.call 17 (.cons (.bin .Add (.call 17 (.cons (.idx (.var 0) (.cst (.int 2))) .nil) []) (.cst (.int 7))) .nil) [])) (.cons (.ret (.bin .Mod (.bin .FloorDiv (.idx (.var 0) (.cst (.int 2))) (.cst (.int 64))) (.var 1))) .nil)))
def d__law_draw : Df := ⟨"_law_draw", 2, [], ["_law_pen", "_law_many", "_law_found"], b__law_draw⟩
def b__law_made : SL := (.cons (.par [2, 3] (.cons (.bi .abs (.cons (.var 0) .nil)) (.cons (.var 1) .nil))) (.cons (.whl [] (.cmp .Gt (.var 3) (.cst (.int 0))) (.cons (.par [2, 3] (.cons (.var 3) (.cons (.bin .Mod (.var 2) (.var 3)) .nil))) .nil)) (.cons (.ret (.tup (.cons (.bin .FloorDiv (.var 0) (.var 2)) (.cons (.bin .FloorDiv (.var 1) (.var 2)) .nil)))) .nil)))
def d__law_made : Df := ⟨"_law_made", 2, [], ["_law_top", "_law_bottom", "_law_one", "_law_other"], b__law_made⟩
def b__law_sum : SL := (.cons (.ret (.call 20 (.cons (.bin .Add (.bin .Mult (.idx (.var 0) (.cst (.int 0))) (.idx (.var 1) (.cst (.int 1)))) (.bin .Mult (.idx (.var 1) (.cst (.int 0))) (.idx (.var 0) (.cst (.int 1))))) (.cons (.bin .Mult (.idx (.var 0) (.cst (.int 1))) (.idx (.var 1) (.cst (.int 1)))) .nil)) [])) .nil)
def d__law_sum : Df := ⟨"_law_sum", 2, [], ["_law_one", "_law_other"], b__law_sum⟩
def b__law_rest : SL := (.cons (.ret (.call 20 (.cons (.bin .Sub (.bin .Mult (.idx (.var 0) (.cst (.int 0))) (.idx (.var 1) (.cst (.int 1)))) (.bin .Mult (.idx (.var 1) (.cst (.int 0))) (.idx (.var 0) (.cst (.int 1))))) (.cons (.bin .Mult (.idx (.var 0) (.cst (.int 1))) (.idx (.var 1) (.cst (.int 1)))) .nil)) [])) .nil)
def d__law_rest : Df := ⟨"_law_rest", 2, [], ["_law_one", "_law_other"], b__law_rest⟩
def b__law_under : SL := (.cons (.ret (.cmp .Lt (.bin .Mult (.idx (.var 0) (.cst (.int 0))) (.idx (.var 1) (.cst (.int 1)))) (.bin .Mult (.idx (.var 1) (.cst (.int 0))) (.idx (.var 0) (.cst (.int 1)))))) .nil)
def d__law_under : Df := ⟨"_law_under", 2, [], ["_law_one", "_law_other"], b__law_under⟩
def b__law_some : SL := (.cons (.par [1, 2] (.cons (.call 19 (.cons (.var 0) (.cons (.cst (.int 40)) .nil)) []) (.cons (.bin .Add (.cst (.int 1)) (.call 19 (.cons (.var 0) (.cons (.idx (.lst (.cons (.cst (.int 1)) (.cons (.cst (.int 4)) (.cons (.cst (.int 12)) .nil)))) (.call 19 (.cons (.var 0) (.cons (.cst (.int 3)) .nil)) [])) .nil)) [])) .nil))) (.cons (.ret (.call 20 (.cons (.idx (.lst (.cons (.var 1) (.cons (.bin .Sub (.cst (.int 0)) (.var 1)) .nil))) (.call 19 (.cons (.var 0) (.cons (.cst (.int 2)) .nil)) [])) (.cons (.var 2) .nil)) [])) .nil))
def d__law_some : Df := ⟨"_law_some", 1, [], ["_law_pen", "_law_top", "_law_bottom"], b__law_some⟩
def b__law_up : SL := (.cons (.ret (.call 20 (.cons (.idx (.lst (.cons (.cst (.int 0)) (.cons (.call 19 (.cons (.var 0) (.cons (.cst (.int 30)) .nil)) []) (.cons (.cst (.int 1)) .nil)))) (.call 19 (.cons (.var 0) (.cons (.cst (.int 3)) .nil)) [])) (.cons (.bin .Add (.cst (.int 1)) (.call 19 (.cons (.var 0) (.cons (.cst (.int 6)) .nil)) [])) .nil)) [])) .nil)
def d__law_up : Df := ⟨"_law_up", 1, [], ["_law_pen"], b__law_up⟩
def b__law_row : SL := (.cons (.ret (.bin .Add (.tup (.cons (.tup (.cons (.cst (.int 0)) (.cons (.cst (.int 1)) .nil))) .nil)) (.bi .tuple (.cons (.comp (.call 24 (.cons (.var 0) .nil) []) (.nm 1) (.rng1 (.cst (.int 5))) .nil) .nil)))) .nil)
def d__law_row : Df := ⟨"_law_row", 1, [], ["_law_pen", "_law_clock"], b__law_row⟩
def b__law_true : SL := (.cons (.set 3 (.call 19 (.cons (.var 0) (.cons (.var 2) .nil)) [])) (.cons (.set 4 (.bin .Mod (.bin .Add (.bin .Add (.var 3) (.cst (.int 1))) (.call 19 (.cons (.var 0) (.cons (.bin .Sub (.var 2) (.cst (.int 1))) .nil)) [])) (.var 2))) (.cons (.set 5 (.call 22 (.cons (.idx (.var 1) (.var 4)) (.cons (.idx (.var 1) (.var 3)) .nil)) [])) (.cons (.par [6, 7] (.cons (.call 22 (.cons (.var 5) (.cons (.call 25 (.cons (.var 0) .nil) []) .nil)) []) (.cons (.call 21 (.cons (.var 5) (.cons (.call 25 (.cons (.var 0) .nil) []) .nil)) []) .nil))) (.cons (.set 8 (.idx (.lst (.cons (.tup (.cons (.var 6) (.cons (.var 7) .nil))) (.cons (.tup (.cons (.var 6) (.cons (.var 7) .nil))) (.cons (.tup (.cons (.var 6) (.cons (.cst .non) .nil))) (.cons (.tup (.cons (.cst .non) (.cons (.var 7) .nil))) .nil))))) (.call 19 (.cons (.var 0) (.cons (.cst (.int 4)) .nil)) []))) (.cons (.ret (.bin .Add (.tup (.cons (.var 3) (.cons (.var 4) .nil))) (.var 8))) .nil))))))
def d__law_true : Df := ⟨"_law_true", 3, [], ["_law_pen", "_law_row_here", "_law_near", "_law_one", "_law_other", "_law_apart", "_law_low", "_law_high", "_law_ends"], b__law_true⟩
def b__law_shifted : SL := (.cons (.set 2 (.call 24 (.cons (.var 0) .nil) [])) (.cons (.ret (.bin .Add (.shi (.var 1) (.cst (.int 2))) (.bi .tuple (.cons (.comp (.ite (.cmp .Is (.var 3) (.cst .non)) (.cst .non) (.call 21 (.cons (.var 3) (.cons (.var 2) .nil)) [])) (.nm 3) (.seq (.slo (.var 1) (.cst (.int 2)))) .nil) .nil)))) .nil))
def d__law_shifted : Df := ⟨"_law_shifted", 2, [], ["_law_pen", "_law_telling", "_law_by", "_law_bound"], b__law_shifted⟩
def b__law_is_part : SL := (.cons (.iff (.or (.nt (.isi (.var 0) .tuple)) (.cmp .NotEq (.bi .len (.cons (.var 0) .nil)) (.cst (.int 2)))) (.cons (.ret (.cst (.bl false))) .nil) .nil) (.cons (.iff (.nt (.bi .all (.cons (.comp (.and (.isi (.var 1) .int) (.nt (.isi (.var 1) .bool))) (.nm 1) (.seq (.var 0)) .nil) .nil))) (.cons (.ret (.cst (.bl false))) .nil) .nil) (.cons (.ret (.and (.cmp .Gt (.idx (.var 0) (.cst (.int 1))) (.cst (.int 0))) (.cmp .Eq (.call 20 (.cons (.idx (.var 0) (.cst (.int 0))) (.cons (.idx (.var 0) (.cst (.int 1))) .nil)) []) (.var 0)))) .nil)))
def d__law_is_part : Df := ⟨"_law_is_part", 1, [], ["_law_thing", "_law_one"], b__law_is_part⟩
def b__law_is_row : SL := (.cons (.iff (.or (.nt (.isi (.var 0) .tuple)) (.or (.cmp .NotEq (.bi .len (.cons (.var 0) .nil)) (.cst (.int 6))) (.nt (.bi .all (.cons (.comp (.call 29 (.cons (.var 1) .nil) []) (.nm 1) (.seq (.var 0)) .nil) .nil))))) (.cons (.ret (.cst (.bl false))) .nil) .nil) (.cons (.ret (.cmp .Eq (.idx (.var 0) (.cst (.int 0))) (.tup (.cons (.cst (.int 0)) (.cons (.cst (.int 1)) .nil))))) .nil))
def d__law_is_row : Df := ⟨"_law_is_row", 1, [], ["_law_thing", "_law_one"], b__law_is_row⟩
def b__law_broken : SL := (.cons (.for [2, 3, 4, 5, 6, 7] (.cons (.nm 2) (.cons (.cons (.nm 3) (.cons (.nm 4) (.cons (.nm 5) (.cons (.nm 6) .nil)))) .nil)) (.enm (.var 0)) (.cons (.set 7 (.call 22 (.cons (.idx (.var 1) (.var 4)) (.cons (.idx (.var 1) (.var 3)) .nil)) [])) (.cons (.iff (.or (.and (.cmp .IsNot (.var 5) (.cst .non)) (.call 23 (.cons (.var 7) (.cons (.var 5) .nil)) [])) (.and (.cmp .IsNot (.var 6) (.cst .non)) (.call 23 (.cons (.var 6) (.cons (.var 7) .nil)) []))) (.cons (.ret (.var 2)) .nil) .nil) .nil))) (.cons (.ret (.cst .non)) .nil))
def d__law_broken : Df := ⟨"_law_broken", 2, [], ["_law_tellings", "_law_row_here", "_law_number", "_law_one", "_law_other", "_law_low", "_law_high", "_law_apart"], b__law_broken⟩
def b_law_t1 : SL := (.cons (.set 7 (.bin .Add (.cst (.int 1)) (.call 19 (.cons (.var 2) (.cons (.cst (.int 5)) .nil)) []))) (.cons (.set 8 (.lst (.cons (.call 21 (.cons (.idx (.var 4) (.var 7)) (.cons (.tup (.cons (.cst (.int 1)) (.cons (.cst (.int 50)) .nil))) .nil)) []) (.cons (.call 22 (.cons (.idx (.var 4) (.var 7)) (.cons (.tup (.cons (.cst (.int 1)) (.cons (.cst (.int 50)) .nil))) .nil)) []) (.cons (.call 24 (.cons (.var 2) .nil) []) .nil))))) (.cons (.set 9 (.bin .Add (.lst (.cons (.var 4) (.cons (.call 26 (.cons (.var 2) .nil) []) (.cons (.bin .Mult (.tup (.cons (.tup (.cons (.cst (.int 0)) (.cons (.cst (.int 1)) .nil))) .nil)) (.cst (.int 6))) .nil)))) (.comp (.bin .Add (.bin .Add (.shi (.var 4) (.var 7)) (.tup (.cons (.var 10) .nil))) (.slo (.var 4) (.bin .Add (.var 7) (.cst (.int 1))))) (.nm 10) (.seq (.var 8)) .nil))) (.cons (.for [10] (.nm 10) (.seq (.bin .Add (.var 9) (.shi (.var 9) (.cst (.int 1))))) (.cons (.iff (.cmp .NotEq (.bi .repr (.cons (.call 15 (.cons (.var 5) (.cons (.var 10) .nil)) []) .nil)) (.bi .repr (.cons (.call 31 (.cons (.var 5) (.cons (.var 10) .nil)) []) .nil))) (.cons (.ret (.cst (.bl false))) .nil) .nil) .nil)) (.cons (.set 11 (.lst (.cons (.cst .non) (.cons (.shi (.var 4) (.cst (.int 5))) (.cons (.bin .Add (.var 4) (.shi (.var 4) (.cst (.int 1)))) (.cons (.bi .list (.cons (.var 4) .nil)) (.cons (.bin .Add (.tup (.cons (.tup (.cons (.cst (.int 1)) (.cons (.cst (.int 7)) .nil))) .nil)) (.slo (.var 4) (.cst (.int 1)))) (.cons (.bin .Add (.tup (.cons (.cst (.int 0)) .nil)) (.slo (.var 4) (.cst (.int 1)))) (.cons (.tup .nil) (.cons (.cst (.int 0)) .nil)))))))))) (.cons (.set 11 (.bin .Add (.var 11) (.comp (.bin .Add (.bin .Add (.shi (.var 4) (.var 7)) (.tup (.cons (.var 10) .nil))) (.slo (.var 4) (.bin .Add (.var 7) (.cst (.int 1))))) (.nm 10) (.seq (.lst (.cons (.cst .non) (.cons (.tup (.cons (.cst (.int 2)) (.cons (.cst (.int 2)) .nil))) (.cons (.tup (.cons (.cst (.int 0)) (.cons (.cst (.int 2)) .nil))) (.cons (.cst (.bl true)) (.cons (.cst (.int 0)) .nil))))))) .nil))) (.cons (.for [12] (.nm 12) (.seq (.var 11)) (.cons (.iff (.or (.call 30 (.cons (.var 12) .nil) []) (.cmp .NotEq (.word (.call 15 (.cons (.var 5) (.cons (.var 12) .nil)) [])) (.tup (.cons (.cst (.str "row")) .nil)))) (.cons (.ret (.cst (.bl false))) .nil) .nil) .nil)) .nil)))))))
def b_law : SL := (.cons (.for [1, 2] (.nm 1) (.seq (.bin .Add (.lst (.cons (.call 16 (.cons (.var 0) (.cons (.cst (.int 0)) .nil)) []) .nil)) (.slh (.var 0) (.cst (.int 1)) (.cst (.int 3))))) (.cons (.set 2 (.call 18 (.cons (.var 1) .nil) [])) (.cons (.for [3, 4, 5, 7, 8, 9, 11] (.nm 3) (.rng1 (.cst (.int 3))) (.cons (.par [4, 5] (.cons (.call 26 (.cons (.var 2) .nil) []) (.cons (.tup .nil) .nil))) (.cons (.for [6] (.nm 6) (.rng1 (.call 19 (.cons (.var 2) (.cons (.cst (.int 17)) .nil)) [])) (.cons (.set 5 (.bin .Add (.var 5) (.tup (.cons (.call 27 (.cons (.var 2) (.cons (.var 4) (.cons (.cst (.int 6)) .nil))) []) .nil)))) .nil)) (.cons (.iff (.and (.cmp .NotEq (.var 5) (.tup .nil)) (.cmp .Eq (.call 19 (.cons (.var 2) (.cons (.cst (.int 2)) .nil)) []) (.cst (.int 0)))) (.cons (.set 5 (.bin .Add (.shi (.var 5) (.neg (.cst (.int 1)))) (.tup (.cons (.call 28 (.cons (.var 2) (.cons (.idx (.var 5) (.neg (.cst (.int 1)))) .nil)) []) .nil)))) .nil) .nil) b_law_t1)))) .nil))) (.cons (.ret (.cst (.bl true))) .nil))
def d_law : Df := ⟨"law", 1, [], ["_law_script", "_law_cell", "_law_pen", "_law_turn", "_law_row_here", "_law_tellings", "_law_lap", "_law_at", "_law_near", "_law_rows", "_law_one", "_law_bad", "_law_thing"], b_law⟩
def pg : Pg := { defs := [d_is_whole, d_is_from_to, d_shared, d_lowest, d_is_part, d_minus, d_below, d_is_clock_number, d_are_bounds, d_is_telling, d_are_tellings, d_need_tellings, d_is_row, d_need_row, d_is_kept, d_first_broken, d__law_cell_at, d__law_next, d__law_pen_of, d__law_draw, d__law_made, d__law_sum, d__law_rest, d__law_under, d__law_some, d__law_up, d__law_row, d__law_true, d__law_shifted, d__law_is_part, d__law_is_row, d__law_broken, d_law], cons := [("NOUGHT", .tup [.int 0, .int 1]), ("CLOCKS", .int 6), ("MOST_TELLINGS", .int 16)], blt := ["abs", "enumerate", "max", "isinstance", "int", "tuple", "all", "len", "range", "bool", "list", "repr"], exc := [("NoPart", "part"), ("NoNumber", "number"), ("NoMoment", "moment"), ("NoClock", "clock"), ("NoHour", "hour"), ("NoTelling", "telling"), ("NoTellings", "tellings"), ("NoRow", "row"), ("Apart", "apart"), ("Twice", "twice"), ("Missing", "missing"), ("NoDeed", "deed"), ("NoAir", "air"), ("NoSignal", "signal"), ("NoQuarrel", "quarrel"), ("NoCarriage", "carriage"), ("NoLine", "line")], rai := [6, 7], lm := true }
end Law
set_option Elab.async false
set_option linter.all false
set_option maxRecDepth 100000
set_option maxHeartbeats 4000000
namespace Law
open PySem PySem.Spec PyProof.Rows G43
open L2 (V HO Hp SqL SqT upd upd_same upd_ne Cx VK TE TA TS PE PA PS PSs XK Sp Room Vals Inv)
def top (i : Nat) : Stmt := PySem.Challenge.pw_gunclocks_k22_rows_kept.main.body.getD i (.Pass ⟨0, 0, 0, 0⟩)
def clsN : List Str := ["NoPart", "NoNumber", "NoMoment", "NoClock", "NoHour", "NoTelling", "NoTellings", "NoRow", "Apart", "Twice", "Missing", "NoDeed", "NoAir", "NoSignal", "NoQuarrel", "NoCarriage", "NoLine", "TooMany", "NoText"]
/-! ### what the head must tell of the errors -/
def others : List Str := ["ValueError", "LookupError", "TypeError", "ArithmeticError", "RuntimeError"]
def caL (K : PySem.W.Frag) (j : Nat) : Addr := He.ga K (clsN.getD j "")
def exB (K : PySem.W.Frag) : Bool := (clsN.all fun x => (He.Fa.glo x).ok K) && (List.range 17).all (fun c => excCB K (caL K c) && (List.range 19).all (fun j => decide (PySem.W.kitOne K (.ref (caL K c)) (.ref (caL K j)) = some (decide (c = j)))) &&
    decide (PySem.W.kitOne K (.ref (caL K c)) (.type "ValueError") = some true) && decide (PySem.W.kitAny K (.ref (caL K c)) [.type "LookupError", .type "TypeError", .type "ArithmeticError", .type "RuntimeError"] = some false) &&
    decide (PySem.W.exmOne K (.ref (caL K c)) (.ref (He.ga K "ClockError")) = some true)) && (He.Fa.glo "ClockError").ok K && (others.all fun x => (He.Fa.free x).ok K) && (He.Fa.free "isinstance").ok K && (He.Fa.glo "_law_flags").ok K && (He.Fa.glo "_law_word").ok K
def t__law_flags : He.DefD := ⟨("_law_flags", none), "_law_flags", "_law_flags", L2.defArgs (top 59), L2.defBody (top 59), L2.defScope (top 59), [], []⟩
def t__law_word : He.DefD := ⟨("_law_word", none), "_law_word", "_law_word", L2.defArgs (top 60), L2.defBody (top 60), L2.defScope (top 60), [], []⟩
def fn2 : List He.DefD := [t__law_flags, t__law_word]
end Law
set_option Elab.async false
set_option linter.all false
set_option maxRecDepth 100000
set_option maxHeartbeats 0
namespace Law
open PySem G43
/-! ### the text -/
def t_is_whole : He.DefD := ⟨("is_whole", none), "is_whole", "is_whole", L2.defArgs (top 23), L2.defBody (top 23), L2.defScope (top 23), [], []⟩
def t_is_from_to : He.DefD := ⟨("is_from_to", none), "is_from_to", "is_from_to", L2.defArgs (top 24), L2.defBody (top 24), L2.defScope (top 24), [], []⟩
def t_shared : He.DefD := ⟨("shared", none), "shared", "shared", L2.defArgs (top 25), L2.defBody (top 25), L2.defScope (top 25), [], []⟩
def t_lowest : He.DefD := ⟨("lowest", none), "lowest", "lowest", L2.defArgs (top 26), L2.defBody (top 26), L2.defScope (top 26), [], []⟩
def t_is_part : He.DefD := ⟨("is_part", none), "is_part", "is_part", L2.defArgs (top 27), L2.defBody (top 27), L2.defScope (top 27), [], []⟩
def t_minus : He.DefD := ⟨("minus", none), "minus", "minus", L2.defArgs (top 28), L2.defBody (top 28), L2.defScope (top 28), [], []⟩
def t_below : He.DefD := ⟨("below", none), "below", "below", L2.defArgs (top 29), L2.defBody (top 29), L2.defScope (top 29), [], []⟩
def t_is_clock_number : He.DefD := ⟨("is_clock_number", none), "is_clock_number", "is_clock_number", L2.defArgs (top 33), L2.defBody (top 33), L2.defScope (top 33), [], []⟩
def t_are_bounds : He.DefD := ⟨("are_bounds", none), "are_bounds", "are_bounds", L2.defArgs (top 34), L2.defBody (top 34), L2.defScope (top 34), [], []⟩
def t_is_telling : He.DefD := ⟨("is_telling", none), "is_telling", "is_telling", L2.defArgs (top 35), L2.defBody (top 35), L2.defScope (top 35), [], []⟩
def t_are_tellings : He.DefD := ⟨("are_tellings", none), "are_tellings", "are_tellings", L2.defArgs (top 36), L2.defBody (top 36), L2.defScope (top 36), [], []⟩
def t_need_tellings : He.DefD := ⟨("need_tellings", none), "need_tellings", "need_tellings", L2.defArgs (top 37), L2.defBody (top 37), L2.defScope (top 37), [], []⟩
def t_is_row : He.DefD := ⟨("is_row", none), "is_row", "is_row", L2.defArgs (top 38), L2.defBody (top 38), L2.defScope (top 38), [], []⟩
def t_need_row : He.DefD := ⟨("need_row", none), "need_row", "need_row", L2.defArgs (top 39), L2.defBody (top 39), L2.defScope (top 39), [], []⟩
def t_is_kept : He.DefD := ⟨("is_kept", none), "is_kept", "is_kept", L2.defArgs (top 40), L2.defBody (top 40), L2.defScope (top 40), [], []⟩
def t_first_broken : He.DefD := ⟨("first_broken", none), "first_broken", "first_broken", L2.defArgs (top 41), L2.defBody (top 41), L2.defScope (top 41), [], []⟩
def t__law_cell_at : He.DefD := ⟨("_law_cell_at", none), "_law_cell_at", "_law_cell_at", L2.defArgs (top 43), L2.defBody (top 43), L2.defScope (top 43), [], []⟩
def t__law_next : He.DefD := ⟨("_law_next", none), "_law_next", "_law_next", L2.defArgs (top 44), L2.defBody (top 44), L2.defScope (top 44), [], []⟩
def t__law_pen_of : He.DefD := ⟨("_law_pen_of", none), "_law_pen_of", "_law_pen_of", L2.defArgs (top 45), L2.defBody (top 45), L2.defScope (top 45), [], []⟩
def t__law_draw : He.DefD := ⟨("_law_draw", none), "_law_draw", "_law_draw", L2.defArgs (top 46), L2.defBody (top 46), L2.defScope (top 46), [], []⟩
def t__law_made : He.DefD := ⟨("_law_made", none), "_law_made", "_law_made", L2.defArgs (top 47), L2.defBody (top 47), L2.defScope (top 47), [], []⟩
def t__law_sum : He.DefD := ⟨("_law_sum", none), "_law_sum", "_law_sum", L2.defArgs (top 48), L2.defBody (top 48), L2.defScope (top 48), [], []⟩
def t__law_rest : He.DefD := ⟨("_law_rest", none), "_law_rest", "_law_rest", L2.defArgs (top 49), L2.defBody (top 49), L2.defScope (top 49), [], []⟩
def t__law_under : He.DefD := ⟨("_law_under", none), "_law_under", "_law_under", L2.defArgs (top 50), L2.defBody (top 50), L2.defScope (top 50), [], []⟩
def t__law_some : He.DefD := ⟨("_law_some", none), "_law_some", "_law_some", L2.defArgs (top 51), L2.defBody (top 51), L2.defScope (top 51), [], []⟩
def t__law_up : He.DefD := ⟨("_law_up", none), "_law_up", "_law_up", L2.defArgs (top 52), L2.defBody (top 52), L2.defScope (top 52), [], []⟩
def t__law_row : He.DefD := ⟨("_law_row", none), "_law_row", "_law_row", L2.defArgs (top 53), L2.defBody (top 53), L2.defScope (top 53), [], []⟩
def t__law_true : He.DefD := ⟨("_law_true", none), "_law_true", "_law_true", L2.defArgs (top 54), L2.defBody (top 54), L2.defScope (top 54), [], []⟩
def t__law_shifted : He.DefD := ⟨("_law_shifted", none), "_law_shifted", "_law_shifted", L2.defArgs (top 55), L2.defBody (top 55), L2.defScope (top 55), [], []⟩
def t__law_is_part : He.DefD := ⟨("_law_is_part", none), "_law_is_part", "_law_is_part", L2.defArgs (top 56), L2.defBody (top 56), L2.defScope (top 56), [], []⟩
def t__law_is_row : He.DefD := ⟨("_law_is_row", none), "_law_is_row", "_law_is_row", L2.defArgs (top 57), L2.defBody (top 57), L2.defScope (top 57), [], []⟩
def t__law_broken : He.DefD := ⟨("_law_broken", none), "_law_broken", "_law_broken", L2.defArgs (top 58), L2.defBody (top 58), L2.defScope (top 58), [], []⟩
def t_law : He.DefD := ⟨("law", none), "law", "law", L2.defArgs (top 61), L2.defBody (top 61), L2.defScope (top 61), [], []⟩
def fn : List He.DefD := [t_is_whole, t_is_from_to, t_shared, t_lowest, t_is_part, t_minus, t_below, t_is_clock_number, t_are_bounds, t_is_telling, t_are_tellings, t_need_tellings, t_is_row, t_need_row, t_is_kept, t_first_broken, t__law_cell_at, t__law_next, t__law_pen_of, t__law_draw, t__law_made, t__law_sum, t__law_rest, t__law_under, t__law_some, t__law_up, t__law_row, t__law_true, t__law_shifted, t__law_is_part, t__law_is_row, t__law_broken, t_law]
/-! ### the same in the small language -/
/-! ### they say the same -/
/-! ### the head -/
def nm0 : List PySem.Str := ["ClockError", "NoPart", "NoNumber", "NoMoment", "NoClock", "NoHour", "NoTelling", "NoTellings", "NoRow", "Apart", "Twice", "Missing", "NoDeed", "NoAir", "NoSignal", "NoQuarrel", "NoCarriage", "NoLine", "TooMany", "NoText", "NOUGHT", "is_whole", "is_from_to", "shared", "lowest", "is_part", "minus", "below", "CLOCKS", "MOST_TELLINGS"]
def nm1 : List PySem.Str := ["is_clock_number", "are_bounds", "is_telling", "are_tellings", "need_tellings", "is_row", "need_row", "is_kept", "first_broken", "_law_cell_at", "_law_next", "_law_pen_of", "_law_draw", "_law_made", "_law_sum", "_law_rest", "_law_under", "_law_some", "_law_up", "_law_row", "_law_true", "_law_shifted", "_law_is_part", "_law_is_row", "_law_broken", "_law_flags", "_law_word"]
def names : List PySem.Str := nm0 ++ nm1
abbrev hk : PySem.W.Hook := hookP 4 pg (fn ++ fn2) exB
def obI (s : PySem.W.SharedT) : (Bool × List He.FnW) × Bool := seeP 4 pg (fn ++ fn2) exB (HandSHeadRun.getT s)
theorem run (w : World) : HandSHeadRun.RunEq R (PySem.W.view R.prog [61]) hk obI 60000 names w := by
  intro os
  kernel_rfl
end Law
set_option Elab.async false
set_option linter.all false
set_option maxRecDepth 100000
set_option maxHeartbeats 0
set_option Elab.async false
set_option linter.all false
set_option maxRecDepth 100000
set_option maxHeartbeats 0
open PySem PySem.W PySem.Calls PyProof.Rows
set_option Elab.async false
set_option linter.all false
set_option maxRecDepth 100000
set_option maxHeartbeats 0
set_option Elab.async false
set_option linter.all false
set_option maxRecDepth 100000
set_option maxHeartbeats 0
open PySem PySem.W PySem.Calls PyProof.Rows
end
set_option Elab.async false
set_option linter.all false
set_option maxRecDepth 100000
set_option maxHeartbeats 0
namespace Law
open PySem PySem.W PySem.Calls PyProof.Rows
end Law
set_option Elab.async false
set_option linter.all false
set_option maxRecDepth 100000
set_option maxHeartbeats 4000000
namespace G43
open PySem
/-! ### values without addresses -/
structure XV where
  cls : Nat
  flds : List (Str × PV)
abbrev QV := RV → Hs → Prop
abbrev QX := XV → Hs → Prop
abbrev CallT := Nat → List RV → Hs → QV → QX → Prop
/-! ### the small language -/
/-! ### equality, reading -/
mutual
def peq : PV → PV → Bool
  | .non, .non => true
  | .bl a, .bl b => a == b
  | .bl a, .int j => (if a then 1 else 0) == j
  | .int i, .bl b => i == (if b then 1 else 0)
  | .int i, .int j => i == j
  | .str x, .str y => x == y
  | .lst xs, .lst ys => peqL xs ys
  | .tup xs, .tup ys => peqL xs ys
  | _, _ => false
def peqL : List PV → List PV → Bool
  | [], [] => true
  | x :: xs, y :: ys => peq x y && peqL xs ys
  | [], _ :: _ => false
  | _ :: _, [] => false
end
/-- plain data, at most n deep -/
def Dt : Nat → PV → Prop
  | _, .non => True
  | _, .bl _ => True
  | _, .int _ => True
  | _, .str s => PyData.strOk s = true
  | n + 1, .tup l => ∀ x ∈ l, Dt n x
  | n + 1, .lst l => ∀ x ∈ l, Dt n x
  | _, _ => False
def tyOf : PV → String
  | .non => "NoneType"
  | .bl _ => "bool"
  | .int _ => "int"
  | .str _ => "str"
  | .tup _ => "tuple"
  | .lst _ => "list"
  | .fn _ => "function"
  | .obj _ => "object"
  | .scr _ => "list"
  | .dct => "dict"
def isB : PV → Ty → Option Bool
  | .fn _, _ => none
  | .obj _, _ => none
  | .scr _, _ => none
  | p, .int => some (tyOf p == "int" || tyOf p == "bool")
  | p, .bool => some (tyOf p == "bool")
  | p, .tuple => some (tyOf p == "tuple")
  | p, .str => some (tyOf p == "str")
  | p, .list => some (tyOf p == "list")
def atI {α : Type} (xs : List α) (i : Int) : Option α := L2.atI xs i
mutual
def dat : PV → PyData
  | .non => .none
  | .bl b => .bool b
  | .int i => .int i
  | .str x => .str x
  | .tup l => .tuple (datL l)
  | .lst l => .list (datL l)
  | .fn _ => .none
  | .obj _ => .none
  | .scr _ => .none
  | .dct => .none
def datL : List PV → List PyData
  | [] => []
  | x :: r => dat x :: datL r
end
def flat : PV → Bool
  | .non => true
  | .bl _ => true
  | .int _ => true
  | .str _ => true
  | _ => false
/-! ### operations -/
def wpBin : Operator → PV → PV → (PV → Prop) → Prop
  | .Add, .int i, .int j, Q => Q (.int (i + j))
  | .Add, .str a, .str b, Q => a.length + b.length ≤ sizeLine ∧ Q (.str (a ++ b))
  | .Add, .lst a, .lst b, Q => a.length + b.length ≤ sizeLine ∧ Q (.lst (a ++ b))
  | .Add, .tup a, .tup b, Q => a.length + b.length ≤ sizeLine ∧ Q (.tup (a ++ b))
  | .Sub, .int i, .int j, Q => Q (.int (i - j))
  | .Mult, .int i, .int j, Q => L2.CMulW i j ∧ Q (.int (i * j))
  | .Mult, .tup l, .int j, Q => (l ≠ [] ∧ 2 ≤ j ∧ j ≤ 1000 ∧ l.length ≤ 1000) ∧ Q (.tup (List.replicate j.toNat l).flatten)
  | .FloorDiv, .int i, .int j, Q => L2.CDivW i j ∧ Q (.int (i / j))
  | .Mod, .int i, .int j, Q => 0 < j ∧ Q (.int (i % j))
  | .Pow, .int i, .int j, Q => L2.CPow i j ∧ Q (.int (i ^ j.toNat))
  | _, _, _, _ => False
def inL (x : PV) : List PV → Bool
  | [] => false
  | y :: r => peq y x || inL x r
def isNon : PV → Bool
  | .non => true
  | _ => false
def wpCmp : CmpOp → PV → PV → (Bool → Prop) → Prop
  | .Eq, .str a, .str b, Q => Q (a == b)
  | .NotEq, .str a, .str b, Q => Q (!(a == b))
  | .Eq, a, b, Q => Dt 60 a ∧ Dt 60 b ∧ Q (peq a b)
  | .NotEq, a, b, Q => Dt 60 a ∧ Dt 60 b ∧ Q (!peq a b)
  | .Lt, .int i, .int j, Q => Q (decide (i < j))
  | .LtE, .int i, .int j, Q => Q (decide (i ≤ j))
  | .Gt, .int i, .int j, Q => Q (decide (j < i))
  | .GtE, .int i, .int j, Q => Q (decide (j ≤ i))
  | .Is, a, .non, Q => Q (isNon a)
  | .IsNot, a, .non, Q => Q (!isNon a)
  | .In, a, .lst l, Q => Dt 60 a ∧ Dt 60 (.lst l) ∧ Q (inL a l)
  | .NotIn, a, .lst l, Q => Dt 60 a ∧ Dt 60 (.lst l) ∧ Q (!inL a l)
  | .In, a, .tup l, Q => flat a = true ∧ l.all flat = true ∧ Q (inL a l)
  | .NotIn, a, .tup l, Q => flat a = true ∧ l.all flat = true ∧ Q (!inL a l)
  | _, _, _, _ => False
def bools : List PV → Option (List Bool)
  | [] => some []
  | .bl b :: r => (bools r).map (b :: ·)
  | _ => none
def wpBi : BI → List PV → (PV → Prop) → Prop
  | .len, [.tup l], Q => Q (.int l.length)
  | .len, [.lst l], Q => Q (.int l.length)
  | .len, [.scr l], Q => Q (.int l.length)
  | .abs, [.int i], Q => Q (.int (if i < 0 then -i else i))
  | .max, [.int i, .int j], Q => Q (.int (if j > i then j else i))
  | .int, [.int i], Q => Q (.int i)
  | .int, [.bl b], Q => Q (.int (if b then 1 else 0))
  | .tuple, [.lst l], Q => Q (.tup l)
  | .tuple, [.tup l], Q => Q (.tup l)
  | .list, [.lst l], Q => Q (.lst l)
  | .list, [.tup l], Q => Q (.lst l)
  | .repr, [p], Q => Dt 60 p ∧ (dat p).showable = true ∧ (dat p).shown.length ≤ sizeLine ∧ Q (.str (dat p).shown)
  | .str, [.int i], Q => i.natAbs.log2 < 1920 ∧ Q (.str (toString i))
  | .all, [.lst l], Q => ∃ bs, bools l = some bs ∧ Q (.bl (bs.all id))
  | .any, [.lst l], Q => ∃ bs, bools l = some bs ∧ Q (.bl (bs.any id))
  | _, _, _ => False
/-- a part of a list: as the layer's cutV -/
def cut (xs : List PV) (lo hi : Option Int) : List PV := (xs.drop (HT.sIx xs.length 0 lo)).take (HT.sIx xs.length xs.length hi - HT.sIx xs.length 0 lo)
def wpSl : PV → Option Int → Option Int → (PV → Prop) → Prop
  | .lst l, lo, hi, Q => Q (.lst (cut l lo hi))
  | .tup l, lo, hi, Q => Q (.tup (cut l lo hi))
  | .scr l, lo, hi, Q => Q (.lst (cut l lo hi))
  | _, _, _, _ => False
def wpIx : PV → PV → (PV → Prop) → Prop
  | .lst l, .int i, Q => ∃ v, atI l i = some v ∧ Q v
  | .tup l, .int i, Q => ∃ v, atI l i = some v ∧ Q v
  | .scr l, .int i, Q => ∃ v, atI l i = some v ∧ Q v
  | _, _, _ => False
/-! ### targets, loops -/
mutual
def bindT : Tg → PV → Env → (Env → Prop) → Prop
  | .nm i, x, ρ, k => k (ρ.set i (some (.pv x)))
  | .nil, x, ρ, k => x = .tup [] ∧ k ρ
  | .cons a r, x, ρ, k => ∃ y ys, x = .tup (y :: ys) ∧ bindT a y ρ fun ρ' => bindL r ys ρ' k
def bindL : Tg → List PV → Env → (Env → Prop) → Prop
  | .nm _, _, _, _ => False
  | .nil, l, ρ, k => l = [] ∧ k ρ
  | .cons a r, l, ρ, k => ∃ x xs, l = x :: xs ∧ bindT a x ρ fun ρ' => bindL r xs ρ' k
end
def kill (ρ : Env) : List Nat → Env
  | [] => ρ
  | v :: vs => (kill ρ vs).set v none
def setAll (ρ : Env) : List Nat → List RV → Env
  | i :: is, v :: vs => setAll (ρ.set i (some v)) is vs
  | _, _ => ρ
def loopT (gd : Hs → Prop) (step : PV → Env → Hs → (Env → Hs → Prop) → Prop) : List PV → Env → Hs → (Env → Hs → Prop) → Prop
  | [], ρ, h, nx => gd h ∧ nx ρ h
  | x :: r, ρ, h, nx => gd h ∧ step x ρ h fun ρ' h' => loopT gd step r ρ' h' nx
def compT (gd : Hs → Prop) (step : PV → Hs → (List PV → Hs → Prop) → Prop) : List PV → Hs → (List PV → Hs → Prop) → Prop
  | [], h, Q => gd h ∧ Q [] h
  | x :: r, h, Q => gd h ∧ step x h fun y h' => compT gd step r h' fun l h'' => Q (y ++ l) h''
example (a r : Tg) (x : PV) (ρ : Env) (k : Env → Prop) : bindT (.cons a r) x ρ k = ∃ y ys, x = .tup (y :: ys) ∧ bindT a y ρ fun ρ' => bindL r ys ρ' k := rfl
def rngL (lo : Int) (n : Nat) : List PV := (List.range n).map fun (i : Nat) => PV.int (lo + i)
def enmL (l : List PV) : List PV := l.zipIdx.map fun p => PV.tup [.int p.2, p.1]
def zipL (a b : List PV) : List PV := (a.zip b).map fun p => PV.tup [p.1, p.2]
/-! ### expressions -/
section
variable (P : Pg) (C : CallT)
mutual
def wpE : E → Env → Hs → QV → QX → Prop
  | .var i, ρ, h, Q, _ => ∃ v, ρ[i]? = some (some v) ∧ Q v h
  | .cst p, _, h, Q, _ => Q (.pv p) h
  | .glo g, _, h, Q, _ => ∃ x p, P.cons[g]? = some (x, p) ∧ Q (.pv p) h
  | .bin op a b, ρ, h, Q, X => wpE a ρ h (fun x h1 => wpE b ρ h1 (fun y h2 => ∃ p q, val h2 x = some p ∧ val h2 y = some q ∧ wpBin op p q fun r => Q (.pv r) h2) X) X
  | .neg a, ρ, h, Q, X => wpE a ρ h (fun x h1 => ∃ i, x = .pv (.int i) ∧ Q (.pv (.int (-i))) h1) X
  | .nt a, ρ, h, Q, X => wpE a ρ h (fun x h1 => ∃ c, x = .pv (.bl c) ∧ Q (.pv (.bl (!c))) h1) X
  | .and a b, ρ, h, Q, X => wpE a ρ h (fun x h1 => ∃ c, x = .pv (.bl c) ∧ if c = true then wpE b ρ h1 Q X else Q (.pv (.bl false)) h1) X
  | .or a b, ρ, h, Q, X => wpE a ρ h (fun x h1 => ∃ c, x = .pv (.bl c) ∧ if c = true then Q (.pv (.bl true)) h1 else wpE b ρ h1 Q X) X
  | .cmp op a b, ρ, h, Q, X => wpE a ρ h (fun x h1 => wpE b ρ h1 (fun y h2 => ∃ p q, val h2 x = some p ∧ val h2 y = some q ∧ wpCmp op p q fun r => Q (.pv (.bl r)) h2) X) X
  | .chn op op' a b c, ρ, h, Q, X => wpE a ρ h (fun x h1 => wpE b ρ h1 (fun y h2 => ∃ p q, val h2 x = some p ∧ val h2 y = some q ∧ wpCmp op p q fun r => if r = true then
      wpE c ρ h2 (fun z h3 => ∃ p q, val h3 y = some p ∧ val h3 z = some q ∧ wpCmp op' p q fun r => Q (.pv (.bl r)) h3) X else Q (.pv (.bl false)) h2) X) X
  | .ite t a b, ρ, h, Q, X => wpE t ρ h (fun x h1 => ∃ c, x = .pv (.bl c) ∧ if c = true then wpE a ρ h1 Q X else wpE b ρ h1 Q X) X
  | .call f es dv, ρ, h, Q, X => wpL es ρ h (fun vs h1 => C f (vs ++ dv.map .pv) h1 Q X) X
  | .bi b es, ρ, h, Q, X => wpL es ρ h (fun vs h1 => ∃ ps, vs.mapM (val h1) = some ps ∧ wpBi b ps fun r => Q (.pv r) h1) X
  | .isi a t, ρ, h, Q, X => wpE a ρ h (fun x h1 => ∃ p b, val h1 x = some p ∧ isB p t = some b ∧ Q (.pv (.bl b)) h1) X
  | .idx a i, ρ, h, Q, X => wpE a ρ h (fun x h1 => wpE i ρ h1 (fun y h2 => ∃ p q, val h2 x = some p ∧ y = .pv q ∧ wpIx p q fun r => Q (.pv r) h2) X) X
  | .slo a lo, ρ, h, Q, X => wpE a ρ h (fun x h1 => wpE lo ρ h1 (fun y h2 => ∃ p i, val h2 x = some p ∧ y = .pv (.int i) ∧ wpSl p (some i) none fun r => Q (.pv r) h2) X) X
  | .shi a hi, ρ, h, Q, X => wpE a ρ h (fun x h1 => wpE hi ρ h1 (fun y h2 => ∃ p i, val h2 x = some p ∧ y = .pv (.int i) ∧ wpSl p none (some i) fun r => Q (.pv r) h2) X) X
  | .slh a lo hi, ρ, h, Q, X => wpE a ρ h (fun x h1 => wpE lo ρ h1 (fun y h2 => ∃ i, y = .pv (.int i) ∧ wpE hi ρ h2 (fun z h3 => ∃ p j, val h3 x = some p ∧ z = .pv (.int j) ∧ wpSl p (some i) (some j) fun r => Q (.pv r) h3) X) X) X
  | .tup es, ρ, h, Q, X => wpL es ρ h (fun vs h1 => ∃ ps, vs = ps.map RV.pv ∧ Q (.pv (.tup ps)) h1) X
  | .lst es, ρ, h, Q, X => wpL es ρ h (fun vs h1 => ∃ ps, vs = ps.map RV.pv ∧ Q (.pv (.lst ps)) h1) X
  | .mls es, ρ, h, Q, X => wpL es ρ h (fun vs h1 => ∃ ps, vs = ps.map RV.pv ∧ Q (.ref h1.length) (h1 ++ [some ps])) X
  | .comp elt tg it ifs, ρ, h, Q, X => wpI it ρ h (fun l gd h1 => l.length ≤ sizeLine ∧
      compT gd (fun x h2 k => bindT tg x (kill ρ tg.slots) fun ρ1 => wpTs ifs ρ1 h2 (fun b h3 => if b = true then wpE elt ρ1 h3 (fun y h4 => ∃ p, y = .pv p ∧ k [p] h4) (fun _ _ => False) else k [] h3) (fun _ _ => False)) l h1 fun r h2 => Q (.pv (.lst r)) h2) X
  | .word e, ρ, h, Q, X => wpE e ρ h (fun v h1 => ∃ p, v = .pv p ∧ Q (.pv (.tup [.str "told", p])) h1) (fun x h1 => ∃ w, P.exc[x.cls]? = some w ∧ x.flds = [] ∧ Q (.pv (.tup [.str w.2])) h1)
def wpL : EL → Env → Hs → (List RV → Hs → Prop) → QX → Prop
  | .nil, _, h, Q, _ => Q [] h
  | .cons e r, ρ, h, Q, X => wpE e ρ h (fun v h1 => wpL r ρ h1 (fun vs h2 => Q (v :: vs) h2) X) X
def wpI : It → Env → Hs → (List PV → (Hs → Prop) → Hs → Prop) → QX → Prop
  | .seq e, ρ, h, Q, X => wpE e ρ h (fun x h1 => match x with
      | .pv (.lst l) => Q l (fun _ => True) h1
      | .pv (.tup l) => Q l (fun _ => True) h1
      | .pv (.scr l) => Q l (fun _ => True) h1
      | .ref i => ∃ c, h1[i]? = some (some c) ∧ Q c (fun h => h[i]? = some (some c)) h1
      | _ => False) X
  | .rng1 e, ρ, h, Q, X => wpE e ρ h (fun x h1 => ∃ j, x = .pv (.int j) ∧ -(2 ^ 62) ≤ j ∧ j < 2 ^ 62 ∧ Q (rngL 0 j.toNat) (fun _ => True) h1) X
  | .enm e, ρ, h, Q, X => wpE e ρ h (fun x h1 => match x with
      | .pv (.lst l) => Q (enmL l) (fun _ => True) h1
      | .pv (.tup l) => Q (enmL l) (fun _ => True) h1
      | _ => False) X
def wpTs : EL → Env → Hs → (Bool → Hs → Prop) → QX → Prop
  | .nil, _, h, Q, _ => Q true h
  | .cons e _, ρ, h, Q, X => wpE e ρ h (fun x h1 => ∃ c, x = .pv (.bl c) ∧ Q c h1) X
end
def wpB (e : E) (ρ : Env) (h : Hs) (Q : Bool → Hs → Prop) (X : QX) : Prop := wpE P C e ρ h (fun x h1 => ∃ c, x = .pv (.bl c) ∧ Q c h1) X
/-! ### statements -/
mutual
def wpS : S → Env → Hs → (Env → Hs → Prop) → QV → QX → Prop
  | .set i e, ρ, h, nx, _, X => wpE P C e ρ h (fun v h1 => nx (ρ.set i (some v)) h1) X
  | .par is es, ρ, h, nx, _, X => wpL P C es ρ h (fun vs h1 => vs.length = is.length ∧ nx (setAll ρ is vs) h1) X
  | .unp tg e, ρ, h, nx, _, X => wpE P C e ρ h (fun v h1 => ∃ p, v = .pv p ∧ bindT tg p ρ fun ρ' => nx ρ' h1) X
  | .sub o i v, ρ, h, nx, _, X => wpE P C v ρ h (fun y h1 => wpE P C o ρ h1 (fun x h2 => wpE P C i ρ h2 (fun z h3 => ∃ k c n j q, x = .ref k ∧ h3[k]? = some (some c) ∧ z = .pv (.int n) ∧ L2.ixN c.length n = some j ∧ y = .pv q ∧ nx ρ (h3.set k (some (c.set j q)))) X) X) X
  | .exp e, ρ, h, nx, _, X => wpE P C e ρ h (fun _ h1 => nx ρ h1) X
  | .iff t a b, ρ, h, nx, rt, X => wpB P C t ρ h (fun c h1 => if c = true then wpSL a ρ h1 nx rt X else wpSL b ρ h1 nx rt X) X
  | .for kl tg it body, ρ, h, nx, rt, X => wpI P C it ρ h (fun l gd h1 => loopT gd (fun x ρ1 h2 k => bindT tg x ρ1 fun ρ2 => wpSL body ρ2 h2 (fun ρ3 h3 => k (kill ρ3 kl) h3) rt X) l (kill ρ kl) h1 nx) X
  | .whl kl t body, ρ, h, nx, rt, X => ∃ W : Nat → Env → Hs → Prop, (∃ m, W m (kill ρ kl) h) ∧ ∀ m ρ1 h1, W m ρ1 h1 → wpB P C t ρ1 h1 (fun c h2 => if c = true then
      wpSL body ρ1 h2 (fun ρ3 h3 => ∃ m', m' < m ∧ W m' (kill ρ3 kl) h3) rt X else nx ρ1 h2) X
  | .ret e, ρ, h, _, rt, X => wpE P C e ρ h rt X
  | .retN, _, h, _, rt, _ => rt (.pv .non) h
  | .rse, _, _, _, _, _ => False
  | .rsx c, _, h, _, _, X => X ⟨c, []⟩ h
  | .pass, ρ, h, nx, _, _ => nx ρ h
def wpSL : SL → Env → Hs → (Env → Hs → Prop) → QV → QX → Prop
  | .nil, ρ, h, nx, _, _ => nx ρ h
  | .cons s r, ρ, h, nx, rt, X => wpS s ρ h (fun ρ1 h1 => wpSL r ρ1 h1 nx rt X) rt X
end
end
/-! ### calls: a def's body, so many levels deep -/
/-- what is left of the cells behind a call -/
def fin (n : Nat) (Q : QV) : QV := fun v h' => match v with
  | .pv p => Q (.pv p) (h'.take n)
  | .ref i => if i < n then Q (.ref i) (h'.take n) else ∃ c, h'[i]? = some (some c) ∧ Q (.ref n) (h'.take n ++ [some c])
def wpC (P : Pg) : Nat → CallT
  | 0, _, _, _, _, _ => False
  | d + 1, f, vs, h, Q, X => ∃ df, P.defs[f]? = some df ∧ vs.length = df.npar ∧
      wpSL P (wpC P d) df.body (vs.map some ++ List.replicate (df.N.length - vs.length) none) h (fun _ h' => fin h.length Q (.pv .non) h') (fin h.length Q) (fun x h' => X x (h'.take h.length))
example (P : Pg) (C : CallT) (ρ h Q X) (a b : E) : wpE P C (.nt a) ρ h Q X = wpE P C a ρ h (fun x h1 => ∃ c, x = .pv (.bl c) ∧ Q (.pv (.bl (!c))) h1) X := rfl
example (P : Pg) (C : CallT) (ρ h nx rt X) (e : E) : wpSL P C (.cons (.ret e) .nil) ρ h nx rt X = wpE P C e ρ h rt X := rfl
end G43
set_option Elab.async false
set_option linter.all false
set_option maxRecDepth 100000
set_option maxHeartbeats 4000000
namespace G43
open PySem
/-! ### weaker ends -/
theorem wpBin_mono {op : Operator} {p q : PV} {Q Q' : PV → Prop} (hQ : ∀ r, Q r → Q' r) (h : wpBin op p q Q) : wpBin op p q Q' := by
  unfold wpBin at h ⊢
  split at h <;> first
    | exact hQ _ h
    | exact ⟨h.1, hQ _ h.2⟩
    | exact h.elim
theorem wpCmp_mono {op : CmpOp} {p q : PV} {Q Q' : Bool → Prop} (hQ : ∀ r, Q r → Q' r) (h : wpCmp op p q Q) : wpCmp op p q Q' := by
  unfold wpCmp at h ⊢
  split at h <;> first
    | exact hQ _ h
    | exact ⟨h.1, h.2.1, hQ _ h.2.2⟩
    | exact h.elim
theorem wpBi_mono {b : BI} {ps : List PV} {Q Q' : PV → Prop} (hQ : ∀ r, Q r → Q' r) (h : wpBi b ps Q) : wpBi b ps Q' := by
  unfold wpBi at h ⊢
  split at h <;> first
    | exact hQ _ h
    | (obtain ⟨bs, e, q⟩ := h; exact ⟨bs, e, hQ _ q⟩)
    | exact ⟨h.1, h.2.1, h.2.2.1, hQ _ h.2.2.2⟩
    | exact ⟨h.1, hQ _ h.2⟩
    | exact h.elim
theorem wpSl_mono {p : PV} {lo hi : Option Int} {Q Q' : PV → Prop} (hQ : ∀ r, Q r → Q' r) (h : wpSl p lo hi Q) : wpSl p lo hi Q' := by
  unfold wpSl at h ⊢
  split at h <;> first
    | exact hQ _ h
    | exact h.elim
theorem wpIx_mono {p q : PV} {Q Q' : PV → Prop} (hQ : ∀ r, Q r → Q' r) (h : wpIx p q Q) : wpIx p q Q' := by
  unfold wpIx at h ⊢
  split at h <;> first
    | (obtain ⟨v, e, z⟩ := h; exact ⟨v, e, hQ _ z⟩)
    | exact h.elim
mutual
theorem bindT_mono : ∀ (t : Tg) {x : PV} {ρ : Env} {k k' : Env → Prop}, (∀ r, k r → k' r) → bindT t x ρ k → bindT t x ρ k'
  | .nm i, x, ρ, k, k', hk, h => by unfold bindT at h ⊢; exact hk _ h
  | .nil, x, ρ, k, k', hk, h => by unfold bindT at h ⊢; exact ⟨h.1, hk _ h.2⟩
  | .cons a r, x, ρ, k, k', hk, h => by
    unfold bindT at h ⊢
    obtain ⟨x, xs, e, z⟩ := h
    exact ⟨x, xs, e, bindT_mono a (fun ρ' q => bindL_mono r hk q) z⟩
theorem bindL_mono : ∀ (t : Tg) {l : List PV} {ρ : Env} {k k' : Env → Prop}, (∀ r, k r → k' r) → bindL t l ρ k → bindL t l ρ k'
  | .nm i, l, ρ, k, k', hk, h => by unfold bindL at h; exact h.elim
  | .nil, l, ρ, k, k', hk, h => by unfold bindL at h ⊢; exact ⟨h.1, hk _ h.2⟩
  | .cons a r, l, ρ, k, k', hk, h => by
    unfold bindL at h ⊢
    obtain ⟨x, xs, e, z⟩ := h
    exact ⟨x, xs, e, bindT_mono a (fun ρ' q => bindL_mono r hk q) z⟩
end
mutual
theorem bindT_some : ∀ (t : Tg) {x : PV} {ρ : Env} {k : Env → Prop}, bindT t x ρ k → ∃ ρ', k ρ'
  | .nm i, x, ρ, k, h => by unfold bindT at h; exact ⟨_, h⟩
  | .nil, x, ρ, k, h => by unfold bindT at h; exact ⟨_, h.2⟩
  | .cons a r, x, ρ, k, h => by
    unfold bindT at h
    obtain ⟨x, xs, e, z⟩ := h
    obtain ⟨ρ', z⟩ := bindT_some a z
    exact bindL_some r z
theorem bindL_some : ∀ (t : Tg) {l : List PV} {ρ : Env} {k : Env → Prop}, bindL t l ρ k → ∃ ρ', k ρ'
  | .nm i, l, ρ, k, h => by unfold bindL at h; exact h.elim
  | .nil, l, ρ, k, h => by unfold bindL at h; exact ⟨_, h.2⟩
  | .cons a r, l, ρ, k, h => by
    unfold bindL at h
    obtain ⟨x, xs, e, z⟩ := h
    obtain ⟨ρ', z⟩ := bindT_some a z
    exact bindL_some r z
end
theorem loopT_mono {gd : Hs → Prop} {st st' : PV → Env → Hs → (Env → Hs → Prop) → Prop} (hs : ∀ x ρ h k k', (∀ ρ h, k ρ h → k' ρ h) → st x ρ h k → st' x ρ h k') :
    ∀ (l : List PV) {ρ : Env} {h : Hs} {nx nx' : Env → Hs → Prop}, (∀ ρ h, nx ρ h → nx' ρ h) → loopT gd st l ρ h nx → loopT gd st' l ρ h nx'
  | [], _, _, _, _, hn, z => ⟨z.1, hn _ _ z.2⟩
  | x :: r, _, _, _, _, hn, z => ⟨z.1, hs x _ _ _ _ (fun _ _ q => loopT_mono hs r hn q) z.2⟩
theorem compT_mono {gd : Hs → Prop} {st st' : PV → Hs → (List PV → Hs → Prop) → Prop} (hs : ∀ x h k k', (∀ l h, k l h → k' l h) → st x h k → st' x h k') :
    ∀ (l : List PV) {h : Hs} {Q Q' : List PV → Hs → Prop}, (∀ l h, Q l h → Q' l h) → compT gd st l h Q → compT gd st' l h Q'
  | [], _, _, _, hn, z => ⟨z.1, hn _ _ z.2⟩
  | x :: r, _, _, _, hn, z => ⟨z.1, hs x _ _ _ (fun y _ q => compT_mono hs r (fun l h q => hn _ _ q) q) z.2⟩
def MonoC (C C' : CallT) : Prop := ∀ f vs h Q Q' X X', (∀ v h, Q v h → Q' v h) → (∀ x h, X x h → X' x h) → C f vs h Q X → C' f vs h Q' X'
section
variable {P : Pg} {C C' : CallT} (hC : MonoC C C')
include hC
mutual
theorem wpE_mono : ∀ (e : E) {ρ : Env} {h : Hs} {Q Q' : QV} {X X' : QX}, (∀ v h, Q v h → Q' v h) → (∀ x h, X x h → X' x h) → wpE P C e ρ h Q X → wpE P C' e ρ h Q' X'
  | .var i, ρ, h, Q, Q', X, X', hQ, hX, z => by
    unfold wpE at z ⊢
    obtain ⟨v, e, q⟩ := z
    exact ⟨v, e, hQ _ _ q⟩
  | .cst p, ρ, h, Q, Q', X, X', hQ, hX, z => by unfold wpE at z ⊢; exact hQ _ _ z
  | .glo g, ρ, h, Q, Q', X, X', hQ, hX, z => by
    unfold wpE at z ⊢
    obtain ⟨x, p, e, q⟩ := z
    exact ⟨x, p, e, hQ _ _ q⟩
  | .bin op a b, ρ, h, Q, Q', X, X', hQ, hX, z => by
    unfold wpE at z ⊢
    refine wpE_mono a (fun x h1 q => wpE_mono b (fun y h2 q => ?_) hX q) hX z
    obtain ⟨p, r, e1, e2, q⟩ := q
    exact ⟨p, r, e1, e2, wpBin_mono (fun _ => hQ _ _) q⟩
  | .neg a, ρ, h, Q, Q', X, X', hQ, hX, z => by
    unfold wpE at z ⊢
    refine wpE_mono a (fun x h1 q => ?_) hX z
    obtain ⟨i, e, q⟩ := q
    exact ⟨i, e, hQ _ _ q⟩
  | .nt a, ρ, h, Q, Q', X, X', hQ, hX, z => by
    unfold wpE at z ⊢
    refine wpE_mono a (fun x h1 q => ?_) hX z
    obtain ⟨i, e, q⟩ := q
    exact ⟨i, e, hQ _ _ q⟩
  | .and a b, ρ, h, Q, Q', X, X', hQ, hX, z => by
    unfold wpE at z ⊢
    refine wpE_mono a (fun x h1 q => ?_) hX z
    obtain ⟨c, e, q⟩ := q
    refine ⟨c, e, ?_⟩
    cases c with
    | true => rw [if_pos rfl] at q ⊢; exact wpE_mono b hQ hX q
    | false => rw [if_neg Bool.false_ne_true] at q ⊢; exact hQ _ _ q
  | .or a b, ρ, h, Q, Q', X, X', hQ, hX, z => by
    unfold wpE at z ⊢
    refine wpE_mono a (fun x h1 q => ?_) hX z
    obtain ⟨c, e, q⟩ := q
    refine ⟨c, e, ?_⟩
    cases c with
    | true => rw [if_pos rfl] at q ⊢; exact hQ _ _ q
    | false => rw [if_neg Bool.false_ne_true] at q ⊢; exact wpE_mono b hQ hX q
  | .cmp op a b, ρ, h, Q, Q', X, X', hQ, hX, z => by
    unfold wpE at z ⊢
    refine wpE_mono a (fun x h1 q => wpE_mono b (fun y h2 q => ?_) hX q) hX z
    obtain ⟨p, r, e1, e2, q⟩ := q
    exact ⟨p, r, e1, e2, wpCmp_mono (fun _ => hQ _ _) q⟩
  | .chn op op' a b c, ρ, h, Q, Q', X, X', hQ, hX, z => by
    unfold wpE at z ⊢
    refine wpE_mono a (fun x h1 q => wpE_mono b (fun y h2 q => ?_) hX q) hX z
    obtain ⟨p, r, e1, e2, q⟩ := q
    refine ⟨p, r, e1, e2, wpCmp_mono (fun k q => ?_) q⟩
    cases k with
    | true =>
      rw [if_pos rfl] at q ⊢
      refine wpE_mono c (fun y h2 q => ?_) hX q
      obtain ⟨p, r, e1, e2, q⟩ := q
      exact ⟨p, r, e1, e2, wpCmp_mono (fun _ => hQ _ _) q⟩
    | false => rw [if_neg Bool.false_ne_true] at q ⊢; exact hQ _ _ q
  | .ite t a b, ρ, h, Q, Q', X, X', hQ, hX, z => by
    unfold wpE at z ⊢
    refine wpE_mono t (fun x h1 q => ?_) hX z
    obtain ⟨c, e, q⟩ := q
    refine ⟨c, e, ?_⟩
    cases c with
    | true => rw [if_pos rfl] at q ⊢; exact wpE_mono a hQ hX q
    | false => rw [if_neg Bool.false_ne_true] at q ⊢; exact wpE_mono b hQ hX q
  | .call f es dv, ρ, h, Q, Q', X, X', hQ, hX, z => by
    unfold wpE at z ⊢
    exact wpL_mono es (fun vs h1 q => hC _ _ _ _ _ _ _ hQ hX q) hX z
  | .bi b es, ρ, h, Q, Q', X, X', hQ, hX, z => by
    unfold wpE at z ⊢
    refine wpL_mono es (fun vs h1 q => ?_) hX z
    obtain ⟨ps, e, q⟩ := q
    exact ⟨ps, e, wpBi_mono (fun _ => hQ _ _) q⟩
  | .isi a t, ρ, h, Q, Q', X, X', hQ, hX, z => by
    unfold wpE at z ⊢
    refine wpE_mono a (fun x h1 q => ?_) hX z
    obtain ⟨p, b, e1, e2, q⟩ := q
    exact ⟨p, b, e1, e2, hQ _ _ q⟩
  | .idx a i, ρ, h, Q, Q', X, X', hQ, hX, z => by
    unfold wpE at z ⊢
    refine wpE_mono a (fun x h1 q => wpE_mono i (fun y h2 q => ?_) hX q) hX z
    obtain ⟨p, r, e1, e2, q⟩ := q
    exact ⟨p, r, e1, e2, wpIx_mono (fun _ => hQ _ _) q⟩
  | .slo a lo, ρ, h, Q, Q', X, X', hQ, hX, z => by
    unfold wpE at z ⊢
    refine wpE_mono a (fun x h1 q => wpE_mono lo (fun y h2 q => ?_) hX q) hX z
    obtain ⟨p, r, e1, e2, q⟩ := q
    exact ⟨p, r, e1, e2, wpSl_mono (fun _ => hQ _ _) q⟩
  | .shi a hi, ρ, h, Q, Q', X, X', hQ, hX, z => by
    unfold wpE at z ⊢
    refine wpE_mono a (fun x h1 q => wpE_mono hi (fun y h2 q => ?_) hX q) hX z
    obtain ⟨p, r, e1, e2, q⟩ := q
    exact ⟨p, r, e1, e2, wpSl_mono (fun _ => hQ _ _) q⟩
  | .slh a lo hi, ρ, h, Q, Q', X, X', hQ, hX, z => by
    unfold wpE at z ⊢
    refine wpE_mono a (fun x h1 q => wpE_mono lo (fun y h2 q => ?_) hX q) hX z
    obtain ⟨i, e, q⟩ := q
    refine ⟨i, e, wpE_mono hi (fun w h3 q => ?_) hX q⟩
    obtain ⟨p, j, e1, e2, q⟩ := q
    exact ⟨p, j, e1, e2, wpSl_mono (fun _ => hQ _ _) q⟩
  | .tup es, ρ, h, Q, Q', X, X', hQ, hX, z => by
    unfold wpE at z ⊢
    refine wpL_mono es (fun vs h1 q => ?_) hX z
    obtain ⟨ps, e, q⟩ := q
    exact ⟨ps, e, hQ _ _ q⟩
  | .lst es, ρ, h, Q, Q', X, X', hQ, hX, z => by
    unfold wpE at z ⊢
    refine wpL_mono es (fun vs h1 q => ?_) hX z
    obtain ⟨ps, e, q⟩ := q
    exact ⟨ps, e, hQ _ _ q⟩
  | .mls es, ρ, h, Q, Q', X, X', hQ, hX, z => by
    unfold wpE at z ⊢
    refine wpL_mono es (fun vs h1 q => ?_) hX z
    obtain ⟨ps, e, q⟩ := q
    exact ⟨ps, e, hQ _ _ q⟩
  | .comp elt tg it ifs, ρ, h, Q, Q', X, X', hQ, hX, z => by
    unfold wpE at z ⊢
    refine wpI_mono it (fun l gd h1 q => ⟨q.1, ?_⟩) hX z
    refine compT_mono (fun x h2 k k' hk q => bindT_mono tg (fun ρ1 q => wpTs_mono ifs (fun b h3 q => ?_) (fun _ _ z => z) q) q) l (fun r h q => hQ _ _ q) q.2
    cases b with
    | true =>
      rw [if_pos rfl] at q ⊢
      refine wpE_mono elt (fun y h4 q => ?_) (fun _ _ z => z) q
      obtain ⟨p, e, q⟩ := q
      exact ⟨p, e, hk _ _ q⟩
    | false => rw [if_neg Bool.false_ne_true] at q ⊢; exact hk _ _ q
  | .word e, ρ, h, Q, Q', X, X', hQ, hX, z => by
    unfold wpE at z ⊢
    exact wpE_mono e (fun x h1 ⟨p, e, q⟩ => ⟨p, e, hQ _ _ q⟩) (fun x h1 ⟨w, e1, e2, q⟩ => ⟨w, e1, e2, hQ _ _ q⟩) z
theorem wpL_mono : ∀ (es : EL) {ρ : Env} {h : Hs} {Q Q' : List RV → Hs → Prop} {X X' : QX}, (∀ v h, Q v h → Q' v h) → (∀ x h, X x h → X' x h) → wpL P C es ρ h Q X → wpL P C' es ρ h Q' X'
  | .nil, ρ, h, Q, Q', X, X', hQ, hX, z => by unfold wpL at z ⊢; exact hQ _ _ z
  | .cons e r, ρ, h, Q, Q', X, X', hQ, hX, z => by
    unfold wpL at z ⊢
    exact wpE_mono e (fun v h1 q => wpL_mono r (fun vs h2 q => hQ _ _ q) hX q) hX z
theorem wpI_mono : ∀ (it : It) {ρ : Env} {h : Hs} {Q Q' : List PV → (Hs → Prop) → Hs → Prop} {X X' : QX}, (∀ l g h, Q l g h → Q' l g h) → (∀ x h, X x h → X' x h) → wpI P C it ρ h Q X → wpI P C' it ρ h Q' X'
  | .seq e, ρ, h, Q, Q', X, X', hQ, hX, z => by
    unfold wpI at z ⊢
    refine wpE_mono e (fun x h1 q => ?_) hX z
    split at q
    · exact hQ _ _ _ q
    · exact hQ _ _ _ q
    · exact hQ _ _ _ q
    · obtain ⟨c, e, q⟩ := q
      exact ⟨c, e, hQ _ _ _ q⟩
    · exact q.elim
  | .rng1 e, ρ, h, Q, Q', X, X', hQ, hX, z => by
    unfold wpI at z ⊢
    refine wpE_mono e (fun x h1 q => ?_) hX z
    obtain ⟨j, e1, e2, e3, q⟩ := q
    exact ⟨j, e1, e2, e3, hQ _ _ _ q⟩
  | .enm e, ρ, h, Q, Q', X, X', hQ, hX, z => by
    unfold wpI at z ⊢
    refine wpE_mono e (fun x h1 q => ?_) hX z
    split at q
    · exact hQ _ _ _ q
    · exact hQ _ _ _ q
    · exact q.elim
theorem wpTs_mono : ∀ (es : EL) {ρ : Env} {h : Hs} {Q Q' : Bool → Hs → Prop} {X X' : QX}, (∀ v h, Q v h → Q' v h) → (∀ x h, X x h → X' x h) → wpTs P C es ρ h Q X → wpTs P C' es ρ h Q' X'
  | .nil, ρ, h, Q, Q', X, X', hQ, hX, z => by unfold wpTs at z ⊢; exact hQ _ _ z
  | .cons e r, ρ, h, Q, Q', X, X', hQ, hX, z => by
    unfold wpTs at z ⊢
    refine wpE_mono e (fun x h1 q => ?_) hX z
    obtain ⟨c, e, q⟩ := q
    exact ⟨c, e, hQ _ _ q⟩
end
theorem wpL_len (hCC : MonoC C' C') : ∀ (es : EL) {ρ : Env} {h : Hs} {Q : List RV → Hs → Prop} {X : QX}, wpL P C es ρ h Q X → wpL P C' es ρ h (fun vs h' => vs.length = es.len ∧ Q vs h') X
  | .nil, ρ, h, Q, X, z => by unfold wpL at z ⊢; exact ⟨rfl, z⟩
  | .cons e r, ρ, h, Q, X, z => by
    unfold wpL at z ⊢
    refine wpE_mono hC e (fun v h1 q => ?_) (fun _ _ z => z) z
    exact wpL_mono (C := C') (C' := C') (fun f vs h Q Q' X X' hQ hX z => hCC f vs h Q Q' X X' hQ hX z) r (fun vs h2 q => ⟨by show vs.length + 1 = r.len + 1; rw [q.1], q.2⟩) (fun _ _ z => z) (wpL_len hCC r q)
theorem wpB_mono (e : E) {ρ : Env} {h : Hs} {Q Q' : Bool → Hs → Prop} {X X' : QX} (hQ : ∀ v h, Q v h → Q' v h) (hX : ∀ x h, X x h → X' x h) (z : wpB P C e ρ h Q X) : wpB P C' e ρ h Q' X' :=
  wpE_mono hC e (fun x h1 ⟨c, e, q⟩ => ⟨c, e, hQ _ _ q⟩) hX z
mutual
theorem wpS_mono : ∀ (s : S) {ρ : Env} {h : Hs} {nx nx' : Env → Hs → Prop} {rt rt' : QV} {X X' : QX}, (∀ ρ h, nx ρ h → nx' ρ h) → (∀ v h, rt v h → rt' v h) → (∀ x h, X x h → X' x h) → wpS P C s ρ h nx rt X → wpS P C' s ρ h nx' rt' X'
  | .set i e, ρ, h, nx, nx', rt, rt', X, X', hn, hr, hX, z => by unfold wpS at z ⊢; exact wpE_mono hC e (fun v h1 q => hn _ _ q) hX z
  | .par is es, ρ, h, nx, nx', rt, rt', X, X', hn, hr, hX, z => by unfold wpS at z ⊢; exact wpL_mono hC es (fun v h1 q => ⟨q.1, hn _ _ q.2⟩) hX z
  | .unp tg e, ρ, h, nx, nx', rt, rt', X, X', hn, hr, hX, z => by
    unfold wpS at z ⊢
    refine wpE_mono hC e (fun v h1 q => ?_) hX z
    obtain ⟨p, e, q⟩ := q
    exact ⟨p, e, bindT_mono tg (fun r => hn _ _) q⟩
  | .sub o i v, ρ, h, nx, nx', rt, rt', X, X', hn, hr, hX, z => by
    unfold wpS at z ⊢
    refine wpE_mono hC v (fun y h1 q => wpE_mono hC o (fun x h2 q => wpE_mono hC i (fun w h3 q => ?_) hX q) hX q) hX z
    obtain ⟨k, c, n, j, q1, e1, e2, e3, e4, e5, q⟩ := q
    exact ⟨k, c, n, j, q1, e1, e2, e3, e4, e5, hn _ _ q⟩
  | .exp e, ρ, h, nx, nx', rt, rt', X, X', hn, hr, hX, z => by unfold wpS at z ⊢; exact wpE_mono hC e (fun v h1 q => hn _ _ q) hX z
  | .iff t a b, ρ, h, nx, nx', rt, rt', X, X', hn, hr, hX, z => by
    unfold wpS at z ⊢
    refine wpB_mono hC t (fun c h1 q => ?_) hX z
    cases c with
    | true => rw [if_pos rfl] at q ⊢; exact wpSL_mono a hn hr hX q
    | false => rw [if_neg Bool.false_ne_true] at q ⊢; exact wpSL_mono b hn hr hX q
  | .for kl tg it body, ρ, h, nx, nx', rt, rt', X, X', hn, hr, hX, z => by
    unfold wpS at z ⊢
    refine wpI_mono hC it (fun l gd h1 q => ?_) hX z
    exact loopT_mono (fun x ρ1 h2 k k' hk q => bindT_mono tg (fun ρ2 q => wpSL_mono body (fun ρ3 h3 q => hk _ _ q) hr hX q) q) l hn q
  | .whl kl t body, ρ, h, nx, nx', rt, rt', X, X', hn, hr, hX, z => by
    unfold wpS at z ⊢
    obtain ⟨W, h0, hs⟩ := z
    refine ⟨W, h0, fun m ρ1 h1 w => wpB_mono hC t (fun c h2 q => ?_) hX (hs m ρ1 h1 w)⟩
    cases c with
    | true => rw [if_pos rfl] at q ⊢; exact wpSL_mono body (fun _ _ q => q) hr hX q
    | false => rw [if_neg Bool.false_ne_true] at q ⊢; exact hn _ _ q
  | .ret e, ρ, h, nx, nx', rt, rt', X, X', hn, hr, hX, z => by unfold wpS at z ⊢; exact wpE_mono hC e hr hX z
  | .retN, ρ, h, nx, nx', rt, rt', X, X', hn, hr, hX, z => by unfold wpS at z ⊢; exact hr _ _ z
  | .rse, ρ, h, nx, nx', rt, rt', X, X', hn, hr, hX, z => by unfold wpS at z; exact z.elim
  | .rsx c, ρ, h, nx, nx', rt, rt', X, X', hn, hr, hX, z => by unfold wpS at z ⊢; exact hX _ _ z
  | .pass, ρ, h, nx, nx', rt, rt', X, X', hn, hr, hX, z => by unfold wpS at z ⊢; exact hn _ _ z
theorem wpSL_mono : ∀ (s : SL) {ρ : Env} {h : Hs} {nx nx' : Env → Hs → Prop} {rt rt' : QV} {X X' : QX}, (∀ ρ h, nx ρ h → nx' ρ h) → (∀ v h, rt v h → rt' v h) → (∀ x h, X x h → X' x h) → wpSL P C s ρ h nx rt X → wpSL P C' s ρ h nx' rt' X'
  | .nil, ρ, h, nx, nx', rt, rt', X, X', hn, hr, hX, z => by unfold wpSL at z ⊢; exact hn _ _ z
  | .cons s r, ρ, h, nx, nx', rt, rt', X, X', hn, hr, hX, z => by
    unfold wpSL at z ⊢
    exact wpS_mono s (fun ρ1 h1 q => wpSL_mono r hn hr hX q) hr hX z
end
end
theorem fin_mono {n : Nat} {Q Q' : QV} (hQ : ∀ v h, Q v h → Q' v h) : ∀ v h, fin n Q v h → fin n Q' v h := fun v h z => by
  unfold fin at z ⊢
  split at z
  · exact hQ _ _ z
  · split at z
    · rename_i hi; rw [if_pos hi]; exact hQ _ _ z
    · rename_i hi; rw [if_neg hi]; obtain ⟨c, e, q⟩ := z; exact ⟨c, e, hQ _ _ q⟩
theorem wpC_mono (P : Pg) : ∀ d d', d ≤ d' → MonoC (wpC P d) (wpC P d')
  | 0, _, _ => fun f vs h Q Q' X X' hQ hX z => by unfold wpC at z; exact z.elim
  | d + 1, 0, hd => by omega
  | d + 1, d' + 1, hd => fun f vs h Q Q' X X' hQ hX z => by
    unfold wpC at z ⊢
    obtain ⟨df, e1, e2, q⟩ := z
    exact ⟨df, e1, e2, wpSL_mono (wpC_mono P d d' (by omega)) df.body (fun _ _ q => fin_mono hQ _ _ q) (fin_mono hQ) (fun x h q => hX _ _ q) q⟩
end G43
set_option Elab.async false
set_option linter.all false
set_option maxRecDepth 100000
set_option maxHeartbeats 4000000
namespace G43
open PySem
open L2 (V HO Hp SqL SqT Rd upd upd_same upd_ne)
/-! ### where things lie -/
theorem tabs_lst {T : List (Addr × Str)} {H : Hp} {a : Addr} {xs ys : List V} (t : LamX.Tabs T H) (e : H a = some (.lst xs)) : LamX.Tabs T (upd H a (.lst ys)) := fun p hp => by
  obtain ⟨ps, h1, h2, h3⟩ := t p hp
  refine ⟨ps, by rw [upd_ne (L2.ne_of h1 e (fun z => nomatch z))]; exact h1, h2, fun pos cv hc => ?_⟩
  obtain ⟨c, e1, e2⟩ := h3 pos cv hc
  exact ⟨c, e1, by rw [upd_ne (L2.ne_of e2 e (fun z => nomatch z))]; exact e2⟩
theorem Mv.trans {m1 m2 m3 : List Addr} {h1 h2 h3 : Hs} {H1 H2 H3 : Hp} (a : Mv m1 h1 H1 m2 h2 H2) (b : Mv m2 h2 H2 m3 h3 H3) : Mv m1 h1 H1 m3 h3 H3 := by
  refine ⟨?_, fun c o e t n => ?_⟩
  · obtain ⟨t1, rfl⟩ := a.pre
    obtain ⟨t2, rfl⟩ := b.pre
    exact ⟨t1 ++ t2, by rw [List.append_assoc]⟩
  · obtain ⟨e1, n1⟩ := a.keep c o e t n
    exact b.keep c o e1 t n1
section
variable {A : Ad} {B : Addr → Prop} {m m' : List Addr} {h h' : Hs} {H H' : Hp}
mutual
theorem Rp.strong {B' : Addr → Prop} (w : ∀ a, B' a → B a ∨ H a = none) : ∀ {p : PV} {v : V}, Rp A (Xc B m h) H p v → Rp A (Xc B' m h) H p v
  | _, _, .non => .non
  | _, _, .bl b => .bl b
  | _, _, .int i => .int i
  | _, _, .str x => .str x
  | _, _, .fn f => .fn f
  | _, _, .tup q r => .tup q (RpL.strong w r)
  | _, _, .lst q n r => .lst q (fun z => z.elim (fun z => (w _ z).elim (fun z => n (.inl z)) fun z => by rw [q] at z; cases z) fun z => n (.inr z)) (RpL.strong w r)
  | _, _, .scr q r => .scr q (RpL.strong w r)
  | _, _, .dct q n => .dct q (fun z => z.elim (fun z => (w _ z).elim (fun z => n (.inl z)) fun z => by rw [q] at z; cases z) fun z => n (.inr z))
theorem RpL.strong {B' : Addr → Prop} (w : ∀ a, B' a → B a ∨ H a = none) : ∀ {l : List PV} {xs : List V}, RpL A (Xc B m h) H l xs → RpL A (Xc B' m h) H l xs
  | _, _, .nil => .nil
  | _, _, .cons q r => .cons (Rp.strong w q) (RpL.strong w r)
end
mutual
theorem Rp.weak {L L' : Addr → Prop} (w : ∀ a, L' a → L a) : ∀ {p : PV} {v : V}, Rp A L H p v → Rp A L' H p v
  | _, _, .non => .non
  | _, _, .bl b => .bl b
  | _, _, .int i => .int i
  | _, _, .str x => .str x
  | _, _, .fn f => .fn f
  | _, _, .tup q r => .tup q (RpL.weak w r)
  | _, _, .lst q n r => .lst q (fun y => n (w _ y)) (RpL.weak w r)
  | _, _, .scr q r => .scr q (RpL.weak w r)
  | _, _, .dct q n => .dct q (fun y => n (w _ y))
theorem RpL.weak {L L' : Addr → Prop} (w : ∀ a, L' a → L a) : ∀ {l : List PV} {xs : List V}, RpL A L H l xs → RpL A L' H l xs
  | _, _, .nil => .nil
  | _, _, .cons q r => .cons (Rp.weak w q) (RpL.weak w r)
end
theorem RpL.get {L : Addr → Prop} : ∀ {l : List PV} {xs : List V} {i : Nat} {p : PV}, RpL A L H l xs → l[i]? = some p → ∃ v, xs[i]? = some v ∧ Rp A L H p v
  | _, _, _, _, .nil, e => by simp at e
  | _, _, 0, _, .cons q _, e => by simp at e; subst e; exact ⟨_, rfl, q⟩
  | _, _, i + 1, p, .cons _ r, e => by
    obtain ⟨v, h1, h2⟩ := RpL.get (i := i) (p := p) r (by simpa using e)
    exact ⟨v, by simpa using h1, h2⟩
theorem RpL.append {L : Addr → Prop} : ∀ {l l2 : List PV} {xs ys : List V}, RpL A L H l xs → RpL A L H l2 ys → RpL A L H (l ++ l2) (xs ++ ys)
  | _, _, _, _, .nil, s => s
  | _, _, _, _, .cons q r, s => .cons q (RpL.append r s)
theorem RpL.reps {L : Addr → Prop} {l : List PV} {xs : List V} (r : RpL A L H l xs) : ∀ n : Nat, RpL A L H (List.replicate n l).flatten (List.replicate n xs).flatten
  | 0 => .nil
  | n + 1 => by
    rw [List.replicate_succ, List.replicate_succ, List.flatten_cons, List.flatten_cons]
    exact r.append (RpL.reps r n)
theorem RpL.drop {L : Addr → Prop} : ∀ (n : Nat) {l : List PV} {xs : List V}, RpL A L H l xs → RpL A L H (l.drop n) (xs.drop n)
  | 0, _, _, q => q
  | n + 1, _, _, .nil => .nil
  | n + 1, _, _, .cons _ r => RpL.drop n r
theorem RpL.take {L : Addr → Prop} : ∀ (n : Nat) {l : List PV} {xs : List V}, RpL A L H l xs → RpL A L H (l.take n) (xs.take n)
  | 0, _, _, q => .nil
  | n + 1, _, _, .nil => .nil
  | n + 1, _, _, .cons q r => .cons q (RpL.take n r)
/-- a new cell -/
theorem Sim.cell_new (S : Sim A B m h H) {p : Addr} {l : List PV} {xs : List V} (e : H p = none) (q : RpL A (Xc B m h) H l xs) :
    Mv m h H (m ++ [p]) (h ++ [some l]) (upd H p (.lst xs)) ∧ Sim A B (m ++ [p]) (h ++ [some l]) (upd H p (.lst xs)) := by
  have hl := S.len
  have inv : ∀ {i : Nat} {c : List PV} {a : Addr}, (h ++ [some l])[i]? = some (some c) → (m ++ [p])[i]? = some a → (h[i]? = some (some c) ∧ m[i]? = some a) ∨ (i = h.length ∧ c = l ∧ a = p) := fun {i c a} h1 h2 => by
    by_cases hi : i < h.length
    · rw [List.getElem?_append_left hi] at h1
      rw [List.getElem?_append_left (by omega)] at h2
      exact .inl ⟨h1, h2⟩
    · rw [List.getElem?_append_right (by omega)] at h1
      rw [List.getElem?_append_right (by omega)] at h2
      have hz : i - h.length = 0 := by
        by_cases hz : i - h.length = 0
        · exact hz
        · rw [List.getElem?_eq_none (by simp; omega)] at h1; cases h1
      have hz2 : i - m.length = 0 := by omega
      rw [hz] at h1
      rw [hz2] at h2
      simp at h1 h2
      exact .inr ⟨by omega, h1.symm, h2.symm⟩
  have lv : ∀ a, Lv (m ++ [p]) (h ++ [some l]) a → Lv m h a ∨ a = p := fun a ⟨i, c, h1, h2⟩ => (inv h1 h2).elim (fun z => .inl ⟨i, c, z.1, z.2⟩) fun z => .inr z.2.2
  have M : Mv m h H (m ++ [p]) (h ++ [some l]) (upd H p (.lst xs)) := ⟨⟨[p], rfl⟩, fun b u r _ n => ⟨by rw [upd_ne (L2.ne_of_none r e)]; exact r, fun z => (lv b z).elim n fun z => by rw [z, e] at r; cases r⟩⟩
  refine ⟨M, by simp [hl], fun i c a h1 h2 => ?_, fun i j c d a h1 h2 h3 h4 => ?_, fun a b z => ?_, fun a b => ?_, tabs_new S.tb e⟩
  · rcases inv h1 h2 with ⟨z1, z2⟩ | ⟨_, rfl, rfl⟩
    · obtain ⟨ys, h3, h4⟩ := S.cell i c a z1 z2
      exact ⟨ys, by rw [upd_ne (L2.ne_of_none h3 e)]; exact h3, h4.move S M⟩
    · exact ⟨xs, upd_same, q.move S M⟩
  · rcases inv h1 h3 with ⟨z1, z2⟩ | ⟨z1, _, z3⟩ <;> rcases inv h2 h4 with ⟨z4, z5⟩ | ⟨z4, _, z6⟩
    · exact S.inj i j c d a z1 z4 z2 z5
    · subst z6
      obtain ⟨ys, h5, _⟩ := S.cell i c a z1 z2
      rw [e] at h5; cases h5
    · subst z3
      obtain ⟨ys, h5, _⟩ := S.cell j d a z4 z5
      rw [e] at h5; cases h5
    · omega
  · rcases lv a z with z | z
    · exact S.bn a b z
    · subst z
      obtain ⟨o, e', _⟩ := S.bt a b
      rw [e] at e'; cases e'
  · obtain ⟨o', e', n'⟩ := S.bt a b
    exact ⟨o', by rw [upd_ne (L2.ne_of_none e' e)]; exact e', n'⟩
/-- fewer cells are looked at -/
theorem Sim.less (S : Sim A B m h H) {m' : List Addr} {h' : Hs} (hl : m'.length = h'.length) (w : ∀ (i : Nat) (c : List PV) (a : Addr), h'[i]? = some (some c) → m'[i]? = some a → ∃ j : Nat, h[j]? = some (some c) ∧ m[j]? = some a)
    (inj : ∀ (i j : Nat) (c d : List PV) (a : Addr), h'[i]? = some (some c) → h'[j]? = some (some d) → m'[i]? = some a → m'[j]? = some a → i = j) : Sim A B m' h' H ∧ ∀ a, Lv m' h' a → Lv m h a := by
  have lv : ∀ a, Lv m' h' a → Lv m h a := fun a ⟨i, c, e1, e2⟩ => let ⟨j, e3, e4⟩ := w i c a e1 e2; ⟨j, c, e3, e4⟩
  refine ⟨⟨hl, fun i c a e1 e2 => ?_, inj, fun a b z => S.bn a b (lv a z), S.bt, S.tb⟩, lv⟩
  obtain ⟨j, e3, e4⟩ := w i c a e1 e2
  obtain ⟨xs, e5, r⟩ := S.cell j c a e3 e4
  exact ⟨xs, e5, r.weak fun b z => z.imp id (lv b)⟩
/-- a cell's list becomes another one -/
theorem Sim.write (S : Sim A B m h H) {i : Nat} {c l : List PV} {a : Addr} {xs : List V} (e1 : h[i]? = some (some c)) (e2 : m[i]? = some a) (q : RpL A (Xc B m h) H l xs) :
    Mv m h H m (h.set i (some l)) (upd H a (.lst xs)) ∧ Sim A B m (h.set i (some l)) (upd H a (.lst xs)) := by
  have hi : i < h.length := (List.getElem?_eq_some_iff.mp e1).1
  have at_ : ∀ {j : Nat} {d : List PV}, (h.set i (some l))[j]? = some (some d) → (j = i ∧ d = l) ∨ (j ≠ i ∧ h[j]? = some (some d)) := fun {j d} q => by
    by_cases hj : i = j
    · subst hj
      rw [List.getElem?_set_self hi] at q
      cases q
      exact .inl ⟨rfl, rfl⟩
    · rw [List.getElem?_set_ne hj] at q
      exact .inr ⟨fun z => hj z.symm, q⟩
  have lv : ∀ b, Lv m (h.set i (some l)) b → Lv m h b := fun b ⟨j, d, z1, z2⟩ => (at_ z1).elim (fun z => by
    obtain ⟨rfl, rfl⟩ := z
    exact ⟨j, c, e1, z2⟩) fun z => ⟨j, d, z.2, z2⟩
  have M : Mv m h H m (h.set i (some l)) (upd H a (.lst xs)) := ⟨⟨[], by simp⟩, fun b o r _ n => ⟨by rw [upd_ne (fun z => n (by rw [z]; exact ⟨i, c, e1, e2⟩))]; exact r, fun z => n (lv b z)⟩⟩
  refine ⟨M, by simp [S.len], fun j d b z1 z2 => ?_, fun j k d1 d2 b z1 z2 z3 z4 => ?_, fun b z1 z2 => S.bn b z1 (lv b z2), fun b z1 => ?_, let ⟨_, q, _⟩ := S.cell i c a e1 e2; tabs_lst S.tb q⟩
  · rcases at_ z1 with ⟨rfl, rfl⟩ | ⟨nj, z3⟩
    · rw [e2] at z2
      cases z2
      exact ⟨xs, upd_same, q.moveC S.cl M⟩
    · obtain ⟨ys, q1, q2⟩ := S.cell j d b z3 z2
      have ne : b ≠ a := fun z => nj (S.inj j i d c a z3 e1 (by rw [← z]; exact z2) e2)
      exact ⟨ys, by rw [upd_ne ne]; exact q1, q2.moveC S.cl M⟩
  · have un : ∀ {j : Nat} {d : List PV}, (h.set i (some l))[j]? = some (some d) → ∃ d', h[j]? = some (some d') := fun {j d} z => (at_ z).elim (fun z => ⟨c, by rw [z.1]; exact e1⟩) fun z => ⟨d, z.2⟩
    obtain ⟨d3, z5⟩ := un z1
    obtain ⟨d4, z6⟩ := un z2
    exact S.inj j k d3 d4 b z5 z6 z3 z4
  · obtain ⟨o', e', n'⟩ := S.bt b z1
    have ne : b ≠ a := fun z => S.bn b z1 (by rw [z]; exact ⟨i, c, e1, e2⟩)
    exact ⟨o', by rw [upd_ne ne]; exact e', n'⟩
theorem RpR.move (S : Sim A B m h H) (M : Mv m h H m' h' H') : ∀ {x : RV} {v : V}, RpR A B m h H x v → RpR A B m' h' H' x v
  | .pv _, _, q => Rp.move S M q
  | .ref _, _, ⟨a, e, z⟩ => ⟨a, M.at e, z⟩
theorem RpRs.move (S : Sim A B m h H) (M : Mv m h H m' h' H') : ∀ {x : List RV} {v : List V}, RpRs A B m h H x v → RpRs A B m' h' H' x v
  | _, _, .nil => .nil
  | _, _, .cons q r => .cons (q.move S M) (RpRs.move S M r)
theorem RpRs.append : ∀ {x y : List RV} {v w : List V}, RpRs A B m h H x v → RpRs A B m h H y w → RpRs A B m h H (x ++ y) (v ++ w)
  | _, _, _, _, .nil, s => s
  | _, _, _, _, .cons q r, s => .cons q (RpRs.append r s)
theorem RpRs.get : ∀ {x : List RV} {v : List V} {i : Nat} {a : RV}, RpRs A B m h H x v → x[i]? = some a → ∃ b, v[i]? = some b ∧ RpR A B m h H a b
  | _, _, _, _, .nil, e => by simp at e
  | _, _, 0, _, .cons q _, e => by simp at e; subst e; exact ⟨_, rfl, q⟩
  | _, _, i + 1, p, .cons _ r, e => by
    obtain ⟨v, h1, h2⟩ := RpRs.get (i := i) (a := p) r (by simpa using e)
    exact ⟨v, by simpa using h1, h2⟩
theorem RpRs.pvs : ∀ {ps : List PV} {v : List V}, RpRs A B m h H (ps.map RV.pv) v → RpL A (Xc B m h) H ps v
  | [], _, q => by cases q; exact .nil
  | p :: ps, _, q => by
    cases q with
    | cons q r => exact .cons q (RpRs.pvs r)
theorem Rw.scr {L : Addr → Prop} {l : List PV} {v : V} (q : Rw A L H (.scr l) v) : ∃ a xs, v = .ref a ∧ SqL A.K H a xs ∧ RpL A L H l xs := by
  cases q with
  | p q =>
    cases q with
    | scr q r =>
      rcases q with q | q
      · exact ⟨_, _, rfl, .inl (.inr q), r⟩
      · exact ⟨_, _, rfl, .inr q, r⟩
theorem Sl.move (S : Sim A B m h H) (M : Mv m h H m' h' H') {ρ : Env} {σ : L2.St} (s : Sl A B m h H ρ σ) : Sl A B m' h' H' ρ σ :=
  ⟨s.len, fun i v e => let ⟨w, e1, e2⟩ := s.at_ i v e; ⟨w, e1, e2.move S M⟩⟩
theorem kill_some {ρ : Env} {i : Nat} {x : RV} : ∀ {vs : List Nat}, (kill ρ vs)[i]? = some (some x) → ρ[i]? = some (some x) ∧ i ∉ vs
  | [], h => ⟨h, by simp⟩
  | v :: vs, h => by
    rw [kill, List.getElem?_set] at h
    split at h
    · split at h <;> cases h
    · have out := kill_some h
      refine ⟨out.1, fun m => ?_⟩
      rcases List.mem_cons.mp m with rfl | m2
      · contradiction
      · exact out.2 m2
theorem kill_length (ρ : Env) : ∀ vs : List Nat, (kill ρ vs).length = ρ.length
  | [] => rfl
  | v :: vs => by unfold kill; rw [List.length_set, kill_length ρ vs]
theorem Sl.kill {ρ : Env} {σ : L2.St} (s : Sl A B m h H ρ σ) (vs : List Nat) : Sl A B m h H (kill ρ vs) σ :=
  ⟨by rw [kill_length]; exact s.len, fun i v e => s.at_ i v (kill_some e).1⟩
theorem Sl.wipe {ρ : Env} {σ : L2.St} (s : Sl A B m h H ρ σ) (vs : List Nat) : Sl A B m h H (G43.kill ρ vs) (L2.wipe σ vs) := by
  refine ⟨by rw [kill_length, L2.wipe_length]; exact s.len, fun i v e => ?_⟩
  obtain ⟨e1, e2⟩ := kill_some e
  obtain ⟨w, e3, e4⟩ := s.at_ i v e1
  exact ⟨w, by rw [L2.wipe_out e2]; exact e3, e4⟩
end
end G43
set_option Elab.async false
set_option linter.all false
set_option maxRecDepth 100000
set_option maxHeartbeats 4000000
namespace G43
open PySem
open L2 (V HO Hp SqL SqT Rd upd upd_same upd_ne Cx OpR R2 VK CallR IxR SlR)
/-! ### values as plain data -/
theorem Dt_up : ∀ {n : Nat} {a : PV}, Dt n a → Dt (n + 1) a
  | n, .non, _ => by simp [Dt]
  | n, .bl _, _ => by simp [Dt]
  | n, .int _, _ => by simp [Dt]
  | n, .str _, h => by
    cases n <;> simpa [Dt] using h
  | 0, .tup _, h => by simp [Dt] at h
  | 0, .lst _, h => by simp [Dt] at h
  | n + 1, .tup l, h => by
    have h' : ∀ x ∈ l, Dt n x := by simpa [Dt] using h
    simp only [Dt]
    exact fun x hx => Dt_up (h' x hx)
  | n + 1, .lst l, h => by
    have h' : ∀ x ∈ l, Dt n x := by simpa [Dt] using h
    simp only [Dt]
    exact fun x hx => Dt_up (h' x hx)
  | n, .fn _, h => by cases n <;> simp [Dt] at h
  | n, .obj _, h => by cases n <;> simp [Dt] at h
  | n, .scr _, h => by cases n <;> simp [Dt] at h
  | n, .dct, h => by cases n <;> simp [Dt] at h
mutual
theorem peq_dat : ∀ (n : Nat) (a b : PV), Dt n a → Dt n b → peq a b = PyData.eqv (dat a) (dat b)
  | n, .non, b, ha, hb => by cases b <;> simp [peq, dat, PyData.eqv, Dt] at *
  | n, .bl x, b, ha, hb => by cases b <;> simp [peq, dat, PyData.eqv, Dt] at *
  | n, .int x, b, ha, hb => by cases b <;> simp [peq, dat, PyData.eqv, Dt] at *
  | n, .str x, b, ha, hb => by cases b <;> simp [peq, dat, PyData.eqv, Dt] at *
  | 0, .tup x, b, ha, hb => by simp [Dt] at ha
  | 0, .lst x, b, ha, hb => by simp [Dt] at ha
  | n + 1, .tup x, b, ha, hb => by
    cases b with
    | tup y =>
      simp only [peq, dat, PyData.eqv]
      exact peqL_dat n x y (by simpa [Dt] using ha) (by simpa [Dt] using hb)
    | _ => simp [peq, dat, PyData.eqv, Dt] at *
  | n + 1, .lst x, b, ha, hb => by
    cases b with
    | lst y =>
      simp only [peq, dat, PyData.eqv]
      exact peqL_dat n x y (by simpa [Dt] using ha) (by simpa [Dt] using hb)
    | _ => simp [peq, dat, PyData.eqv, Dt] at *
  | n, .fn x, b, ha, hb => by cases n <;> simp [Dt] at ha
  | n, .obj x, b, ha, hb => by cases n <;> simp [Dt] at ha
  | n, .scr x, b, ha, hb => by cases n <;> simp [Dt] at ha
  | n, .dct, b, ha, hb => by cases n <;> simp [Dt] at ha
theorem peqL_dat : ∀ (n : Nat) (a b : List PV), (∀ x ∈ a, Dt n x) → (∀ x ∈ b, Dt n x) → peqL a b = PyData.eqvAll (datL a) (datL b)
  | n, [], [], _, _ => rfl
  | n, [], _ :: _, _, _ => rfl
  | n, _ :: _, [], _, _ => rfl
  | n, x :: xs, y :: ys, ha, hb => by
    simp only [peqL, datL, PyData.eqvAll]
    rw [peq_dat n x y (ha x (by simp)) (hb y (by simp)), peqL_dat n xs ys (fun z hz => ha z (by simp [hz])) fun z hz => hb z (by simp [hz])]
end
mutual
theorem dat_lay : ∀ (n : Nat) (a : PV), Dt n a → (dat a).canLay0 = true ∧ (dat a).depth ≤ n
  | n, .non, h => by simp [dat, PyData.canLay0, PyData.depth]
  | n, .bl x, h => by simp [dat, PyData.canLay0, PyData.depth]
  | n, .int x, h => by simp [dat, PyData.canLay0, PyData.depth]
  | n, .str x, h => by
    have h' : PyData.strOk x = true := by cases n <;> simpa [Dt] using h
    simp [dat, PyData.canLay0, PyData.depth, h']
  | 0, .tup x, ha => by simp [Dt] at ha
  | 0, .lst x, ha => by simp [Dt] at ha
  | n + 1, .tup x, ha => by
    obtain ⟨h1, h2⟩ := datL_lay n x (by simpa [Dt] using ha)
    simp only [dat, PyData.canLay0, PyData.depth]
    exact ⟨h1, by omega⟩
  | n + 1, .lst x, ha => by
    obtain ⟨h1, h2⟩ := datL_lay n x (by simpa [Dt] using ha)
    simp only [dat, PyData.canLay0, PyData.depth]
    exact ⟨h1, by omega⟩
  | n, .fn x, ha => by cases n <;> simp [Dt] at ha
  | n, .obj x, ha => by cases n <;> simp [Dt] at ha
  | n, .scr x, ha => by cases n <;> simp [Dt] at ha
  | n, .dct, ha => by cases n <;> simp [Dt] at ha
theorem datL_lay : ∀ (n : Nat) (a : List PV), (∀ x ∈ a, Dt n x) → PyData.canLayAll0 (datL a) = true ∧ PyData.depthAll (datL a) ≤ n
  | n, [], _ => by simp [datL, PyData.canLayAll0, PyData.depthAll]
  | n, x :: xs, ha => by
    obtain ⟨h1, h2⟩ := dat_lay n x (ha x (by simp))
    obtain ⟨h3, h4⟩ := datL_lay n xs fun z hz => ha z (by simp [hz])
    simp only [datL, PyData.canLayAll0, PyData.depthAll]
    exact ⟨by rw [h1, h3]; rfl, by omega⟩
end
theorem dat_shaped {n : Nat} {a : PV} (hn : n ≤ 64) (h : Dt n a) : SeqAt.shaped (dat a) = true := by
  obtain ⟨h1, h2⟩ := dat_lay n a h
  unfold SeqAt.shaped
  rw [h1, decide_eq_true (by omega)]
  rfl
section
variable {A : Ad} {B : Addr → Prop} {m : List Addr} {h : Hs} {H : Hp} {L : Addr → Prop}
mutual
theorem Rp.dp : ∀ {n : Nat} {p : PV} {v : V}, Rp A L H p v → Dt n p → L2.Dp A.K H v (dat p)
  | _, _, _, .non, _ => .non
  | _, _, _, .bl b, _ => .bl b
  | _, _, _, .int i, _ => .int i
  | _, _, _, .str x, _ => .str x
  | n, _, _, .fn f, h => by cases n <;> simp [Dt] at h
  | 0, _, _, .tup q r, h => by simp [Dt] at h
  | n + 1, _, _, .tup q r, h => .tup q (RpL.dp r (by simpa [Dt] using h))
  | 0, _, _, .lst q _ r, h => by simp [Dt] at h
  | n + 1, _, _, .lst q _ r, h => .lst (SqL.of q) (RpL.dp r (by simpa [Dt] using h))
  | n, _, _, .scr _ _, h => by cases n <;> simp [Dt] at h
  | n, _, _, .dct _ _, h => by cases n <;> simp [Dt] at h
theorem RpL.dp : ∀ {n : Nat} {l : List PV} {xs : List V}, RpL A L H l xs → (∀ x ∈ l, Dt n x) → L2.DpAll A.K H xs (datL l)
  | _, _, _, .nil, _ => .nil
  | n, _, _, .cons q r, h => .cons (Rp.dp q (h _ (by simp))) (RpL.dp r fun z hz => h z (by simp [hz]))
end
theorem Rw.dp {n : Nat} {p : PV} {v : V} (q : Rw A L H p v) (h : Dt n p) : L2.Dp A.K H v (dat p) := by
  cases q with
  | p q => exact q.dp h
  | c q r =>
    cases n with
    | zero => simp [Dt] at h
    | succ n => exact .lst (SqL.of q) (r.dp (n := n) (by simpa [Dt] using h))
end
section
variable {X : Cx} {A : Ad}
/-! ### a op b -/
def rB (A : Ad) (op : Operator) : R2 := fun x y H Q => ∃ B m h p q, Sim A B m h H ∧ Rw A (Xc B m h) H p x ∧ Rw A (Xc B m h) H q y ∧ wpBin op p q (Kp A B m h H Q)
theorem op_bin (hK : X.K = A.K) (op : Operator) : OpR X (binaryOp op) (rB A op) := by
  intro pins s σ H x y v u Q I rx ry z
  obtain ⟨B, m, h, p, q, S, rp, rq, z⟩ := z
  unfold wpBin at z
  split at z
  · cases rp.int; cases rq.int
    exact L2.op_add pins s σ H _ _ v u Q I rx ry ⟨_, _, rfl, rfl, z.here S (.int _)⟩
  · cases rp.str; cases rq.str
    exact L2.op_add_str pins s σ H _ _ v u Q I rx ry ⟨_, _, rfl, rfl, z.1, Kp.here S z.2 (.str _)⟩
  · obtain ⟨a, xs, rfl, e1, r1⟩ := rp.lst
    obtain ⟨b, ys, rfl, e2, r2⟩ := rq.lst
    exact L2.op_cat pins s σ H _ _ v u Q I rx ry ⟨a, b, xs, ys, rfl, rfl, e1, e2, by rw [r1.length, r2.length]; exact z.1, fun c e => Kp.lst S z.2 (r1.append r2) e⟩
  · obtain ⟨a, xs, rfl, e1, r1⟩ := rp.tup
    obtain ⟨b, ys, rfl, e2, r2⟩ := rq.tup
    refine L2.op_catA pins s σ H _ _ v u Q I rx ry ⟨a, b, xs, ys, rfl, rfl, by rw [hK]; exact e1, by rw [hK]; exact e2, by rw [r1.length, r2.length]; exact z.1, fun n => ?_, fun _ n => ?_, fun _ _ c e => Kp.tup S z.2 (r1.append r2) e⟩
    · subst n
      cases r1
      exact Kp.here S z.2 (.tup e2 r2)
    · subst n
      cases r2
      rw [List.append_nil] at z
      exact Kp.here S z.2 (.tup e1 r1)
  · cases rp.int; cases rq.int
    exact L2.op_sub pins s σ H _ _ v u Q I rx ry ⟨_, _, rfl, rfl, z.here S (.int _)⟩
  · cases rp.int; cases rq.int
    exact L2.op_mulW pins s σ H _ _ v u Q I rx ry ⟨_, _, rfl, rfl, z.1, Kp.here S z.2 (.int _)⟩
  · obtain ⟨a, xs, rfl, e1, r1⟩ := rp.tup
    cases rq.int
    obtain ⟨⟨n0, n1, n2, n3⟩, z⟩ := z
    refine L2.op_repT pins s σ H _ _ v u Q I rx ry ⟨a, _, xs, rfl, rfl, by rw [hK]; exact e1, ?_, n1, n2, by rw [r1.length]; exact n3, fun c e => Kp.tup S z (r1.reps _) e⟩
    intro e
    subst e
    cases r1
    exact n0 rfl
  · cases rp.int; cases rq.int
    exact L2.op_fdivW pins s σ H _ _ v u Q I rx ry ⟨_, _, rfl, rfl, z.1, Kp.here S z.2 (.int _)⟩
  · cases rp.int; cases rq.int
    exact L2.op_mod pins s σ H _ _ v u Q I rx ry ⟨_, _, rfl, rfl, z.1, Kp.here S z.2 (.int _)⟩
  · cases rp.int; cases rq.int
    exact L2.op_pow pins s σ H _ _ v u Q I rx ry ⟨_, _, rfl, rfl, z.1, Kp.here S z.2 (.int _)⟩
  · exact z.elim
/-! ### comparisons -/
def rC (A : Ad) (op : CmpOp) : R2 := fun x y H Q => ∃ B m h p q, Sim A B m h H ∧ Rw A (Xc B m h) H p x ∧ Rw A (Xc B m h) H q y ∧ wpCmp op p q (fun r => Q (.bl r) H)
theorem inL_dat {n : Nat} {a : PV} (ha : Dt n a) : ∀ {l : List PV}, (∀ x ∈ l, Dt n x) → inL a l = (datL l).any fun z => PyData.eqv z (dat a)
  | [], _ => rfl
  | x :: r, h => by
    simp only [inL, datL, List.any_cons]
    rw [peq_dat n x a (h x (by simp)) ha, inL_dat ha fun z hz => h z (by simp [hz])]
theorem is_non {L : Addr → Prop} {H : Hp} {p : PV} {x : V} (r : Rw A L H p x) : isNon p = decide (x = .non) := by
  cases r with
  | p r => cases r <;> simp [isNon]
  | c _ _ => simp [isNon]
/-- flat values -/
def FlR (p : PV) (v : V) : Prop := L2.flatV v = true ∧ ∀ q w, (flat q = true ∧ L2.flatV w = true ∧ ((q = .non ∧ w = .non) ∨ (∃ b, q = .bl b ∧ w = .bl b) ∨ (∃ i, q = .int i ∧ w = .int i) ∨ ∃ x, q = .str x ∧ w = .str x)) → peq q p = L2.eqV w v
theorem Rp.flat {L : Addr → Prop} {H : Hp} {p : PV} {v : V} (r : Rp A L H p v) (f : flat p = true) : FlR p v ∧ ((p = .non ∧ v = .non) ∨ (∃ b, p = .bl b ∧ v = .bl b) ∨ (∃ i, p = .int i ∧ v = .int i) ∨ ∃ x, p = .str x ∧ v = .str x) := by
  have key : ∀ (p : PV) (v : V), ((p = .non ∧ v = .non) ∨ (∃ b, p = .bl b ∧ v = .bl b) ∨ (∃ i, p = .int i ∧ v = .int i) ∨ ∃ x, p = .str x ∧ v = .str x) → FlR p v := by
    intro p v hp
    refine ⟨?_, fun q w ⟨_, _, hq⟩ => ?_⟩
    · rcases hp with ⟨_, rfl⟩ | ⟨b, _, rfl⟩ | ⟨i, _, rfl⟩ | ⟨x, _, rfl⟩ <;> rfl
    · rcases hp with ⟨rfl, rfl⟩ | ⟨b, rfl, rfl⟩ | ⟨i, rfl, rfl⟩ | ⟨x, rfl, rfl⟩ <;> rcases hq with ⟨rfl, rfl⟩ | ⟨b, rfl, rfl⟩ | ⟨i, rfl, rfl⟩ | ⟨x, rfl, rfl⟩ <;> simp [peq, L2.eqV]
  have h2 : (p = .non ∧ v = .non) ∨ (∃ b, p = .bl b ∧ v = .bl b) ∨ (∃ i, p = .int i ∧ v = .int i) ∨ ∃ x, p = .str x ∧ v = .str x := by
    cases r <;> simp [G43.flat] at f ⊢
  exact ⟨key p v h2, h2⟩
theorem Rw.flat {L : Addr → Prop} {H : Hp} {p : PV} {v : V} (r : Rw A L H p v) (f : G43.flat p = true) : FlR p v := by
  cases r with
  | p r => exact (r.flat f).1
  | c _ _ => simp [G43.flat] at f
theorem RpL.flats {L : Addr → Prop} {H : Hp} : ∀ {l : List PV} {xs : List V}, RpL A L H l xs → l.all G43.flat = true → xs.all L2.flatV = true
  | _, _, .nil, _ => rfl
  | _, _, .cons q r, h => by
    rw [List.all_cons, Bool.and_eq_true] at h ⊢
    exact ⟨(q.flat h.1).1.1, RpL.flats r h.2⟩
theorem inL_V {L : Addr → Prop} {H : Hp} {p : PV} {v : V} (fp : FlR p v) : ∀ {l : List PV} {xs : List V}, RpL A L H l xs → l.all G43.flat = true → inL p l = L2.inV v xs
  | _, _, .nil, _ => rfl
  | _, _, @RpL.cons _ _ _ q w l xs r t, h => by
    rw [List.all_cons, Bool.and_eq_true] at h
    have z := r.flat h.1
    have e : peq q p = L2.eqV w v := fp.2 q w ⟨h.1, z.1.1, z.2⟩
    simp only [inL, L2.inV, List.any_cons]
    rw [e, inL_V fp t h.2]
    rfl
theorem Dt_items {n : Nat} {l : List PV} (h : Dt (n + 1) (.lst l)) : ∀ x ∈ l, Dt (n + 1) x := by
  have h' : ∀ x ∈ l, Dt n x := by simpa [Dt] using h
  exact fun x hx => Dt_up (h' x hx)
theorem op_cmp (hK : X.K = A.K) (hu : X.A.units + 65 < cLine) (op : CmpOp) : OpR X (compareOp op) (rC A op) := by
  intro pins s σ H x y v u Q I rx ry z
  obtain ⟨B, m, h, p, q, S, rp, rq, z⟩ := z
  unfold wpCmp at z
  split at z
  · cases rp.str; cases rq.str
    exact L2.op_eq pins s σ H _ _ v u Q I rx ry ⟨rfl, by rw [L2.dec_str]; exact z⟩
  · cases rp.str; cases rq.str
    exact L2.op_ne pins s σ H _ _ v u Q I rx ry ⟨rfl, by rw [L2.dec_str]; exact z⟩
  · obtain ⟨d1, d2, z⟩ := z
    rw [peq_dat 60 _ _ d1 d2] at z
    exact L2.op_eqD (by omega) pins s σ H _ _ v u Q I rx ry ⟨_, _, by rw [hK]; exact rp.dp d1, by rw [hK]; exact rq.dp d2, dat_shaped (by omega) d1, dat_shaped (by omega) d2, z⟩
  · obtain ⟨d1, d2, z⟩ := z
    rw [peq_dat 60 _ _ d1 d2] at z
    exact L2.op_neD (by omega) pins s σ H _ _ v u Q I rx ry ⟨_, _, by rw [hK]; exact rp.dp d1, by rw [hK]; exact rq.dp d2, dat_shaped (by omega) d1, dat_shaped (by omega) d2, z⟩
  · cases rp.int; cases rq.int
    exact L2.op_lt pins s σ H _ _ v u Q I rx ry ⟨_, _, rfl, rfl, z⟩
  · cases rp.int; cases rq.int
    exact L2.op_le pins s σ H _ _ v u Q I rx ry ⟨_, _, rfl, rfl, z⟩
  · cases rp.int; cases rq.int
    exact L2.op_gt pins s σ H _ _ v u Q I rx ry ⟨_, _, rfl, rfl, z⟩
  · cases rp.int; cases rq.int
    exact L2.op_ge pins s σ H _ _ v u Q I rx ry ⟨_, _, rfl, rfl, z⟩
  · cases rq.non
    rw [is_non rp] at z
    exact L2.op_isN pins s σ H _ _ v u Q I rx ry ⟨rfl, z⟩
  · cases rq.non
    rw [is_non rp] at z
    exact L2.op_notN pins s σ H _ _ v u Q I rx ry ⟨rfl, z⟩
  · obtain ⟨d1, d2, z⟩ := z
    rw [inL_dat (n := 60) d1 (Dt_items d2)] at z
    exact L2.op_inD hu pins s σ H _ _ v u Q I rx ry ⟨_, _, by rw [hK]; exact rp.dp d1, by rw [hK]; exact rq.dp d2, dat_shaped (by omega) d1, dat_shaped (by omega) d2, z⟩
  · obtain ⟨d1, d2, z⟩ := z
    rw [inL_dat (n := 60) d1 (Dt_items d2)] at z
    exact L2.op_notInD hu pins s σ H _ _ v u Q I rx ry ⟨_, _, by rw [hK]; exact rp.dp d1, by rw [hK]; exact rq.dp d2, dat_shaped (by omega) d1, dat_shaped (by omega) d2, z⟩
  · obtain ⟨d1, d2, z⟩ := z
    obtain ⟨b, ys, rfl, e2, r2⟩ := rq.tup
    rw [inL_V (rp.flat d1) r2 d2] at z
    exact L2.op_in_seq pins s σ H _ _ v u Q I rx ry ⟨b, ys, rfl, .inr (by rw [hK]; exact e2), (rp.flat d1).1, r2.flats d2, z⟩
  · obtain ⟨d1, d2, z⟩ := z
    obtain ⟨b, ys, rfl, e2, r2⟩ := rq.tup
    rw [inL_V (rp.flat d1) r2 d2] at z
    exact L2.op_notIn_seq pins s σ H _ _ v u Q I rx ry ⟨b, ys, rfl, .inr (by rw [hK]; exact e2), (rp.flat d1).1, r2.flats d2, z⟩
  · exact z.elim
end
end G43
set_option Elab.async false
set_option linter.all false
set_option maxRecDepth 100000
set_option maxHeartbeats 4000000
namespace G43
open PySem PySem.Spec PyProof.Rows
open L2 (V HO Hp SqL SqT Rd upd upd_same upd_ne Cx OpR R2 VK CallR IxR SlR Inv Vals)
/-! ### the handled error: isinstance -/
section
variable {X : Cx} {a D : Addr} {oe : Obj}
/-- what is asked of an error that the context holds -/
def rEx (K : PySem.W.Frag) (D a : Addr) : List V → Hp → VK → Prop := fun xs H Q => ∃ (c : V) (cv : Value) (b : Bool), xs = [.ref a, c] ∧ (∀ u, L2.RelV c u → u = cv) ∧ PySem.W.kitOne K (.ref D) cv = some b ∧ Q (.bl b) H
def rExT (K : PySem.W.Frag) (D a : Addr) : List V → Hp → VK → Prop := fun xs H Q => ∃ (tp : Addr) (cs : List V) (us : List Value) (b : Bool), xs = [.ref a, .ref tp] ∧ H tp = some (.tup cs) ∧ PySem.Paired L2.ClsV cs us ∧ PySem.W.kitAny K (.ref D) us = some b ∧ Q (.bl b) H
theorem inst_pin {pins : List (Addr × Obj)} {σ : L2.St} {H : Hp} {s : Shared} (I : Inv X pins σ H s) (hp : (a, oe) ∈ X.pn) (hz : L2.Zc (.ref D) none oe) (hf : ∃ vs, oe.data = .fields vs) : PySem.W.InstAt s.heap a oe D none := by
  have g := (I.pin (a, oe) (List.mem_append.mpr (.inl hp))).1
  obtain ⟨vs, hv⟩ := hf
  rcases oe with ⟨oc, od, oda, osl⟩
  rcases hz with ⟨h1, h2⟩
  dsimp only at h1 h2 hv
  cases h1; cases h2; cases hv
  exact ⟨g, rfl, rfl, trivial⟩
theorem call_ex (C : L2.ExcC X.K D) (hp : (a, oe) ∈ X.pn) (hz : L2.Zc (.ref D) none oe) (hf : ∃ vs, oe.data = .fields vs) : CallR X (.builtin "isinstance") (rEx X.K D a) := by
  intro pins s σ H xs us Q I r h
  rcases h with ⟨c, cv, b, rfl, hcv, e, q⟩
  obtain ⟨u1, u2, rfl, r1, r2⟩ := L2.vals2 r
  cases (show u1 = Value.ref a from r1)
  cases hcv _ r2
  refine PySem.W.kia_one (PySem.W.handS_kitx_exc (ox := oe) C.hg C.hk C.hs C.hd C.ha C.hn C.ht C.hm) I.kIn (inst_pin I hp hz hf) e ?_ ?_
  · intro z; cases z
  · intro tk
    exact ⟨.bl b, H, I.tok tk, rfl, q⟩
theorem call_exT (C : L2.ExcC X.K D) (hp : (a, oe) ∈ X.pn) (hz : L2.Zc (.ref D) none oe) (hf : ∃ vs, oe.data = .fields vs) : CallR X (.builtin "isinstance") (rExT X.K D a) := by
  intro pins s σ H xs us Q I r h
  rcases h with ⟨tp, cs, ws, b, rfl, hT, k, e, q⟩
  obtain ⟨u1, u2, rfl, r1, r2⟩ := L2.vals2 r
  cases (show u1 = Value.ref a from r1)
  cases (show u2 = Value.ref tp from r2)
  have ok : L2.ObjOk X.prog X.w H s.heap tp (.tup cs) := I.hok tp _ hT
  obtain ⟨_, its, rv, o, h1, h2, n, h3⟩ := ok
  cases L2.ClsV.all k rv
  rcases o with ⟨oc, od, dt, sl⟩
  dsimp only at h2 h3
  cases h2; cases h3
  refine PySem.W.kia_tup (PySem.W.handS_kitx_exc (ox := oe) C.hg C.hk C.hs C.hd C.ha C.hn C.ht C.hm) I.kIn (inst_pin I hp hz hf) h1 e ?_ ?_
  · intro z; cases z
  · intro tk
    exact ⟨.bl b, H, I.tok tk, rfl, q⟩
end
/-! ### how often True stands in a list of truths -/
section
variable {X : Cx}
def rCntB (K : PySem.W.Frag) : V → List V → Hp → VK → Prop := fun x xs H Q => ∃ (p : Addr) (bs : List Bool), x = .ref p ∧ xs = [.bl true] ∧ SqL K H p (bs.map V.bl) ∧ Q (.int (bs.count true : Nat)) H
def eqT : Value → Bool
  | .bool b => b
  | _ => false
theorem cnt_T : ∀ {bs : List Bool} {us : List Value}, Vals (bs.map V.bl) us → us.countP eqT = bs.count true
  | [], _, .nil => rfl
  | b :: bs, u :: _, .cons r rs => by
    cases (show u = Value.bool b from r)
    rw [List.countP_cons, List.count_cons, cnt_T rs]
    cases b <;> rfl
theorem at_T {A : Around} {s : Shared} : ∀ {bs : List Bool} {us : List Value}, Vals (bs.map V.bl) us → ∀ y ∈ us, SeqAt.EqAt A s y (.bool true) (eqT y)
  | [], _, .nil => fun y hy => by cases hy
  | b :: bs, u :: _, .cons r rs => fun y hy => by
    rcases List.mem_cons.mp hy with e | e
    · subst e
      cases (show y = Value.bool b from r)
      have := L2.eqAt_V (A := A) (s := s) (y := .bl b) (x := .bl true) (u := .bool b) (v := .bool true) rfl rfl rfl rfl
      cases b <;> exact this
    · exact at_T rs y e
theorem mt_cntB : L2.MtR X "list.count" (rCntB X.K) := by
  intro pins s σ H x xs v us Q I rx rxs h
  rcases h with ⟨p, bs, rfl, rfl, hs, q⟩
  cases rx
  obtain ⟨u, rfl, ru⟩ := L2.vals1 rxs
  cases (show u = Value.bool true from ru)
  obtain ⟨its, rv, ⟨⟨cls, dd, data, sl⟩, n, ho, hc, hdn, hd⟩, hlen⟩ := I.list hs
  dsimp only at hc hd
  cases hc; cases hd
  refine call_meets PySem.F.slot_list_count ⟨_, ho, rfl⟩ PySem.F.entry_list_count (PySem.F.args_list_count_2 _ _) (SeqAt.list_countAt p its.toArray n dd sl (.bool true) eqT) ⟨ho, ?_, ?_⟩
  · intro y hy
    exact at_T rv y (by simpa using hy)
  · refine ⟨.int (bs.count true : Nat), H, I.tok _, ⟨s.toks, ?_⟩, q⟩
    have e : its.toArray.toList.countP eqT = bs.count true := cnt_T rv
    rw [e]
end
end G43
set_option Elab.async false
set_option linter.all false
set_option maxRecDepth 100000
set_option maxHeartbeats 4000000
namespace G43
open PySem
open L2 (V HO Hp SqL SqT Rd upd upd_same upd_ne Cx OpR R2 VK CallR IxR SlR)
section
variable {A : Ad} {B : Addr → Prop} {m : List Addr} {h : Hs} {H : Hp} {L : Addr → Prop}
theorem RpRs.rws (S : Sim A B m h H) : ∀ {x : List RV} {v : List V} {ps : List PV}, RpRs A B m h H x v → x.mapM (val h) = some ps → RwL A (Xc B m h) H ps v
  | [], _, ps, .nil, e => by
    simp at e
    subst e
    exact .nil
  | a :: x, _, ps, .cons q r, e => by
    rw [List.mapM_cons] at e
    cases ea : val h a with
    | none => rw [ea] at e; simp at e
    | some p =>
      cases er : x.mapM (val h) with
      | none => rw [ea, er] at e; simp at e
      | some qs =>
        rw [ea, er] at e
        simp at e
        subst e
        exact .cons (q.rw S ea) (RpRs.rws S r er)
theorem RwL.two {p q : PV} {xs : List V} (z : RwL A L H [p, q] xs) : ∃ v w, xs = [v, w] ∧ Rw A L H p v ∧ Rw A L H q w := by
  cases z with
  | cons q r =>
    cases r with
    | cons q2 r => cases r; exact ⟨_, _, rfl, q, q2⟩
theorem bools_rep : ∀ {l : List PV} {bs : List Bool} {xs : List V}, bools l = some bs → RpL A L H l xs → xs = bs.map V.bl
  | [], bs, _, e, .nil => by
    simp [bools] at e
    subst e
    rfl
  | p :: l, bs, _, e, .cons q r => by
    cases q with
    | bl b =>
      simp only [bools] at e
      cases el : bools l with
      | none => rw [el] at e; simp at e
      | some cs =>
        rw [el] at e
        simp at e
        subst e
        rw [bools_rep el r]
        rfl
    | _ => simp [bools] at e
end
section
variable {X : Cx} {A : Ad}
/-! ### built-in functions -/
def rBi (A : Ad) (b : BI) : List V → Hp → VK → Prop := fun xs H Q => ∃ B m h ps, Sim A B m h H ∧ RwL A (Xc B m h) H ps xs ∧ wpBi b ps (Kp A B m h H Q)
def biV : BI → Value
  | .len => .builtin "len"
  | .abs => .builtin "abs"
  | .max => .builtin "max"
  | .int => .type "int"
  | .tuple => .type "tuple"
  | .list => .type "list"
  | .all => .builtin "all"
  | .any => .builtin "any"
  | .repr => .builtin "repr"
  | .str => .type "str"
  | .sorted => .builtin "sorted"
  | .sum => .builtin "sum"
  | .bool => .type "bool"
  | .set => .type "set"
theorem rep_repr (hK : X.K = A.K) (hu : X.A.units + 65 < cLine) (hg : X.A.guards = some []) {B : Addr → Prop} {m : List Addr} {h : Hs} {pins : List (Addr × Obj)} {s : Shared} {σ : L2.St} {H : Hp} {Q : VK} {p : PV} {x : V} {u : Value}
    (I : L2.Inv X pins σ H s) (S : Sim A B m h H) (r : L2.RelV x u) (q : Rw A (Xc B m h) H p x) (d : Dt 60 p) (hs : (dat p).showable = true) (hz : (dat p).shown.length ≤ sizeLine) (k : Kp A B m h H Q (.str (dat p).shown)) :
    wpAny (model X.prog X.w) X.A (call (.builtin "repr") [u]) (L2.EP X pins σ Q) X.xe s := by
  have fin := k.str S
  have dp := q.dp d
  rw [← hK] at dp
  obtain ⟨as, rd⟩ := L2.Dp.reads I (dat p) x u dp r
  obtain ⟨lay, dep⟩ := dat_lay 60 p d
  have nd : (dat p).hasDict = false := PyData.hasDict_of_canLay _ lay
  have done : ∀ (t : Tok) (s' : Shared), L2.Inv X pins σ H s' → L2.EP X pins σ Q (.str (dat p).shown t) s' := fun t s' I' => ⟨V.str _, H, I', ⟨t, rfl⟩, fin⟩
  cases u with
  | ref a => exact repr_of_reads' rd hs (PyData.noDict_hsm nd) hg (by omega) (fun b o e => e) (fun h' t tk kp => done t _ (I.kept (h' := h') (t' := tk) kp)) hz
  | int i t =>
    cases hp : p <;> rw [hp] at rd done hs <;> cases rd
    exact PySem.P.repr_of_int (by simpa [dat, PyData.showable] using hs) (done _ _ (I.tok _))
  | str z t =>
    cases hp : p <;> rw [hp] at rd done hz <;> cases rd
    exact PySem.P.repr_of_str (done _ _ (I.tok _)) hz
  | bool b =>
    cases hp : p <;> rw [hp] at rd done <;> cases rd
    exact PySem.P.repr_of_bool (done _ _ (I.tok _))
  | none =>
    have e : (dat p).shown = "None" := by
      cases hp : p <;> rw [hp] at rd <;> cases rd <;> rfl
    rw [e] at done
    exact PySem.P.repr_of_none (done _ _ (I.tok _))
  | _ => cases hp : p <;> rw [hp] at rd <;> cases rd
theorem call_bi (hK : X.K = A.K) (hc : X.calm = true) (hu : X.A.units + 65 < cLine) (hg : X.A.guards = some []) (b : BI) : CallR X (biV b) (rBi A b) := by
  intro pins s σ H xs us Q I r z
  obtain ⟨B, m, h, ps, S, q, z⟩ := z
  unfold wpBi at z
  split at z
  · obtain ⟨v, rfl, w1⟩ := q.one
    obtain ⟨a, ys, rfl, e, t⟩ := w1.tup
    exact L2.call_len_seq pins s σ H _ us Q I r ⟨a, ys, rfl, .inr (by rw [hK]; exact e), by rw [t.length]; exact z.here S (.int _)⟩
  · obtain ⟨v, rfl, w1⟩ := q.one
    obtain ⟨a, ys, rfl, e, t⟩ := w1.lst
    exact L2.call_len_seq pins s σ H _ us Q I r ⟨a, ys, rfl, .inl (SqL.of e), by rw [t.length]; exact z.here S (.int _)⟩
  · obtain ⟨v, rfl, w1⟩ := q.one
    obtain ⟨a, ys, rfl, e, t⟩ := w1.scr
    exact L2.call_len_seq pins s σ H _ us Q I r ⟨a, ys, rfl, .inl (by rw [hK]; exact e), by rw [t.length]; exact z.here S (.int _)⟩
  · obtain ⟨v, rfl, w1⟩ := q.one
    cases w1.int
    exact L2.call_abs pins s σ H _ us Q I r ⟨_, rfl, z.here S (.int _)⟩
  · obtain ⟨v, w, rfl, w1, w2⟩ := q.two
    cases w1.int; cases w2.int
    exact L2.call_max2 hc pins s σ H _ us Q I r ⟨_, _, rfl, z.here S (.int _)⟩
  · obtain ⟨v, rfl, w1⟩ := q.one
    cases w1.int
    exact L2.call_int1 pins s σ H _ us Q I r (.inl ⟨_, rfl, z.here S (.int _)⟩)
  · obtain ⟨v, rfl, w1⟩ := q.one
    cases w1.bl
    exact L2.call_int1 pins s σ H _ us Q I r (.inr ⟨_, rfl, z.here S (.int _)⟩)
  · obtain ⟨v, rfl, w1⟩ := q.one
    obtain ⟨a, ys, rfl, e, t⟩ := w1.lst
    exact L2.call_tuple_of pins s σ H _ us Q I r ⟨a, ys, rfl, .inl ⟨SqL.of e, fun l hl => z.tup S t hl⟩⟩
  · obtain ⟨v, rfl, w1⟩ := q.one
    obtain ⟨a, ys, rfl, e, t⟩ := w1.tup
    exact L2.call_tuple_of pins s σ H _ us Q I r ⟨a, ys, rfl, .inr ⟨by rw [hK]; exact e, z.here S (.tup e t)⟩⟩
  · obtain ⟨v, rfl, w1⟩ := q.one
    obtain ⟨a, ys, rfl, e, t⟩ := w1.lst
    exact L2.call_list_of pins s σ H _ us Q I r ⟨a, ys, rfl, .inl (SqL.of e), fun l hl => z.lst S t hl⟩
  · obtain ⟨v, rfl, w1⟩ := q.one
    obtain ⟨a, ys, rfl, e, t⟩ := w1.tup
    exact L2.call_list_of pins s σ H _ us Q I r ⟨a, ys, rfl, .inr (by rw [hK]; exact e), fun l hl => z.lst S t hl⟩
  · obtain ⟨v, rfl, w1⟩ := q.one
    obtain ⟨u, rfl, r1⟩ := L2.vals1 r
    exact rep_repr hK hu hg I S r1 w1 z.1 z.2.1 z.2.2.1 z.2.2.2
  · obtain ⟨v, rfl, w1⟩ := q.one
    cases w1.int
    exact L2.call_str_int pins s σ H _ us Q I r ⟨_, rfl, z.1, Kp.str S z.2⟩
  · obtain ⟨v, rfl, w1⟩ := q.one
    obtain ⟨a, ys, rfl, e, t⟩ := w1.lst
    obtain ⟨bs, eb, z⟩ := z
    have e2 := bools_rep eb t
    subst e2
    exact L2.cr_all hc pins s σ H _ us Q I r ⟨a, bs, rfl, SqL.of e, z.here S (.bl _)⟩
  · obtain ⟨v, rfl, w1⟩ := q.one
    obtain ⟨a, ys, rfl, e, t⟩ := w1.lst
    obtain ⟨bs, eb, z⟩ := z
    have e2 := bools_rep eb t
    subst e2
    exact L2.cr_any hc pins s σ H _ us Q I r ⟨a, bs, rfl, SqL.of e, z.here S (.bl _)⟩
  · exact z.elim
/-! ### a[i], a[i:j] -/
def rI (A : Ad) : R2 := fun x y H Q => ∃ B m h p q, Sim A B m h H ∧ Rw A (Xc B m h) H p x ∧ Rw A (Xc B m h) H q y ∧ wpIx p q (Kp A B m h H Q)
theorem atI_rep {L : Addr → Prop} {H : Hp} {l : List PV} {xs : List V} {i : Int} {p : PV} (r : RpL A L H l xs) (e : atI l i = some p) : ∃ v, L2.atI xs i = some v ∧ Rp A L H p v := by
  unfold atI L2.atI at e
  unfold L2.atI
  rw [r.length]
  cases hj : L2.ixN l.length i with
  | none => rw [hj] at e; cases e
  | some j =>
    rw [hj] at e
    exact r.get (i := j) e
theorem ix_ok (hK : X.K = A.K) : IxR X (rI A) := by
  intro value slice pins s σ H x y v u Q I rx ry z hs
  obtain ⟨B, m, h, p, q, S, rp, rq, z⟩ := z
  unfold wpIx at z
  split at z
  · obtain ⟨w, e, k⟩ := z
    cases rq.int
    obtain ⟨a, ys, rfl, e1, t⟩ := rp.lst
    obtain ⟨c, e2, t2⟩ := atI_rep t e
    exact L2.ix_list value slice pins s σ H _ _ v u Q I rx ry ⟨a, ys, _, c, rfl, rfl, SqL.of e1, e2, Kp.here S k t2⟩ hs
  · obtain ⟨w, e, k⟩ := z
    cases rq.int
    obtain ⟨a, ys, rfl, e1, t⟩ := rp.tup
    obtain ⟨c, e2, t2⟩ := atI_rep t e
    exact L2.ix_tup value slice pins s σ H _ _ v u Q I rx ry ⟨a, ys, _, c, rfl, rfl, by rw [hK]; exact e1, e2, Kp.here S k t2⟩ hs
  · obtain ⟨w, e, k⟩ := z
    cases rq.int
    obtain ⟨a, ys, rfl, e1, t⟩ := rp.scr
    obtain ⟨c, e2, t2⟩ := atI_rep t e
    exact L2.ix_list value slice pins s σ H _ _ v u Q I rx ry ⟨a, ys, _, c, rfl, rfl, by rw [hK]; exact e1, e2, Kp.here S k t2⟩ hs
  · exact z.elim
theorem cut_rep {L : Addr → Prop} {H : Hp} {l : List PV} {xs : List V} {lo hi : Option Int} (r : RpL A L H l xs) : RpL A L H (cut l lo hi) (L2.cutV xs lo hi) := by
  unfold cut L2.cutV
  rw [r.length]
  exact (r.drop _).take _
def rS (A : Ad) : V → Option Int → Option Int → Hp → VK → Prop := fun x lo hi H Q => ∃ B m h p, Sim A B m h H ∧ Rw A (Xc B m h) H p x ∧ wpSl p lo hi (Kp A B m h H Q)
theorem sl_ok (hK : X.K = A.K) : SlR X (rS A) := by
  intro pins s σ H x v vl vu lo hi sl Q I rx hs pl pu z
  obtain ⟨B, m, h, p, S, rp, z⟩ := z
  rcases p with _ | _ | _ | _ | l | l | _ | _ | l | _ <;> simp only [wpSl] at z
  · obtain ⟨a, ys, rfl, e1, t⟩ := rp.tup
    refine L2.sl_tupA pins s σ H _ v vl vu lo hi sl Q I rx hs pl pu ⟨a, ys, rfl, by rw [hK]; exact e1, fun hw => ?_, fun _ p hp => z.tup S (cut_rep t) hp⟩
    refine z.here S (.tup e1 ?_)
    have t2 := cut_rep (lo := lo) (hi := hi) t
    have e3 : L2.cutV ys lo hi = ys := by
      unfold L2.cutV
      rw [hw.1, hw.2]
      simp
    rw [e3] at t2
    exact t2
  · obtain ⟨a, ys, rfl, e1, t⟩ := rp.lst
    exact L2.sl_list pins s σ H _ v vl vu lo hi sl Q I rx hs pl pu ⟨a, ys, rfl, SqL.of e1, fun p hp => z.lst S (cut_rep t) hp⟩
  · obtain ⟨a, ys, rfl, e1, t⟩ := rp.scr
    exact L2.sl_list pins s σ H _ v vl vu lo hi sl Q I rx hs pl pu ⟨a, ys, rfl, by rw [hK]; exact e1, fun p hp => z.lst S (cut_rep t) hp⟩
/-! ### isinstance -/
def tyN : Ty → String
  | .int => "int"
  | .bool => "bool"
  | .tuple => "tuple"
  | .str => "str"
  | .list => "list"
theorem kit_all : ∀ (t : Ty), (L2.kitB "NoneType" (tyN t) = some false) ∧ (L2.kitB "bool" (tyN t) = some (decide (t = .int ∨ t = .bool))) ∧ (L2.kitB "int" (tyN t) = some (decide (t = .int))) ∧ (L2.kitB "str" (tyN t) = some (decide (t = .str))) ∧
    (L2.kitB "tuple" (tyN t) = some (decide (t = .tuple))) ∧ (L2.kitB "list" (tyN t) = some (decide (t = .list))) ∧ (L2.kitB "dict" (tyN t) = some false)
  | .int => by decide +kernel
  | .bool => by decide +kernel
  | .tuple => by decide +kernel
  | .str => by decide +kernel
  | .list => by decide +kernel
def rIs (A : Ad) (t : Ty) : V → Hp → VK → Prop := fun x H Q => ∃ B m h p b, Sim A B m h H ∧ Rw A (Xc B m h) H p x ∧ isB p t = some b ∧ Q (.bl b) H
theorem rIs_isi {K : PySem.W.Frag} (hK : K = A.K) {t : Ty} {x : V} {H : Hp} {Q : VK} (z : rIs A t x H Q) : L2.rIsi K [x, .ty (tyN t)] H Q := by
  obtain ⟨B, m, h, p, b, S, rp, e, k⟩ := z
  subst hK
  obtain ⟨k1, k2, k3, k4, k5, k6, k7⟩ := kit_all t
  cases p with
  | non =>
    cases rp.non
    refine ⟨_, _, _, _, false, rfl, .ty _, .base .non, L2.kit_ty k1, ?_⟩
    have : b = false := by cases t <;> simp [isB, tyOf] at e <;> exact e
    rw [← this]; exact k
  | bl y =>
    cases rp.bl
    refine ⟨_, _, _, _, _, rfl, .ty _, .base (.bl _), L2.kit_ty k2, ?_⟩
    have : b = decide (t = .int ∨ t = .bool) := by cases t <;> simp [isB, tyOf] at e <;> simp [e]
    rw [← this]; exact k
  | int y =>
    cases rp.int
    refine ⟨_, _, _, _, _, rfl, .ty _, .base (.int _), L2.kit_ty k3, ?_⟩
    have : b = decide (t = .int) := by cases t <;> simp [isB, tyOf] at e <;> simp [e]
    rw [← this]; exact k
  | str y =>
    cases rp.str
    refine ⟨_, _, _, _, _, rfl, .ty _, .base (.str _), L2.kit_ty k4, ?_⟩
    have : b = decide (t = .str) := by cases t <;> simp [isB, tyOf] at e <;> simp [e]
    rw [← this]; exact k
  | tup y =>
    have eb : b = decide (t = .tuple) := by cases t <;> simp [isB, tyOf] at e <;> simp [e]
    rw [eb] at k
    obtain ⟨a, ys, rfl, e1, _⟩ := rp.tup
    rcases e1 with (e1 | ⟨o, e1⟩) | ⟨o, its, n, e1, e2, _⟩
    · exact ⟨_, _, _, _, _, rfl, .ty _, .base (.tup e1), L2.kit_ty k5, k⟩
    · exact ⟨_, _, _, _, _, rfl, .ty _, .fTuple e1, L2.kit_ty k5, k⟩
    · exact ⟨_, _, _, _, _, rfl, .ty _, .kTuple e1 e2, L2.kit_ty k5, k⟩
  | lst y =>
    have eb : b = decide (t = .list) := by cases t <;> simp [isB, tyOf] at e <;> simp [e]
    rw [eb] at k
    obtain ⟨a, ys, rfl, e1, _⟩ := rp.lst
    exact ⟨_, _, _, _, _, rfl, .ty _, .base (.lst e1), L2.kit_ty k6, k⟩
  | fn _ => simp [isB] at e
  | obj _ => simp [isB] at e
  | scr _ => simp [isB] at e
  | dct =>
    have eb : b = false := by cases t <;> simp [isB, tyOf] at e <;> exact e
    rw [eb] at k
    cases rp with
    | p r =>
      cases r with
      | dct e1 _ => exact ⟨_, _, _, _, _, rfl, .ty _, .base (.dK e1), L2.kit_ty k7, k⟩
end
end G43
set_option Elab.async false
set_option linter.all false
set_option maxRecDepth 100000
set_option maxHeartbeats 4000000
namespace G43
open PySem
open L2 (V HO Hp SqL SqT Rd upd upd_same upd_ne Cx OpR R2 VK CallR IxR SlR TE TA TS TT PE PA PS PSs PT XK Sp Room Vals)
open PySem.Spec PyProof.Rows
/-! ### a def that keeps a promise where no repr is under way -/
structure FnG (Pr : Program) (w : World) (K : PySem.W.Frag) (mg : Str → Option Value) (base : Heap) (k : Nat) (f : Addr) (fd : FuncData) (ps : List Str) (sp : Sp) : Prop where
  len : ∀ vs H Q E, sp vs H Q E → vs.length = ps.length
  run : ∀ (Ar : Around) (outer : List PySem.Env) (s : Shared) (H : Hp) (args : Args) (us : List Value) (vs : List V) (Q : VK) (E : XK), Ar.guards = some [] → Room k Ar → L2.Env0 Pr w K mg base Ar outer s H →
    BindsTo s fd args (ps.zip us) → Vals vs us → sp vs H Q E → codeAny (model Pr w) Ar (.call (.ref f) args) (L2.CR (L2.CX Pr w) outer Pr w H s Q E) s
theorem FnG.mono {Pr : Program} {w : World} {K : PySem.W.Frag} {mg : Str → Option Value} {base : Heap} {j k : Nat} {f : Addr} {fd : FuncData} {ps : List Str} {sp : Sp} (F : FnG Pr w K mg base j f fd ps sp) (h : j ≤ k) : FnG Pr w K mg base k f fd ps sp :=
  ⟨F.len, fun Ar outer s H args us vs Q E g r => F.run Ar outer s H args us vs Q E g (r.mono h)⟩
theorem guards_deeper (Ar : Around) (env : PySem.Env) : (Ar.deeper env).guards = Ar.guards := by
  cases hg : Ar.guards <;> simp [Around.deeper, hg]
/-- by the body -/
theorem fng_of {Pr : Program} {w : World} {K : PySem.W.Frag} {mg : Str → Option Value} {base : Heap} {k : Nat} {f : Addr} {x qual : Str} {params : Arguments} {body : List Stmt} {scope : Scope} {dvs : List V} {kws : List (Str × V)} {fd : FuncData} {N ps : List Str} {sp : Sp}
    (F : L2.FunD K x qual params body scope dvs kws f fd) (S : L2.FnScope N ps scope) (len : ∀ vs H Q E, sp vs H Q E → vs.length = ps.length)
    (hb : ∀ (cdv : Value), (∃ oc od dV kV doc pm an ct osl, K.lookup f = some ⟨oc, od, .func (PySem.W.fnOf x qual params body scope dV kV doc pm an cdv ct), osl⟩) → PySem.W.codeIn K cdv qual = true → ∀ (Ar : Around) (outer : List PySem.Env) (s : Shared) (H : Hp) (vs : List V) (Q : VK) (E : XK), Ar.guards = some [] → Room k (Ar.deeper (envOfC qual scope s.heap.objs.size f cdv)) → sp vs H Q E →
      ∃ t, PSs (L2.cxOf (L2.CX Pr w) Pr w K mg base N qual scope f cdv Ar outer s H E) body t ∧ t { nx := fun _ H' => Q .non H', rt := Q } (L2.start N vs) H) : FnG Pr w K mg base (k + 1) f fd ps sp := by
  obtain ⟨oc, od, dV, kV, doc, pm, an, cdv, ct, osl, rfl, lk, hcd, -, -⟩ := F.ex
  refine ⟨len, ?_⟩
  intro Ar outer s H args us vs Q E hg hr e0 hbd r hsp
  have hl := len _ _ _ _ hsp
  have kept : ∀ b o, base.get? b = some o → s.heap.get? b = some o := fun b o e => (e0.bs b o e).1
  have KX : K.In s.heap := e0.mod.kin.keeps kept
  have lim : s.heap.NoLimit := e0.mod.nolimit.keeps kept
  have hk : ∀ y ∈ ps.zip us, scope.names.lookup y.1 = some .local ∨ (scope.names.lookup y.1 = some .cell ∧ ((cellsFrom (s.heap.objs.size + 1) scope.names []).lookup y.1).isSome = true) := by
    rintro ⟨n, v⟩ hy
    exact (S.par n (List.of_mem_zip hy).1).imp id fun q => ⟨q, PySem.W.cellsFrom_some _ _ _ (.inl q)⟩
  refine codeAny_call_function hr.depth (KX _ _ lk) rfl S.co S.gen rfl (PySem.W.codeRec_of KX hcd) (hbd _ _ _ _ ?_)
  refine wpAny_newFunctionEnv_cells S.kind hk ?_
  rintro env rfl s1 x
  refine ⟨lim.keeps x.toInCall.keep, codeAny_func ?_⟩
  obtain ⟨t, ht, hq⟩ := hb cdv ⟨_, _, _, _, _, _, _, _, _, lk⟩ hcd Ar outer s H vs Q E hg (hr.deeper _) hsp
  refine wpAny_mono (ht.run [] s1 (L2.start N vs) H _ (L2.inv_start S hr.hd e0 hl r x) hq) (fun fl s' hs => ?_) (fun _ _ z => z)
  rcases fl with _ | _ | _ | u
  · obtain ⟨σ', H', J, q⟩ := hs
    exact ⟨V.non, H', J.os, J.bare, J.base, J.hok, rfl, q⟩
  · obtain ⟨_, _, _, q⟩ := hs
    exact q.elim
  · obtain ⟨_, _, _, q⟩ := hs
    exact q.elim
  · obtain ⟨v, σ', H', J, rv, q⟩ := hs
    exact ⟨v, H', J.os, J.bare, J.base, J.hok, rv, q⟩
section
variable {X : Cx}
/-- called from a body -/
theorem runG {k : Nat} {f : Addr} {fd : FuncData} {ps : List Str} {sp : Sp} {dvs : List V} {ds : List Value} {W : XK} {pins : List (Addr × Obj)} {σ : L2.St} {H : Hp} {s : Shared} {Q : VK} {us : List Value} {vs : List V}
    (F : FnG X.prog X.w X.K X.mg X.base k f fd ps sp) (hg : X.A.guards = some []) (hr : Room k X.A) (hb : L2.Binds X.K fd ps ds) (hd : Vals dvs ds) (tk : L2.Takes X fun c d _ H => W c d H)
    (I : L2.Inv X pins σ H s) (r : Vals vs us) (h : sp (vs ++ dvs) H Q W) : wpAny (model X.prog X.w) X.A (call (.ref f) us) (L2.EP X pins σ Q) X.xe s := by
  have r2 := L2.Vals.append r hd
  have hl : (us ++ ds).length = ps.length := by
    rw [← L2.Vals.length r2]
    exact F.len _ _ _ _ h
  refine wpAny_call (codeAny_mono (F.run X.A X.stack s H ⟨us, []⟩ _ _ Q W hg hr I.env0 (hb s us I.kIn hl) r2 h) ?_)
  rintro (e | fl) s' hq
  · exact L2.passAt tk σ pins H s e s' I hq
  · rcases fl with _ | _ | _ | u
    · exact hq.elim
    · exact hq.elim
    · exact hq.elim
    · exact I.after hq
end
/-! ### names -/
def visB (sc : Scope) (x : Str) : Bool := match sc.names.lookup x with
  | some .local => true
  | some .cell => true
  | some .free => true
  | _ => false
def gloB (sc : Scope) (x : Str) : Bool := match sc.names.lookup x with
  | some .globalImplicit => true
  | _ => false
def stoB (sc : Scope) (x : Str) : Bool := match sc.names.lookup x with
  | some .local => true
  | some .cell => true
  | _ => false
def odd (x : Str) : Bool := x == ("__debug__" : Str) || x == ("__classdict__" : Str) || x == ("__name__" : Str)
theorem visB_ok {sc : Scope} {x : Str} (h : visB sc x = true) : L2.Vis sc x := by
  unfold visB at h
  split at h
  · exact .inl (by assumption)
  · exact .inr (.inl (by assumption))
  · exact .inr (.inr (by assumption))
  · cases h
theorem gloB_ok {sc : Scope} {x : Str} (h : gloB sc x = true) : sc.names.lookup x = some .globalImplicit := by
  unfold gloB at h
  split at h
  · assumption
  · cases h
theorem stoB_ok {sc : Scope} {x : Str} (h : stoB sc x = true) : sc.names.lookup x = some .local ∨ sc.names.lookup x = some .cell := by
  unfold stoB at h
  split at h
  · exact .inl (by assumption)
  · exact .inr (by assumption)
  · cases h
theorem odd_ok {x : Str} (h : odd x = false) : (x == ("__debug__" : Str)) = false ∧ (x == ("__classdict__" : Str)) = false ∧ x ≠ "__name__" := by
  unfold odd at h
  rw [Bool.or_eq_false_iff, Bool.or_eq_false_iff] at h
  exact ⟨h.1.1, h.1.2, fun e => by rw [e] at h; simp at h⟩
/-! ### promises -/
def RpX (A : Ad) (B : Addr → Prop) (m : List Addr) (h : Hs) (H : Hp) (x : XV) (cls : Value) (d : Option Addr) : Prop := cls = .ref (A.CA x.cls) ∧ x.flds = [] ∧ d = none
def Kv (A : Ad) (B : Addr → Prop) (m : List Addr) (h : Hs) (H : Hp) (Q : VK) : QV := fun v h' => ∀ m' H' w, Sim A B m' h' H' → Mv m h H m' h' H' → RpR A B m' h' H' v w → Q w H'
def Kx (A : Ad) (B : Addr → Prop) (m : List Addr) (h : Hs) (H : Hp) (W : XK) : QX := fun x h' => ∀ m' H' cls d, Sim A B m' h' H' → Mv m h H m' h' H' → RpX A B m' h' H' x cls d → W cls d H'
theorem Kx.move {A : Ad} {B : Addr → Prop} {m m1 : List Addr} {h h1 : Hs} {H H1 : Hp} {W : XK} (M : Mv m h H m1 h1 H1) : ∀ x h', Kx A B m h H W x h' → Kx A B m1 h1 H1 W x h' := fun x h' k m' H' cls d S M' r => k m' H' cls d S (M.trans M') r
theorem Kv.move {A : Ad} {B : Addr → Prop} {m m1 : List Addr} {h h1 : Hs} {H H1 : Hp} {Q : VK} (M : Mv m h H m1 h1 H1) : ∀ x h', Kv A B m h H Q x h' → Kv A B m1 h1 H1 Q x h' := fun x h' k m' H' w S M' r => k m' H' w S (M.trans M') r
/-- the promise of a def, as the language has it -/
def spC (A : Ad) (C : CallT) (f : Nat) : Sp := fun vs H Q E => ∃ B m h args, Sim A B m h H ∧ RpRs A B m h H args vs ∧ C f args h (Kv A B m h H Q) (Kx A B m h H E)
/-- defaults -/
def dfV : PV → Option V
  | .non => some .non
  | .int i => some (.int i)
  | .bl b => some (.bl b)
  | _ => none
theorem dfV_rep {A : Ad} {L : Addr → Prop} {H : Hp} {p : PV} {v : V} (e : dfV p = some v) : Rp A L H p v := by
  cases p <;> simp [dfV] at e <;> subst e <;> constructor
/-- a def of the text: where it stands, how it is called with the defaults dv -/
structure DefAt (A : Ad) (C : CallT) (kk : Nat) (X : Cx) (f : Nat) (df : Df) : Prop where
  nm : X.mg df.name = some (.ref (A.F f))
  kp : PySem.W.keepIn X.K (.ref (A.F f)) = true
  fn : ∃ (fd : FuncData) (ps : List Str), FnG X.prog X.w X.K X.mg X.base kk (A.F f) fd ps (spC A C f) ∧ ps.length = df.npar ∧
    ∀ n, n ≤ df.dfl.length → ∃ dvs ds, (df.dfl.drop n).mapM dfV = some dvs ∧ Vals dvs ds ∧ L2.Binds X.K fd ps ds
/-- an error class of the text that is raised -/
structure ExcAt (A : Ad) (X : Cx) (c : Nat) (x : Str) : Prop where
  mg : X.mg x = some (.ref (A.CA c))
  ei : PySem.W.excIn X.K (A.CA c) He.veBase "ValueError.__new__" = true
  kp : PySem.W.keepIn X.K (.ref (A.CA c)) = true
  rs : L2.Raises X (.ref (A.CA c))
/-- what the law's own word makes of a call without parameters -/
def tWd (A : Ad) (P : Pg) (t : XK → TE) : TE := fun σ H Q => LamX.Tabs A.T H ∧ ∀ H1, LamX.ExtN H H1 → LamX.Tabs A.T H1 →
  t (fun cls d H' => ∃ c w B m h, P.exc[c]? = some w ∧ cls = .ref (A.CA c) ∧ d = none ∧ Sim A B m h H' ∧ Kp A B m h H' Q (.tup [.str w.2])) σ H1 fun v H' => ([.str "told", v] : List V).length ≤ sizeLine ∧ ∀ p, H' p = none → Q (.ref p) (upd H' p (.tup [.str "told", v]))
/-- no parameter -/
def noPar (ps : Arguments) : Bool := ps.posonlyargs.isEmpty && ps.args.isEmpty && ps.vararg.isNone && ps.kwonlyargs.isEmpty && ps.kw_defaults.isEmpty && ps.kwarg.isNone && ps.defaults.isEmpty
structure LamAt (A : Ad) (P : Pg) (kk : Nat) (X : Cx) : Prop where
  go : ∀ {params : Arguments} {body : Expr} {scope : Scope} {p lpos pos : Pos} {t : XK → TE}, X.env.scope.names.lookup ("_law_word" : Str) = some .globalImplicit → LamX.lamSB X.env.scope scope = true → noPar params = true →
    (∀ (Ar : Around) (outer : List PySem.Env) (s : Shared) (H : Hp) (E : XK) (f c' : Addr), Ar.guards = some [] → Room kk (Ar.deeper (LamX.lamEnv X scope s.heap.objs.size f c')) → PE (LamX.lamCx X Ar outer s H E scope f c') body (t E)) →
    PE X (.Call (.Name "_law_word" p) [.Lambda params body scope lpos] [] pos) (tWd A P t)
structure Ctx (A : Ad) (P : Pg) (C : CallT) (N : List Str) (sc ss : Scope) (l : Bool) (kk : Nat) (W : XK) (X : Cx) : Prop where
  eK : X.K = A.K
  eS : X.env.scope = sc
  eN : X.N = N
  kd : sc.kind = .function
  nd : N.Nodup
  calm : X.calm = true
  un : X.A.units + 65 < cLine
  gd : X.A.guards = some []
  tk : L2.Takes X fun c d _ H => W c d H
  po : PassesOwn (model X.prog X.w) X.A X.env X.xe
  st : ∀ x, stoB ss x = true → L2.Loc sc x ∧ (X.fn x = true ∨ sc.names.lookup x = some .local)
  rm : Room kk X.A
  cal : ∀ (f : Nat) (df : Df), P.defs[f]? = some df → DefAt A C kk X f df
  con : ∀ (g : Nat) (x : Str) (p : PV), P.cons[g]? = some (x, p) → ∃ u v, X.mg x = some u ∧ L2.RelV v u ∧ ∀ L H, Rp A L H p v
  blt : ∀ x ∈ P.blt, X.mg x = none
  exc : ∀ c ∈ P.rai, ∀ w, P.exc[c]? = some w → ExcAt A X c w.1
  lam : l = true → LamAt A P kk X
end G43
set_option Elab.async false
set_option linter.all false
set_option maxRecDepth 100000
set_option maxHeartbeats 4000000
namespace G43
open PySem
open L2 (V HO Hp SqL SqT Rd upd upd_same upd_ne Cx OpR R2 VK CallR IxR SlR TE TA TS TT PE PA PS PSs PT XK Sp Room Vals)
open PySem.Spec PyProof.Rows
/-! ### does a text say what the small language says? -/
def biN : BI → Str
  | .len => "len"
  | .abs => "abs"
  | .max => "max"
  | .int => "int"
  | .tuple => "tuple"
  | .list => "list"
  | .all => "all"
  | .any => "any"
  | .repr => "repr"
  | .str => "str"
  | .sorted => "sorted"
  | .sum => "sum"
  | .bool => "bool"
  | .set => "set"
def cstB : PV → Const → Bool
  | .non, .none => true
  | .bl a, .bool b => a == b
  | .int i, .int j => decide (i = j)
  | .str x, .str y => decide (x = y)
  | _, _ => false
def noStar : Expr → Bool
  | .Starred _ _ => false
  | _ => true
def noSlice : Expr → Bool
  | .Slice _ _ _ _ => false
  | _ => true
def noSet : Expr → Bool
  | .Set _ _ _ => false
  | _ => true
def samD : PV → PV → Bool
  | .non, .non => true
  | .int i, .int j => decide (i = j)
  | .bl i, .bl j => i == j
  | _, _ => false
def samDs : List PV → List PV → Bool
  | [], [] => true
  | x :: xs, y :: ys => samD x y && samDs xs ys
  | _, _ => false
mutual
def mG (N : List Str) (ss : Scope) : Tg → Expr → Bool
  | .nm i, .Name x _ => decide (N[i]? = some x) && stoB ss x
  | .nil, .Tuple [] _ _ => true
  | .cons a r, .Tuple (e :: es) _ _ => mG N ss a e && noStar e && mGL N ss r es
  | _, _ => false
def mGL (N : List Str) (ss : Scope) : Tg → List Expr → Bool
  | .nil, [] => true
  | .cons a r, e :: es => mG N ss a e && noStar e && mGL N ss r es
  | _, _ => false
end
def itT : It → Expr → Bool
  | .enm _, .Tuple _ _ _ => true
  | .enm _, _ => false
  | _, _ => true
def ownOf (N : List Str) (tg : Tg) : List (Str × Nat) := tg.slots.map fun i => (N.getD i "", i)
theorem ownOf_slots (N : List Str) (tg : Tg) : (ownOf N tg).map (·.2) = tg.slots := by
  unfold ownOf
  rw [List.map_map]
  exact List.map_id _
section
variable (P : Pg) (N : List Str)
mutual
def mE : E → Bool → Scope → Expr → Bool
  | .var i, l, sc, .Name x _ => decide (N[i]? = some x) && visB sc x && !odd x
  | .cst p, l, _, .Constant c _ _ => cstB p c
  | .glo g, l, sc, .Name x _ => (match P.cons[g]? with | some q => decide (q.1 = x) | none => false) && gloB sc x && !odd x
  | .bin op a b, l, sc, .BinOp a' op' b' _ => decide (op = op') && mE a l sc a' && mE b l sc b'
  | .neg a, l, sc, .UnaryOp .USub a' _ => mE a l sc a'
  | .nt a, l, sc, .UnaryOp .Not a' _ => mE a l sc a'
  | .and a b, l, sc, .BoolOp .And [x, y] _ => mE a l sc x && mE b l sc y
  | .and a b, l, sc, .BoolOp .And (x :: y :: z :: r) p => mE a l sc x && mE b l sc (.BoolOp .And (y :: z :: r) p)
  | .or a b, l, sc, .BoolOp .Or [x, y] _ => mE a l sc x && mE b l sc y
  | .or a b, l, sc, .BoolOp .Or (x :: y :: z :: r) p => mE a l sc x && mE b l sc (.BoolOp .Or (y :: z :: r) p)
  | .cmp op a b, l, sc, .Compare a' [op'] [b'] _ => decide (op = op') && !behindInMarks op b' && mE a l sc a' && mE b l sc b'
  | .chn o1 o2 a b c, l, sc, .Compare a' [p1, p2] [b', c'] _ => decide (o1 = p1) && decide (o2 = p2) && !lastMarks [o1, o2] [b', c'] && mE a l sc a' && mE b l sc b' && mE c l sc c'
  | .ite t a b, l, sc, .IfExp t' a' b' _ => mE t l sc t' && mE a l sc a' && mE b l sc b'
  | .call f es dv, l, sc, .Call (.Name x _) args [] _ => (match P.defs[f]? with | some df => decide (df.name = x) && decide (es.len + dv.length = df.npar) && decide (dv.length ≤ df.dfl.length) && samDs (df.dfl.drop (df.dfl.length - dv.length)) dv | none => false) && gloB sc x && !odd x && mL es l sc args
  | .bi b es, l, sc, .Call (.Name x _) args [] _ => decide (biN b = x) && decide (x ∈ P.blt) && gloB sc x && mL es l sc args && !args.isEmpty
  | .isi a t, l, sc, .Call (.Name x _) [a', .Name y _] [] _ => decide (x = "isinstance") && decide (y = Str.ofString (tyN t)) && decide (x ∈ P.blt) && decide (y ∈ P.blt) && gloB sc x && gloB sc y && mE a l sc a' && noStar a'
  | .idx a i, l, sc, .Subscript a' i' _ => noSlice i' && mE a l sc a' && mE i l sc i'
  | .slo a lo, l, sc, .Subscript a' (.Slice (some l') none none _) _ => mE a l sc a' && mE lo l sc l'
  | .shi a hi, l, sc, .Subscript a' (.Slice none (some h') none _) _ => mE a l sc a' && mE hi l sc h'
  | .slh a lo hi, l, sc, .Subscript a' (.Slice (some l') (some h') none _) _ => mE a l sc a' && mE lo l sc l' && mE hi l sc h'
  | .tup es, l, sc, .Tuple es' _ _ => mL es l sc es' && decide (es'.length ≤ 1000)
  | .lst es, l, sc, .List es' _ => mL es l sc es' && decide (es'.length ≤ 1000)
  | .mls es, l, sc, .List es' _ => mL es l sc es' && decide (es'.length ≤ 1000)
  | .word e, l, sc, .Call (.Name x _) [.Lambda ps body scope _] [] _ => l && decide (x = "_law_word") && gloB sc x && LamX.lamSB sc scope && noPar ps && mE e false scope body
  | .comp elt tg it ifs, l, sc, .ListComp elt' [⟨tg', it', ifs', as⟩] scope _ => decide (as = 0) && L2.blkC N sc scope (ownOf N tg) && mG N scope tg tg' && itT it tg' && noSet it' && mI it l sc it' && mTs ifs false (L2.relS scope sc) ifs' && mE elt false (L2.relS scope sc) elt'
  | _, l, _, _ => false
def mL : EL → Bool → Scope → List Expr → Bool
  | .nil, l, _, [] => true
  | .cons e r, l, sc, e' :: r' => mE e l sc e' && noStar e' && mL r l sc r'
  | _, l, _, _ => false
def mI : It → Bool → Scope → Expr → Bool
  | .seq e, l, sc, x => mE e l sc x
  | .rng1 e, l, sc, .Call (.Name x _) [e'] [] _ => decide (x = "range") && decide (x ∈ P.blt) && gloB sc x && noStar e' && mE e l sc e'
  | .enm e, l, sc, .Call (.Name x _) [e'] [] _ => decide (x = "enumerate") && decide (x ∈ P.blt) && gloB sc x && noStar e' && mE e l sc e'
  | _, l, _, _ => false
def mTs : EL → Bool → Scope → List Expr → Bool
  | .nil, l, _, [] => true
  | .cons e .nil, l, sc, [e'] => mE e l sc e'
  | _, l, _, _ => false
end
end
theorem starEach_no {e : Expr} (h : noStar e = true) (es : List Expr) (env : PySem.Env) : starEach (e :: es) env = (false, eval e env) :: starEach es env := by
  cases e <;> first | rfl | cases h
theorem back_no (pos : Pos) (env : PySem.Env) : ∀ {es : List Expr}, es.all noStar = true → (backTo pos (starEach es env)).any (·.1) = false
  | [], _ => rfl
  | e :: es, h => by
    rw [List.all_cons, Bool.and_eq_true] at h
    rw [starEach_no h.1]
    have := back_no pos env h.2
    simpa [backTo] using this
/-! ### readings -/
section
variable (A : Ad) (P : Pg) (C : CallT) (W : XK)
def tE (e : E) : TE := fun σ H Q => ∃ B m h ρ, Sim A B m h H ∧ Sl A B m h H ρ σ ∧ wpE P C e ρ h (Kv A B m h H Q) (Kx A B m h H W)
def Kvs (A : Ad) (B : Addr → Prop) (m : List Addr) (h : Hs) (H : Hp) (Q : List V → Hp → Prop) : List RV → Hs → Prop := fun v h' => ∀ m' H' w, Sim A B m' h' H' → Mv m h H m' h' H' → RpRs A B m' h' H' v w → Q w H'
def tL (es : EL) : TA := fun σ H Q => ∃ B m h ρ, Sim A B m h H ∧ Sl A B m h H ρ σ ∧ wpL P C es ρ h (Kvs A B m h H Q) (Kx A B m h H W)
/-- as a test -/
def tQ (e : E) : TT := fun σ H Q => tE A P C W e σ H fun v H1 => ∃ c, v = .bl c ∧ Q c H1
end
section
variable {A : Ad} {P : Pg} {C : CallT} {W : XK} {B : Addr → Prop} {m : List Addr} {h : Hs} {H : Hp} {ρ : Env} {σ : L2.St}
theorem tE_of (hC : MonoC C C) {e : E} {R : QV} {T : VK} (S : Sim A B m h H) (s : Sl A B m h H ρ σ) (z : wpE P C e ρ h R (Kx A B m h H W))
    (k : ∀ v h1 m1 H1 w, R v h1 → Sim A B m1 h1 H1 → Mv m h H m1 h1 H1 → RpR A B m1 h1 H1 v w → T w H1) : tE A P C W e σ H T :=
  ⟨B, m, h, ρ, S, s, wpE_mono hC e (fun v h1 r m1 H1 w S1 M1 q => k v h1 m1 H1 w r S1 M1 q) (fun _ _ z => z) z⟩
theorem tL_of (hC : MonoC C C) {es : EL} {R : List RV → Hs → Prop} {T : List V → Hp → Prop} (S : Sim A B m h H) (s : Sl A B m h H ρ σ) (z : wpL P C es ρ h R (Kx A B m h H W))
    (k : ∀ v h1 m1 H1 w, R v h1 → Sim A B m1 h1 H1 → Mv m h H m1 h1 H1 → RpRs A B m1 h1 H1 v w → T w H1) : tL A P C W es σ H T :=
  ⟨B, m, h, ρ, S, s, wpL_mono hC es (fun v h1 r m1 H1 w S1 M1 q => k v h1 m1 H1 w r S1 M1 q) (fun _ _ z => z) z⟩
/-- the next expression, behind another -/
theorem wpE_next (hC : MonoC C C) {e : E} {R : QV} {m1 : List Addr} {h1 : Hs} {H1 : Hp} (M : Mv m h H m1 h1 H1) (z : wpE P C e ρ h1 R (Kx A B m h H W)) : wpE P C e ρ h1 R (Kx A B m1 h1 H1 W) :=
  wpE_mono hC e (fun _ _ q => q) (Kx.move M) z
theorem wpL_next (hC : MonoC C C) {e : EL} {R : List RV → Hs → Prop} {m1 : List Addr} {h1 : Hs} {H1 : Hp} (M : Mv m h H m1 h1 H1) (z : wpL P C e ρ h1 R (Kx A B m h H W)) : wpL P C e ρ h1 R (Kx A B m1 h1 H1 W) :=
  wpL_mono hC e (fun _ _ q => q) (Kx.move M) z
theorem PE_imp {X : Cx} {e : Expr} {t t' : TE} (p : PE X e t) (i : ∀ σ H Q, t' σ H Q → t σ H Q) : PE X e t' := ⟨fun pins s σ H Q I z => p.run pins s σ H Q I (i σ H Q z)⟩
theorem PT_imp {X : Cx} {e : Expr} {t t' : TT} (p : PT X e t) (i : ∀ σ H Q, t' σ H Q → t σ H Q) : PT X e t' := ⟨fun pins s σ H Q I z => p.run pins s σ H Q I (i σ H Q z)⟩
theorem PA_imp {X : Cx} {e : List Expr} {t t' : TA} (p : PA X e t) (i : ∀ σ H Q, t' σ H Q → t σ H Q) : PA X e t' := ⟨fun pos pins s σ H Q I z => p.run pos pins s σ H Q I (i σ H Q z)⟩
theorem Kp_of {Q : VK} {m1 : List Addr} {h1 : Hs} {H1 : Hp} (M : Mv m h H m1 h1 H1) {p : PV} (k : Kv A B m h H Q (.pv p) h1) : Kp A B m1 h1 H1 Q p := fun H' v S M' r => k m1 H' v S (M.trans M') r
end
end G43
set_option Elab.async false
set_option linter.all false
set_option maxRecDepth 100000
set_option maxHeartbeats 4000000
namespace G43
open PySem
open L2 (V HO Hp SqL SqT Rd upd upd_same upd_ne Cx OpR R2 VK CallR IxR SlR TE TA TS TT PE PA PS PSs PT XK Sp Room Vals)
open PySem.Spec PyProof.Rows
section
variable {A : Ad} {P : Pg} {C : CallT} {N : List Str} {sc ss : Scope} {l : Bool} {kk : Nat} {W : XK} {X : Cx}
/-! ### one by one -/
theorem s_var (cx : Ctx A P C N sc ss l kk W X) {i : Nat} {x : Str} {pos : Pos} (hN : N[i]? = some x) (hv : visB sc x = true) (ho : odd x = false) : PE X (.Name x pos) (tE A P C W (.var i)) := by
  obtain ⟨o1, o2, o3⟩ := odd_ok ho
  refine PE_imp (L2.pe_var (i := i) (by rw [cx.eN]; exact hN) (by rw [cx.eS]; exact visB_ok hv) o1 o2) fun σ H Q z => ?_
  obtain ⟨B, m, h, ρ, S, s, z⟩ := z
  unfold wpE at z
  obtain ⟨v, e, k⟩ := z
  obtain ⟨w, e1, r⟩ := s.at_ i v e
  exact ⟨w, e1, k m H w S (Mv.refl _ _ _) r⟩
theorem s_cst {p : PV} {c : Const} {j : Nat} {pos : Pos} (hc : cstB p c = true) : PE X (.Constant c j pos) (tE A P C W (.cst p)) := by
  have fin : ∀ {v : V}, (∀ L H, Rp A L H p v) → PE X (.Constant c j pos) (L2.tC v) → PE X (.Constant c j pos) (tE A P C W (.cst p)) := fun {v} r q => PE_imp q fun σ H Q z => by
    obtain ⟨B, m, h, ρ, S, s, z⟩ := z
    unfold wpE at z
    exact z m H v S (Mv.refl _ _ _) (r _ _)
  unfold cstB at hc
  split at hc
  · exact fin (fun _ _ => .non) L2.pe_non
  · cases eq_of_beq hc
    exact fin (fun _ _ => .bl _) L2.pe_bl
  · cases of_decide_eq_true hc
    exact fin (fun _ _ => .int _) L2.pe_int
  · cases of_decide_eq_true hc
    exact fin (fun _ _ => .str _) L2.pe_str
  · cases hc
theorem s_glo (cx : Ctx A P C N sc ss l kk W X) {g : Nat} {x : Str} {p : PV} {pos : Pos} (hg : P.cons[g]? = some (x, p)) (hv : gloB sc x = true) (ho : odd x = false) : PE X (.Name x pos) (tE A P C W (.glo g)) := by
  obtain ⟨o1, o2, o3⟩ := odd_ok ho
  obtain ⟨u, v, e1, e2, e3⟩ := cx.con g x p hg
  refine PE_imp (L2.pe_glob (v := v) (show X.env.scope.names.lookup x = _ by rw [cx.eS]; exact gloB_ok hv) e1 e2 o1) fun σ H Q z => ?_
  obtain ⟨B, m, h, ρ, S, s, z⟩ := z
  unfold wpE at z
  obtain ⟨y, q, e4, k⟩ := z
  rw [hg] at e4
  cases e4
  exact k m H v S (Mv.refl _ _ _) (e3 _ _)
variable (hC : MonoC C C)
include hC
theorem s_bin (cx : Ctx A P C N sc ss l kk W X) {op : Operator} {a b : E} {a' b' : Expr} {pos : Pos} (ha : PE X a' (tE A P C W a)) (hb : PE X b' (tE A P C W b)) : PE X (.BinOp a' op b' pos) (tE A P C W (.bin op a b)) := by
  refine PE_imp (L2.pe_op (op_bin cx.eK op) ha hb) fun σ H Q z => ?_
  obtain ⟨B, m, h, ρ, S, s, z⟩ := z
  unfold wpE at z
  refine tE_of hC S s z fun v h1 m1 H1 w q S1 M1 r1 => ?_
  refine tE_of hC S1 (s.move S M1) (wpE_next hC M1 q) fun v2 h2 m2 H2 w2 q2 S2 M2 r2 => ?_
  obtain ⟨p, p2, e1, e2, k⟩ := q2
  exact ⟨B, m2, h2, p, p2, S2, (r1.move S1 M2).rw S2 e1, r2.rw S2 e2, wpBin_mono (fun r k => Kp_of (M1.trans M2) k) k⟩
theorem s_neg {a : E} {a' : Expr} {pos : Pos} (ha : PE X a' (tE A P C W a)) : PE X (.UnaryOp .USub a' pos) (tE A P C W (.neg a)) := by
  refine PE_imp (L2.pe_un L2.un_neg ha) fun σ H Q z => ?_
  obtain ⟨B, m, h, ρ, S, s, z⟩ := z
  unfold wpE at z
  refine tE_of hC S s z fun v h1 m1 H1 w q S1 M1 r1 => ?_
  obtain ⟨i, rfl, k⟩ := q
  cases r1
  exact ⟨i, rfl, k m1 H1 _ S1 M1 (.int _)⟩
theorem s_nt {a : E} {a' : Expr} {pos : Pos} (ha : PE X a' (tE A P C W a)) : PE X (.UnaryOp .Not a' pos) (tE A P C W (.nt a)) := by
  refine PE_imp (L2.pe_not ha) fun σ H Q z => ?_
  obtain ⟨B, m, h, ρ, S, s, z⟩ := z
  unfold wpE at z
  refine tE_of hC S s z fun v h1 m1 H1 w q S1 M1 r1 => ?_
  obtain ⟨c, rfl, k⟩ := q
  cases r1
  exact ⟨c, rfl, k m1 H1 _ S1 M1 (.bl _)⟩
theorem i_and {a b : E} : ∀ σ H Q, tE A P C W (.and a b) σ H Q → L2.tAndV (tE A P C W a) (tE A P C W b) σ H Q := fun σ H Q z => by
  obtain ⟨B, m, h, ρ, S, s, z⟩ := z
  unfold wpE at z
  refine tE_of hC S s z fun v h1 m1 H1 w q S1 M1 r1 => ?_
  obtain ⟨c, rfl, k⟩ := q
  cases r1
  refine ⟨c, rfl, ?_⟩
  cases c with
  | true =>
    rw [if_pos rfl] at k ⊢
    exact tE_of hC S1 (s.move S M1) (wpE_next hC M1 k) fun v2 h2 m2 H2 w2 q2 S2 M2 r2 => q2 m2 H2 w2 S2 (M1.trans M2) r2
  | false =>
    rw [if_neg Bool.false_ne_true] at k ⊢
    exact k m1 H1 _ S1 M1 (.bl _)
theorem i_or {a b : E} : ∀ σ H Q, tE A P C W (.or a b) σ H Q → L2.tOrV (tE A P C W a) (tE A P C W b) σ H Q := fun σ H Q z => by
  obtain ⟨B, m, h, ρ, S, s, z⟩ := z
  unfold wpE at z
  refine tE_of hC S s z fun v h1 m1 H1 w q S1 M1 r1 => ?_
  obtain ⟨c, rfl, k⟩ := q
  cases r1
  refine ⟨c, rfl, ?_⟩
  cases c with
  | true =>
    rw [if_pos rfl] at k ⊢
    exact k m1 H1 _ S1 M1 (.bl _)
  | false =>
    rw [if_neg Bool.false_ne_true] at k ⊢
    exact tE_of hC S1 (s.move S M1) (wpE_next hC M1 k) fun v2 h2 m2 H2 w2 q2 S2 M2 r2 => q2 m2 H2 w2 S2 (M1.trans M2) r2
theorem i_cmp {op : CmpOp} {a b : E} : ∀ σ H Q, tE A P C W (.cmp op a b) σ H Q → L2.tOp (rC A op) (tE A P C W a) (tE A P C W b) σ H Q := fun σ H Q z => by
  obtain ⟨B, m, h, ρ, S, s, z⟩ := z
  unfold wpE at z
  refine tE_of hC S s z fun v h1 m1 H1 w q S1 M1 r1 => ?_
  refine tE_of hC S1 (s.move S M1) (wpE_next hC M1 q) fun v2 h2 m2 H2 w2 q2 S2 M2 r2 => ?_
  obtain ⟨p, p2, e1, e2, k⟩ := q2
  exact ⟨B, m2, h2, p, p2, S2, (r1.move S1 M2).rw S2 e1, r2.rw S2 e2, wpCmp_mono (fun r k => k m2 H2 _ S2 (M1.trans M2) (.bl _)) k⟩
theorem i_chn {o1 o2 : CmpOp} {a b c : E} : ∀ σ H Q, tE A P C W (.chn o1 o2 a b c) σ H Q → L2.tChain (rC A o1) (rC A o2) (tE A P C W a) (tE A P C W b) (tE A P C W c) σ H Q := fun σ H Q z => by
  obtain ⟨B, m, h, ρ, S, s, z⟩ := z
  unfold wpE at z
  refine tE_of hC S s z fun v h1 m1 H1 w q S1 M1 r1 => ?_
  refine tE_of hC S1 (s.move S M1) (wpE_next hC M1 q) fun v2 h2 m2 H2 w2 q2 S2 M2 r2 => ?_
  obtain ⟨p, p2, e1, e2, k⟩ := q2
  refine ⟨B, m2, h2, p, p2, S2, (r1.move S1 M2).rw S2 e1, r2.rw S2 e2, wpCmp_mono (fun r k => ⟨r, rfl, ?_⟩) k⟩
  cases r with
  | true =>
    rw [if_pos rfl] at k ⊢
    refine tE_of hC S2 ((s.move S M1).move S1 M2) (wpE_next hC (M1.trans M2) k) fun v3 h3 m3 H3 w3 q3 S3 M3 r3 => ?_
    obtain ⟨p3, p4, e3, e4, k⟩ := q3
    exact ⟨B, m3, h3, p3, p4, S3, (r2.move S2 M3).rw S3 e3, r3.rw S3 e4, wpCmp_mono (fun r k => k m3 H3 _ S3 ((M1.trans M2).trans M3) (.bl _)) k⟩
  | false =>
    rw [if_neg Bool.false_ne_true] at k ⊢
    exact k m2 H2 _ S2 (M1.trans M2) (.bl _)
theorem i_ite {t a b : E} : ∀ σ H Q, tE A P C W (.ite t a b) σ H Q → L2.tIf (tQ A P C W t) (tE A P C W a) (tE A P C W b) σ H Q := fun σ H Q z => by
  obtain ⟨B, m, h, ρ, S, s, z⟩ := z
  unfold wpE at z
  refine tE_of hC S s z fun v h1 m1 H1 w q S1 M1 r1 => ?_
  obtain ⟨c, rfl, k⟩ := q
  cases r1
  refine ⟨c, rfl, ?_⟩
  cases c with
  | true =>
    rw [if_pos rfl] at k ⊢
    exact tE_of hC S1 (s.move S M1) (wpE_next hC M1 k) fun v2 h2 m2 H2 w2 q2 S2 M2 r2 => q2 m2 H2 w2 S2 (M1.trans M2) r2
  | false =>
    rw [if_neg Bool.false_ne_true] at k ⊢
    exact tE_of hC S1 (s.move S M1) (wpE_next hC M1 k) fun v2 h2 m2 H2 w2 q2 S2 M2 r2 => q2 m2 H2 w2 S2 (M1.trans M2) r2
theorem s_idx (cx : Ctx A P C N sc ss l kk W X) {a i : E} {a' i' : Expr} {pos : Pos} (hs : noSlice i' = true) (ha : PE X a' (tE A P C W a)) (hb : PE X i' (tE A P C W i)) : PE X (.Subscript a' i' pos) (tE A P C W (.idx a i)) := by
  refine PE_imp (L2.pe_ix (ix_ok cx.eK) ha hb (fun o i => by cases i' <;> first | rfl | cases hs)) fun σ H Q z => ?_
  obtain ⟨B, m, h, ρ, S, s, z⟩ := z
  unfold wpE at z
  refine tE_of hC S s z fun v h1 m1 H1 w q S1 M1 r1 => ?_
  refine tE_of hC S1 (s.move S M1) (wpE_next hC M1 q) fun v2 h2 m2 H2 w2 q2 S2 M2 r2 => ?_
  obtain ⟨p, p2, e1, e2, k⟩ := q2
  subst e2
  exact ⟨B, m2, h2, p, p2, S2, (r1.move S1 M2).rw S2 e1, .p r2, wpIx_mono (fun r k => Kp_of (M1.trans M2) k) k⟩
theorem s_slo (cx : Ctx A P C N sc ss l kk W X) {a lo : E} {a' l' : Expr} {p2 pos : Pos} (ha : PE X a' (tE A P C W a)) (hb : PE X l' (tE A P C W lo)) : PE X (.Subscript a' (.Slice (some l') none none p2) pos) (tE A P C W (.slo a lo)) := by
  refine PE_imp (L2.pe_slice (sl_ok cx.eK) ha (L2.po_some hb) L2.po_none) fun σ H Q z => ?_
  obtain ⟨B, m, h, ρ, S, s, z⟩ := z
  unfold wpE at z
  refine tE_of hC S s z fun v h1 m1 H1 w q S1 M1 r1 => ?_
  refine tE_of hC S1 (s.move S M1) (wpE_next hC M1 q) fun v2 h2 m2 H2 w2 q2 S2 M2 r2 => ?_
  obtain ⟨p, i, e1, e2, k⟩ := q2
  subst e2
  cases r2
  exact ⟨i, rfl, B, m2, h2, p, S2, (r1.move S1 M2).rw S2 e1, wpSl_mono (fun r k => Kp_of (M1.trans M2) k) k⟩
theorem s_shi (cx : Ctx A P C N sc ss l kk W X) {a hi : E} {a' l' : Expr} {p2 pos : Pos} (ha : PE X a' (tE A P C W a)) (hb : PE X l' (tE A P C W hi)) : PE X (.Subscript a' (.Slice none (some l') none p2) pos) (tE A P C W (.shi a hi)) := by
  refine PE_imp (L2.pe_slice (sl_ok cx.eK) ha L2.po_none (L2.po_some hb)) fun σ H Q z => ?_
  obtain ⟨B, m, h, ρ, S, s, z⟩ := z
  unfold wpE at z
  refine tE_of hC S s z fun v h1 m1 H1 w q S1 M1 r1 => ?_
  refine tE_of hC S1 (s.move S M1) (wpE_next hC M1 q) fun v2 h2 m2 H2 w2 q2 S2 M2 r2 => ?_
  obtain ⟨p, i, e1, e2, k⟩ := q2
  subst e2
  cases r2
  exact ⟨i, rfl, B, m2, h2, p, S2, (r1.move S1 M2).rw S2 e1, wpSl_mono (fun r k => Kp_of (M1.trans M2) k) k⟩
theorem s_slh (cx : Ctx A P C N sc ss l kk W X) {a lo hi : E} {a' l' h' : Expr} {p2 pos : Pos} (ha : PE X a' (tE A P C W a)) (hb : PE X l' (tE A P C W lo)) (hc : PE X h' (tE A P C W hi)) :
    PE X (.Subscript a' (.Slice (some l') (some h') none p2) pos) (tE A P C W (.slh a lo hi)) := by
  refine PE_imp (L2.pe_slice (sl_ok cx.eK) ha (L2.po_some hb) (L2.po_some hc)) fun σ H Q z => ?_
  obtain ⟨B, m, h, ρ, S, s, z⟩ := z
  unfold wpE at z
  refine tE_of hC S s z fun v h1 m1 H1 w q S1 M1 r1 => ?_
  refine tE_of hC S1 (s.move S M1) (wpE_next hC M1 q) fun v2 h2 m2 H2 w2 q2 S2 M2 r2 => ?_
  obtain ⟨i, e2, q2⟩ := q2
  subst e2
  cases r2
  refine ⟨i, rfl, ?_⟩
  refine tE_of hC S2 ((s.move S M1).move S1 M2) (wpE_next hC (M1.trans M2) q2) fun v3 h3 m3 H3 w3 q3 S3 M3 r3 => ?_
  obtain ⟨p, l, e1, e3, k⟩ := q3
  subst e3
  cases r3
  exact ⟨l, rfl, B, m3, h3, p, S3, ((r1.move S1 M2).move S2 M3).rw S3 e1, wpSl_mono (fun r k => Kp_of ((M1.trans M2).trans M3) k) k⟩
theorem s_nil : PA X [] (tL A P C W .nil) := PA_imp L2.pa_nil fun σ H Q z => by
  obtain ⟨B, m, h, ρ, S, s, z⟩ := z
  unfold wpL at z
  exact z m H [] S (Mv.refl _ _ _) .nil
theorem s_cons {e : E} {es : EL} {e' : Expr} {es' : List Expr} (hn : noStar e' = true) (h1 : PE X e' (tE A P C W e)) (h2 : PA X es' (tL A P C W es)) : PA X (e' :: es') (tL A P C W (.cons e es)) := by
  refine PA_imp (L2.pa_cons h1 h2 (starEach_no hn _ _)) fun σ H Q z => ?_
  obtain ⟨B, m, h, ρ, S, s, z⟩ := z
  unfold wpL at z
  refine tE_of hC S s z fun v h1 m1 H1 w q S1 M1 r1 => ?_
  refine tL_of hC S1 (s.move S M1) (wpL_next hC M1 q) fun vs h2 m2 H2 ws q2 S2 M2 r2 => ?_
  exact q2 m2 H2 _ S2 (M1.trans M2) (.cons (r1.move S1 M2) r2)
theorem line_of {n : Nat} (h : n ≤ 1000) : n ≤ sizeLine := Nat.le_trans h (by decide)
theorem s_tup {es : EL} {es' : List Expr} {k : Nat} {pos : Pos} (hz : es.len ≤ 1000) (ha : PA X es' (tL A P C W es)) : PE X (.Tuple es' k pos) (tE A P C W (.tup es)) := by
  refine PE_imp (L2.pe_tup ha) fun σ H Q z => ?_
  obtain ⟨B, m, h, ρ, S, s, z⟩ := z
  unfold wpE at z
  refine tL_of hC S s (wpL_len hC hC es z) fun v h1 m1 H1 w q S1 M1 r1 => ?_
  obtain ⟨hl, ps, e, k⟩ := q
  subst e
  exact ⟨by rw [r1.length, hl]; exact line_of hC hz, fun p hp => Kp.tup S1 (Kp_of M1 k) r1.pvs hp⟩
theorem s_lst {es : EL} {es' : List Expr} {pos : Pos} (hz : es.len ≤ 1000) (ha : PA X es' (tL A P C W es)) : PE X (.List es' pos) (tE A P C W (.lst es)) := by
  refine PE_imp (L2.pe_lst ha) fun σ H Q z => ?_
  obtain ⟨B, m, h, ρ, S, s, z⟩ := z
  unfold wpE at z
  refine tL_of hC S s (wpL_len hC hC es z) fun v h1 m1 H1 w q S1 M1 r1 => ?_
  obtain ⟨hl, ps, e, k⟩ := q
  subst e
  exact ⟨by rw [r1.length, hl]; exact line_of hC hz, fun p hp => Kp.lst S1 (Kp_of M1 k) r1.pvs hp⟩
theorem s_mls {es : EL} {es' : List Expr} {pos : Pos} (hz : es.len ≤ 1000) (ha : PA X es' (tL A P C W es)) : PE X (.List es' pos) (tE A P C W (.mls es)) := by
  refine PE_imp (L2.pe_lst ha) fun σ H Q z => ?_
  obtain ⟨B, m, h, ρ, S, s, z⟩ := z
  unfold wpE at z
  refine tL_of hC S s (wpL_len hC hC es z) fun v h1 m1 H1 w q S1 M1 r1 => ?_
  obtain ⟨hl, ps, e, k⟩ := q
  subst e
  refine ⟨by rw [r1.length, hl]; exact line_of hC hz, fun p hp => ?_⟩
  obtain ⟨M2, S2⟩ := S1.cell_new hp r1.pvs
  exact k _ _ _ S2 (M1.trans M2) ⟨p, by rw [← S1.len]; simp, rfl⟩
end
end G43
set_option Elab.async false
set_option linter.all false
set_option maxRecDepth 100000
set_option maxHeartbeats 4100000
/-! enumerate over a tuple: the hand layer knows lists alone. The turn is read off the library's WalksT over Draws. -/
namespace G43
open PySem PySem.Spec PyProof.Rows L2
/-- the fields of a new enumerate over the iterator c -/
abbrev enuO (c : Addr) : Obj := { cls := .type "enumerate", data := .fields #[.none, .bool false, .ref c, rawInt 0, .none, .none] }
theorem enu_new {v : Value} {o : Obj} {S : Heap → Prop} (B : Begins v o S) : Meets (Builtin.«enumerate.__new__» ⟨[.type "enumerate", v], []⟩) (fun _ R s => S s.heap ∧
    R (.ok (.ret (.ref (s.heap.push o).objs.size))) { s with heap := (s.heap.push o).push (enuO s.heap.objs.size) }) := by
  refine .of_wp fun P w A R s => ?_
  rcases s with ⟨hp, g, d, tk, os⟩
  rintro ⟨st, fin⟩
  have isSub := sub_enumerate
  have beg := fun A E Q => B.iter P w A E ⟨hp, g, d, tk, os⟩ Q st
  wp_walk
  refine wpAny_stack_any fun stk => wpAny_pure ?_
  split
  case h_1 c _ _ _ _ _ => cases (c == Value.type "enumerate") <;> (wp_walk using beg; exact ⟨_, rfl, fin⟩)
  all_goals (wp_walk using beg; exact ⟨_, rfl, fin⟩)
/-- a new iterator over the tuple a -/
abbrev tupItO (a : Addr) : Obj := { cls := .type "tuple_iterator", data := .fields #[.ref a, .int 0 0] }
/-- a call enumerate(v): two new cells at the heap's end -/
theorem enu_call {P : Program} {w : World} {A : Around} {E : Value → Shared → Prop} {s : Shared} {v : Value} {o : Obj} {S : Heap → Prop} {Q : Value → Shared → Prop} (B : Begins v o S) (st : S s.heap)
    (fin : Q (.ref (s.heap.objs.size + 1)) { s with heap := (s.heap.push o).push (enuO s.heap.objs.size) }) : wpAny (model P w) A (call (.type "enumerate") [v]) Q E s := by
  have z1 := Heap.size_push s.heap o
  have at1 := Heap.get?_push_size (s.heap.push o) (o := enuO s.heap.objs.size) rfl
  have cell : ((s.heap.push o).push (enuO s.heap.objs.size)).get? (s.heap.push o).objs.size = some (enuO s.heap.objs.size) := at1
  apply callType_new F.called_enumerate (by decide) (F.typeCall_enumerate_1 _) (F.newCall_enumerate_1 _) (fun x => F.args_object_init_2 x _) F.entry_enumerate_new (enu_new B)
  rw [← z1] at fin
  exact ⟨st, ⟨_, cell, rfl⟩, fin⟩
/-- a drawer at its end: nothing is left to be drawn -/
theorem spent {P : Program} {w : World} {A : Around} {it a : Addr} {us : Array Value} {i : Nat} (hh : A.handled = none) (le : us.size ≤ i) : Draws P w A it [it, a] i (fun _ _ => False) (fun j h => j = i ∧ h.IsTupleIter it a j ∧ h.IsTuple a us) where
  live := by rintro j h ⟨_, ⟨o, g, _⟩, _⟩; exact ⟨o, g⟩
  frame := by rintro j h h2 ⟨e, ⟨o, g, r⟩, ⟨p, q, r2⟩⟩ k; exact ⟨e, ⟨o, k it (by simp) o g, r⟩, ⟨p, k a (by simp) p q, r2⟩⟩
  item := by rintro j s Q E lt ⟨e, _⟩; omega
  done := by rintro s Q E ⟨_, ti, tu⟩ z; exact wpAny_nextOf_tuple_end hh ti tu (Array.getElem?_eq_none le) z
/-- the tuple at a, turn by turn, in new pairs with its places -/
def IteT (K : PySem.W.Frag) (a : Addr) : L2.It where
  go := fun i H => ∃ (xs : List V) (x : V), SqT K H a xs ∧ xs[i]? = some x
  yld := fun i H v H' => ∃ T x, v = .ref T ∧ H T = none ∧ H' = upd H T (.tup [.int (i : Nat), x]) ∧ ∀ xs, SqT K H a xs → xs[i]? = some x
  stop := fun i H => ∃ xs : List V, SqT K H a xs ∧ xs.length ≤ i
/-- where an enumerate at e over the iterator it stands after i turns -/
def EnuAt (a e it i : Nat) (h : Heap) : Prop := (∃ old, IsEnum h e it (i : Int) old) ∧ h.IsTupleIter it a i
theorem turn_enumT {P : Program} {w : World} {K : PySem.W.Frag} {elts : List Expr} {kk : Nat} {tp : Pos} (a e it : Addr) (ea : e ≠ a) (ai : a ≠ it) (ei : e ≠ it) :
    Turn P w K (.Tuple elts kk tp) (IteT K a) [e, it] e (EnuAt a e it) := by
  have two : ∀ b ∈ [e, it], b = e ∨ b = it := fun b m => by simpa using m
  refine { mem := List.mem_cons_self, obj := ?_, keep := ?_, item := ?_, done := ?_, self := fun A i s Q E st q => wpAny_pyIter_enum st.1.choose_spec q }
  · rintro i h ⟨⟨old, g⟩, o, g2, _, dat⟩ b m
    rcases two b m with rfl | rfl
    · exact ⟨_, g, nofun⟩
    · refine ⟨o, g2, fun v z => ?_⟩
      rw [dat] at z; exact nomatch z
  · rintro i h h2 ⟨⟨old, g⟩, o, g2, r⟩ k
    exact ⟨⟨old, k e (by simp) _ g⟩, o, k it (by simp) o g2, r⟩
  · rintro X rfl rfl rfl calm i pins s σ H E I fp ⟨en, ti⟩ ⟨xs, x, sq, hx⟩
    obtain ⟨us, vals, tu, _⟩ := I.tuple sq
    obtain ⟨u, gu, ru⟩ := vals.get hx
    have lt : i < us.toArray.size := by simpa using (List.getElem?_eq_some_iff.mp gu).1
    have W := WalksT.enumerateD (prog := X.prog) (w := X.w) (A := X.A) (Draws.tuple (A := X.A.in1) (show X.A.in1.handled = none from I.ok.hd calm) it a ai us.toArray) e ei (by simp [ei, ea]) (by simp)
    have low : ∀ b ∈ [e, it], b < s.heap.objs.size := fun b m => by
      rcases two b m with rfl | rfl
      · exact Heap.lt_size en.choose_spec
      · exact Heap.lt_size ti.choose_spec.1
    refine W.item i s _ E lt ⟨en, ti, tu⟩ fun T ws h1 tk pt le isT mid k1 => ⟨_, rfl, W.go elts kk tp i T _ _ E mid fun h2 st2 k2 => ?_⟩
    obtain ⟨t, u2, gu2, rfl⟩ := pt
    have eu : u2 = u := Option.some.inj (gu2.symm.trans (by simpa using gu))
    obtain ⟨p, gp, cls, dat⟩ := isT
    have pair : ObjOk X.prog X.w (upd H T (.tup [.int (i : Nat), x])) h2 T (.tup [.int (i : Nat), x]) := by
      refine ⟨(by decide : 2 ≤ sizeLine), [.int i t, u2], .cons ⟨_, rfl⟩ (.cons (eu ▸ ru) .nil), p, k2 T p (W.apart i T h1 mid) gp, cls, dat⟩
    have J := I.turnedNew (t' := tk) (fun b o out g => k2 b o out (k1 b o out g)) fp le pair
    refine ⟨.ref T, _, J, rfl, ⟨T, x, rfl, I.hok.fresh le, rfl, fun ys sy => I.tuple_inj sy sq ▸ hx⟩, ⟨st2.1, st2.2.1⟩, fun b m => ?_⟩
    exact (upd_ne (Nat.ne_of_lt (Nat.lt_of_lt_of_le (low b m) le))).trans (fp b m).1
  · rintro X rfl rfl rfl calm i pins s σ H E I fp ⟨⟨old, en⟩, ti⟩ ⟨xs, sq, le⟩
    obtain ⟨us, vals, tu, _⟩ := I.tuple sq
    have le' : us.toArray.size ≤ i := by have := vals.length; simp; omega
    obtain ⟨a0, a1, _, a3, a4, a5⟩ := fp it (by simp)
    exact wpAny_pyNext_enum_endD (spent (show X.A.in1.handled = none from I.ok.hd calm) le') en ⟨rfl, ti, tu⟩ fun h2 x => ⟨rfl, I.turned (t' := s.toks) x a0 a1 a3 a4 a5⟩
/-- enumerate of a list or of a tuple -/
def iEnumA (K : PySem.W.Frag) (ta : TA) : TI := fun σ H R => ta σ H fun vs H1 => ∃ a xs, vs = [.ref a] ∧ ((SqL K H1 a xs ∧ R (Ite K a) H1) ∨ (SqT K H1 a xs ∧ R (IteT K a) H1))
theorem pi_enumA {X : Cx} {e : Expr} {ta : TA} {p pos tpos : Pos} {elts : List Expr} {kk : Nat} (hg : Gl X "enumerate") (hm : X.mg "enumerate" = none) (ha : PA X [e] ta) (hs : starEach [e] X.env = [(false, eval e X.env)] := by rfl) :
    PI X (.Tuple elts kk tpos) (.Call (.Name "enumerate" p) [e] [] pos) (iEnumA X.K ta) := by
  constructor
  intro pins s σ H R I w
  apply Call_ (ld_blt I hg hm boot_enumerate (PyProof.Rows.callWith_type1 (thn (ha.run pos pins s σ H _ I w) _) hs rfl))
  rintro us s1 ⟨_, H1, I1, rel, a, xs, rfl, alt⟩
  match us, rel with
  | [_], .cons rfl .nil =>
    -- both cells lie at the heap's end
    have ends : ∀ b ∈ [s1.heap.objs.size + 1, s1.heap.objs.size], FpOk X pins H1 b := fun b m => by
      have ge : s1.heap.objs.size ≤ b := by
        rcases List.mem_cons.mp m with rfl | m
        · exact Nat.le_succ _
        · exact Nat.le_of_eq (List.mem_singleton.mp m).symm
      exact I1.fpOk ge (I1.hok.fresh ge)
    rcases alt with ⟨sq, r⟩ | ⟨sq, r⟩
    · obtain ⟨_, _, lst, _⟩ := I1.list sq
      exact call_enumerate_list lst.isList fun h2 en li _ k => wpAny_pyIter_enum en ⟨_, _, _, _, H1, rfl, I1.kept (t' := s1.toks) k, turn_enum a _ _, ⟨⟨_, en⟩, li, Nat.succ_ne_self _⟩, ends, r⟩
    · obtain ⟨_, _, tu, _⟩ := I1.tuple sq
      have la := tu.lt
      refine enu_call (begins_tuple a _) tu ?_
      have en : IsEnum ((s1.heap.push (tupItO a)).push (enuO s1.heap.objs.size)) (s1.heap.objs.size + 1) s1.heap.objs.size 0 .none := by
        have q := Heap.get?_push_size (s1.heap.push (tupItO a)) (o := enuO s1.heap.objs.size) rfl
        rwa [Heap.size_push] at q
      refine wpAny_pyIter_enum en ⟨_, _, EnuAt a _ _, _, H1, rfl, I1.kept (t' := s1.toks) (fun b o g => ?_), turn_enumT a _ _ (Nat.ne_of_gt (Nat.lt_succ_of_lt la)) (Nat.ne_of_lt la) (Nat.succ_ne_self _), ⟨⟨_, en⟩, tupItO a, ?_, rfl, rfl⟩, ends, r⟩
      · exact Heap.get?_push_of_some _ (Heap.get?_push_of_some _ g)
      · exact Heap.get?_push_of_some _ (Heap.get?_push_size s1.heap rfl)
end G43
set_option Elab.async false
set_option linter.all false
set_option maxRecDepth 100000
set_option maxHeartbeats 4000000
namespace G43
open PySem
open L2 (V HO Hp SqL SqT Rd upd upd_same upd_ne Cx OpR R2 VK CallR IxR SlR TE TA TS TT TI PE PA PS PSs PT PI XK Sp Room Vals)
open PySem.Spec PyProof.Rows
/-! ### what is walked -/
def Walks (A : Ad) (B : Addr → Prop) (m : List Addr) (h : Hs) (H : Hp) (J : L2.It) (l : List PV) (gd : Hs → Prop) : Prop :=
  ∀ (B' : Addr → Prop) (m2 : List Addr) (h2 : Hs) (H2 : Hp), (∀ a, B' a → B a ∨ H a = none) → Sim A B' m2 h2 H2 → Mv m h H m2 h2 H2 → gd h2 →
    (∀ (i : Nat) (x : PV), l[i]? = some x → J.go i H2 ∧ ∀ v H3, J.yld i H2 v H3 → Sim A B' m2 h2 H3 ∧ Mv m2 h2 H2 m2 h2 H3 ∧ Rp A (Xc B' m2 h2) H3 x v) ∧ ∀ i : Nat, l.length ≤ i → J.stop i H2
def Ki (A : Ad) (B : Addr → Prop) (m : List Addr) (h : Hs) (H : Hp) (R : L2.It → Hp → Prop) : List PV → (Hs → Prop) → Hs → Prop := fun l gd h' => ∀ m' H' J, Sim A B m' h' H' → Mv m h H m' h' H' → Walks A B m' h' H' J l gd → R J H'
def tI (A : Ad) (P : Pg) (C : CallT) (W : XK) (it : It) : TI := fun σ H R => ∃ B m h ρ, Sim A B m h H ∧ Sl A B m h H ρ σ ∧ wpI P C it ρ h (Ki A B m h H R) (Kx A B m h H W)
section
variable {A : Ad} {B : Addr → Prop} {m : List Addr} {h : Hs} {H : Hp}
theorem walks_list {a : Addr} {l : List PV} {gd : Hs → Prop} (src : ∀ (B' : Addr → Prop) (m2 : List Addr) (h2 : Hs) (H2 : Hp), (∀ a, B' a → B a ∨ H a = none) → Sim A B' m2 h2 H2 → Mv m h H m2 h2 H2 → gd h2 → ∃ xs, SqL A.K H2 a xs ∧ RpL A (Xc B' m2 h2) H2 l xs) :
    Walks A B m h H (L2.Itl A.K a) l gd := fun B' m2 h2 H2 w S M g => by
  obtain ⟨xs, q, r⟩ := src B' m2 h2 H2 w S M g
  refine ⟨fun i x e => ?_, fun i hi => ⟨xs, q, by rw [r.length]; exact hi⟩⟩
  obtain ⟨v, e1, r1⟩ := r.get e
  refine ⟨⟨xs, v, q, e1⟩, fun v' H3 y => ?_⟩
  obtain ⟨rfl, y⟩ := y
  have e2 := y xs q
  rw [e1] at e2
  cases e2
  exact ⟨S, Mv.refl _ _ _, r1⟩
theorem walks_tup {a : Addr} {l : List PV} {gd : Hs → Prop} (src : ∀ (B' : Addr → Prop) (m2 : List Addr) (h2 : Hs) (H2 : Hp), (∀ a, B' a → B a ∨ H a = none) → Sim A B' m2 h2 H2 → Mv m h H m2 h2 H2 → gd h2 → ∃ xs, SqT A.K H2 a xs ∧ RpL A (Xc B' m2 h2) H2 l xs) :
    Walks A B m h H (L2.Itt A.K a) l gd := fun B' m2 h2 H2 w S M g => by
  obtain ⟨xs, q, r⟩ := src B' m2 h2 H2 w S M g
  refine ⟨fun i x e => ?_, fun i hi => ⟨xs, q, by rw [r.length]; exact hi⟩⟩
  obtain ⟨v, e1, r1⟩ := r.get e
  refine ⟨⟨xs, v, q, e1⟩, fun v' H3 y => ?_⟩
  obtain ⟨rfl, y⟩ := y
  have e2 := y xs q
  rw [e1] at e2
  cases e2
  exact ⟨S, Mv.refl _ _ _, r1⟩
theorem rng_at {lo : Int} {n i : Nat} {x : PV} (e : (rngL lo n)[i]? = some x) : i < n ∧ x = .int (lo + i) := by
  unfold rngL at e
  rw [List.getElem?_map] at e
  cases hr : (List.range n)[i]? with
  | none => rw [hr] at e; cases e
  | some k =>
    rw [hr] at e
    obtain ⟨hi, hk⟩ := List.getElem?_eq_some_iff.mp hr
    simp at hi hk
    subst hk
    simp at e
    exact ⟨hi, e.symm⟩
theorem rng_len {lo : Int} {n : Nat} : (rngL lo n).length = n := by simp [rngL]
theorem walks_range {lo : Int} {n : Nat} {gd : Hs → Prop} : Walks A B m h H (L2.Itr lo n) (rngL lo n) gd := fun B' m2 h2 H2 w S M g => by
  refine ⟨fun i x e => ?_, fun i hi => by rw [rng_len] at hi; exact hi⟩
  obtain ⟨hi, rfl⟩ := rng_at e
  refine ⟨hi, fun v H3 y => ?_⟩
  obtain ⟨rfl, rfl⟩ := y
  exact ⟨S, Mv.refl _ _ _, .int _⟩
theorem enm_at {a : List PV} {i : Nat} {x : PV} (e : (enmL a)[i]? = some x) : ∃ p, a[i]? = some p ∧ x = .tup [.int (i : Nat), p] := by
  unfold enmL at e
  rw [List.getElem?_map, List.getElem?_zipIdx] at e
  cases hz : a[i]? with
  | none => rw [hz] at e; cases e
  | some k =>
    rw [hz] at e
    simp at e
    exact ⟨k, rfl, e.symm⟩
theorem enm_len {a : List PV} : (enmL a).length = a.length := by simp [enmL]
theorem walks_enmL {a : Addr} {l : List PV} {gd : Hs → Prop} (s1 : ∀ (B' : Addr → Prop) (m2 : List Addr) (h2 : Hs) (H2 : Hp), (∀ a, B' a → B a ∨ H a = none) → Sim A B' m2 h2 H2 → Mv m h H m2 h2 H2 → gd h2 → ∃ xs, SqL A.K H2 a xs ∧ RpL A (Xc B' m2 h2) H2 l xs) :
    Walks A B m h H (L2.Ite A.K a) (enmL l) gd := fun B' m2 h2 H2 w S M g => by
  obtain ⟨xs, q1, r1⟩ := s1 B' m2 h2 H2 w S M g
  refine ⟨fun i x e => ?_, fun i hi => ⟨xs, q1, by rw [enm_len] at hi; rw [r1.length]; omega⟩⟩
  obtain ⟨p, e1, rfl⟩ := enm_at e
  obtain ⟨v, e3, r3⟩ := r1.get e1
  refine ⟨⟨xs, v, q1, e3⟩, fun v' H3 y => ?_⟩
  obtain ⟨T, y1, rfl, hT, rfl, h1⟩ := y
  have e5 := h1 xs q1
  rw [e3] at e5; cases e5
  obtain ⟨M3, S3, r5⟩ := S.tup hT (.cons (.int _) (.cons r3 .nil))
  exact ⟨S3, M3, r5⟩
theorem walks_enmT {a : Addr} {l : List PV} {gd : Hs → Prop} (s1 : ∀ (B' : Addr → Prop) (m2 : List Addr) (h2 : Hs) (H2 : Hp), (∀ a, B' a → B a ∨ H a = none) → Sim A B' m2 h2 H2 → Mv m h H m2 h2 H2 → gd h2 → ∃ xs, SqT A.K H2 a xs ∧ RpL A (Xc B' m2 h2) H2 l xs) :
    Walks A B m h H (IteT A.K a) (enmL l) gd := fun B' m2 h2 H2 w S M g => by
  obtain ⟨xs, q1, r1⟩ := s1 B' m2 h2 H2 w S M g
  refine ⟨fun i x e => ?_, fun i hi => ⟨xs, q1, by rw [enm_len] at hi; rw [r1.length]; omega⟩⟩
  obtain ⟨p, e1, rfl⟩ := enm_at e
  obtain ⟨v, e3, r3⟩ := r1.get e1
  refine ⟨⟨xs, v, q1, e3⟩, fun v' H3 y => ?_⟩
  obtain ⟨T, y1, rfl, hT, rfl, h1⟩ := y
  have e5 := h1 xs q1
  rw [e3] at e5; cases e5
  obtain ⟨M3, S3, r5⟩ := S.tup hT (.cons (.int _) (.cons r3 .nil))
  exact ⟨S3, M3, r5⟩
/-- a value's list, later on -/
theorem later_lst {l : List PV} {a : Addr} (S : Sim A B m h H) (r : Rp A (Xc B m h) H (.lst l) (.ref a)) {B' : Addr → Prop} {m2 : List Addr} {h2 : Hs} {H2 : Hp} (w : ∀ a, B' a → B a ∨ H a = none) (M : Mv m h H m2 h2 H2) : ∃ xs, SqL A.K H2 a xs ∧ RpL A (Xc B' m2 h2) H2 l xs := by
  have r2 := Rp.moveC S.cl M (r.strong w)
  cases r2 with
  | lst q n r => exact ⟨_, SqL.of q, r⟩
theorem later_tup {l : List PV} {a : Addr} (S : Sim A B m h H) (r : Rp A (Xc B m h) H (.tup l) (.ref a)) {B' : Addr → Prop} {m2 : List Addr} {h2 : Hs} {H2 : Hp} (w : ∀ a, B' a → B a ∨ H a = none) (M : Mv m h H m2 h2 H2) : ∃ xs, SqT A.K H2 a xs ∧ RpL A (Xc B' m2 h2) H2 l xs := by
  have r2 := Rp.moveC S.cl M (r.strong w)
  cases r2 with
  | tup q r => exact ⟨_, q, r⟩
theorem later_scr {l : List PV} {a : Addr} (S : Sim A B m h H) (r : Rp A (Xc B m h) H (.scr l) (.ref a)) {B' : Addr → Prop} {m2 : List Addr} {h2 : Hs} {H2 : Hp} (w : ∀ a, B' a → B a ∨ H a = none) (M : Mv m h H m2 h2 H2) : ∃ xs, SqL A.K H2 a xs ∧ RpL A (Xc B' m2 h2) H2 l xs := by
  have r2 := Rp.moveC S.cl M (r.strong w)
  cases r2 with
  | scr q r => exact ⟨_, q.elim (fun q => .inl (.inr q)) .inr, r⟩
end
/-! ### the walk of a list or a tuple, whichever comes -/
section
variable {X : Cx} {tg : Expr}
def iSeq (K : PySem.W.Frag) (tl : TE) : TI := fun σ H R => tl σ H fun x H1 => ∃ a, x = .ref a ∧ (((∃ xs, SqL K H1 a xs) ∧ R (L2.Itl K a) H1) ∨ ((∃ xs, SqT K H1 a xs) ∧ R (L2.Itt K a) H1))
theorem pi_seq {l : Expr} {tl : TE} (hl : PE X l tl) : PI X tg l (iSeq X.K tl) := by
  refine ⟨fun pins s σ H R I z => L2.thn (hl.run pins s σ H _ I z) ?_⟩
  rintro v s1 ⟨x, H1, I1, r1, a, rfl, q⟩
  cases r1
  have one : ∀ b ∈ [s1.heap.objs.size], L2.FpOk X pins H1 b := by
    intro b hb
    cases List.mem_singleton.mp hb
    exact I1.fpOk (Nat.le_refl _) (I1.hok.fresh (Nat.le_refl _))
  rcases q with ⟨⟨xs, hq⟩, q⟩ | ⟨⟨xs, hq⟩, q⟩
  · obtain ⟨its, rv, p, hz⟩ := I1.list hq
    refine wpAny_pyIter_list p.isList ⟨_, [s1.heap.objs.size], _, _, H1, rfl, ?_, L2.turn_list a _, ⟨_, Heap.get?_push_size _ rfl, rfl, rfl⟩, one, q⟩
    exact I1.kept (t' := s1.toks) fun b o e => Heap.get?_push_of_some _ e
  · obtain ⟨its, rv, p, hz⟩ := I1.tuple hq
    refine wpAny_pyIter_tuple (show s1.heap.IsTuple a its.toArray from p) ⟨_, [s1.heap.objs.size], _, _, H1, rfl, ?_, L2.turn_tuple a _, ⟨_, Heap.get?_push_size _ rfl, rfl, rfl⟩, one, q⟩
    exact I1.kept (t' := s1.toks) fun b o e => Heap.get?_push_of_some _ e
theorem PI_imp {e : Expr} {t t' : TI} (p : PI X tg e t) (i : ∀ σ H Q, t' σ H Q → t σ H Q) : PI X tg e t' := ⟨fun pins s σ H Q I z => p.run pins s σ H Q I (i σ H Q z)⟩
end
section
variable {A : Ad} {P : Pg} {C : CallT} {N : List Str} {sc ss : Scope} {l : Bool} {kk : Nat} {W : XK} {X : Cx} {tg : Expr} (hC : MonoC C C)
include hC
theorem s_seq (cx : Ctx A P C N sc ss l kk W X) {e : E} {e' : Expr} (he : PE X e' (tE A P C W e)) : PI X tg e' (tI A P C W (.seq e)) := by
  refine PI_imp (pi_seq he) fun σ H R z => ?_
  obtain ⟨B, m, h, ρ, S, s, z⟩ := z
  unfold wpI at z
  refine tE_of hC S s z fun v h1 m1 H1 w q S1 M1 r1 => ?_
  rw [cx.eK]
  split at q
  · cases r1 with
    | lst q1 n r =>
      exact ⟨_, rfl, .inl ⟨⟨_, SqL.of q1⟩, q m1 H1 _ S1 M1 (walks_list fun B' m2 h2 H2 w S2 M2 _ => later_lst S1 (.lst q1 n r) w M2)⟩⟩
  · cases r1 with
    | tup q1 r =>
      exact ⟨_, rfl, .inr ⟨⟨_, q1⟩, q m1 H1 _ S1 M1 (walks_tup fun B' m2 h2 H2 w S2 M2 _ => later_tup S1 (.tup q1 r) w M2)⟩⟩
  · cases r1 with
    | scr q1 r =>
      exact ⟨_, rfl, .inl ⟨⟨_, q1.elim (fun q => .inl (.inr q)) .inr⟩, q m1 H1 _ S1 M1 (walks_list fun B' m2 h2 H2 w S2 M2 _ => later_scr S1 (.scr q1 r) w M2)⟩⟩
  · obtain ⟨c, e1, q⟩ := q
    obtain ⟨a, e2, rfl⟩ := r1
    obtain ⟨xs, e3, r3⟩ := S1.cell _ c a e1 e2
    refine ⟨a, rfl, .inl ⟨⟨xs, SqL.of e3⟩, q m1 H1 _ S1 M1 (walks_list fun B' m2 h2 H2 w S2 M2 g => ?_)⟩⟩
    obtain ⟨ys, e4, r4⟩ := S2.cell _ c a g (M2.at e2)
    exact ⟨ys, SqL.of e4, r4⟩
  · exact q.elim
theorem s_rng1 (cx : Ctx A P C N sc ss l kk W X) {e : E} {e' : Expr} {p pos : Pos} (hn : noStar e' = true) (hb : ("range" : Str) ∈ P.blt) (hg : gloB sc "range" = true) (he : PE X e' (tE A P C W e)) : PI X tg (.Call (.Name "range" p) [e'] [] pos) (tI A P C W (.rng1 e)) := by
  refine PI_imp (L2.pi_range1 (show X.env.scope.names.lookup _ = _ by rw [cx.eS]; exact gloB_ok hg) (cx.blt _ hb) (L2.pa_cons he L2.pa_nil (starEach_no hn _ _)) (by rw [starEach_no hn] <;> rfl)) fun σ H R z => ?_
  obtain ⟨B, m, h, ρ, S, s, z⟩ := z
  unfold wpI at z
  refine tE_of hC S s z fun v h1 m1 H1 w q S1 M1 r1 => ?_
  obtain ⟨j, rfl, h2, h3, k⟩ := q
  cases r1
  exact ⟨j, rfl, h2, h3, k m1 H1 _ S1 M1 walks_range⟩
theorem s_enm (cx : Ctx A P C N sc ss l kk W X) {a : E} {a' : Expr} {elts : List Expr} {kk : Nat} {tpos p pos : Pos} (hn : noStar a' = true) (hb : ("enumerate" : Str) ∈ P.blt) (hg : gloB sc "enumerate" = true) (ha : PE X a' (tE A P C W a)) :
    PI X (.Tuple elts kk tpos) (.Call (.Name "enumerate" p) [a'] [] pos) (tI A P C W (.enm a)) := by
  refine PI_imp (pi_enumA (show X.env.scope.names.lookup _ = _ by rw [cx.eS]; exact gloB_ok hg) (cx.blt _ hb) (L2.pa_cons ha L2.pa_nil (starEach_no hn _ _)) (starEach_no hn _ _)) fun σ H R z => ?_
  obtain ⟨B, m, h, ρ, S, s, z⟩ := z
  unfold wpI at z
  refine tE_of hC S s z fun v h1 m1 H1 w q S1 M1 r1 => ?_
  rw [cx.eK]
  split at q
  · cases r1 with
    | lst q1 n1 t1 =>
      refine ⟨_, _, rfl, .inl ⟨SqL.of q1, q m1 H1 _ S1 M1 (walks_enmL fun B' m4 h4 H4 w S4 M4 _ => ?_)⟩⟩
      obtain ⟨xs, z1, z2⟩ := later_lst S1 (.lst q1 n1 t1) w M4
      exact ⟨xs, z1, z2⟩
  · cases r1 with
    | tup q1 t1 =>
      refine ⟨_, _, rfl, .inr ⟨q1, q m1 H1 _ S1 M1 (walks_enmT fun B' m4 h4 H4 w S4 M4 _ => ?_)⟩⟩
      obtain ⟨xs, z1, z2⟩ := later_tup S1 (.tup q1 t1) w M4
      exact ⟨xs, z1, z2⟩
  · exact q.elim
end
end G43
set_option Elab.async false
set_option linter.all false
set_option maxRecDepth 100000
set_option maxHeartbeats 4000000
namespace G43
open PySem
open L2 (V HO Hp SqL SqT Rd upd upd_same upd_ne Cx OpR R2 VK CallR IxR SlR TE TA TS TT TI TG TGs PE PA PS PSs PT PI PG PGs XK Sp Room Vals)
open PySem.Spec PyProof.Rows
/-! ### defaults -/
theorem samD_eq {a b : PV} (h : samD a b = true) : a = b := by
  unfold samD at h
  split at h
  · rfl
  · rw [of_decide_eq_true h]
  · rw [eq_of_beq h]
  · cases h
theorem samDs_eq : ∀ {a b : List PV}, samDs a b = true → a = b
  | [], [], _ => rfl
  | [], _ :: _, h => by cases h
  | _ :: _, [], h => by cases h
  | x :: xs, y :: ys, h => by
    have h' : (samD x y && samDs xs ys) = true := h
    rw [Bool.and_eq_true] at h'
    rw [samD_eq h'.1, samDs_eq h'.2]
theorem dfs_rep {A : Ad} {B : Addr → Prop} {m : List Addr} {h : Hs} {H : Hp} : ∀ {ps : List PV} {vs : List V}, ps.mapM dfV = some vs → RpRs A B m h H (ps.map RV.pv) vs
  | [], vs, e => by
    simp at e
    subst e
    exact .nil
  | p :: ps, vs, e => by
    rw [List.mapM_cons] at e
    cases e1 : dfV p with
    | none => rw [e1] at e; simp at e
    | some v =>
      cases e2 : ps.mapM dfV with
      | none => rw [e1, e2] at e; simp at e
      | some ws =>
        rw [e1, e2] at e
        simp at e
        subst e
        exact .cons (show RpR A B m h H (.pv p) v from dfV_rep e1) (dfs_rep e2)
section
variable {A : Ad} {P : Pg} {C : CallT} {N : List Str} {sc ss : Scope} {l : Bool} {kk : Nat} {W : XK} {X : Cx} (hC : MonoC C C)
include hC
/-! ### calls -/
theorem s_call0 (cx : Ctx A P C N sc ss l kk W X) {f : Nat} {df : Df} {dv : List PV} {p pos : Pos} (hf : P.defs[f]? = some df) (hn : df.dfl.drop (df.dfl.length - dv.length) = dv) (hg : gloB sc df.name = true) (ho : odd df.name = false) :
    PE X (.Call (.Name df.name p) [] [] pos) (tE A P C W (.call f .nil dv)) := by
  obtain ⟨o1, o2, o3⟩ := odd_ok ho
  have hr := cx.rm
  obtain ⟨nm, kp, fd, ps, F, hp, hd⟩ := cx.cal f df hf
  obtain ⟨dvs, ds, d1, d2, d3⟩ := hd (df.dfl.length - dv.length) (Nat.sub_le _ _)
  rw [hn] at d1
  refine ⟨fun pins s σ H Q I z => wpAny_Call_Name_kw (L2.ld_glob I (show X.env.scope.names.lookup _ = _ by rw [cx.eS]; exact gloB_ok hg) nm ?_ o1)⟩
  obtain ⟨B, m, h, ρ, S, sl, z⟩ := z
  unfold wpE wpL at z
  refine PySem.W.callWith_K0 I.kIn kp (runG (us := []) (vs := []) F cx.gd hr d3 d2 cx.tk I .nil ?_)
  exact ⟨B, m, h, _, S, RpRs.append .nil (dfs_rep d1), z⟩
theorem s_call (cx : Ctx A P C N sc ss l kk W X) {f : Nat} {df : Df} {es : EL} {dv : List PV} {a : Expr} {args : List Expr} {p pos : Pos} (hf : P.defs[f]? = some df) (hn : df.dfl.drop (df.dfl.length - dv.length) = dv) (hg : gloB sc df.name = true) (ho : odd df.name = false)
    (hs : (a :: args).all noStar = true) (ha : PA X (a :: args) (tL A P C W es)) : PE X (.Call (.Name df.name p) (a :: args) [] pos) (tE A P C W (.call f es dv)) := by
  obtain ⟨o1, o2, o3⟩ := odd_ok ho
  have hr := cx.rm
  obtain ⟨nm, kp, fd, ps, F, hp, hd⟩ := cx.cal f df hf
  obtain ⟨dvs, ds, d1, d2, d3⟩ := hd (df.dfl.length - dv.length) (Nat.sub_le _ _)
  rw [hn] at d1
  refine ⟨fun pins s σ H Q I z => wpAny_Call_Name_kw (L2.ld_glob I (show X.env.scope.names.lookup _ = _ by rw [cx.eS]; exact gloB_ok hg) nm ?_ o1)⟩
  obtain ⟨B, m, h, ρ, S, sl, z⟩ := z
  unfold wpE at z
  have z2 : tL A P C W es σ H fun vs H1 => spC A C f (vs ++ dvs) H1 Q W := tL_of hC S sl z fun vs h1 m1 H1 ws q S1 M1 r1 => ⟨B, m1, h1, _, S1, r1.append (dfs_rep d1), hC _ _ _ _ _ _ _ (Kv.move M1) (Kx.move M1) q⟩
  rw [List.all_cons, Bool.and_eq_true] at hs
  refine PySem.W.callWith_K (h₀ := X.base) I.ok.mod.kin kp (L2.thn (ha.run pos pins s σ H _ I z2) fun us s1 ⟨vs, H1, I1, r, q⟩ => ⟨I1.kIn, ?_⟩) (starEach_no hs.1 _ _) (back_no _ _ hs.2)
  exact runG F cx.gd hr d3 d2 cx.tk I1 r q
/-- what the law's own word tells of a call -/
theorem s_word (cx : Ctx A P C N sc ss l kk W X) {e : E} {params : Arguments} {body : Expr} {scope : Scope} {p lpos pos : Pos} (hl : l = true) (h0 : gloB sc "_law_word" = true) (h1 : LamX.lamSB sc scope = true) (h2 : noPar params = true)
    (hb : ∀ {E : XK} {Y : Cx}, Ctx A P C N scope scope false kk E Y → PE Y body (tE A P C E e)) : PE X (.Call (.Name "_law_word" p) [.Lambda params body scope lpos] [] pos) (tE A P C W (.word e)) := by
  have L := LamX.lamS_by h1
  refine PE_imp ((cx.lam hl).go (t := fun E => tE A P C E e) (by rw [cx.eS]; exact gloB_ok h0) (by rw [cx.eS]; exact h1) h2 ?_) fun σ H Q z => ?_
  · intro Ar outer s H E f c' hg hr
    refine hb { eK := cx.eK, eS := rfl, eN := cx.eN, kd := L.kind, nd := cx.nd, calm := rfl, un := ?_, gd := ?_, tk := ?_, po := ?_, st := ?_, rm := hr, cal := ?_, con := cx.con, blt := cx.blt, exc := ?_, lam := fun z => nomatch z }
    · have := hr.un
      show (Ar.deeper _).units + 65 < cLine
      omega
    · show (Ar.deeper _).guards = some []
      rw [guards_deeper]
      exact hg
    · exact L2.takes_of rfl rfl rfl rfl
    · exact L2.passes_of rfl
    · intro x hx
      rcases stoB_ok hx with k | k
      · exact absurd rfl (L.own _ (PySem.mem_of_lookup k)).1
      · exact absurd rfl (L.own _ (PySem.mem_of_lookup k)).2
    · intro f df hf
      have d := cx.cal f df hf
      exact ⟨d.nm, d.kp, d.fn⟩
    · intro c hc w hw
      have d := cx.exc c hc w hw
      exact ⟨d.mg, d.ei, d.kp, d.rs⟩
  · obtain ⟨B, m, h, ρ, S, sl, z⟩ := z
    unfold wpE at z
    refine ⟨S.tb, fun H1 hE hT => ?_⟩
    have M : Mv m h H m h H1 := ⟨⟨[], by simp⟩, fun b o e t n => ⟨hE b o e t, n⟩⟩
    have S1 : Sim A B m h H1 := by
      refine ⟨S.len, fun i c a e1 e2 => ?_, S.inj, S.bn, fun a b => ?_, hT⟩
      · obtain ⟨xs, q1, q2⟩ := S.cell i c a e1 e2
        exact ⟨xs, hE a _ q1 (fun _ z => nomatch z), q2.moveC S.cl M⟩
      · obtain ⟨o', e', n'⟩ := S.bt a b
        exact ⟨o', hE a o' e' n', n'⟩
    refine ⟨B, m, h, ρ, S1, sl.move S M, wpE_mono hC e (fun v h1 q => ?_) (fun x h1 q => ?_) z⟩
    · intro m2 H2 w S2 M2 r
      obtain ⟨p, rfl, q⟩ := q
      refine ⟨Nat.le_trans (show 2 ≤ 1000 by decide) (by decide), fun a ha => ?_⟩
      obtain ⟨M3, S3, r3⟩ := S2.tup ha (.cons (.str _) (.cons r .nil))
      exact q m2 _ _ S3 ((M.trans M2).trans M3) r3
    · intro m2 H2 cls d S2 M2 r
      obtain ⟨w, e1, e2, q⟩ := q
      obtain ⟨r1, r2, r3⟩ := r
      exact ⟨x.cls, w, B, m2, h1, e1, r1, r3, S2, fun H' v S' M' rr => q m2 H' v S' ((M.trans M2).trans M') rr⟩
theorem boot_bi (b : BI) : bootBuiltins (biN b) = some (biV b) := by cases b <;> decide +kernel
theorem bi_odd (b : BI) : biN b ≠ "__name__" ∧ (biN b == ("__debug__" : Str)) = false := by cases b <;> decide +kernel
theorem s_bi (cx : Ctx A P C N sc ss l kk W X) {b : BI} {es : EL} {a : Expr} {args : List Expr} {p pos : Pos} (hb : biN b ∈ P.blt) (hg : gloB sc (biN b) = true) (hs : (a :: args).all noStar = true) (ha : PA X (a :: args) (tL A P C W es)) :
    PE X (.Call (.Name (biN b) p) (a :: args) [] pos) (tE A P C W (.bi b es)) := by
  have g : X.env.scope.names.lookup (biN b) = some .globalImplicit := by rw [cx.eS]; exact gloB_ok hg
  have n := cx.blt _ hb
  obtain ⟨o1, o2⟩ := bi_odd hC b
  rw [List.all_cons, Bool.and_eq_true] at hs
  have pe : PE X (.Call (.Name (biN b) p) (a :: args) [] pos) (L2.tCB (rBi A b) (tL A P C W es)) := by
    have hc := call_bi (A := A) cx.eK cx.calm cx.un cx.gd b
    have hv := boot_bi hC b
    cases hV : biV b with
    | builtin id => rw [hV] at hc hv; exact L2.pe_callB hc g n hv ha o1 o2 (starEach_no hs.1 _ _) (back_no _ _ hs.2)
    | type T => rw [hV] at hc hv; exact L2.pe_callTy hc g n hv ha o1 o2 (starEach_no hs.1 _ _) (back_no _ _ hs.2)
    | _ => cases b <;> cases hV
  refine PE_imp pe fun σ H Q z => ?_
  obtain ⟨B, m, h, ρ, S, sl, z⟩ := z
  unfold wpE at z
  refine tL_of hC S sl z fun vs h1 m1 H1 ws q S1 M1 r1 => ?_
  obtain ⟨ps, e, k⟩ := q
  exact ⟨B, m1, h1, ps, S1, r1.rws S1 e, wpBi_mono (fun r k => Kp_of M1 k) k⟩
theorem boot_ty (t : Ty) : bootBuiltins (Str.ofString (tyN t)) = some (.type (tyN t)) ∧ Str.ofString (tyN t) ≠ "__name__" ∧ (Str.ofString (tyN t) == ("__debug__" : Str)) = false := by cases t <;> decide +kernel
theorem s_isi (cx : Ctx A P C N sc ss l kk W X) {e : E} {t : Ty} {a : Expr} {p p2 pos : Pos} (hb : ("isinstance" : Str) ∈ P.blt) (hb2 : Str.ofString (tyN t) ∈ P.blt) (hg : gloB sc "isinstance" = true) (hg2 : gloB sc (Str.ofString (tyN t)) = true) (hs : noStar a = true)
    (ha : PE X a (tE A P C W e)) : PE X (.Call (.Name "isinstance" p) [a, .Name (Str.ofString (tyN t)) p2] [] pos) (tE A P C W (.isi e t)) := by
  have g : X.env.scope.names.lookup ("isinstance" : Str) = some .globalImplicit := by rw [cx.eS]; exact gloB_ok hg
  have g2 : X.env.scope.names.lookup (Str.ofString (tyN t)) = some .globalImplicit := by rw [cx.eS]; exact gloB_ok hg2
  obtain ⟨b1, b2, b3⟩ := boot_ty hC t
  refine PE_imp (L2.pe_callB L2.call_isi g (cx.blt _ hb) (by decide +kernel) (L2.pa_cons ha (L2.pa_cons (L2.pe_bltn (v := .ty (tyN t)) g2 (cx.blt _ hb2) b1 rfl b2 b3) L2.pa_nil) (starEach_no hs _ _)) (by decide +kernel) (by decide +kernel) (starEach_no hs _ _)) fun σ H Q z => ?_
  obtain ⟨B, m, h, ρ, S, sl, z⟩ := z
  unfold wpE at z
  refine tE_of hC S sl z fun v h1 m1 H1 w q S1 M1 r1 => ?_
  obtain ⟨q1, b, e1, e2, k⟩ := q
  exact rIs_isi cx.eK ⟨B, m1, h1, q1, b, S1, r1.rw S1 e1, e2, k m1 H1 _ S1 M1 (.bl _)⟩
/-! ### tests -/
theorem q_val {e : E} {e' : Expr} (he : PE X e' (tE A P C W e)) (hp : ∀ whole, isTrue e' X.env whole = (do let v ← whole; standAt e'.pos; holding [v] (truthy v))) : PT X e' (tQ A P C W e) := L2.pt_val he hp
theorem q_nt {e : E} {e' : Expr} {pos : Pos} (he : PT X e' (tQ A P C W e)) : PT X (.UnaryOp .Not e' pos) (tQ A P C W (.nt e)) := by
  refine PT_imp (L2.pt_not he) fun σ H Q z => ?_
  obtain ⟨B, m, h, ρ, S, s, z⟩ := z
  unfold wpE at z
  refine tE_of hC S s z fun v h1 m1 H1 w q S1 M1 r1 => ?_
  obtain ⟨c, rfl, k⟩ := q
  cases r1
  obtain ⟨c', e2, k⟩ := k m1 H1 _ S1 M1 (.bl _)
  cases e2
  exact ⟨c, rfl, k⟩
theorem i_qand {a b : E} : ∀ σ H Q, tQ A P C W (.and a b) σ H Q → L2.tAnd (tQ A P C W a) (tQ A P C W b) σ H Q := fun σ H Q z => by
  obtain ⟨B, m, h, ρ, S, s, z⟩ := z
  unfold wpE at z
  refine tE_of hC S s z fun v h1 m1 H1 w q S1 M1 r1 => ?_
  obtain ⟨c, rfl, k⟩ := q
  cases r1
  refine ⟨c, rfl, ?_⟩
  cases c with
  | true =>
    rw [if_pos rfl] at k ⊢
    exact tE_of hC S1 (s.move S M1) (wpE_next hC M1 k) fun v2 h2 m2 H2 w2 q2 S2 M2 r2 => q2 m2 H2 w2 S2 (M1.trans M2) r2
  | false =>
    rw [if_neg Bool.false_ne_true] at k ⊢
    obtain ⟨c', e2, k⟩ := k m1 H1 _ S1 M1 (.bl _)
    cases e2
    exact k
theorem i_qor {a b : E} : ∀ σ H Q, tQ A P C W (.or a b) σ H Q → L2.tOr (tQ A P C W a) (tQ A P C W b) σ H Q := fun σ H Q z => by
  obtain ⟨B, m, h, ρ, S, s, z⟩ := z
  unfold wpE at z
  refine tE_of hC S s z fun v h1 m1 H1 w q S1 M1 r1 => ?_
  obtain ⟨c, rfl, k⟩ := q
  cases r1
  refine ⟨c, rfl, ?_⟩
  cases c with
  | true =>
    rw [if_pos rfl] at k ⊢
    obtain ⟨c', e2, k⟩ := k m1 H1 _ S1 M1 (.bl _)
    cases e2
    exact k
  | false =>
    rw [if_neg Bool.false_ne_true] at k ⊢
    exact tE_of hC S1 (s.move S M1) (wpE_next hC M1 k) fun v2 h2 m2 H2 w2 q2 S2 M2 r2 => q2 m2 H2 w2 S2 (M1.trans M2) r2
theorem pw_of {op : BoolOp} {vs : List Expr} {pos : Pos} {t : TT} (h : PT X (.BoolOp op vs pos) t) : L2.PW X (.BoolOp op vs pos) t := ⟨fun _ pins s σ H Q I z => h.run pins s σ H Q I z⟩
theorem q_ite {t a b : E} {t' a' b' : Expr} {pos : Pos} (ht : PT X t' (tQ A P C W t)) (ha : PT X a' (tQ A P C W a)) (hb : PT X b' (tQ A P C W b)) : PT X (.IfExp t' a' b' pos) (tQ A P C W (.ite t a b)) := by
  refine ⟨fun pins s σ H Q I z => ?_⟩
  obtain ⟨B, m, h, ρ, S, sl, z⟩ := z
  unfold wpE at z
  have z2 : tQ A P C W t σ H fun c H1 => if c = true then tQ A P C W a σ H1 Q else tQ A P C W b σ H1 Q := by
    refine tE_of hC S sl z fun v h1 m1 H1 w q S1 M1 r1 => ?_
    obtain ⟨c, rfl, k⟩ := q
    cases r1
    refine ⟨c, rfl, ?_⟩
    cases c with
    | true =>
      rw [if_pos rfl] at k ⊢
      exact tE_of hC S1 (sl.move S M1) (wpE_next hC M1 k) fun v2 h2 m2 H2 w2 q2 S2 M2 r2 => q2 m2 H2 w2 S2 (M1.trans M2) r2
    | false =>
      rw [if_neg Bool.false_ne_true] at k ⊢
      exact tE_of hC S1 (sl.move S M1) (wpE_next hC M1 k) fun v2 h2 m2 H2 w2 q2 S2 M2 r2 => q2 m2 H2 w2 S2 (M1.trans M2) r2
  show wpAny (model X.prog X.w) X.A (isTrue t' X.env (eval t' X.env) >>= fun c => if c = true then isTrue a' X.env (eval a' X.env) else isTrue b' X.env (eval b' X.env)) _ _ s
  refine wpAny_bind (L2.thn (ht.run pins s σ H _ I z2) fun c s1 ⟨H1, I1, q⟩ => ?_)
  cases c with
  | true => rw [if_pos rfl] at q ⊢; exact ha.run pins s1 σ H1 Q I1 q
  | false => rw [if_neg Bool.false_ne_true] at q ⊢; exact hb.run pins s1 σ H1 Q I1 q
end
end G43
set_option Elab.async false
set_option linter.all false
set_option maxRecDepth 100000
set_option maxHeartbeats 4000000
namespace G43
open PySem
open L2 (V HO Hp SqL SqT Rd upd upd_same upd_ne Cx OpR R2 VK CallR IxR SlR TE TA TS TT TI TG TGs PE PA PS PSs PT PI PG PGs XK Sp Room Vals)
open PySem.Spec PyProof.Rows
/-! ### targets -/
theorem Off.refl (vs : List Nat) (σ : L2.St) : Off vs σ σ := ⟨rfl, fun _ _ => rfl⟩
theorem Off.trans {vs ws : List Nat} {a b c : L2.St} (x : Off vs a b) (y : Off ws b c) : Off (vs ++ ws) a c :=
  ⟨y.1.trans x.1, fun i hi => (y.2 i fun z => hi (List.mem_append_right _ z)).trans (x.2 i fun z => hi (List.mem_append_left _ z))⟩
theorem wipe_in {σ : L2.St} {i : Nat} : ∀ {vs : List Nat}, i ∈ vs → i < σ.length → (L2.wipe σ vs)[i]? = some none
  | [], h, _ => by cases h
  | v :: vs, h, hl => by
    unfold L2.wipe
    by_cases e : v = i
    · subst e
      rw [List.getElem?_set_self (by rw [L2.wipe_length]; exact hl)]
    · rw [List.getElem?_set_ne e]
      exact wipe_in ((List.mem_cons.mp h).resolve_left fun z => e z.symm) hl
theorem Off.wipe {vs : List Nat} {σ σ' : L2.St} (o : Off vs σ σ') : L2.wipe σ' vs = L2.wipe σ vs := by
  apply List.ext_getElem?
  intro i
  by_cases hi : i ∈ vs
  · by_cases hl : i < σ.length
    · rw [wipe_in hi hl, wipe_in hi (by rw [o.1]; exact hl)]
    · rw [List.getElem?_eq_none (by rw [L2.wipe_length, o.1]; omega), List.getElem?_eq_none (by rw [L2.wipe_length]; omega)]
  · rw [L2.wipe_out hi, L2.wipe_out hi]
    exact o.2 i hi
def tG (A : Ad) (tg : Tg) : TG := fun v σ H Q => ∃ (B : Addr → Prop) (m : List Addr) (h : Hs) (p : PV) (ρ : Env) (k : Env → Prop), Sim A B m h H ∧ Sl A B m h H ρ σ ∧ Rp A (Xc B m h) H p v ∧ bindT tg p ρ k ∧ ∀ ρ' σ', k ρ' → Sl A B m h H ρ' σ' → Off tg.slots σ σ' → Q σ' H
def tGs (A : Ad) (tg : Tg) : TGs := fun vs σ H Q => ∃ (B : Addr → Prop) (m : List Addr) (h : Hs) (l : List PV) (ρ : Env) (k : Env → Prop), Sim A B m h H ∧ Sl A B m h H ρ σ ∧ RpL A (Xc B m h) H l vs ∧ bindL tg l ρ k ∧ ∀ ρ' σ', k ρ' → Sl A B m h H ρ' σ' → Off tg.slots σ σ' → Q σ' H
theorem PG_imp {X : Cx} {e : Expr} {t t' : TG} (p : PG X e t) (i : ∀ v σ H Q, t' v σ H Q → t v σ H Q) : PG X e t' := ⟨fun pins s σ H v u Q I r z => p.run pins s σ H v u Q I r (i v σ H Q z)⟩
theorem PGs_imp {X : Cx} {e : List Expr} {t t' : TGs} (p : PGs X e t) (i : ∀ v σ H Q, t' v σ H Q → t v σ H Q) : PGs X e t' := ⟨fun pins s σ H v u Q I r z => p.run pins s σ H v u Q I r (i v σ H Q z)⟩
theorem assign_no {e : Expr} (h : noStar e = true) (es : List Expr) (env : PySem.Env) : assignEach (e :: es) env = (false, assign e env) :: assignEach es env := by
  cases e <;> first | rfl | cases h
theorem assign_len (env : PySem.Env) : ∀ {es : List Expr}, es.all noStar = true → (assignEach es env).length = es.length ∧ (assignEach es env).findIdx? (·.1) = none
  | [], _ => ⟨rfl, rfl⟩
  | e :: es, h => by
    rw [List.all_cons, Bool.and_eq_true] at h
    rw [assign_no h.1]
    obtain ⟨h1, h2⟩ := assign_len env h.2
    refine ⟨by simp [h1], ?_⟩
    rw [List.findIdx?_cons]
    simp [h2]
theorem mGL_star {N : List Str} {ss : Scope} : ∀ {t : Tg} {es : List Expr}, mGL N ss t es = true → es.all noStar = true
  | .nil, [], _ => rfl
  | .nil, _ :: _, h => by simp [mGL] at h
  | .nm _, _, h => by simp [mGL] at h
  | .cons _ _, [], h => by simp [mGL] at h
  | .cons a r, e :: es, h => by
    simp only [mGL, Bool.and_eq_true] at h
    rw [List.all_cons, h.1.2, mGL_star h.2]
    rfl
theorem mGL_len {N : List Str} {ss : Scope} : ∀ {t : Tg} {es : List Expr} {l : List PV} {ρ : Env} {k : Env → Prop}, mGL N ss t es = true → bindL t l ρ k → es.length = l.length
  | .nil, [], l, ρ, k, _, z => by
    simp only [bindL] at z
    rw [z.1]
    rfl
  | .nil, _ :: _, _, _, _, h, _ => by simp [mGL] at h
  | .nm _, _, _, _, _, h, _ => by simp [mGL] at h
  | .cons _ _, [], _, _, _, h, _ => by simp [mGL] at h
  | .cons a r, e :: es, l, ρ, k, h, z => by
    simp only [mGL, Bool.and_eq_true] at h
    simp only [bindL] at z
    obtain ⟨x, xs, rfl, z⟩ := z
    have : ∃ ρ' , bindL r xs ρ' k := by
      have q := bindT_mono (k' := fun ρ' => bindL r xs ρ' k) a (fun _ q => q) z
      exact bindT_some a q
    obtain ⟨ρ', q⟩ := this
    rw [List.length_cons, List.length_cons, mGL_len h.2 q]
section
variable {A : Ad} {P : Pg} {C : CallT} {N : List Str} {sc ss : Scope} {l : Bool} {kk : Nat} {W : XK} {X : Cx}
mutual
theorem sG (cx : Ctx A P C N sc ss l kk W X) : ∀ (t : Tg) {e : Expr}, mG N ss t e = true → PG X e (tG A t)
  | .nm i, e, h => by
    cases e with
    | Name x pos =>
      simp only [mG, Bool.and_eq_true, decide_eq_true_eq] at h
      obtain ⟨s1, s2⟩ := cx.st x h.2
      refine PG_imp (L2.pg_name (i := i) (by rw [cx.eN]; exact cx.nd) (by rw [cx.eN]; exact h.1) (by rw [cx.eS]; exact s1) (by rw [cx.eS]; exact s2)) fun v σ H Q z => ?_
      obtain ⟨B, m, h, p, ρ, k, S, sl, r, b, z⟩ := z
      simp only [bindT] at b
      exact z _ _ b (sl.set i (show RpR A B m h H (.pv p) v from r)) (Off.set σ i _)
    | _ => simp [mG] at h
  | .nil, e, h => by
    cases e with
    | Tuple es k pos =>
      cases es with
      | nil =>
        refine PG_imp (L2.pg_tup cx.calm L2.pgs_nil) fun v σ H Q z => ?_
        obtain ⟨B, m, h, p, ρ, k, S, sl, r, b, z⟩ := z
        simp only [bindT] at b
        obtain ⟨rfl, b⟩ := b
        cases r with
        | tup q r =>
          cases r
          exact ⟨_, [], rfl, by rw [cx.eK]; exact q, rfl, rfl, z _ _ b sl (Off.refl _ _)⟩
      | cons a as => simp [mG] at h
    | _ => simp [mG] at h
  | .cons a r, e, h => by
    cases e with
    | Tuple es k pos =>
      cases es with
      | nil => simp [mG] at h
      | cons e es =>
        simp only [mG, Bool.and_eq_true] at h
        have g1 := sG cx a h.1.1
        have g2 := sGs cx r h.2
        have st := mGL_star h.2
        have st2 : (e :: es).all noStar = true := by rw [List.all_cons, h.1.2, st]; rfl
        obtain ⟨l1, l2⟩ := assign_len X.env st2
        refine PG_imp (L2.pg_tup (n := (e :: es).length) cx.calm (L2.pgs_cons g1 g2 (by rw [assign_no h.1.2] <;> rfl)) l1 l2) fun v σ H Q z => ?_
        obtain ⟨B, m, hh, p, ρ, k, S, sl, rp, b, z⟩ := z
        simp only [bindT] at b
        obtain ⟨y, ys, rfl, b⟩ := b
        cases rp with
        | tup q rr =>
          cases rr with
          | cons r1 r2 =>
            obtain ⟨ρ', b'⟩ := bindT_some a b
            refine ⟨_, _, rfl, by rw [cx.eK]; exact q, ?_, _, _, rfl, ?_⟩
            · rw [List.length_cons, List.length_cons, r2.length, mGL_len h.2 b']
            · exact ⟨B, m, hh, y, ρ, _, S, sl, r1, b, fun ρ1 σ1 b1 sl1 o1 => ⟨B, m, hh, ys, ρ1, k, S, sl1, r2, b1, fun ρ2 σ2 b2 sl2 o2 => z ρ2 σ2 b2 sl2 (o1.trans o2)⟩⟩
    | _ => simp [mG] at h
theorem sGs (cx : Ctx A P C N sc ss l kk W X) : ∀ (t : Tg) {es : List Expr}, mGL N ss t es = true → PGs X es (tGs A t)
  | .nm _, _, h => by simp [mGL] at h
  | .nil, es, h => by
    cases es with
    | nil =>
      refine PGs_imp L2.pgs_nil fun v σ H Q z => ?_
      obtain ⟨B, m, h, p, ρ, k, S, sl, r, b, z⟩ := z
      simp only [bindL] at b
      obtain ⟨rfl, b⟩ := b
      cases r
      exact ⟨rfl, z _ _ b sl (Off.refl _ _)⟩
    | cons a as => simp [mGL] at h
  | .cons a r, es, h => by
    cases es with
    | nil => simp [mGL] at h
    | cons e es =>
      simp only [mGL, Bool.and_eq_true] at h
      have g1 := sG cx a h.1.1
      have g2 := sGs cx r h.2
      refine PGs_imp (L2.pgs_cons g1 g2 (by rw [assign_no h.1.2] <;> rfl)) fun v σ H Q z => ?_
      obtain ⟨B, m, hh, l, ρ, k, S, sl, rp, b, z⟩ := z
      simp only [bindL] at b
      obtain ⟨y, ys, rfl, b⟩ := b
      cases rp with
      | cons r1 r2 => exact ⟨_, _, rfl, B, m, hh, y, ρ, _, S, sl, r1, b, fun ρ1 σ1 b1 sl1 o1 => ⟨B, m, hh, ys, ρ1, k, S, sl1, r2, b1, fun ρ2 σ2 b2 sl2 o2 => z ρ2 σ2 b2 sl2 (o1.trans o2)⟩⟩
end
end
end G43
set_option Elab.async false
set_option linter.all false
set_option maxRecDepth 100000
set_option maxHeartbeats 4000000
namespace G43
open PySem
open L2 (V HO Hp SqL SqT Rd upd upd_same upd_ne Cx OpR R2 VK CallR IxR SlR TE TA TS TT TI TG TGs PE PA PS PSs PT PI PG PGs XK Sp Room Vals)
open PySem.Spec PyProof.Rows
section
variable {A : Ad} {B : Addr → Prop} {m : List Addr} {h : Hs} {H : Hp}
/-! ### a list that is being made -/
mutual
theorem Rp.blocked {D : Addr} {ys zs : List V} (b : B D) (e : H D = some (.lst ys)) : ∀ {p : PV} {v : V}, Rp A (Xc B m h) H p v → Rp A (Xc B m h) (upd H D (.lst zs)) p v
  | _, _, .non => .non
  | _, _, .bl b => .bl b
  | _, _, .int i => .int i
  | _, _, .str x => .str x
  | _, _, .fn f => .fn f
  | _, _, .tup q r => .tup (by
      rcases q with (q | ⟨o, q⟩) | q
      · exact .inl (.inl (by rw [upd_ne (L2.ne_of q e (fun z => nomatch z))]; exact q))
      · exact .inl (.inr ⟨o, by rw [upd_ne (L2.ne_of q e (fun z => nomatch z))]; exact q⟩)
      · exact .inr q) (RpL.blocked b e r)
  | _, _, .lst q n r => .lst (by rw [upd_ne (fun z => n (.inl (by rw [z]; exact b)))]; exact q) n (RpL.blocked b e r)
  | _, _, .scr q r => .scr (by
      rcases q with ⟨o, q⟩ | q
      · exact .inl ⟨o, by rw [upd_ne (L2.ne_of q e (fun z => nomatch z))]; exact q⟩
      · exact .inr q) (RpL.blocked b e r)
  | _, _, .dct q n => .dct (by rw [upd_ne (fun z => n (.inl (by rw [z]; exact b)))]; exact q) n
theorem RpL.blocked {D : Addr} {ys zs : List V} (b : B D) (e : H D = some (.lst ys)) : ∀ {l : List PV} {xs : List V}, RpL A (Xc B m h) H l xs → RpL A (Xc B m h) (upd H D (.lst zs)) l xs
  | _, _, .nil => .nil
  | _, _, .cons q r => .cons (Rp.blocked b e q) (RpL.blocked b e r)
end
theorem Sim.blocked (S : Sim A B m h H) {D : Addr} {ys zs : List V} (b : B D) (e : H D = some (.lst ys)) : Sim A B m h (upd H D (.lst zs)) := by
  refine ⟨S.len, fun i c a h1 h2 => ?_, S.inj, S.bn, fun a q => ?_, tabs_lst S.tb e⟩
  · obtain ⟨xs, h3, h4⟩ := S.cell i c a h1 h2
    have ne : a ≠ D := fun z => S.bn D b (by rw [← z]; exact ⟨i, c, h1, h2⟩)
    exact ⟨xs, by rw [upd_ne ne]; exact h3, h4.blocked b e⟩
  · obtain ⟨o', e', n'⟩ := S.bt a q
    by_cases ha : a = D
    · subst ha
      exact ⟨_, upd_same, fun _ z => nomatch z⟩
    · exact ⟨o', by rw [upd_ne ha]; exact e', n'⟩
def Bx (B : Addr → Prop) (D : Addr) : Addr → Prop := fun a => B a ∨ a = D
theorem Sim.block (S : Sim A B m h H) {D : Addr} {o : HO} (ht : ∀ ps, o ≠ .tbl ps) (e : H D = none) : Sim A (Bx B D) m h (upd H D o) := by
  have w : ∀ a, Bx B D a → B a ∨ H a = none := fun a z => z.imp id fun z => by rw [z]; exact e
  obtain ⟨M, S'⟩ := S.news (o := o) e
  refine ⟨S.len, fun i c a h1 h2 => ?_, S.inj, fun a z => ?_, fun a z => ?_, S'.tb⟩
  · obtain ⟨xs, h3, h4⟩ := S.cell i c a h1 h2
    exact ⟨xs, by rw [upd_ne (L2.ne_of_none h3 e)]; exact h3, RpL.moveC S.cl M (h4.strong w)⟩
  · rcases z with z | z
    · exact S.bn a z
    · subst z
      exact fun z => S.fresh e (.inr z)
  · rcases z with z | z
    · exact S'.bt a z
    · subst z
      exact ⟨o, upd_same, ht⟩
theorem Sim.unblock {D : Addr} (S : Sim A (Bx B D) m h H) : Sim A B m h H :=
  ⟨S.len, fun i c a h1 h2 => let ⟨xs, h3, h4⟩ := S.cell i c a h1 h2; ⟨xs, h3, h4.weak fun _ z => z.imp .inl id⟩, S.inj, fun a z => S.bn a (.inl z), fun a z => S.bt a (.inl z), S.tb⟩
theorem RpR.later {B' : Addr → Prop} {m2 : List Addr} {h2 : Hs} {H2 : Hp} (c : CL m h H) (w : ∀ a, B' a → B a ∨ H a = none) (M : Mv m h H m2 h2 H2) : ∀ {x : RV} {v : V}, RpR A B m h H x v → RpR A B' m2 h2 H2 x v
  | .pv _, _, q => Rp.moveC c M (Rp.strong w q)
  | .ref _, _, ⟨a, e, z⟩ => ⟨a, M.at e, z⟩
theorem Sl.later {B' : Addr → Prop} {m2 : List Addr} {h2 : Hs} {H2 : Hp} (c : CL m h H) (w : ∀ a, B' a → B a ∨ H a = none) (M : Mv m h H m2 h2 H2) {ρ : Env} {σ : L2.St} (s : Sl A B m h H ρ σ) : Sl A B' m2 h2 H2 ρ σ :=
  ⟨s.len, fun i v e => let ⟨w', e1, e2⟩ := s.at_ i v e; ⟨w', e1, e2.later c w M⟩⟩
end
/-! ### a comprehension -/
abbrev WF : XK := fun _ _ _ => False
def tTs (A : Ad) (P : Pg) (C : CallT) : EL → TT
  | .nil => L2.tYes
  | .cons e _ => tQ A P C WF e
section
variable {A : Ad} {P : Pg} {C : CallT} {N : List Str} {sc ss : Scope} {l : Bool} {kk : Nat} {W : XK} {X : Cx} (hC : MonoC C C)
include hC
theorem tI_of {B : Addr → Prop} {m : List Addr} {h : Hs} {H : Hp} {ρ : Env} {σ : L2.St} {it : It} {R : List PV → (Hs → Prop) → Hs → Prop} {T : L2.It → Hp → Prop} (S : Sim A B m h H) (s : Sl A B m h H ρ σ) (z : wpI P C it ρ h R (Kx A B m h H W))
    (k : ∀ l gd h1 m1 H1 J, R l gd h1 → Sim A B m1 h1 H1 → Mv m h H m1 h1 H1 → Walks A B m1 h1 H1 J l gd → T J H1) : tI A P C W it σ H T :=
  ⟨B, m, h, ρ, S, s, wpI_mono hC it (fun l gd h1 r m1 H1 J S1 M1 q => k l gd h1 m1 H1 J r S1 M1 q) (fun _ _ z => z) z⟩
theorem i_comp {elt : E} {tg : Tg} {it : It} {ifs : EL} : ∀ σ H Q, tE A P C W (.comp elt tg it ifs) σ H Q → L2.tLc (tI A P C W it) (tG A tg) (tTs A P C ifs) (tE A P C WF elt) tg.slots σ H Q := fun σ H Q z => by
  obtain ⟨B, m, h, ρ, S, s, z⟩ := z
  unfold wpE at z
  refine tI_of hC S s z fun l gd h1 m1 H1 J q S1 M1 wk D hD => ?_
  obtain ⟨hz, q⟩ := q
  have wB : ∀ a, Bx B D a → B a ∨ H1 a = none := fun a z => z.imp id fun z => by rw [z]; exact hD
  have s1 := s.move S M1
  generalize hst : (fun (x : PV) (h2 : Hs) (k : List PV → Hs → Prop) => bindT tg x (kill ρ tg.slots) fun ρ1 => wpTs P C ifs ρ1 h2 (fun b h3 => if b = true then wpE P C elt ρ1 h3 (fun y h4 => ∃ p, y = RV.pv p ∧ k [p] h4) (fun _ _ => False) else k [] h3) (fun _ _ => False)) = st at q
  have hst' : ∀ x h2 k, st x h2 k = bindT tg x (kill ρ tg.slots) fun ρ1 => wpTs P C ifs ρ1 h2 (fun b h3 => if b = true then wpE P C elt ρ1 h3 (fun y h4 => ∃ p, y = RV.pv p ∧ k [p] h4) (fun _ _ => False) else k [] h3) (fun _ _ => False) := fun x h2 k => by rw [← hst]
  refine ⟨fun i n H2 => ∃ m2 h2 acc xs, Sim A (Bx B D) m2 h2 H2 ∧ Mv m1 h1 H1 m2 h2 H2 ∧ H2 D = some (.lst xs) ∧ RpL A (Xc (Bx B D) m2 h2) H2 acc xs ∧ acc.length ≤ i ∧ i ≤ l.length ∧ n = l.length - i ∧
      compT gd st (l.drop i) h2 (fun r h3 => Kv A B m h H Q (.pv (.lst (acc ++ r))) h3), ⟨l.length, m1, h1, [], [], S1.block (fun _ z => nomatch z) hD, ?_, upd_same, .nil, Nat.le_refl _, Nat.zero_le _, rfl, q⟩, ?_⟩
  · exact (S1.news (o := .lst []) hD).1
  rintro i n H2 ⟨m2, h2, acc, xs, S2, M2, e2, r2, ha, hi, rfl, q⟩
  by_cases hlt : i < l.length
  · right
    obtain ⟨x, hx⟩ : ∃ x, l[i]? = some x := ⟨l[i], List.getElem?_eq_getElem hlt⟩
    have hdr : l.drop i = x :: l.drop (i + 1) := by
      rw [List.drop_eq_getElem_cons hlt]
      congr 1
      exact (List.getElem?_eq_some_iff.mp hx).2
    rw [hdr] at q
    obtain ⟨g, q⟩ := q
    obtain ⟨go, yl⟩ := (wk (Bx B D) m2 h2 H2 wB S2 M2 g).1 i x hx
    refine ⟨go, _, fun H' w => ⟨l.length - (i + 1), by omega, w⟩, fun v H3 y => ?_⟩
    obtain ⟨S3, M3, r3⟩ := yl v H3 y
    rw [hst' x h2] at q
    refine ⟨Bx B D, m2, h2, x, kill ρ tg.slots, _, S3, (s1.later S1.cl wB (M2.trans M3)).wipe tg.slots, r3, q, fun ρ1 σ1 q sl off => ⟨?_, ?_⟩⟩
    · have e := off.wipe
      rw [e]
      apply List.ext_getElem?
      intro j
      by_cases hj : j ∈ tg.slots
      · by_cases hl : j < σ.length
        · rw [wipe_in hj (by rw [L2.wipe_length]; exact hl), wipe_in hj hl]
        · rw [List.getElem?_eq_none (by rw [L2.wipe_length, L2.wipe_length]; omega), List.getElem?_eq_none (by rw [L2.wipe_length]; omega)]
      · rw [L2.wipe_out hj]
    · -- the tests, then the item
      have item : ∀ (b : Bool) (h3 : Hs) (m4 : List Addr) (H4 : Hp), (if b = true then wpE P C elt ρ1 h3 (fun y h4 => ∃ p, y = RV.pv p ∧ compT gd st (l.drop (i + 1)) h4 fun r h5 => Kv A B m h H Q (.pv (.lst (acc ++ ([p] ++ r)))) h5) (fun _ _ => False)
            else compT gd st (l.drop (i + 1)) h3 fun r h5 => Kv A B m h H Q (.pv (.lst (acc ++ ([] ++ r)))) h5) → Sim A (Bx B D) m4 h3 H4 → Mv m2 h2 H3 m4 h3 H4 →
          if b = true then tE A P C WF elt σ1 H4 (fun y H5 => ∃ acc', H5 D = some (.lst acc') ∧ acc'.length < sizeLine ∧ ∃ m2 h2 acc xs, Sim A (Bx B D) m2 h2 (upd H5 D (.lst (acc' ++ [y]))) ∧ Mv m1 h1 H1 m2 h2 (upd H5 D (.lst (acc' ++ [y]))) ∧ upd H5 D (.lst (acc' ++ [y])) D = some (.lst xs) ∧ RpL A (Xc (Bx B D) m2 h2) (upd H5 D (.lst (acc' ++ [y]))) acc xs ∧ acc.length ≤ i + 1 ∧ i + 1 ≤ l.length ∧ l.length - (i + 1) = l.length - (i + 1) ∧
              compT gd st (l.drop (i + 1)) h2 (fun r h3 => Kv A B m h H Q (.pv (.lst (acc ++ r))) h3)) else
            ∃ m2 h2 acc xs, Sim A (Bx B D) m2 h2 H4 ∧ Mv m1 h1 H1 m2 h2 H4 ∧ H4 D = some (.lst xs) ∧ RpL A (Xc (Bx B D) m2 h2) H4 acc xs ∧ acc.length ≤ i + 1 ∧ i + 1 ≤ l.length ∧ l.length - (i + 1) = l.length - (i + 1) ∧
              compT gd st (l.drop (i + 1)) h2 (fun r h3 => Kv A B m h H Q (.pv (.lst (acc ++ r))) h3) := by
        intro b h3 m4 H4 q S4 M4
        have eD : ∀ {m5 : List Addr} {h5 : Hs} {H5 : Hp}, Mv m2 h2 H2 m5 h5 H5 → H5 D = some (.lst xs) := fun M => (M.keep D _ e2 (fun _ e => nomatch e) (S2.bn D (.inr rfl))).1
        cases b with
        | true =>
          rw [if_pos rfl] at q ⊢
          refine ⟨Bx B D, m4, h3, ρ1, S4, sl.move S3 M4, wpE_mono hC elt (fun y h5 q m5 H5 w S5 M5 r5 => ?_) (fun _ _ z => z.elim) q⟩
          obtain ⟨p, rfl, q⟩ := q
          have M25 := (M3.trans M4).trans M5
          refine ⟨xs, eD M25, by rw [r2.length]; omega, m5, h5, acc ++ [p], xs ++ [w], S5.blocked (.inr rfl) (eD M25), ?_, upd_same, ?_, by simp; omega, hlt, rfl, ?_⟩
          · have M15 := M2.trans M25
            exact ⟨M15.pre, fun b o e t n => ⟨by rw [upd_ne (L2.ne_of_none e hD)]; exact (M15.keep b o e t n).1, (M15.keep b o e t n).2⟩⟩
          · exact (RpL.append (RpL.moveC S2.cl M25 r2) (.cons (show Rp A _ H5 p w from r5) .nil)).blocked (.inr rfl) (eD M25)
          · simpa [List.append_assoc] using q
        | false =>
          rw [if_neg Bool.false_ne_true] at q ⊢
          have M24 := M3.trans M4
          exact ⟨m4, h3, acc, xs, S4, M2.trans M24, eD M24, RpL.moveC S2.cl M24 r2, by omega, hlt, rfl, by simpa using q⟩
      cases ifs with
      | nil =>
        unfold wpTs at q
        exact item true h2 m2 H3 q S3 (Mv.refl _ _ _)
      | cons e r =>
        unfold wpTs at q
        refine ⟨Bx B D, m2, h2, ρ1, S3, sl, wpE_mono hC e (fun y h3 q m4 H4 w S4 M4 r4 => ?_) (fun _ _ z => z.elim) q⟩
        obtain ⟨c, rfl, q⟩ := q
        cases r4
        exact ⟨c, rfl, item c h3 m4 H4 q S4 M4⟩
  · left
    have e : i = l.length := by omega
    subst e
    rw [List.drop_length] at q
    obtain ⟨g, q⟩ := q
    refine ⟨(wk (Bx B D) m2 h2 H2 wB S2 M2 g).2 _ (Nat.le_refl _), ?_⟩
    rw [List.append_nil] at q
    refine q m2 H2 _ S2.unblock (M1.trans M2) (.lst e2 (fun z => ?_) (r2.weak fun _ z => z.imp .inl id))
    rcases z with z | z
    · obtain ⟨o', e', _⟩ := S1.bt D z
      rw [hD] at e'; cases e'
    · exact S2.bn D (.inr rfl) z
end
end G43
set_option Elab.async false
set_option linter.all false
set_option maxRecDepth 100000
set_option maxHeartbeats 4000000
namespace G43
open PySem
open L2 (V HO Hp SqL SqT Rd upd upd_same upd_ne Cx OpR R2 VK CallR IxR SlR TE TA TS TT TI TG TGs PE PA PS PSs PT PI PG PGs XK Sp Room Vals)
open PySem.Spec PyProof.Rows
section
variable {A : Ad} {P : Pg} {C : CallT} {N : List Str}
theorem Ctx.blk {sc ss : Scope} {l : Bool} {kk : Nat} {W : XK} {X : Cx} (cx : Ctx A P C N sc ss l kk W X) (scope : Scope) (s : Shared) (H : Hp) (c : Addr) (cl : List (Str × Addr)) (fp : List Addr) (hk : scope.kind = .function) :
    Ctx A P C N (L2.relS scope sc) scope false kk WF (X.blk s H scope (compEnvC scope cl c X.env) fp) where
  eK := cx.eK
  eS := by
    have e : (compEnvC scope cl c X.env).scope = L2.relS scope X.env.scope := rfl
    rw [← cx.eS]
    exact e
  eN := cx.eN
  kd := hk
  nd := cx.nd
  calm := cx.calm
  un := cx.un
  gd := cx.gd
  tk := L2.takes0
  po := PassesOwn.never
  st := fun x h => by
    rcases stoB_ok h with k | k
    · have q := L2.lookup_relS_keep (sc := sc) (by decide) k
      exact ⟨.inl q, .inr q⟩
    · have q := L2.lookup_relS_keep (sc := sc) (by decide) k
      refine ⟨.inr q, .inl ?_⟩
      show (scope.names.lookup x == some NameKind.cell) = true
      rw [k]
      rfl
  rm := cx.rm
  cal := fun f df e => let d := cx.cal f df e; ⟨d.nm, d.kp, d.fn⟩
  con := cx.con
  blt := cx.blt
  exc := fun c hc w hw => let d := cx.exc c hc w hw; ⟨d.mg, d.ei, d.kp, d.rs⟩
  lam := fun z => nomatch z
theorem mL_all {l : Bool} : ∀ {es : EL} {sc : Scope} {args : List Expr}, mL P N es l sc args = true → args.all noStar = true ∧ es.len = args.length
  | .nil, sc, [], _ => ⟨rfl, rfl⟩
  | .nil, sc, _ :: _, h => by simp [mL] at h
  | .cons _ _, sc, [], h => by simp [mL] at h
  | .cons e r, sc, a :: as, h => by
    simp only [mL, Bool.and_eq_true] at h
    obtain ⟨h1, h2⟩ := mL_all h.2
    exact ⟨by rw [List.all_cons, h.1.2, h1]; rfl, by show r.len + 1 = as.length + 1; rw [h2]⟩
/-- what a text may be whose test is its value's truth -/
def valE : E → Bool
  | .and _ _ => false
  | .or _ _ => false
  | .nt _ => false
  | .cmp _ _ _ => false
  | .chn _ _ _ _ _ => false
  | .ite _ _ _ => false
  | _ => true
theorem isT_plain {l : Bool} {e : E} {sc : Scope} {x : Expr} {env : PySem.Env} (h : mE P N e l sc x = true) (hv : valE e = true) : ∀ whole, isTrue x env whole = (do let v ← whole; standAt x.pos; holding [v] (truthy v)) := by
  cases x with
  | BoolOp op vs pos =>
    exfalso
    cases op <;> rcases vs with _ | ⟨v, _ | ⟨w, _ | ⟨u, vs⟩⟩⟩ <;> cases e <;> first | (simp [mE] at h; done) | (simp [valE] at hv; done)
  | UnaryOp op a pos =>
    cases op <;> cases e <;> first | (intro _; rfl) | (simp [mE] at h; done) | (simp [valE] at hv; done)
  | Compare a ops bs pos =>
    exfalso
    rcases ops with _ | ⟨o1, _ | ⟨o2, _ | ⟨o3, ops⟩⟩⟩ <;> rcases bs with _ | ⟨b1, _ | ⟨b2, _ | ⟨b3, bs⟩⟩⟩ <;> cases e <;> first | (simp [mE] at h; done) | (simp [valE] at hv; done)
  | IfExp t a b pos =>
    exfalso
    cases e <;> first | (simp [mE] at h; done) | (simp [valE] at hv; done)
  | _ => intro _; rfl
variable (hC : MonoC C C)
include hC
mutual
theorem sE : ∀ (e : E) {sc ss : Scope} {l : Bool} {kk : Nat} {W : XK} {X : Cx} {x : Expr}, Ctx A P C N sc ss l kk W X → mE P N e l sc x = true → PE X x (tE A P C W e) ∧ PT X x (tQ A P C W e)
  | .var i, sc, ss, l, kk, W, X, x, cx, h => by
    have pe : PE X x (tE A P C W (.var i)) := by
      cases x with
      | Name y pos =>
        simp only [mE, Bool.and_eq_true, decide_eq_true_eq, Bool.not_eq_true'] at h
        exact s_var cx h.1.1 h.1.2 h.2
      | _ => simp [mE] at h
    exact ⟨pe, q_val hC pe (isT_plain h rfl)⟩
  | .cst p, sc, ss, l, kk, W, X, x, cx, h => by
    have pe : PE X x (tE A P C W (.cst p)) := by
      cases x with
      | Constant c k pos =>
        simp only [mE] at h
        exact s_cst h
      | _ => simp [mE] at h
    exact ⟨pe, q_val hC pe (isT_plain h rfl)⟩
  | .glo g, sc, ss, l, kk, W, X, x, cx, h => by
    have pe : PE X x (tE A P C W (.glo g)) := by
      cases x with
      | Name y pos =>
        simp only [mE, Bool.and_eq_true, Bool.not_eq_true'] at h
        obtain ⟨⟨h1, h2⟩, h3⟩ := h
        cases hg : P.cons[g]? with
        | none => rw [hg] at h1; cases h1
        | some q =>
          rw [hg] at h1
          have e := of_decide_eq_true h1
          subst e
          exact s_glo (p := q.2) cx hg h2 h3
      | _ => simp [mE] at h
    exact ⟨pe, q_val hC pe (isT_plain h rfl)⟩
  | .bin op a b, sc, ss, l, kk, W, X, x, cx, h => by
    have pe : PE X x (tE A P C W (.bin op a b)) := by
      cases x with
      | BinOp a' op' b' pos =>
        simp only [mE, Bool.and_eq_true, decide_eq_true_eq] at h
        obtain ⟨⟨rfl, h1⟩, h2⟩ := h
        exact s_bin hC cx (sE a cx h1).1 (sE b cx h2).1
      | _ => simp [mE] at h
    exact ⟨pe, q_val hC pe (isT_plain h rfl)⟩
  | .neg a, sc, ss, l, kk, W, X, x, cx, h => by
    have pe : PE X x (tE A P C W (.neg a)) := by
      cases x with
      | UnaryOp op a' pos =>
        cases op <;> simp only [mE] at h <;> first | exact s_neg hC (sE a cx h).1 | cases h
      | _ => simp [mE] at h
    exact ⟨pe, q_val hC pe (isT_plain h rfl)⟩
  | .nt a, sc, ss, l, kk, W, X, x, cx, h => by
    refine ⟨?_, ?_⟩
    · cases x with
      | UnaryOp op a' pos =>
        cases op <;> simp only [mE] at h <;> first | exact s_nt hC (sE a cx h).1 | cases h
      | _ => simp [mE] at h
    · cases x with
      | UnaryOp op a' pos =>
        cases op <;> simp only [mE] at h <;> first | exact q_nt hC (sE a cx h).2 | cases h
      | _ => simp [mE] at h
  | .and a b, sc, ss, l, kk, W, X, x, cx, h => by
    refine ⟨?_, ?_⟩
    · cases x with
      | BoolOp op vs pos =>
        cases op with
        | Or => cases vs with
          | nil => simp [mE] at h
          | cons v vs => cases vs with
            | nil => simp [mE] at h
            | cons w vs => cases vs <;> simp [mE] at h
        | And => cases vs with
          | nil => simp [mE] at h
          | cons v vs => cases vs with
            | nil => simp [mE] at h
            | cons w vs => cases vs with
              | nil =>
                simp only [mE, Bool.and_eq_true] at h
                exact PE_imp (L2.pe_and (sE a cx h.1).1 (L2.pe_one (sE b cx h.2).1)) (i_and hC)
              | cons u vs =>
                simp only [mE, Bool.and_eq_true] at h
                exact PE_imp (L2.pe_and (sE a cx h.1).1 (sE b cx h.2).1) (i_and hC)
      | _ => simp [mE] at h
    · cases x with
      | BoolOp op vs pos =>
        cases op with
        | Or => cases vs with
          | nil => simp [mE] at h
          | cons v vs => cases vs with
            | nil => simp [mE] at h
            | cons w vs => cases vs <;> simp [mE] at h
        | And => cases vs with
          | nil => simp [mE] at h
          | cons v vs => cases vs with
            | nil => simp [mE] at h
            | cons w vs => cases vs with
              | nil =>
                simp only [mE, Bool.and_eq_true] at h
                exact PT_imp (L2.pw_and (sE a cx h.1).2 (L2.pw_and1 (sE b cx h.2).2)).pt (i_qand hC)
              | cons u vs =>
                simp only [mE, Bool.and_eq_true] at h
                exact PT_imp (L2.pw_and (sE a cx h.1).2 (pw_of hC (sE b cx h.2).2)).pt (i_qand hC)
      | _ => simp [mE] at h
  | .or a b, sc, ss, l, kk, W, X, x, cx, h => by
    refine ⟨?_, ?_⟩
    · cases x with
      | BoolOp op vs pos =>
        cases op with
        | And => cases vs with
          | nil => simp [mE] at h
          | cons v vs => cases vs with
            | nil => simp [mE] at h
            | cons w vs => cases vs <;> simp [mE] at h
        | Or => cases vs with
          | nil => simp [mE] at h
          | cons v vs => cases vs with
            | nil => simp [mE] at h
            | cons w vs => cases vs with
              | nil =>
                simp only [mE, Bool.and_eq_true] at h
                exact PE_imp (L2.pe_or (sE a cx h.1).1 (L2.pe_one (sE b cx h.2).1)) (i_or hC)
              | cons u vs =>
                simp only [mE, Bool.and_eq_true] at h
                exact PE_imp (L2.pe_or (sE a cx h.1).1 (sE b cx h.2).1) (i_or hC)
      | _ => simp [mE] at h
    · cases x with
      | BoolOp op vs pos =>
        cases op with
        | And => cases vs with
          | nil => simp [mE] at h
          | cons v vs => cases vs with
            | nil => simp [mE] at h
            | cons w vs => cases vs <;> simp [mE] at h
        | Or => cases vs with
          | nil => simp [mE] at h
          | cons v vs => cases vs with
            | nil => simp [mE] at h
            | cons w vs => cases vs with
              | nil =>
                simp only [mE, Bool.and_eq_true] at h
                exact PT_imp (L2.pw_or (sE a cx h.1).2 (L2.pw_or1 (sE b cx h.2).2)).pt (i_qor hC)
              | cons u vs =>
                simp only [mE, Bool.and_eq_true] at h
                exact PT_imp (L2.pw_or (sE a cx h.1).2 (pw_of hC (sE b cx h.2).2)).pt (i_qor hC)
      | _ => simp [mE] at h
  | .cmp op a b, sc, ss, l, kk, W, X, x, cx, h => by
    refine ⟨?_, ?_⟩
    · cases x with
      | Compare a' ops bs pos =>
        rcases ops with _ | ⟨o1, _ | ⟨o2, ops⟩⟩ <;> rcases bs with _ | ⟨b1, _ | ⟨b2, bs⟩⟩ <;> simp only [mE, Bool.and_eq_true, decide_eq_true_eq, Bool.not_eq_true', Bool.false_eq_true] at h
        obtain ⟨⟨⟨rfl, h1⟩, h2⟩, h3⟩ := h
        exact PE_imp (L2.pe_cmpR (op_cmp cx.eK cx.un op) (sE a cx h2).1 (sE b cx h3).1 h1) (i_cmp hC)
      | _ => simp [mE] at h
    · cases x with
      | Compare a' ops bs pos =>
        rcases ops with _ | ⟨o1, _ | ⟨o2, ops⟩⟩ <;> rcases bs with _ | ⟨b1, _ | ⟨b2, bs⟩⟩ <;> simp only [mE, Bool.and_eq_true, decide_eq_true_eq, Bool.not_eq_true', Bool.false_eq_true] at h
        obtain ⟨⟨⟨rfl, h1⟩, h2⟩, h3⟩ := h
        exact PT_imp (L2.pt_cmpR (op_cmp cx.eK cx.un op) (sE a cx h2).1 (sE b cx h3).1 h1) fun σ H Q z => i_cmp hC σ H _ z
      | _ => simp [mE] at h
  | .chn p1 p2 a b c, sc, ss, l, kk, W, X, x, cx, h => by
    refine ⟨?_, ?_⟩
    · cases x with
      | Compare a' ops bs pos =>
        rcases ops with _ | ⟨o1, _ | ⟨o2, _ | ⟨o3, ops⟩⟩⟩ <;> rcases bs with _ | ⟨b1, _ | ⟨b2, _ | ⟨b3, bs⟩⟩⟩ <;> simp only [mE, Bool.and_eq_true, decide_eq_true_eq, Bool.not_eq_true', Bool.false_eq_true] at h
        obtain ⟨⟨⟨⟨⟨rfl, rfl⟩, h1⟩, h2⟩, h3⟩, h4⟩ := h
        exact PE_imp (L2.pe_chain (op_cmp cx.eK cx.un p1) (op_cmp cx.eK cx.un p2) (sE a cx h2).1 (sE b cx h3).1 (sE c cx h4).1 h1) (i_chn hC)
      | _ => simp [mE] at h
    · cases x with
      | Compare a' ops bs pos =>
        rcases ops with _ | ⟨o1, _ | ⟨o2, _ | ⟨o3, ops⟩⟩⟩ <;> rcases bs with _ | ⟨b1, _ | ⟨b2, _ | ⟨b3, bs⟩⟩⟩ <;> simp only [mE, Bool.and_eq_true, decide_eq_true_eq, Bool.not_eq_true', Bool.false_eq_true] at h
        obtain ⟨⟨⟨⟨⟨rfl, rfl⟩, h1⟩, h2⟩, h3⟩, h4⟩ := h
        exact PT_imp (L2.pt_chain (op_cmp cx.eK cx.un p1) (op_cmp cx.eK cx.un p2) (sE a cx h2).1 (sE b cx h3).1 (sE c cx h4).1 h1) fun σ H Q z => i_chn hC σ H _ z
      | _ => simp [mE] at h
  | .ite t a b, sc, ss, l, kk, W, X, x, cx, h => by
    refine ⟨?_, ?_⟩
    · cases x with
      | IfExp t' a' b' pos =>
        simp only [mE, Bool.and_eq_true] at h
        exact PE_imp (L2.pe_ifExp (sE t cx h.1.1).2 (sE a cx h.1.2).1 (sE b cx h.2).1) (i_ite hC)
      | _ => simp [mE] at h
    · cases x with
      | IfExp t' a' b' pos =>
        simp only [mE, Bool.and_eq_true] at h
        exact q_ite hC (sE t cx h.1.1).2 (sE a cx h.1.2).2 (sE b cx h.2).2
      | _ => simp [mE] at h
  | .call f es dv, sc, ss, l, kk, W, X, x, cx, h => by
    have pe : PE X x (tE A P C W (.call f es dv)) := by
      cases x with
      | Call fe args kws pos =>
        cases fe with
        | Name y p =>
          cases kws with
          | nil =>
            simp only [mE, Bool.and_eq_true, Bool.not_eq_true'] at h
            obtain ⟨⟨⟨h1, h2⟩, h3⟩, h4⟩ := h
            cases hg : P.defs[f]? with
            | none => rw [hg] at h1; cases h1
            | some df =>
              rw [hg] at h1
              simp only [Bool.and_eq_true, decide_eq_true_eq] at h1
              obtain ⟨⟨⟨rfl, h5⟩, h6⟩, h7⟩ := h1
              have e := samDs_eq h7
              have pa := sL es cx h4
              cases args with
              | nil =>
                cases es with
                | nil => exact s_call0 hC cx hg e h2 h3
                | cons _ _ => simp [mL] at h4
              | cons a args => exact s_call hC cx hg e h2 h3 (mL_all h4).1 pa
          | cons _ _ => simp [mE] at h
        | _ => simp [mE] at h
      | _ => simp [mE] at h
    exact ⟨pe, q_val hC pe (isT_plain h rfl)⟩
  | .bi b es, sc, ss, l, kk, W, X, x, cx, h => by
    have pe : PE X x (tE A P C W (.bi b es)) := by
      cases x with
      | Call fe args kws pos =>
        cases fe with
        | Name y p =>
          cases kws with
          | nil =>
            simp only [mE, Bool.and_eq_true, decide_eq_true_eq] at h
            obtain ⟨⟨⟨⟨rfl, h1⟩, h2⟩, h3⟩, h4⟩ := h
            have pa := sL es cx h3
            cases args with
            | nil => simp at h4
            | cons a args => exact s_bi hC cx h1 h2 (mL_all h3).1 pa
          | cons _ _ => simp [mE] at h
        | _ => simp [mE] at h
      | _ => simp [mE] at h
    exact ⟨pe, q_val hC pe (isT_plain h rfl)⟩
  | .isi a t, sc, ss, l, kk, W, X, x, cx, h => by
    have pe : PE X x (tE A P C W (.isi a t)) := by
      cases x with
      | Call fe args kws pos =>
        cases fe with
        | Name y p =>
          rcases kws with _ | ⟨k, kws⟩ <;> rcases args with _ | ⟨a1, _ | ⟨a2, _ | ⟨a3, args⟩⟩⟩ <;> try (simp [mE] at h; done)
          cases a2 with
          | Name z p2 =>
            simp only [mE, Bool.and_eq_true, decide_eq_true_eq] at h
            obtain ⟨⟨⟨⟨⟨⟨⟨rfl, rfl⟩, h1⟩, h2⟩, h3⟩, h4⟩, h5⟩, h6⟩ := h
            exact s_isi hC cx h1 h2 h3 h4 h6 (sE a cx h5).1
          | _ => simp [mE] at h
        | _ => simp [mE] at h
      | _ => simp [mE] at h
    exact ⟨pe, q_val hC pe (isT_plain h rfl)⟩
  | .idx a i, sc, ss, l, kk, W, X, x, cx, h => by
    have pe : PE X x (tE A P C W (.idx a i)) := by
      cases x with
      | Subscript a' i' pos =>
        simp only [mE, Bool.and_eq_true] at h
        exact s_idx hC cx h.1.1 (sE a cx h.1.2).1 (sE i cx h.2).1
      | _ => simp [mE] at h
    exact ⟨pe, q_val hC pe (isT_plain h rfl)⟩
  | .slo a lo, sc, ss, l, kk, W, X, x, cx, h => by
    have pe : PE X x (tE A P C W (.slo a lo)) := by
      cases x with
      | Subscript a' i' pos =>
        cases i' with
        | Slice l u st p2 =>
          rcases l with _ | l <;> rcases u with _ | u <;> rcases st with _ | st <;> simp only [mE, Bool.and_eq_true, Bool.false_eq_true] at h
          exact s_slo hC cx (sE a cx h.1).1 (sE lo cx h.2).1
        | _ => simp [mE] at h
      | _ => simp [mE] at h
    exact ⟨pe, q_val hC pe (isT_plain h rfl)⟩
  | .shi a hi, sc, ss, l, kk, W, X, x, cx, h => by
    have pe : PE X x (tE A P C W (.shi a hi)) := by
      cases x with
      | Subscript a' i' pos =>
        cases i' with
        | Slice l u st p2 =>
          rcases l with _ | l <;> rcases u with _ | u <;> rcases st with _ | st <;> simp only [mE, Bool.and_eq_true, Bool.false_eq_true] at h
          exact s_shi hC cx (sE a cx h.1).1 (sE hi cx h.2).1
        | _ => simp [mE] at h
      | _ => simp [mE] at h
    exact ⟨pe, q_val hC pe (isT_plain h rfl)⟩
  | .slh a lo hi, sc, ss, l, kk, W, X, x, cx, h => by
    have pe : PE X x (tE A P C W (.slh a lo hi)) := by
      cases x with
      | Subscript a' i' pos =>
        cases i' with
        | Slice l u st p2 =>
          rcases l with _ | l <;> rcases u with _ | u <;> rcases st with _ | st <;> simp only [mE, Bool.and_eq_true, Bool.false_eq_true] at h
          exact s_slh hC cx (sE a cx h.1.1).1 (sE lo cx h.1.2).1 (sE hi cx h.2).1
        | _ => simp [mE] at h
      | _ => simp [mE] at h
    exact ⟨pe, q_val hC pe (isT_plain h rfl)⟩
  | .tup es, sc, ss, l, kk, W, X, x, cx, h => by
    have pe : PE X x (tE A P C W (.tup es)) := by
      cases x with
      | Tuple es' k pos =>
        simp only [mE, Bool.and_eq_true, decide_eq_true_eq] at h
        exact s_tup hC (by rw [(mL_all h.1).2]; exact h.2) (sL es cx h.1)
      | _ => simp [mE] at h
    exact ⟨pe, q_val hC pe (isT_plain h rfl)⟩
  | .lst es, sc, ss, l, kk, W, X, x, cx, h => by
    have pe : PE X x (tE A P C W (.lst es)) := by
      cases x with
      | List es' pos =>
        simp only [mE, Bool.and_eq_true, decide_eq_true_eq] at h
        exact s_lst hC (by rw [(mL_all h.1).2]; exact h.2) (sL es cx h.1)
      | _ => simp [mE] at h
    exact ⟨pe, q_val hC pe (isT_plain h rfl)⟩
  | .mls es, sc, ss, l, kk, W, X, x, cx, h => by
    have pe : PE X x (tE A P C W (.mls es)) := by
      cases x with
      | List es' pos =>
        simp only [mE, Bool.and_eq_true, decide_eq_true_eq] at h
        exact s_mls hC (by rw [(mL_all h.1).2]; exact h.2) (sL es cx h.1)
      | _ => simp [mE] at h
    exact ⟨pe, q_val hC pe (isT_plain h rfl)⟩
  | .word e, sc, ss, l, kk, W, X, x, cx, h => by
    have pe : PE X x (tE A P C W (.word e)) := by
      cases x with
      | Call f args kws pos =>
        cases f with
        | Name y p =>
          rcases args with _ | ⟨a, _ | ⟨b, as⟩⟩ <;> cases kws <;> first
            | (simp [mE] at h; done)
            | (cases a with
               | Lambda ps body scope lpos =>
                 simp only [mE, Bool.and_eq_true, decide_eq_true_eq] at h
                 obtain ⟨⟨⟨⟨⟨h1, rfl⟩, h0⟩, h3⟩, h4⟩, h5⟩ := h
                 exact s_word hC cx h1 h0 h3 h4 fun {E Y} c => (sE e c h5).1
               | _ => simp [mE] at h)
        | _ => simp [mE] at h
      | _ => simp [mE] at h
    exact ⟨pe, q_val hC pe (isT_plain h rfl)⟩
  | .comp elt tg it ifs, sc, ss, l, kk, W, X, x, cx, h => by
    have pe : PE X x (tE A P C W (.comp elt tg it ifs)) := by
      cases x with
      | ListComp elt' gens scope pos =>
        rcases gens with _ | ⟨⟨tg', it', ifs', as⟩, _ | ⟨g2, gens⟩⟩ <;> simp only [mE, Bool.and_eq_true, decide_eq_true_eq, Bool.false_eq_true] at h
        obtain ⟨⟨⟨⟨⟨⟨⟨rfl, h1⟩, h2⟩, h3⟩, h4⟩, h5⟩, h6⟩, h7⟩ := h
        have ok := L2.blkOk_by h1
        have pe := L2.pe_lc (X := X) (elt := elt') (tg := tg') (iter := it') (ifs := ifs') (scope := scope) (own := ownOf N tg) (pos := pos) (wi := tI A P C W it) (g := tG A tg) (tt := tTs A P C ifs) (te := tE A P C WF elt) cx.calm (by rw [cx.eN]; exact cx.nd) (sI it cx h3 h5) (by rw [cx.eN, cx.eS]; exact ok)
          (fun s H c cl fp => sG (cx.blk scope s H c cl fp ok.kind) tg h2) (fun s H c cl fp => sTs ifs (cx.blk scope s H c cl fp ok.kind) h6) (fun s H c cl fp => (sE elt (cx.blk scope s H c cl fp ok.kind) h7).1) (fun x => by cases it' <;> first | rfl | cases h4)
        rw [ownOf_slots] at pe
        exact PE_imp pe (i_comp hC)
      | _ => simp [mE] at h
    exact ⟨pe, q_val hC pe (isT_plain h rfl)⟩
theorem sL : ∀ (es : EL) {sc ss : Scope} {l : Bool} {kk : Nat} {W : XK} {X : Cx} {xs : List Expr}, Ctx A P C N sc ss l kk W X → mL P N es l sc xs = true → PA X xs (tL A P C W es)
  | .nil, sc, ss, l, kk, W, X, xs, cx, h => by
    cases xs with
    | nil => exact s_nil hC
    | cons _ _ => simp [mL] at h
  | .cons e r, sc, ss, l, kk, W, X, xs, cx, h => by
    cases xs with
    | nil => simp [mL] at h
    | cons x xs =>
      simp only [mL, Bool.and_eq_true] at h
      exact s_cons hC h.1.2 (sE e cx h.1.1).1 (sL r cx h.2)
theorem sI : ∀ (it : It) {sc ss : Scope} {l : Bool} {kk : Nat} {W : XK} {X : Cx} {tg x : Expr}, Ctx A P C N sc ss l kk W X → itT it tg = true → mI P N it l sc x = true → PI X tg x (tI A P C W it)
  | .seq e, sc, ss, l, kk, W, X, tg, x, cx, ht, h => by
    have h' : mE P N e l sc x = true := by unfold mI at h; exact h
    exact s_seq hC cx (sE e cx h').1
  | .rng1 e, sc, ss, l, kk, W, X, tg, x, cx, ht, h => by
    cases x with
    | Call fe args kws pos =>
      cases fe with
      | Name y p =>
        rcases kws with _ | ⟨k, kws⟩ <;> rcases args with _ | ⟨a1, _ | ⟨a2, args⟩⟩ <;> simp only [mI, Bool.and_eq_true, decide_eq_true_eq, Bool.false_eq_true] at h
        obtain ⟨⟨⟨⟨rfl, h1⟩, h2⟩, h3⟩, h4⟩ := h
        exact s_rng1 hC cx h3 h1 h2 (sE e cx h4).1
      | _ => simp [mI] at h
    | _ => simp [mI] at h
  | .enm e, sc, ss, l, kk, W, X, tg, x, cx, ht, h => by
    cases tg with
    | Tuple elts kk tpos =>
      cases x with
      | Call fe args kws pos =>
        cases fe with
        | Name y p =>
          rcases kws with _ | ⟨k, kws⟩ <;> rcases args with _ | ⟨a1, _ | ⟨a2, args⟩⟩ <;> simp only [mI, Bool.and_eq_true, decide_eq_true_eq, Bool.false_eq_true] at h
          obtain ⟨⟨⟨⟨rfl, h1⟩, h2⟩, h3⟩, h5⟩ := h
          exact s_enm hC cx h3 h1 h2 (sE e cx h5).1
        | _ => simp [mI] at h
      | _ => simp [mI] at h
    | _ => simp [itT] at ht
theorem sTs : ∀ (es : EL) {sc ss : Scope} {l : Bool} {kk : Nat} {X : Cx} {xs : List Expr}, Ctx A P C N sc ss l kk WF X → mTs P N es l sc xs = true → L2.PTs X xs (tTs A P C es)
  | .nil, sc, ss, l, kk, X, xs, cx, h => by
    cases xs with
    | nil => exact L2.pts_nil
    | cons _ _ => simp [mTs] at h
  | .cons e r, sc, ss, l, kk, X, xs, cx, h => by
    cases r with
    | nil =>
      rcases xs with _ | ⟨x, _ | ⟨y, xs⟩⟩ <;> simp only [mTs, Bool.false_eq_true] at h
      exact L2.pts_one (sE e cx h).2
    | cons _ _ => simp [mTs] at h
end
end
end G43
set_option Elab.async false
set_option linter.all false
set_option maxRecDepth 100000
set_option maxHeartbeats 4000000
namespace G43
open PySem
open L2 (V HO Hp SqL SqT Rd upd upd_same upd_ne Cx OpR R2 VK CallR IxR SlR TE TA TS TT TI TG TGs PE PA PS PSs PT PI PG PGs XK Sp Room Vals)
open PySem.Spec PyProof.Rows
/-! ### the order of the stores -/
theorem blk_fn {env : PySem.Env} (hk : env.scope.kind = .function) : env.blockKind = .function := by
  unfold PySem.Env.blockKind
  rw [hk]
  rfl
def isStar : Expr → Bool
  | .Starred .. => true
  | _ => false
theorem sw_two {x y : Str} {px py pt pt2 : Pos} {kt k2 : Nat} {a b : Expr} {env : PySem.Env} (hk : env.scope.kind = .function) (hx : env.scope.names.lookup x = some .local) (hy : env.scope.names.lookup y = some .local) (hl : py.line = px.line) (hne : x ≠ y)
    (ha : noStar a = true) (hb : noStar b = true) (hf : (foldedForSure 8 a && foldedForSure 8 b) = false) (hc : (constantsAlone 8 a && constantsAlone 8 b) = false) :
    swappedStores [.Tuple [.Name x px, .Name y py] kt pt] (.Tuple [a, b] k2 pt2) env = pure (some [x, y]) := by
  have kx : env.kindOf x = some .local := hx
  have ky : env.kindOf y = some .local := hy
  have d : ([x, y].eraseDups).length = 2 := by
    have : (y == x) = false := by simp [Ne.symm hne]
    simp [List.eraseDups, List.eraseDupsBy, List.eraseDupsBy.loop, this, hne]
  unfold swappedStores
  simp [blk_fn hk, kx, ky, hl, Expr.pos, d, hf, hc]
  rintro (h | h)
  · cases a <;> first | (cases ha; done) | (cases h; done)
  · cases b <;> first | (cases hb; done) | (cases h; done)
theorem sw_three {x y z : Str} {px py pz pt pt2 : Pos} {kt k2 : Nat} {a b c : Expr} {env : PySem.Env} (hk : env.scope.kind = .function) (hx : env.scope.names.lookup x = some .local) (hy : env.scope.names.lookup y = some .local) (hz : env.scope.names.lookup z = some .local)
    (hl : py.line = px.line) (hl2 : pz.line = px.line) (hxy : x ≠ y) (hxz : x ≠ z) (hyz : y ≠ z)
    (ha : noStar a = true) (hb : noStar b = true) (hcc : noStar c = true) (hf : (foldedForSure 8 a && (foldedForSure 8 b && foldedForSure 8 c)) = false) (hc : (constantsAlone 8 a && (constantsAlone 8 b && constantsAlone 8 c)) = false) :
    swappedStores [.Tuple [.Name x px, .Name y py, .Name z pz] kt pt] (.Tuple [a, b, c] k2 pt2) env = pure (some [x, y, z]) := by
  have kx : env.kindOf x = some .local := hx
  have ky : env.kindOf y = some .local := hy
  have kz : env.kindOf z = some .local := hz
  have d : ([x, y, z].eraseDups).length = 3 := by
    have e1 : (y == x) = false := by simp [Ne.symm hxy]
    have e2 : (z == x) = false := by simp [Ne.symm hxz]
    have e3 : (z == y) = false := by simp [Ne.symm hyz]
    simp [List.eraseDups, List.eraseDupsBy, List.eraseDupsBy.loop, e1, e2, e3]
  unfold swappedStores
  simp [blk_fn hk, kx, ky, kz, hl, hl2, Expr.pos, d, hf, hc]
  rintro (h | h | h)
  · cases a <;> first | (cases ha; done) | (cases h; done)
  · cases b <;> first | (cases hb; done) | (cases h; done)
  · cases c <;> first | (cases hcc; done) | (cases h; done)
theorem sw_folded {ts vs : List Expr} {kt k2 : Nat} {pt pt2 : Pos} {env : PySem.Env} (hf : vs.all (foldedForSure 8) = true) : swappedStores [.Tuple ts kt pt] (.Tuple vs k2 pt2) env = pure none := by
  unfold swappedStores
  simp only [hf]
  simp
def cellT (sc : Scope) : Expr → Bool
  | .Name x _ => !decide (sc.names.lookup x = some .local)
  | _ => true
theorem sw_cell {ts vs : List Expr} {kt k2 : Nat} {pt pt2 : Pos} {env : PySem.Env} (hf : ts.any (cellT env.scope) = true) : swappedStores [.Tuple ts kt pt] (.Tuple vs k2 pt2) env = pure none := by
  unfold swappedStores
  simp
  intro _ _ _ _ h
  exfalso
  obtain ⟨a, h1, h2⟩ := List.any_eq_true.mp hf
  apply h a h1
  cases a with
  | Name x pos =>
    simp only [cellT, Bool.not_eq_true', decide_eq_false_iff_not] at h2
    have h3 : ¬ env.kindOf x = some NameKind.local := h2
    simp [h3]
  | _ => rfl
/-! ### the matcher for statements -/
def swC (sc : Scope) (x : Str) (px : Pos) : Expr → Bool
  | .ListComp _ _ scope pos => decide (sc.names.lookup x = some .local) && (px.line == pos.line) && !(scope.names.any fun (n, k) => n == x && (k == .local || k == .cell))
  | _ => false
def noCompr : Expr → Bool
  | .ListComp .. => false
  | .SetComp .. => false
  | .DictComp .. => false
  | _ => true
def noTup : Expr → Bool
  | .Tuple _ _ _ => false
  | _ => true
def isLC : Expr → Bool
  | .ListComp .. => true
  | _ => false
def isCo : E → Bool
  | .comp .. => true
  | _ => false
def nmB (N : List Str) (ss : Scope) : List Nat → List Expr → Bool
  | [], [] => true
  | i :: is, .Name x _ :: es => decide (N[i]? = some x) && stoB ss x && nmB N ss is es
  | _, _ => false
def par2B (sc : Scope) : List Expr → List Expr → Bool
  | [.Name x px, .Name y py], [a, b] => decide (sc.names.lookup x = some .local) && decide (sc.names.lookup y = some .local) && decide (py.line = px.line) && decide (x ≠ y) && !(foldedForSure 8 a && foldedForSure 8 b) && !(constantsAlone 8 a && constantsAlone 8 b)
  | [.Name x px, .Name y py, .Name z pz], [a, b, c] => decide (sc.names.lookup x = some .local) && decide (sc.names.lookup y = some .local) && decide (sc.names.lookup z = some .local) && decide (py.line = px.line) && decide (pz.line = px.line) && decide (x ≠ y) && decide (x ≠ z) && decide (y ≠ z) &&
      !(foldedForSure 8 a && (foldedForSure 8 b && foldedForSure 8 c)) && !(constantsAlone 8 a && (constantsAlone 8 b && constantsAlone 8 c))
  | _, _ => false
section
variable (P : Pg) (N : List Str) (sc ss : Scope) (l : Bool)
mutual
def mS : S → Stmt → Bool
  | .set i e, .Assign [.Name x px] v _ => decide (N[i]? = some x) && stoB ss x && mE P N e l sc v && (noCompr v || (isLC v && (!swC sc x px v || isCo e)))
  | .par is es, .Assign [.Tuple ts _ _] (.Tuple vs _ _) _ => mL P N es l sc vs && decide (vs.length ≤ 1000) && nmB N ss is ts && (par2B sc ts vs || vs.all (foldedForSure 8) || ts.any (cellT sc))
  | .unp tg e, .Assign [.Tuple ts k p] v _ => mG N ss tg (.Tuple ts k p) && mE P N e l sc v && noCompr v && noTup v
  | .sub o i v, .Assign [.Subscript o' i' _] v' _ => mE P N o l sc o' && mE P N i l sc i' && mE P N v l sc v' && noSlice i' && noCompr v'
  | .exp e, .Expr e' _ => mE P N e l sc e' && noCompr e'
  | .iff t a b, .If t' a' b' _ => mE P N t l sc t' && mSL a a' && mSL b b'
  | .for _ tg it body, .For tg' it' body' [] _ => mG N ss tg tg' && itT it tg' && noSet it' && mI P N it l sc it' && mSL body body'
  | .whl _ t body, .While t' body' [] _ => mE P N t l sc t' && mSL body body'
  | .ret e, .Return (some e') _ => mE P N e l sc e'
  | .retN, .Return none _ => true
  | .rse, _ => true
  | .rsx c, .Raise (some (.Call (.Name x _) [.Constant (.str _) _ _] [] _)) none _ => decide (c ∈ P.rai) && (match P.exc[c]? with | some w => decide (w.1 = x) | none => false) && gloB sc x && !odd x
  | .pass, .Pass _ => true
  | _, _ => false
def mSL : SL → List Stmt → Bool
  | .nil, [] => true
  | .cons s r, s' :: r' => mS s s' && mSL r r'
  | _, _ => false
end
end
end G43
set_option Elab.async false
set_option linter.all false
set_option maxRecDepth 100000
set_option maxHeartbeats 4000000
namespace G43
open PySem
open L2 (V HO Hp SqL SqT Rd upd upd_same upd_ne Cx OpR R2 VK CallR IxR SlR TE TA TS TT TI TG TGs PE PA PS PSs PT PI PG PGs XK Sp Room Vals Ends)
open PySem.Spec PyProof.Rows
/-! ### statements -/
def Kn (A : Ad) (B : Addr → Prop) (m : List Addr) (h : Hs) (H : Hp) (nx : L2.St → Hp → Prop) : Env → Hs → Prop := fun ρ' h' => ∀ m' H' σ', Sim A B m' h' H' → Mv m h H m' h' H' → Sl A B m' h' H' ρ' σ' → nx σ' H'
def tS (A : Ad) (P : Pg) (C : CallT) (W : XK) (s : S) : TS := fun D σ H => ∃ B m h ρ, Sim A B m h H ∧ Sl A B m h H ρ σ ∧ wpS P C s ρ h (Kn A B m h H D.nx) (Kv A B m h H D.rt) (Kx A B m h H W)
def tSL (A : Ad) (P : Pg) (C : CallT) (W : XK) (s : SL) : TS := fun D σ H => ∃ B m h ρ, Sim A B m h H ∧ Sl A B m h H ρ σ ∧ wpSL P C s ρ h (Kn A B m h H D.nx) (Kv A B m h H D.rt) (Kx A B m h H W)
theorem Kn.move {A : Ad} {B : Addr → Prop} {m m1 : List Addr} {h h1 : Hs} {H H1 : Hp} {nx : L2.St → Hp → Prop} (M : Mv m h H m1 h1 H1) : ∀ ρ h', Kn A B m h H nx ρ h' → Kn A B m1 h1 H1 nx ρ h' := fun ρ h' k m' H' σ' S M' sl => k m' H' σ' S (M.trans M') sl
theorem PS_imp {X : Cx} {e : Stmt} {t t' : TS} (p : PS X e t) (i : ∀ D σ H, t' D σ H → t D σ H) : PS X e t' := ⟨fun pins s σ H D I z => p.run pins s σ H D I (i D σ H z)⟩
theorem PSs_imp {X : Cx} {e : List Stmt} {t t' : TS} (p : PSs X e t) (i : ∀ D σ H, t' D σ H → t D σ H) : PSs X e t' := ⟨fun pins s σ H D I z => p.run pins s σ H D I (i D σ H z)⟩
def setV (σ : L2.St) : List Nat → List V → L2.St
  | i :: is, v :: vs => setV (σ.set i (some v)) is vs
  | _, _ => σ
theorem Sl.setAll {A : Ad} {B : Addr → Prop} {m : List Addr} {h : Hs} {H : Hp} : ∀ {is : List Nat} {vs : List RV} {ws : List V} {ρ : Env} {σ : L2.St}, Sl A B m h H ρ σ → RpRs A B m h H vs ws → Sl A B m h H (setAll ρ is vs) (setV σ is ws)
  | [], _, _, _, _, s, r => by cases r <;> exact s
  | i :: is, _, _, _, _, s, .nil => s
  | i :: is, _, _, _, _, s, .cons q r => by
    unfold G43.setAll setV
    exact Sl.setAll (s.set i q) r
def gNs (is : List Nat) : TGs := fun vs σ H Q => vs.length = is.length ∧ Q (setV σ is vs) H
section
variable {A : Ad} {P : Pg} {C : CallT} {N : List Str} {sc ss : Scope} {l : Bool} {kk : Nat} {W : XK} {X : Cx}
theorem nm_star {ss : Scope} : ∀ {is : List Nat} {es : List Expr}, nmB N ss is es = true → es.all noStar = true ∧ es.length = is.length
  | [], [], _ => ⟨rfl, rfl⟩
  | [], _ :: _, h => by simp [nmB] at h
  | _ :: _, [], h => by simp [nmB] at h
  | i :: is, e :: es, h => by
    cases e with
    | Name x pos =>
      simp only [nmB, Bool.and_eq_true] at h
      obtain ⟨h1, h2⟩ := nm_star h.2
      exact ⟨by rw [List.all_cons, h1]; rfl, by simp [h2]⟩
    | _ => simp [nmB] at h
theorem sNs (cx : Ctx A P C N sc ss l kk W X) : ∀ {is : List Nat} {es : List Expr}, nmB N ss is es = true → PGs X es (gNs is)
  | [], [], _ => PGs_imp L2.pgs_nil fun v σ H Q z => by
    obtain ⟨h1, h2⟩ := z
    cases v with
    | nil => exact ⟨rfl, h2⟩
    | cons _ _ => cases h1
  | [], _ :: _, h => by simp [nmB] at h
  | _ :: _, [], h => by simp [nmB] at h
  | i :: is, e :: es, h => by
    cases e with
    | Name x pos =>
      simp only [nmB, Bool.and_eq_true, decide_eq_true_eq] at h
      obtain ⟨s1, s2⟩ := cx.st x h.1.2
      have g := L2.pg_name (X := X) (i := i) (x := x) (pos := pos) (by rw [cx.eN]; exact cx.nd) (by rw [cx.eN]; exact h.1.1) (by rw [cx.eS]; exact s1) (by rw [cx.eS]; exact s2)
      refine PGs_imp (L2.pgs_cons g (sNs cx h.2) rfl) fun v σ H Q z => ?_
      obtain ⟨h1, h2⟩ := z
      cases v with
      | nil => cases h1
      | cons w ws => exact ⟨w, ws, rfl, by simpa using h1, h2⟩
    | _ => simp [nmB] at h
variable (hC : MonoC C C)
include hC
/-- target = value by a value -/
theorem i_set {i : Nat} {e : E} : ∀ D σ H, tS A P C W (.set i e) D σ H → L2.tAsg (tE A P C W e) (L2.gName i) D σ H := fun D σ H z => by
  obtain ⟨B, m, h, ρ, S, s, z⟩ := z
  unfold wpS at z
  exact tE_of hC S s z fun v h1 m1 H1 w q S1 M1 r1 => q m1 H1 _ S1 M1 ((s.move S M1).set i r1)
theorem swaps_no {v : Expr} {t : Option Expr} {l : Nat} {env : PySem.Env} (h : noCompr v = true) : swapsWith v t l env = pure false := by
  cases v <;> first | rfl | cases h
theorem sole_no {v t : Expr} {l : Nat} {env : PySem.Env} (h : noCompr v = true) : swapsWithSole [t] v l env = pure false := swaps_no hC (t := some t) h
theorem swaps_comp {elt : Expr} {gs : List Comprehension} {scope : Scope} {pos px : Pos} {x : Str} {l : Nat} {env : PySem.Env} (hk : env.scope.kind = .function) (h : swC env.scope x px (.ListComp elt gs scope pos) = false) : swapsWith (.ListComp elt gs scope pos) (some (.Name x px)) l env = pure false := by
  have e : swapsWith (.ListComp elt gs scope pos) (some (.Name x px)) l env = pure (env.blockKind == .function && env.kindOf x == some .local && px.line == pos.line && !(scope.names.any fun (n, k) => n == x && (k == .local || k == .cell))) := rfl
  rw [e, blk_fn hk]
  simp only [swC] at h
  have e2 : (env.kindOf x == some NameKind.local) = decide (env.scope.names.lookup x = some NameKind.local) := by
    show (env.scope.names.lookup x == some NameKind.local) = _
    by_cases q : env.scope.names.lookup x = some NameKind.local
    · simp [q]
    · simp [q]
  rw [e2]
  simp only [beq_self_eq_true, Bool.true_and]
  rw [h]
theorem s_set (cx : Ctx A P C N sc ss l kk W X) {i : Nat} {e : E} {x : Str} {v : Expr} {px pos : Pos} (hN : N[i]? = some x) (hs : stoB ss x = true) (hm : mE P N e l sc v = true) (hw : (noCompr v || (isLC v && (!swC sc x px v || isCo e))) = true) :
    PS X (.Assign [.Name x px] v pos) (tS A P C W (.set i e)) := by
  obtain ⟨s1, s2⟩ := cx.st x hs
  have nd : X.N.Nodup := by rw [cx.eN]; exact cx.nd
  have hi : X.N[i]? = some x := by rw [cx.eN]; exact hN
  have plain : swapsWith v (some (.Name x px)) pos.line X.env = pure false → PS X (.Assign [.Name x px] v pos) (tS A P C W (.set i e)) := fun sw =>
    PS_imp (L2.ps_set (i := i) nd hi (by rw [cx.eS]; exact s1) (sE hC e cx hm).1 sw (by rw [cx.eS]; exact s2)) (i_set hC)
  by_cases hn : noCompr v = true
  · exact plain (swaps_no hC hn)
  · cases v with
    | ListComp elt' gens scope p =>
      by_cases hsw : swC sc x px (.ListComp elt' gens scope p) = true
      · cases e with
        | comp elt tg it ifs =>
          rcases gens with _ | ⟨⟨tg', it', ifs', as⟩, _ | ⟨g2, gens⟩⟩ <;> simp only [mE, Bool.and_eq_true, decide_eq_true_eq, Bool.false_eq_true] at hm
          obtain ⟨⟨⟨⟨⟨⟨⟨rfl, h1⟩, h2⟩, h3⟩, h4⟩, h5⟩, h6⟩, h7⟩ := hm
          have ok := L2.blkOk_by h1
          simp only [swC, Bool.and_eq_true, decide_eq_true_eq, Bool.not_eq_true'] at hsw
          have hyl : X.env.scope.names.lookup x = some .local := by rw [cx.eS]; exact hsw.1.1
          have pe := L2.ps_setLc (X := X) (i := i) (y := x) (py := px) (elt := elt') (tg := tg') (iter := it') (ifs := ifs') (scope := scope) (own := ownOf N tg) (pos := p) (spos := pos) (wi := tI A P C W it) (g := tG A tg) (tt := tTs A P C ifs) (te := tE A P C WF elt) cx.calm nd hi hyl
            (L2.sw_true (by rw [cx.eS]; exact cx.kd) hyl hsw.1.2 hsw.2) (sI hC it cx h3 h5) (by rw [cx.eN, cx.eS]; exact ok)
            (fun s H c cl fp => sG (cx.blk scope s H c cl fp ok.kind) tg h2) (fun s H c cl fp => sTs hC ifs (cx.blk scope s H c cl fp ok.kind) h6) (fun s H c cl fp => (sE hC elt (cx.blk scope s H c cl fp ok.kind) h7).1) (fun x => by cases it' <;> first | rfl | cases h4)
          rw [ownOf_slots] at pe
          exact PS_imp pe fun D σ H z => i_comp hC σ H _ (i_set hC D σ H z)
        | _ => simp [hn, hsw, isCo] at hw
      · refine plain (swaps_comp hC (by rw [cx.eS]; exact cx.kd) ?_)
        rw [cx.eS]
        simpa using hsw
    | SetComp a b c d => simp [hn, isLC] at hw
    | DictComp a b c d f => simp [hn, isLC] at hw
    | _ => exact absurd rfl hn
theorem i_par2 {i j : Nat} {es : EL} : ∀ D σ H, tS A P C W (.par [i, j] es) D σ H → L2.tPar i j (tL A P C W es) D σ H := fun D σ H z => by
  obtain ⟨B, m, h, ρ, S, s, z⟩ := z
  unfold wpS at z
  refine tL_of hC S s z fun vs h1 m1 H1 ws q S1 M1 r1 => ?_
  obtain ⟨hl, q⟩ := q
  rw [← r1.length] at hl
  have sl := (s.move S M1).setAll (is := [i, j]) r1
  rcases ws with _ | ⟨a, _ | ⟨b, _ | ⟨c, ws⟩⟩⟩ <;> simp at hl
  exact ⟨a, b, rfl, q m1 H1 _ S1 M1 sl⟩
theorem i_par3 {i j k : Nat} {es : EL} : ∀ D σ H, tS A P C W (.par [i, j, k] es) D σ H → L2.tPar3 i j k (tL A P C W es) D σ H := fun D σ H z => by
  obtain ⟨B, m, h, ρ, S, s, z⟩ := z
  unfold wpS at z
  refine tL_of hC S s z fun vs h1 m1 H1 ws q S1 M1 r1 => ?_
  obtain ⟨hl, q⟩ := q
  rw [← r1.length] at hl
  have sl := (s.move S M1).setAll (is := [i, j, k]) r1
  rcases ws with _ | ⟨a, _ | ⟨b, _ | ⟨c, _ | ⟨d, ws⟩⟩⟩⟩ <;> simp at hl
  exact ⟨a, b, c, rfl, q m1 H1 _ S1 M1 sl⟩
theorem i_parN {is : List Nat} {es : EL} (hz : es.len ≤ 1000) : ∀ D σ H, tS A P C W (.par is es) D σ H → L2.tAsg (L2.tTup (tL A P C W es)) (L2.gTup A.K is.length (gNs is)) D σ H := fun D σ H z => by
  obtain ⟨B, m, h, ρ, S, s, z⟩ := z
  unfold wpS at z
  refine tL_of hC S s (wpL_len hC hC es z) fun vs h1 m1 H1 ws q S1 M1 r1 => ?_
  obtain ⟨h0, hl, q⟩ := q
  refine ⟨by rw [r1.length, h0]; exact line_of hC hz, fun p hp => ?_⟩
  obtain ⟨M2, S2⟩ := S1.news (o := .tup ws) hp
  have hl2 : ws.length = is.length := by rw [r1.length]; exact hl
  exact ⟨p, ws, rfl, SqT.of upd_same, hl2, hl2, q m1 _ _ S2 (M1.trans M2) (((s.move S M1).setAll r1).move S1 M2)⟩
theorem ne_ix {i j : Nat} {x y : Str} (hi : N[i]? = some x) (hj : N[j]? = some y) (h : x ≠ y) : i ≠ j := fun e => by
  subst e
  rw [hi] at hj
  exact h (Option.some.inj hj)
theorem s_par (cx : Ctx A P C N sc ss l kk W X) {is : List Nat} {es : EL} {ts vs : List Expr} {kt k2 : Nat} {pt pt2 pos : Pos} (hm : mL P N es l sc vs = true) (hz : vs.length ≤ 1000) (hn : nmB N ss is ts = true)
    (hw : (par2B sc ts vs || vs.all (foldedForSure 8) || ts.any (cellT sc)) = true) : PS X (.Assign [.Tuple ts kt pt] (.Tuple vs k2 pt2) pos) (tS A P C W (.par is es)) := by
  have nd : X.N.Nodup := by rw [cx.eN]; exact cx.nd
  have pa := sL hC es cx hm
  obtain ⟨st, len⟩ := mL_all hm
  have kd : X.env.scope.kind = .function := by rw [cx.eS]; exact cx.kd
  have unsw : swappedStores [.Tuple ts kt pt] (.Tuple vs k2 pt2) X.env = pure none → PS X (.Assign [.Tuple ts kt pt] (.Tuple vs k2 pt2) pos) (tS A P C W (.par is es)) := fun sw => by
    obtain ⟨t1, t2⟩ := nm_star hn
    obtain ⟨a1, a2⟩ := assign_len X.env t1
    have g := L2.pg_tup (X := X) (k := kt) (pos := pt) (n := is.length) cx.calm (sNs cx hn) (by rw [a1, t2]) a2
    rw [cx.eK] at g
    exact PS_imp (L2.ps_asg (L2.pe_tup pa) g rfl sw rfl) (i_parN hC (by rw [len]; exact hz))
  simp only [Bool.or_eq_true] at hw
  rcases hw with (hw | hw) | hw
  · unfold par2B at hw
    split at hw
    · rename_i x px y py a b
      simp only [Bool.and_eq_true, decide_eq_true_eq, Bool.not_eq_true'] at hw
      obtain ⟨⟨⟨⟨⟨w1, w2⟩, w3⟩, w4⟩, w5⟩, w6⟩ := hw
      rcases is with _ | ⟨i, _ | ⟨j, _ | ⟨k, is⟩⟩⟩ <;> simp only [nmB, Bool.and_eq_true, decide_eq_true_eq, Bool.false_eq_true, and_false] at hn
      simp only [List.all_cons, Bool.and_eq_true] at st
      have e1 : X.env.scope.names.lookup x = some .local := by rw [cx.eS]; exact w1
      have e2 : X.env.scope.names.lookup y = some .local := by rw [cx.eS]; exact w2
      exact PS_imp (L2.ps_par cx.calm nd (by rw [cx.eN]; exact hn.1.1) (by rw [cx.eN]; exact hn.2.1.1) (ne_ix hC hn.1.1 hn.2.1.1 w4) e1 e2 pa (sw_two kd e1 e2 w3 w4 st.1 st.2.1 w5 w6)) (i_par2 hC)
    · rename_i x px y py z pz a b c
      simp only [Bool.and_eq_true, decide_eq_true_eq, Bool.not_eq_true'] at hw
      obtain ⟨⟨⟨⟨⟨⟨⟨⟨⟨w1, w2⟩, w3⟩, w4⟩, w5⟩, w6⟩, w7⟩, w8⟩, w9⟩, w10⟩ := hw
      rcases is with _ | ⟨i, _ | ⟨j, _ | ⟨k, _ | ⟨l, is⟩⟩⟩⟩ <;> simp only [nmB, Bool.and_eq_true, decide_eq_true_eq, Bool.false_eq_true, and_false] at hn
      simp only [List.all_cons, Bool.and_eq_true] at st
      have e1 : X.env.scope.names.lookup x = some .local := by rw [cx.eS]; exact w1
      have e2 : X.env.scope.names.lookup y = some .local := by rw [cx.eS]; exact w2
      have e3 : X.env.scope.names.lookup z = some .local := by rw [cx.eS]; exact w3
      exact PS_imp (L2.ps_par3 cx.calm nd (by rw [cx.eN]; exact hn.1.1) (by rw [cx.eN]; exact hn.2.1.1) (by rw [cx.eN]; exact hn.2.2.1.1) (ne_ix hC hn.1.1 hn.2.1.1 w6) (ne_ix hC hn.1.1 hn.2.2.1.1 w7) (ne_ix hC hn.2.1.1 hn.2.2.1.1 w8) e1 e2 e3 pa
        (sw_three kd e1 e2 e3 w4 w5 w6 w7 w8 st.1 st.2.1 st.2.2.1 w9 w10)) (i_par3 hC)
    · cases hw
  · exact unsw (sw_folded hw)
  · exact unsw (sw_cell (by rw [cx.eS]; exact hw))
theorem s_unp (cx : Ctx A P C N sc ss l kk W X) {tg : Tg} {e : E} {ts : List Expr} {v : Expr} {k : Nat} {p pos : Pos} (hg : mG N ss tg (.Tuple ts k p) = true) (hm : mE P N e l sc v = true) (hn : noCompr v = true) (ht : noTup v = true) :
    PS X (.Assign [.Tuple ts k p] v pos) (tS A P C W (.unp tg e)) := by
  refine PS_imp (L2.ps_asg (sE hC e cx hm).1 (sG cx tg hg) (sole_no hC hn) (by cases v <;> first | rfl | cases ht) rfl) fun D σ H z => ?_
  obtain ⟨B, m, h, ρ, S, s, z⟩ := z
  unfold wpS at z
  refine tE_of hC S s z fun v h1 m1 H1 w q S1 M1 r1 => ?_
  obtain ⟨p, rfl, q⟩ := q
  exact ⟨B, m1, h1, p, ρ, _, S1, s.move S M1, r1, q, fun ρ' σ' k sl _ => k m1 H1 σ' S1 M1 sl⟩
theorem s_sub (cx : Ctx A P C N sc ss l kk W X) {o i v : E} {o' i' v' : Expr} {p pos : Pos} (ho : mE P N o l sc o' = true) (hi : mE P N i l sc i' = true) (hv : mE P N v l sc v' = true) (hs : noSlice i' = true) (hn : noCompr v' = true) :
    PS X (.Assign [.Subscript o' i' p] v' pos) (tS A P C W (.sub o i v)) := by
  refine PS_imp (L2.ps_asg (sE hC v cx hv).1 (L2.pg_sub (sE hC o cx ho).1 (sE hC i cx hi).1 L2.set_list (by intro _; cases i' <;> first | rfl | cases hs)) (sole_no hC hn) rfl rfl) fun D σ H z => ?_
  obtain ⟨B, m, h, ρ, S, s, z⟩ := z
  unfold wpS at z
  refine tE_of hC S s z fun y h1 m1 H1 w q S1 M1 r1 => ?_
  refine tE_of hC S1 (s.move S M1) (wpE_next hC M1 q) fun x h2 m2 H2 w2 q2 S2 M2 r2 => ?_
  refine tE_of hC S2 ((s.move S M1).move S1 M2) (wpE_next hC (M1.trans M2) q2) fun u h3 m3 H3 w3 q3 S3 M3 r3 => ?_
  obtain ⟨k, c, n, j, q0, rfl, e1, rfl, e2, rfl, kf⟩ := q3
  obtain ⟨a, e3, rfl⟩ := r2.move S2 M3
  cases r3
  obtain ⟨xs, e4, r4⟩ := S3.cell k c a e1 e3
  have r5 : Rp A (Xc B m3 h3) H3 q0 w := (Rp.move S1 M2 r1).move S2 M3
  obtain ⟨M4, S4⟩ := S3.write e1 e3 (r4.set r5 j)
  refine ⟨a, xs, n, j, rfl, rfl, e4, by rw [r4.length]; exact e2, ?_⟩
  have M := ((M1.trans M2).trans M3).trans M4
  exact kf m3 _ σ S4 M (s.move S M)
theorem i_iff {t : E} {a b : SL} : ∀ D σ H, tS A P C W (.iff t a b) D σ H → L2.tIfS (tQ A P C W t) (tSL A P C W a) (tSL A P C W b) D σ H := fun D σ H z => by
  obtain ⟨B, m, h, ρ, S, s, z⟩ := z
  unfold wpS wpB at z
  refine tE_of hC S s z fun v h1 m1 H1 w q S1 M1 r1 => ?_
  obtain ⟨c, rfl, k⟩ := q
  cases r1
  refine ⟨c, rfl, ?_⟩
  cases c with
  | true =>
    rw [if_pos rfl] at k ⊢
    exact ⟨B, m1, h1, ρ, S1, s.move S M1, wpSL_mono hC a (Kn.move M1) (Kv.move M1) (Kx.move M1) k⟩
  | false =>
    rw [if_neg Bool.false_ne_true] at k ⊢
    exact ⟨B, m1, h1, ρ, S1, s.move S M1, wpSL_mono hC b (Kn.move M1) (Kv.move M1) (Kx.move M1) k⟩
theorem i_cons {a : S} {r : SL} : ∀ D σ H, tSL A P C W (.cons a r) D σ H → L2.tSeq (tS A P C W a) (tSL A P C W r) D σ H := fun D σ H z => by
  obtain ⟨B, m, h, ρ, S, s, z⟩ := z
  unfold wpSL at z
  exact ⟨B, m, h, ρ, S, s, wpS_mono hC a (fun ρ1 h1 k m1 H1 σ1 S1 M1 s1 => ⟨B, m1, h1, ρ1, S1, s1, wpSL_mono hC r (Kn.move M1) (Kv.move M1) (Kx.move M1) k⟩) (fun _ _ k => k) (fun _ _ k => k) z⟩
theorem i_whl {kl : List Nat} {t : E} {b : SL} : ∀ D σ H, tS A P C W (.whl kl t b) D σ H → L2.tWhile (tQ A P C W t) (tSL A P C W b) D σ H := fun D σ H z => by
  obtain ⟨B, m, h, ρ, S, s, z⟩ := z
  unfold wpS at z
  obtain ⟨Wl, ⟨n0, w0⟩, hs⟩ := z
  refine ⟨fun n σ1 H1 => ∃ m1 h1 ρ1, Sim A B m1 h1 H1 ∧ Mv m h H m1 h1 H1 ∧ Sl A B m1 h1 H1 ρ1 σ1 ∧ Wl n ρ1 h1, ⟨n0, m, h, _, S, Mv.refl _ _ _, s.kill kl, w0⟩, ?_⟩
  rintro n σ1 H1 ⟨m1, h1, ρ1, S1, M1, s1, w1⟩
  have z := hs n ρ1 h1 w1
  unfold wpB at z
  refine tE_of hC S1 s1 (wpE_next hC M1 z) fun v h2 m2 H2 w q S2 M2 r2 => ?_
  obtain ⟨c, rfl, k⟩ := q
  cases r2
  refine ⟨c, rfl, ?_⟩
  have M12 := M1.trans M2
  cases c with
  | true =>
    rw [if_pos rfl] at k
    refine (if_pos rfl).mpr ?_
    refine ⟨fun σ' H' => ∃ n', n' < n ∧ ∃ m1 h1 ρ1, Sim A B m1 h1 H' ∧ Mv m h H m1 h1 H' ∧ Sl A B m1 h1 H' ρ1 σ' ∧ Wl n' ρ1 h1, fun σ' H' z => z, B, m2, h2, ρ1, S2, s1.move S1 M2, ?_⟩
    refine wpSL_mono hC b (fun ρ3 h3 k m3 H3 σ3 S3 M3 s3 => ?_) (Kv.move M12) (Kx.move M12) k
    obtain ⟨n', hn, w3⟩ := k
    exact ⟨n', hn, m3, h3, _, S3, M12.trans M3, s3.kill kl, w3⟩
  | false =>
    rw [if_neg Bool.false_ne_true] at k
    refine (if_neg Bool.false_ne_true).mpr ?_
    exact k m2 H2 σ1 S2 M12 (s1.move S1 M2)
theorem i_for {kl : List Nat} {tg : Tg} {it : It} {b : SL} : ∀ D σ H, tS A P C W (.for kl tg it b) D σ H → L2.tFor (tI A P C W it) (tG A tg) (tSL A P C W b) D σ H := fun D σ H z => by
  obtain ⟨B, m, h, ρ, S, s, z⟩ := z
  unfold wpS at z
  refine tI_of hC S s z fun l gd h1 m1 H1 J q S1 M1 wk => ?_
  have wB : ∀ a, B a → B a ∨ H1 a = none := fun a z => .inl z
  generalize hst : (fun (x : PV) (ρ1 : Env) (h2 : Hs) (k : Env → Hs → Prop) => bindT tg x ρ1 fun ρ2 => wpSL P C b ρ2 h2 (fun ρ3 h3 => k (kill ρ3 kl) h3) (Kv A B m h H D.rt) (Kx A B m h H W)) = st at q
  have hst' : ∀ x ρ1 h2 k, st x ρ1 h2 k = bindT tg x ρ1 fun ρ2 => wpSL P C b ρ2 h2 (fun ρ3 h3 => k (kill ρ3 kl) h3) (Kv A B m h H D.rt) (Kx A B m h H W) := fun x ρ1 h2 k => by rw [← hst]
  refine ⟨fun i n σ2 H2 => ∃ m2 h2 ρ2, Sim A B m2 h2 H2 ∧ Mv m1 h1 H1 m2 h2 H2 ∧ Sl A B m2 h2 H2 ρ2 σ2 ∧ i ≤ l.length ∧ n = l.length - i ∧ loopT gd st (l.drop i) ρ2 h2 (Kn A B m h H D.nx), ⟨l.length, m1, h1, _, S1, Mv.refl _ _ _, (s.move S M1).kill kl, Nat.zero_le _, rfl, q⟩, ?_⟩
  rintro i n σ2 H2 ⟨m2, h2, ρ2, S2, M2, s2, hi, rfl, q⟩
  by_cases hlt : i < l.length
  · right
    obtain ⟨x, hx⟩ : ∃ x, l[i]? = some x := ⟨l[i], List.getElem?_eq_getElem hlt⟩
    have hdr : l.drop i = x :: l.drop (i + 1) := by
      rw [List.drop_eq_getElem_cons hlt]
      congr 1
      exact (List.getElem?_eq_some_iff.mp hx).2
    rw [hdr] at q
    obtain ⟨g, q⟩ := q
    obtain ⟨go, yl⟩ := (wk B m2 h2 H2 wB S2 M2 g).1 i x hx
    refine ⟨go, fun σ' H' => ∃ m2 h2 ρ2, Sim A B m2 h2 H' ∧ Mv m1 h1 H1 m2 h2 H' ∧ Sl A B m2 h2 H' ρ2 σ' ∧ i + 1 ≤ l.length ∧ loopT gd st (l.drop (i + 1)) ρ2 h2 (Kn A B m h H D.nx), fun σ' H' z => ?_, fun v H3 y => ?_⟩
    · obtain ⟨m3, h3, ρ3, a1, a2, a3, a4, a5⟩ := z
      exact ⟨l.length - (i + 1), by omega, m3, h3, ρ3, a1, a2, a3, a4, rfl, a5⟩
    obtain ⟨S3, M3, r3⟩ := yl v H3 y
    rw [hst' x ρ2 h2] at q
    refine ⟨B, m2, h2, x, ρ2, _, S3, s2.move S2 M3, r3, q, fun ρ1 σ1 q sl off => ?_⟩
    have M13 := M2.trans M3
    have M03 := M1.trans M13
    refine ⟨B, m2, h2, ρ1, S3, sl, wpSL_mono hC b (fun ρ4 h4 k m4 H4 σ4 S4 M4 s4 => ?_) (Kv.move M03) (Kx.move M03) q⟩
    exact ⟨m4, h4, _, S4, M13.trans M4, s4.kill kl, hlt, k⟩
  · left
    have e : i = l.length := by omega
    subst e
    rw [List.drop_length] at q
    obtain ⟨g, q⟩ := q
    exact ⟨(wk B m2 h2 H2 wB S2 M2 g).2 _ (Nat.le_refl _), q m2 H2 σ2 S2 (M1.trans M2) s2⟩
theorem v_set {i : Nat} {e : E} {x : Stmt} (h : mS P N sc ss l (.set i e) x = true) : ∃ y px v pos, x = .Assign [.Name y px] v pos ∧ N[i]? = some y ∧ stoB ss y = true ∧ mE P N e l sc v = true ∧ (noCompr v || (isLC v && (!swC sc y px v || isCo e))) = true := by
  unfold mS at h
  split at h <;> first
    | (rename_i e1; cases e1
       simp only [Bool.and_eq_true, decide_eq_true_eq] at h
       exact ⟨_, _, _, _, rfl, h.1.1.1, h.1.1.2, h.1.2, h.2⟩)
    | (rename_i e1 e2; cases e1; done)
    | (rename_i e1; cases e1; done)
    | cases h
theorem v_par {is : List Nat} {es : EL} {x : Stmt} (h : mS P N sc ss l (.par is es) x = true) : ∃ ts kt pt vs k2 pt2 pos, x = .Assign [.Tuple ts kt pt] (.Tuple vs k2 pt2) pos ∧ mL P N es l sc vs = true ∧ vs.length ≤ 1000 ∧ nmB N ss is ts = true ∧ (par2B sc ts vs || vs.all (foldedForSure 8) || ts.any (cellT sc)) = true := by
  unfold mS at h
  split at h <;> first
    | (rename_i e1; cases e1
       simp only [Bool.and_eq_true, decide_eq_true_eq] at h
       exact ⟨_, _, _, _, _, _, _, rfl, h.1.1.1, h.1.1.2, h.1.2, h.2⟩)
    | (rename_i e1 e2; cases e1; done)
    | (rename_i e1; cases e1; done)
    | cases h
theorem v_unp {tg : Tg} {e : E} {x : Stmt} (h : mS P N sc ss l (.unp tg e) x = true) : ∃ ts k p v pos, x = .Assign [.Tuple ts k p] v pos ∧ mG N ss tg (.Tuple ts k p) = true ∧ mE P N e l sc v = true ∧ noCompr v = true ∧ noTup v = true := by
  unfold mS at h
  split at h <;> first
    | (rename_i e1; cases e1
       simp only [Bool.and_eq_true] at h
       exact ⟨_, _, _, _, _, rfl, h.1.1.1, h.1.1.2, h.1.2, h.2⟩)
    | (rename_i e1 e2; cases e1; done)
    | (rename_i e1; cases e1; done)
    | cases h
theorem v_sub {o i v : E} {x : Stmt} (h : mS P N sc ss l (.sub o i v) x = true) : ∃ o' i' p v' pos, x = .Assign [.Subscript o' i' p] v' pos ∧ mE P N o l sc o' = true ∧ mE P N i l sc i' = true ∧ mE P N v l sc v' = true ∧ noSlice i' = true ∧ noCompr v' = true := by
  unfold mS at h
  split at h <;> first
    | (rename_i e1; cases e1
       simp only [Bool.and_eq_true] at h
       exact ⟨_, _, _, _, _, rfl, h.1.1.1.1, h.1.1.1.2, h.1.1.2, h.1.2, h.2⟩)
    | (rename_i e1 e2; cases e1; done)
    | (rename_i e1; cases e1; done)
    | cases h
theorem v_exp {e : E} {x : Stmt} (h : mS P N sc ss l (.exp e) x = true) : ∃ e' pos, x = .Expr e' pos ∧ mE P N e l sc e' = true ∧ noCompr e' = true := by
  unfold mS at h
  split at h <;> first
    | (rename_i e1; cases e1
       simp only [Bool.and_eq_true] at h
       exact ⟨_, _, rfl, h.1, h.2⟩)
    | (rename_i e1 e2; cases e1; done)
    | (rename_i e1; cases e1; done)
    | cases h
theorem v_iff {t : E} {a b : SL} {x : Stmt} (h : mS P N sc ss l (.iff t a b) x = true) : ∃ t' a' b' pos, x = .If t' a' b' pos ∧ mE P N t l sc t' = true ∧ mSL P N sc ss l a a' = true ∧ mSL P N sc ss l b b' = true := by
  unfold mS at h
  split at h <;> first
    | (rename_i e1; cases e1
       simp only [Bool.and_eq_true] at h
       exact ⟨_, _, _, _, rfl, h.1.1, h.1.2, h.2⟩)
    | (rename_i e1 e2; cases e1; done)
    | (rename_i e1; cases e1; done)
    | cases h
theorem v_for {kl : List Nat} {tg : Tg} {it : It} {b : SL} {x : Stmt} (h : mS P N sc ss l (.for kl tg it b) x = true) : ∃ tg' it' b' pos, x = .For tg' it' b' [] pos ∧ mG N ss tg tg' = true ∧ itT it tg' = true ∧ noSet it' = true ∧ mI P N it l sc it' = true ∧ mSL P N sc ss l b b' = true := by
  unfold mS at h
  split at h <;> first
    | (rename_i e1; cases e1
       simp only [Bool.and_eq_true] at h
       exact ⟨_, _, _, _, rfl, h.1.1.1.1, h.1.1.1.2, h.1.1.2, h.1.2, h.2⟩)
    | (rename_i e1 e2; cases e1; done)
    | (rename_i e1; cases e1; done)
    | cases h
theorem v_whl {kl : List Nat} {t : E} {b : SL} {x : Stmt} (h : mS P N sc ss l (.whl kl t b) x = true) : ∃ t' b' pos, x = .While t' b' [] pos ∧ mE P N t l sc t' = true ∧ mSL P N sc ss l b b' = true := by
  unfold mS at h
  split at h <;> first
    | (rename_i e1; cases e1
       simp only [Bool.and_eq_true] at h
       exact ⟨_, _, _, rfl, h.1, h.2⟩)
    | (rename_i e1 e2; cases e1; done)
    | (rename_i e1; cases e1; done)
    | cases h
theorem v_ret {e : E} {x : Stmt} (h : mS P N sc ss l (.ret e) x = true) : ∃ e' pos, x = .Return (some e') pos ∧ mE P N e l sc e' = true := by
  unfold mS at h
  split at h <;> first
    | (rename_i e1; cases e1
       exact ⟨_, _, rfl, h⟩)
    | (rename_i e1 e2; cases e1; done)
    | (rename_i e1; cases e1; done)
    | cases h
theorem v_retN {x : Stmt} (h : mS P N sc ss l .retN x = true) : ∃ pos, x = .Return none pos := by
  unfold mS at h
  split at h <;> first
    | exact ⟨_, rfl⟩
    | (rename_i e1; cases e1; done)
    | cases h
theorem v_rsx {c : Nat} {x : Stmt} (h : mS P N sc ss l (.rsx c) x = true) : ∃ y p m j p2 p3 pos w, x = .Raise (some (.Call (.Name y p) [.Constant (.str m) j p2] [] p3)) none pos ∧ c ∈ P.rai ∧ P.exc[c]? = some w ∧ w.1 = y ∧ gloB sc y = true ∧ odd y = false := by
  unfold mS at h
  split at h <;> first
    | (rename_i e1; cases e1
       simp only [Bool.and_eq_true, decide_eq_true_eq, Bool.not_eq_true'] at h
       obtain ⟨⟨⟨h1, h2⟩, h3⟩, h4⟩ := h
       cases hw : P.exc[c]? with
       | none => rw [hw] at h2; cases h2
       | some w =>
         rw [hw] at h2
         exact ⟨_, _, _, _, _, _, _, w, rfl, h1, rfl, of_decide_eq_true h2, h3, h4⟩)
    | (rename_i e1 e2; cases e1; done)
    | (rename_i e1; cases e1; done)
    | cases h
theorem v_pass {x : Stmt} (h : mS P N sc ss l .pass x = true) : ∃ pos, x = .Pass pos := by
  unfold mS at h
  split at h <;> first
    | exact ⟨_, rfl⟩
    | (rename_i e1; cases e1; done)
    | cases h
mutual
theorem sS (cx : Ctx A P C N sc ss l kk W X) : ∀ (s : S) (x : Stmt), mS P N sc ss l s x = true → PS X x (tS A P C W s)
  | .set i e, x, h => by
    obtain ⟨y, px, v, pos, rfl, h1, h2, h3, h4⟩ := v_set hC h
    exact s_set hC cx h1 h2 h3 h4
  | .par is es, x, h => by
    obtain ⟨ts, kt, pt, vs, k2, pt2, pos, rfl, h1, h2, h3, h4⟩ := v_par hC h
    exact s_par hC cx h1 h2 h3 h4
  | .unp tg e, x, h => by
    obtain ⟨ts, k, p, v, pos, rfl, h1, h2, h3, h4⟩ := v_unp hC h
    exact s_unp hC cx h1 h2 h3 h4
  | .sub o i v, x, h => by
    obtain ⟨o', i', p, v', pos, rfl, h1, h2, h3, h4, h5⟩ := v_sub hC h
    exact s_sub hC cx h1 h2 h3 h4 h5
  | .exp e, x, h => by
    obtain ⟨e', pos, rfl, h1, h2⟩ := v_exp hC h
    refine PS_imp (L2.ps_expr (sE hC e cx h1).1 (swaps_no hC h2)) fun D σ H z => ?_
    obtain ⟨B, m, h, ρ, S, s, z⟩ := z
    unfold wpS at z
    exact tE_of hC S s z fun v h1 m1 H1 w q S1 M1 r1 => q m1 H1 σ S1 M1 (s.move S M1)
  | .iff t a b, x, h => by
    obtain ⟨t', a', b', pos, rfl, h1, h2, h3⟩ := v_iff hC h
    exact PS_imp (L2.ps_if (sE hC t cx h1).2 (sSL cx a a' h2) (sSL cx b b' h3)) (i_iff hC)
  | .for kl tg it b, x, h => by
    obtain ⟨tg', it', b', pos, rfl, h1, h2, h3, h4, h5⟩ := v_for hC h
    exact PS_imp (L2.ps_for cx.po cx.calm (sI hC it cx h2 h4) (sG cx tg h1) (sSL cx b b' h5) (fun x => by cases it' <;> first | rfl | cases h3)) (i_for hC)
  | .whl kl t b, x, h => by
    obtain ⟨t', b', pos, rfl, h1, h2⟩ := v_whl hC h
    exact PS_imp (L2.ps_while cx.po (sE hC t cx h1).2 (sSL cx b b' h2)) (i_whl hC)
  | .ret e, x, h => by
    obtain ⟨e', pos, rfl, h1⟩ := v_ret hC h
    refine PS_imp (L2.ps_ret (sE hC e cx h1).1) fun D σ H z => ?_
    obtain ⟨B, m, h, ρ, S, s, z⟩ := z
    unfold wpS at z
    exact ⟨B, m, h, ρ, S, s, z⟩
  | .retN, x, h => by
    obtain ⟨pos, rfl⟩ := v_retN hC h
    refine PS_imp L2.ps_retN fun D σ H z => ?_
    obtain ⟨B, m, h, ρ, S, s, z⟩ := z
    unfold wpS at z
    exact z m H _ S (Mv.refl _ _ _) .non
  | .rse, x, h => PS_imp L2.ps_never fun D σ H z => by
    obtain ⟨B, m, h, ρ, S, s, z⟩ := z
    unfold wpS at z
    exact z
  | .rsx c, x, h => by
    obtain ⟨y, p, m, j, p2, p3, pos, w, rfl, h1, h2, rfl, h4, h5⟩ := v_rsx hC h
    obtain ⟨o1, o2, o3⟩ := odd_ok h5
    have d := cx.exc c h1 w h2
    have mk := L2.pmk_own (X := X) (m := m) (j := j) (p := p) (p2 := p2) (pos := p3) PySem.F.excBase_ValueError d.ei d.mg d.kp d.rs (show X.env.scope.names.lookup _ = _ by rw [cx.eS]; exact gloB_ok h4) o1
    refine PS_imp (L2.ps_raise (pos := pos) cx.calm cx.tk mk) fun D σ H z => ?_
    obtain ⟨B, m, h, ρ, S, s, z⟩ := z
    unfold wpS at z
    exact z m H _ _ S (Mv.refl _ _ _) ⟨rfl, rfl, rfl⟩
  | .pass, x, h => by
    obtain ⟨pos, rfl⟩ := v_pass hC h
    refine PS_imp L2.ps_pass fun D σ H z => ?_
    obtain ⟨B, m, h, ρ, S, s, z⟩ := z
    unfold wpS at z
    exact z m H σ S (Mv.refl _ _ _) s
theorem sSL (cx : Ctx A P C N sc ss l kk W X) : ∀ (s : SL) (x : List Stmt), mSL P N sc ss l s x = true → PSs X x (tSL A P C W s)
  | .nil, [], h => PSs_imp L2.pss_nil fun D σ H z => by
    obtain ⟨B, m, h, ρ, S, s, z⟩ := z
    unfold wpSL at z
    exact z m H σ S (Mv.refl _ _ _) s
  | .nil, _ :: _, h => by simp [mSL] at h
  | .cons _ _, [], h => by simp [mSL] at h
  | .cons s r, a :: as, h => by
    simp only [mSL, Bool.and_eq_true] at h
    exact PSs_imp (L2.pss_cons (sS cx s a h.1) (sSL cx r as h.2)) (i_cons hC)
end
end
end G43
set_option Elab.async false
set_option linter.all false
set_option maxRecDepth 100000
set_option maxHeartbeats 4000000
namespace G43
open PySem PySem.Spec PyProof.Rows
open L2 (V HO Hp SqL SqT upd upd_same upd_ne Cx VK TE TA TS PE PA PS PSs XK Sp Room Vals Inv frs thn WX Takes Un CR cloFrom)
open LamX (LamS lamEnv lamCx CodeO Tabs ExtN TabB)
/-! ### a lambda that the law's own word calls -/
section
variable {X : Cx} {pins : List (Addr × Obj)} {σ : L2.St} {H : Hp} {s : Shared}
/-- the frame of the def that got the lambda -/
abbrev gEnv (qg : Str) (sg : Scope) (g : Addr) (cdg : Value) (s : Shared) : PySem.Env := envOfC qg sg s.heap.objs.size g cdg
/-- its context -/
abbrev gCx (X : Cx) (CXg : L2.CXT) (Ng : List Str) (qg : Str) (sg : Scope) (g : Addr) (cdg : Value) (s : Shared) (H : Hp) (Eg : XK) : Cx := L2.cxOf CXg X.prog X.w X.K X.mg X.base Ng qg sg g cdg X.A X.stack s H Eg
theorem w_act {CXg : L2.CXT} {Eg : XK} {Ng : List Str} {qg : Str} {sg : Scope} {g f c' : Addr} {cdg pm ctv : Value} {params : Arguments} {body : Expr} {scope : Scope} {k i : Nat} {a : Str} {pn : List (Addr × Obj)}
    {xe : Value → Shared → Prop} {Wk : WX} {E : XK} {tb : TE} {p1 p2 : Pos} (I : Inv X pins σ H s) (L : LamS X.env.scope scope)
    (hf : s.heap.get? f = some (PySem.W.kla_obj "<lambda>" (X.env.qual ++ "<lambda>") params body scope (cloFrom X.env.cells scope.names []) pm c' ctv)) (hfn : H f = none) (hfr : f ∉ frs X.stack)
    (hbind : bindArgs (PySem.W.kla_fn "<lambda>" (X.env.qual ++ "<lambda>") params body scope (cloFrom X.env.cells scope.names []) pm (.ref c') ctv) ⟨[], []⟩ = pure [])
    (tk : Takes ((gCx X CXg Ng qg sg g cdg s H Eg).tr pn xe) Wk) (hW : ∀ cls d σ' H', E cls d H' → Wk cls d σ' H') (hr : Room (k + 1) (X.A.deeper (gEnv qg sg g cdg s)))
    (hbody : ∀ (s' : Shared) (H' : Hp), Room k ((X.A.deeper (gEnv qg sg g cdg s)).deeper (lamEnv X scope s'.heap.objs.size f c')) → PE (lamCx X (X.A.deeper (gEnv qg sg g cdg s)) (gEnv qg sg g cdg s :: X.stack) s' H' E scope f c') body tb)
    (hN : Ng[i]? = some a) (hv : L2.Vis sg a) (hd : (a == ("__debug__" : Str)) = false) (hcd : (a == ("__classdict__" : Str)) = false) :
    PE ((gCx X CXg Ng qg sg g cdg s H Eg).tr pn xe) (.Call (.Name a p1) [] [] p2) (fun σZ HZ Q => σZ[i]? = some (some (.ref f)) ∧ HZ c' = some (CodeO c' (X.env.qual ++ "<lambda>")) ∧ tb σ HZ Q) := by
  constructor
  rintro pz sz σz Hz Q Iz ⟨hs, hc, ht⟩
  have vr := L2.pe_var (X := (gCx X CXg Ng qg sg g cdg s H Eg).tr pn xe) (pos := p1) (i := i) hN hv hd hcd
  refine wpAny_Call_Name_kw (thn (vr.run pz sz σz Hz (fun v H1 => v = .ref f ∧ H1 = Hz) Iz ⟨.ref f, hs, rfl, rfl⟩) ?_)
  rintro u s1 ⟨v, H1, I1, r1, rfl, rfl⟩
  cases (show u = Value.ref f from r1)
  have o1 := I1.base.keep f _ hf hfn hfr (fun z => nomatch (show f ∈ ([] : List Addr) from z))
  refine PySem.W.callWith_F0 ⟨_, _, _, _, o1⟩ ?_
  have un : Un (frs X.stack) [] H H1 s.heap s1.heap := I1.base
  obtain ⟨⟨oc, vs, t, hoc, hdc, hvc⟩, _, _⟩ := I1.hok c' _ hc
  have run : codeAny (model X.prog X.w) (X.A.deeper (gEnv qg sg g cdg s)) (.call (.ref f) ⟨[], []⟩) (CR (L2.CX X.prog X.w) (gEnv qg sg g cdg s :: X.stack) X.prog X.w H1 s1 Q E) s1 := by
    refine PySem.W.kla_callFunE hr.depth o1 rfl L.co L.gen rfl ⟨c', oc, vs, t, rfl, hoc, hdc, hvc⟩ ?_
    rw [hbind]
    refine wpAny_pure (wpAny_newFunctionEnv (fun y hy => (L.own y hy).2) (fun y hy => absurd hy (by simp)) (fun h1 hns hsb => ⟨I1.nolimit.fresh _ hsb, ?_⟩) L.kind)
    show codeAny _ _ (.expr body (lamEnv X scope s1.heap.objs.size f c')) _ _
    have kp : ∀ b o, s1.heap.get? b = some o → h1.get? b = some o := by
      intro b o e
      exact hsb.extBut b o (Nat.ne_of_lt (Heap.lt_size e)) (Heap.get?_push_of_some _ e)
    have J := LamX.lam_start2 (E := E) (f := f) (c' := c') (tk := s1.toks + ([] : List (Str × Value)).length) I L I1.env0 hr.hd un hns kp
    refine PySem.W.kla_codeExpr (wpAny_mono ((hbody s1 H1 (hr.deeper _)).run [] _ _ H1 Q J ht) ?_ fun _ _ z => z)
    rintro v s2 ⟨w, H2, J2, rv, q⟩
    exact ⟨w, H2, J2.os, J2.bare, J2.base, J2.hok, rv, q⟩
  have out := L2.passes_call tk hW
  refine wpAny_call (codeAny_mono run ?_)
  rintro (e | fl) s2 hq
  · exact out pz σz H1 s1 e s2 I1 hq
  · rcases fl with _ | _ | _ | u
    · exact hq.elim
    · exact hq.elim
    · exact hq.elim
    · exact I1.after hq
/-- what the def that got it makes of it -/
def Gives (X : Cx) (Ng : List Str) (x : Str) (sg : Scope) (g : Addr) (cdg : Value) (bg : List Stmt) (a : Str) (q : Str) (TT : (XK → Hp → VK → Prop) → Hp → VK → Prop) : Prop :=
  ∀ (f c' : Addr) (s : Shared) (H : Hp) (Q : VK) (tl : XK → Hp → VK → Prop), X.A.guards = some [] →
    (∀ (Wk : WX) (pn : List (Addr × Obj)) (xe : Value → Shared → Prop) (E : XK) (p1 p2 : Pos), Takes ((gCx X C8.CX0 Ng x sg g cdg s H C8.E0).tr pn xe) Wk → (∀ cls d σ' H', E cls d H' → Wk cls d σ' H') →
      PE ((gCx X C8.CX0 Ng x sg g cdg s H C8.E0).tr pn xe) (.Call (.Name a p1) [] [] p2) (fun σZ HZ Q => σZ[0]? = some (some (.ref f)) ∧ HZ c' = some (CodeO c' q) ∧ tl E HZ Q)) →
    H c' = some (CodeO c' q) → TT tl H Q →
    ∃ t, PSs (gCx X C8.CX0 Ng x sg g cdg s H C8.E0).nox bg t ∧ t { nx := fun _ H' => Q .non H', rt := Q } (L2.start Ng [.ref f]) H
theorem w_lamcall {T : List (Addr × Str)} {TT : (XK → Hp → VK → Prop) → Hp → VK → Prop} {x a : Str} {g c P : Addr} {k : Nat} {pg : Arguments} {bg : List Stmt} {sg : Scope} {dV kV doc pm cdv ct oc : Value} {an od : Option Addr} {osl : Array (Option Value)}
    {Ng : List Str} {params : Arguments} {body : Expr} {scope : Scope} {t : XK → TE} {p lpos pos : Pos} (hg : L2.Gl X x) (hm : X.mg x = some (.ref g)) (hk : PySem.W.keepIn X.K (.ref g) = true)
    (lk : X.K.lookup g = some ⟨oc, od, .func (PySem.W.fnOf x x pg bg sg dV kV doc pm an cdv ct), osl⟩) (hcg : PySem.W.codeIn X.K cdv x = true) (hb : L2.Binds X.K (PySem.W.fnOf x x pg bg sg dV kV doc pm an cdv ct) [a] [])
    (Sg : L2.FnScope Ng [a] sg) (hNg : Ng[0]? = some a) (hva : L2.Vis sg a) (hG : Gives X Ng x sg g cdv bg a (X.env.qual ++ "<lambda>") TT) (hgd : X.A.guards = some [])
    (TB : TabB X.base X.mg c P) (hcode : X.env.code = .ref c) (hmT : (P, X.env.qual ++ "<lambda>") ∈ T) (hu : ∀ p ∈ T, p.1 = P → p.2 = X.env.qual ++ "<lambda>") (hr : Room (k + 2) X.A) (L : LamS X.env.scope scope)
    (hdef : defaultsOf params X.env = ([], [])) (hbind : ∀ (q : Str) (cl : List (Str × Addr)) (pm cv ctv : Value), bindArgs (PySem.W.kla_fn "<lambda>" q params body scope cl pm cv ctv) ⟨[], []⟩ = pure [])
    (hbody : ∀ (Ar : Around) (outer : List PySem.Env) (s : Shared) (H : Hp) (E : XK) (f c' : Addr), Ar.guards = some [] → Room k (Ar.deeper (lamEnv X scope s.heap.objs.size f c')) → PE (lamCx X Ar outer s H E scope f c') body (t E))
    (hdb : (x == ("__debug__" : Str)) = false) (hd : (a == ("__debug__" : Str)) = false) (hcd : (a == ("__classdict__" : Str)) = false) :
    PE X (.Call (.Name x p) [.Lambda params body scope lpos] [] pos) (LamX.tLam T TT t) := by
  constructor
  rintro pins s σ H Q I ⟨hT, h⟩
  refine wpAny_Call_Name_kw (L2.ld_glob I hg hm ?_ hdb)
  refine PySem.W.callWith_K (h₀ := X.base) I.ok.mod.kin hk ?_ (by rfl) (by rfl)
  show wpAny _ _ (spliced ((false, eval (.Lambda params body scope lpos) X.env) :: backTo pos (starEach [] X.env))) _ _ s
  refine Calls.spliced_cons (LamX.lam_make2 I TB hcode hmT hu hT hdef (L.has I.ok) ?_)
  intro f c' pm' ctv H1 s' I1 eN T1 hf hfn hfr hco
  refine Calls.spliced_nil ⟨I1.kIn, ?_⟩
  have run : codeAny (model X.prog X.w) X.A (.call (.ref g) ⟨[.ref f], []⟩) (CR C8.CX0 X.stack X.prog X.w H1 s' Q C8.E0) s' := by
    refine LamX.run_ofS (N := Ng) (ps := [a]) (us := [.ref f]) (vs := [.ref f]) lk hcg Sg hr I1.env0 (hb s' [.ref f] I1.kIn rfl) (.cons rfl .nil) rfl ?_
    intro hr'
    obtain ⟨t', q1, q2⟩ := hG f c' s' H1 Q (fun E H' Q' => t E σ H' Q') hgd (fun Wk pn xe E p1 p2 tk hW => w_act (i := 0) I1 L hf hfn hfr (hbind _ _ _ _ _) tk hW hr' (fun s2 H2 hr2 => hbody _ _ s2 H2 E f c' (by rw [guards_deeper]; exact hgd) hr2) hNg hva hd hcd) hco (h H1 eN T1)
    exact ⟨t', q1.nox, q2⟩
  refine wpAny_call (codeAny_mono run ?_)
  rintro (e | fl) s2 hq
  · exact (show False from hq).elim
  · rcases fl with _ | _ | _ | u
    · exact hq.elim
    · exact hq.elim
    · exact hq.elim
    · exact I1.after hq
end
/-! ### the law's own word: its text's end -/
def TTw (A : Ad) (P : Pg) : (XK → Hp → VK → Prop) → Hp → VK → Prop := fun tl H Q => tl (fun cls d H' => ∃ c w B m h, P.exc[c]? = some w ∧ cls = .ref (A.CA c) ∧ d = none ∧ Sim A B m h H' ∧ Kp A B m h H' Q (.tup [.str w.2])) H fun v H' => ([.str "told", v] : List V).length ≤ sizeLine ∧ ∀ p, H' p = none → Q (.ref p) (upd H' p (.tup [.str "told", v]))
theorem noPar_eq {ps : Arguments} (h : noPar ps = true) : ps = ⟨[], [], none, [], [], none, []⟩ := by
  obtain ⟨a, b, c, d, e, f, g⟩ := ps
  simp only [noPar, Bool.and_eq_true, List.isEmpty_iff, Option.isNone_iff_eq_none] at h
  obtain ⟨⟨⟨⟨⟨⟨rfl, rfl⟩, rfl⟩, rfl⟩, rfl⟩, rfl⟩, rfl⟩ := h
  rfl
/-- what the head tells of the law's own word -/
structure WordAt (A : Ad) (P : Pg) (K : PySem.W.Frag) (mg : Str → Option Value) : Prop where
  ex : ∃ (g : Addr) (pg : Arguments) (bg : List Stmt) (sg : Scope) (dV kV doc pm cdv ct oc : Value) (an od : Option Addr) (osl : Array (Option Value)) (Ng : List Str) (a : Str),
    mg "_law_word" = some (.ref g) ∧ PySem.W.keepIn K (.ref g) = true ∧ K.lookup g = some ⟨oc, od, .func (PySem.W.fnOf "_law_word" "_law_word" pg bg sg dV kV doc pm an cdv ct), osl⟩ ∧ PySem.W.codeIn K cdv "_law_word" = true ∧
    L2.Binds K (PySem.W.fnOf "_law_word" "_law_word" pg bg sg dV kV doc pm an cdv ct) [a] [] ∧ L2.FnScope Ng [a] sg ∧ Ng[0]? = some a ∧ L2.Vis sg a ∧ (a == ("__debug__" : Str)) = false ∧ (a == ("__classdict__" : Str)) = false ∧
    ∀ (X : Cx) (q : Str), X.K = K → X.mg = mg → Room 2 X.A → Gives X Ng "_law_word" sg g cdv bg a q (TTw A P)
theorem lam_at {A : Ad} {P : Pg} {kk : Nat} {X : Cx} {q : Str} {c Pt : Addr} (w : WordAt A P X.K X.mg) (hgd : X.A.guards = some []) (hr : Room (kk + 2) X.A) (h1 : X.env.code = .ref c) (hq : X.env.qual = q) (tb : TabB X.base X.mg c Pt)
    (hin : (Pt, q ++ ("<lambda>" : Str)) ∈ A.T) (hu : ∀ p ∈ A.T, p.1 = Pt → p.2 = q ++ ("<lambda>" : Str)) : LamAt A P kk X := by
  subst hq
  constructor
  intro params body scope p lpos pos t hgl h1' h2 hb
  obtain ⟨g, pg, bg, sg, dV, kV, doc, pm, cdv, ct, oc, an, od, osl, Ng, a, w1, w2, w3, w4, w5, w6, w7, w8, w9, w10, w11⟩ := w.ex
  have e := noPar_eq h2
  subst e
  exact w_lamcall hgl w1 w2 w3 w4 w5 w6 w7 w8 (w11 X _ rfl rfl (hr.mono (by omega))) hgd tb h1 hin hu hr (LamX.lamS_by h1') rfl (fun _ _ _ _ _ => rfl) hb (by decide) w9 w10
end G43
set_option Elab.async false
set_option linter.all false
set_option maxRecDepth 100000
set_option maxHeartbeats 4000000
namespace G43
open PySem
open L2 (V HO Hp SqL SqT Rd upd upd_same upd_ne Cx OpR R2 VK CallR IxR SlR TE TA TS TT TI TG TGs PE PA PS PSs PT PI PG PGs XK Sp Room Vals Ends)
open PySem.Spec PyProof.Rows
/-! ### behind a call: the cells that were made there are let go -/
section
variable {A : Ad} {B : Addr → Prop} {m m' : List Addr} {h h' : Hs} {H H' : Hp}
theorem cut_back (S : Sim A B m h H) (M : Mv m h H m' h' H') (S' : Sim A B m' h' H') : Sim A B m (h'.take h.length) H' ∧ Mv m h H m (h'.take h.length) H' ∧ ∀ a, Lv m (h'.take h.length) a → Lv m' h' a := by
  obtain ⟨t, rfl⟩ := M.pre
  have hl := S.len
  have hl' := S'.len
  rw [List.length_append] at hl'
  have at_ : ∀ {i : Nat} {c : List PV}, (h'.take h.length)[i]? = some (some c) → h'[i]? = some (some c) := fun {i c} e => by
    rw [List.getElem?_take] at e
    split at e
    · exact e
    · cases e
  have am : ∀ {i : Nat} {a : Addr}, m[i]? = some a → (m ++ t)[i]? = some a := fun {i a} e => M.at e
  obtain ⟨S2, lv⟩ := S'.less (m' := m) (h' := h'.take h.length) (by rw [List.length_take]; omega) (fun i c a e1 e2 => ⟨i, at_ e1, am e2⟩) (fun i j c d a e1 e2 e3 e4 => S'.inj i j c d a (at_ e1) (at_ e2) (am e3) (am e4))
  exact ⟨S2, ⟨⟨[], by simp⟩, fun b o e u n => ⟨(M.keep b o e u n).1, fun z => (M.keep b o e u n).2 (lv b z)⟩⟩, lv⟩
theorem fin_out (S : Sim A B m h H) {Q : VK} {v : RV} (z : fin h.length (Kv A B m h H Q) v h') : Kv A B m h H Q v h' := fun m' H' w S' M r => by
  obtain ⟨S2, M2, lv⟩ := cut_back S M S'
  cases v with
  | pv p =>
    have z1 : Kv A B m h H Q (.pv p) (h'.take h.length) := z
    exact z1 m H' w S2 M2 (Rp.weak (fun a q => q.imp id (lv a)) r)
  | ref i =>
    obtain ⟨a, e, rfl⟩ := r
    simp only [fin] at z
    split at z
    · rename_i hi
      have e2 : m[i]? = some a := by
        obtain ⟨t, rfl⟩ := M.pre
        rw [List.getElem?_append_left (by rw [S.len]; exact hi)] at e
        exact e
      exact z m H' _ S2 M2 ⟨a, e2, rfl⟩
    · rename_i hi
      obtain ⟨c, hc, z⟩ := z
      have hl : (h'.take h.length).length = h.length := by
        rw [List.length_take]
        have := S'.len
        obtain ⟨t, rfl⟩ := M.pre
        rw [List.length_append, S.len] at this
        omega
      have inv : ∀ {j : Nat} {d : List PV} {b : Addr}, (h'.take h.length ++ [some c])[j]? = some (some d) → (m ++ [a])[j]? = some b → ((h'.take h.length)[j]? = some (some d) ∧ m[j]? = some b ∧ j < h.length) ∨ (j = h.length ∧ d = c ∧ b = a) := fun {j d b} h1 h2 => by
        by_cases hj : j < h.length
        · rw [List.getElem?_append_left (by omega)] at h1
          rw [List.getElem?_append_left (by rw [S.len]; exact hj)] at h2
          exact .inl ⟨h1, h2, hj⟩
        · rw [List.getElem?_append_right (by omega), hl] at h1
          rw [List.getElem?_append_right (by rw [S.len]; omega), S.len] at h2
          have hz : j - h.length = 0 := by
            by_cases hz : j - h.length = 0
            · exact hz
            · rw [List.getElem?_eq_none (by simp; omega)] at h1; cases h1
          rw [hz] at h1 h2
          simp at h1 h2
          exact .inr ⟨by omega, h1.symm, h2.symm⟩
      have at_ : ∀ {j : Nat} {d : List PV}, (h'.take h.length)[j]? = some (some d) → h'[j]? = some (some d) := fun {j d} e => by
        rw [List.getElem?_take] at e
        split at e
        · exact e
        · cases e
      obtain ⟨S3, lv3⟩ := S'.less (m' := m ++ [a]) (h' := h'.take h.length ++ [some c]) (by simp [hl, S.len]) (fun j d b e1 e2 => by
          rcases inv e1 e2 with ⟨z1, z2, _⟩ | ⟨_, rfl, rfl⟩
          · exact ⟨j, at_ z1, M.at z2⟩
          · exact ⟨i, hc, e⟩) (fun j k d1 d2 b e1 e2 e3 e4 => by
          rcases inv e1 e3 with ⟨z1, z2, z3⟩ | ⟨z1, z2, z3⟩ <;> rcases inv e2 e4 with ⟨y1, y2, y3⟩ | ⟨y1, y2, y3⟩
          · exact S'.inj j k d1 d2 b (at_ z1) (at_ y1) (M.at z2) (M.at y2)
          · subst y3
            have := S'.inj j i d1 c b (at_ z1) hc (M.at z2) e
            omega
          · subst z3
            have := S'.inj k i d2 c b (at_ y1) hc (M.at y2) e
            omega
          · omega)
      refine z (m ++ [a]) H' _ S3 ⟨⟨[a], rfl⟩, fun b o q u n => ⟨(M.keep b o q u n).1, fun y => (M.keep b o q u n).2 (lv3 b y)⟩⟩ ⟨a, by rw [← S.len]; simp, rfl⟩
theorem x_out (S : Sim A B m h H) {E : XK} {x : XV} (z : Kx A B m h H E x (h'.take h.length)) : Kx A B m h H E x h' := fun m' H' cls d S' M r => by
  obtain ⟨S2, M2, lv⟩ := cut_back S M S'
  exact z m H' cls d S2 M2 r
end
/-! ### the defs of a text -/
structure Txt (A : Ad) (P : Pg) (mg : Str → Option Value) (f : Nat) (df : Df) (params : Arguments) (body : List Stmt) (scope : Scope) (dvs : List V) (fd : FuncData) (ps : List Str) : Prop where
  fun_ : L2.FunD A.K df.name df.name params body scope dvs [] (A.F f) fd
  at_ : A.F f = He.fAd A.K (df.name, none)
  sc : L2.FnScope df.N ps scope
  np : ps.length = df.npar
  mt : mSL P df.N scope scope P.lm df.body body = true
  nm : mg df.name = some (.ref (A.F f))
  bd : ∀ n, n ≤ df.dfl.length → ∃ dvs ds, (df.dfl.drop n).mapM dfV = some dvs ∧ Vals dvs ds ∧ L2.Binds A.K fd ps ds
structure Prog (A : Ad) (P : Pg) (mg : Str → Option Value) : Prop where
  defs : ∀ (f : Nat) (df : Df), P.defs[f]? = some df → ∃ params body scope dvs fd ps, Txt A P mg f df params body scope dvs fd ps
  con : ∀ (g : Nat) (x : Str) (p : PV), P.cons[g]? = some (x, p) → ∃ u v, mg x = some u ∧ L2.RelV v u ∧ ∀ L H, Rp A L H p v
  blt : ∀ x ∈ P.blt, mg x = none
  exc : ∀ c ∈ P.rai, ∀ w, P.exc[c]? = some w → mg w.1 = some (.ref (A.CA c)) ∧ PySem.W.excIn A.K (A.CA c) He.veBase "ValueError.__new__" = true ∧ PySem.W.keepIn A.K (.ref (A.CA c)) = true ∧ PySem.W.subIn A.K (.ref (A.CA c)) (.type "BaseException") = some true ∧ PySem.W.typeIn A.K (.ref (A.CA c)) = some (.type "type")
  wrd : P.lm = true → WordAt A P A.K mg
  tab : P.lm = true → A.T = P.defs.map fun df => ((He.cT A.K (df.name, none)).2, (df.name ++ (".<locals>." : Str)) ++ ("<lambda>" : Str))
  uni : P.lm = true → ∀ p ∈ A.T, ∀ q ∈ A.T, p.1 = q.1 → p.2 = q.2
/-- the tables stand in the ground -/
def TabsIn (P : Pg) (K : PySem.W.Frag) (mg : Str → Option Value) (base : Heap) : Prop := P.lm = true → ∀ df ∈ P.defs, LamX.TabB base mg (He.cT K (df.name, none)).1 (He.cT K (df.name, none)).2
theorem start_sl {A : Ad} {B : Addr → Prop} {m : List Addr} {h : Hs} {H : Hp} {args : List RV} {vs : List V} (r : RpRs A B m h H args vs) (N : List Str) : Sl A B m h H (args.map some ++ List.replicate (N.length - args.length) none) (L2.start N vs) := by
  refine ⟨by unfold L2.start; simp [r.length], fun i v e => ?_⟩
  unfold L2.start
  by_cases hi : i < args.length
  · rw [List.getElem?_append_left (by simpa using hi), List.getElem?_map] at e
    cases ha : args[i]? with
    | none => rw [ha] at e; cases e
    | some a =>
      rw [ha] at e
      cases e
      obtain ⟨w, e1, e2⟩ := r.get ha
      refine ⟨w, ?_, e2⟩
      rw [List.getElem?_append_left (by rw [List.length_map, r.length]; exact hi), List.getElem?_map, e1]
      rfl
  · rw [List.getElem?_append_right (by simpa using hi), List.getElem?_replicate] at e
    split at e <;> cases e
theorem lam_def {A : Ad} {P : Pg} {mg : Str → Option Value} (T : Prog A P mg) {Pr : Program} {w : World} {base : Heap} (hT : TabsIn P A.K mg base) (hl : P.lm = true) {f : Nat} {df : Df} (hf : P.defs[f]? = some df) {kk : Nat} {scope : Scope} {c : Addr} {Ar : Around} {outer : List PySem.Env} {s : Shared} {H : Hp} {E : XK}
    (ec : He.codeOf A.K (df.name, none) = c) (hgd : (Ar.deeper (envOfC df.name scope s.heap.objs.size (A.F f) (.ref c))).guards = some []) (hr : Room (kk + 2) (Ar.deeper (envOfC df.name scope s.heap.objs.size (A.F f) (.ref c)))) :
    LamAt A P kk (L2.cxOf (L2.CX Pr w) Pr w A.K mg base df.N df.name scope (A.F f) (.ref c) Ar outer s H E) := by
  have hm := List.mem_of_getElem? hf
  have hin : ((He.cT A.K (df.name, none)).2, (df.name ++ (".<locals>." : Str)) ++ ("<lambda>" : Str)) ∈ A.T := by
    rw [T.tab hl]
    exact List.mem_map.mpr ⟨df, hm, rfl⟩
  have q := hT hl df hm
  rw [show (He.cT A.K (df.name, none)).1 = c from ec] at q
  have wr : WordAt A P A.K mg := T.wrd hl
  have hu : ∀ p ∈ A.T, p.1 = (He.cT A.K (df.name, none)).2 → p.2 = (df.name ++ (".<locals>." : Str)) ++ ("<lambda>" : Str) := fun p hp e => T.uni hl p hp _ hin e
  exact lam_at (X := L2.cxOf (L2.CX Pr w) Pr w A.K mg base df.N df.name scope (A.F f) (.ref c) Ar outer s H E) (q := df.name ++ (".<locals>." : Str)) (c := c) (Pt := (He.cT A.K (df.name, none)).2) wr hgd hr rfl rfl q hin hu
theorem defs_ok {A : Ad} {P : Pg} {mg : Str → Option Value} (T : Prog A P mg) {Pr : Program} {w : World} {base : Heap} (hT : TabsIn P A.K mg base) : ∀ (d : Nat) (f : Nat) (df : Df), P.defs[f]? = some df → ∀ {params body scope dvs fd ps}, Txt A P mg f df params body scope dvs fd ps →
    FnG Pr w A.K mg base (3 * d) (A.F f) fd ps (spC A (wpC P d) f)
  | 0, f, df, hf, params, body, scope, dvs, fd, ps, t => by
    refine ⟨fun vs H Q E z => ?_, fun Ar outer s H args us vs Q E hg hr e0 hb r z => ?_⟩
    all_goals
      obtain ⟨B, m, h, as, S, rr, z⟩ := z
      unfold wpC at z
      exact z.elim
  | d + 1, f, df, hf, params, body, scope, dvs, fd, ps, t => by
    have mono := wpC_mono P d d (Nat.le_refl _)
    have lev : 3 * (d + 1) = (3 * d + 2) + 1 := by omega
    rw [lev]
    refine fng_of t.fun_ t.sc (fun vs H Q E z => ?_) (fun cdv hlk hcd Ar outer s H vs Q E hg hr z => ?_)
    · obtain ⟨B, m, h, as, S, rr, z⟩ := z
      unfold wpC at z
      obtain ⟨df', e1, e2, _⟩ := z
      rw [hf] at e1
      cases e1
      rw [rr.length, e2, t.np]
    · refine ⟨tSL A P (wpC P d) E df.body, ?_, ?_⟩
      · have hgd : ((Ar.deeper (envOfC df.name scope s.heap.objs.size (A.F f) cdv)).guards) = some [] := by rw [guards_deeper]; exact hg
        refine sSL mono (N := df.N) (sc := scope) (ss := scope) (l := P.lm) (kk := 3 * d) ?_ df.body body t.mt
        refine { eK := rfl, eS := rfl, eN := rfl, kd := t.sc.kind, nd := t.sc.nd, calm := rfl, un := ?_, gd := hgd, tk := ?_, po := ?_, st := ?_, rm := hr.mono (by omega), cal := ?_, con := T.con, blt := T.blt, exc := ?_, lam := ?_ }
        · have := hr.un
          show (Ar.deeper _).units + 65 < cLine
          omega
        · exact L2.takes_of rfl rfl rfl rfl
        · exact L2.passes_of rfl
        · intro x hx
          exact ⟨stoB_ok hx, .inl rfl⟩
        · intro g dg hg'
          obtain ⟨params', body', scope', dvs', fd', ps', t'⟩ := T.defs g dg hg'
          exact ⟨t'.nm, t'.fun_.kp, fd', ps', defs_ok T hT d g dg hg' t', t'.np, t'.bd⟩
        · intro c hc w hw
          obtain ⟨h1, h2, h3, h4, h5⟩ := T.exc c hc w hw
          exact ⟨h1, h2, h3, L2.raises_own h4 h5⟩
        · intro hl
          obtain ⟨c, ecd⟩ := He.codeIn_ref hcd
          obtain ⟨oc, od, dV, kV, doc, pm, an, ct, osl, lk⟩ := hlk
          have ec : He.codeOf A.K (df.name, none) = c := He.codeOf_eq (fd := PySem.W.fnOf df.name df.name params body scope dV kV doc pm an cdv ct) (by rw [← t.at_]; exact lk) ecd
          cases ecd
          exact lam_def T hT hl hf ec hgd hr
      · obtain ⟨B, m, h, as, S, rr, z⟩ := z
        unfold wpC at z
        obtain ⟨df', e1, e2, z⟩ := z
        rw [hf] at e1
        cases e1
        refine ⟨B, m, h, _, S, start_sl rr df.N, wpSL_mono mono df.body (fun ρ' h' k m' H' σ' S' M' _ => ?_) (fun v h' k => fin_out S k) (fun x h' k => x_out S k) z⟩
        exact fin_out S k m' H' _ S' M' .non
end G43
set_option Elab.async false
set_option linter.all false
set_option maxRecDepth 100000
set_option maxHeartbeats 4000000
namespace G43
open PySem
open L2 (V HO Hp SqL SqT Rd upd upd_same upd_ne Cx OpR R2 VK CallR IxR SlR TE TA TS TT TI TG TGs PE PA PS PSs PT PI PG PGs XK Sp Room Vals Ends)
open PySem.Spec PyProof.Rows
/-! ### the law's call -/
/-- the script and the tables alone are tracked -/
structure Bare (K : PySem.W.Frag) (cs : List (Addr × Addr)) (H : Hp) (a : Addr) (xs : List V) : Prop where
  only : ∀ b, H b ≠ none → (b = a ∧ ∃ o, H b = some (.frz o (.lst xs))) ∨ ∃ p ∈ cs, b = p.2
  there : (∃ o, H a = some (.frz o (.lst xs))) ∨ KL K a xs
  apart : H a ≠ none → K.lookup a = none
  tabs : ∀ p ∈ cs, H p.2 = some (.tbl #[])
theorem lawG {Pr : Program} {w : World} {K : PySem.W.Frag} {mg mb : Str → Option Value} {k : Nat} {fa a : Addr} {cs : List (Addr × Addr)} {fd : FuncData} {x : Str} {sp : Sp} {s1 : Shared} {vs : List Value} {ns : List Int}
    (KX : K.In s1.heap) (hns : s1.heap.Ns mainGlobals mg) (hb : s1.heap.Ns builtinsNs mb) (hbb : ∀ x : Str, x ≠ "__name__" → mb x = bootBuiltins x) (hlim : s1.heap.NoLimit) (hg : s1.gens = #[])
    (tE : ∀ p ∈ cs, s1.heap.get? p.2 = some noTab) (tN : ∀ p ∈ cs, K.lookup p.2 = none) (tC : ∀ p ∈ cs, PySem.W.CodeHd s1.heap p.1 p.2)
    (hbm : ∃ (bm : Addr) (ob : Obj), mg "__builtins__" = some (.ref bm) ∧ bm ≠ builtinsNs ∧ s1.heap.get? bm = some ob ∧ ob.cls = .type "module" ∧ ob.dict = some builtinsNs ∧ ob.data = .plain)
    (ha : s1.heap.get? a = some { cls := .type "list", data := .seq vs.toArray }) (hi : IntsAre vs ns) (hl : ns.length ≤ sizeLine) (hr : Room k callerA)
    (F : ∀ base : Heap, (∀ p ∈ cs, LamX.TabB base mg p.1 p.2) → FnG Pr w K mg base k fa fd [x] sp) (hbind : ∀ (s : Shared) (u : Value), K.In s.heap → BindsTo s fd ⟨[u], []⟩ [(x, u)])
    (hsp : ∀ H : Hp, Bare K cs H a (ns.map V.int) → sp [.ref a] H (fun v _ => v = .bl true) fun _ _ _ => False) :
    codeAny (model Pr w) callerA (.call (.ref fa) ⟨[.ref a], []⟩) (fun r s' => r = .ok (.ret (.bool true)) ∧ OldK s1.heap s'.heap ∧ s'.os = s1.os ∧ AllBare s'.gens) s1 := by
  have rv : Vals (ns.map V.int) vs := L2.vals_ints hi
  have aT : ∀ p ∈ cs, p.2 ≠ a := by
    intro p hp z
    have q := tE p hp
    rw [z, ha] at q
    injection q with q
    cases (show Data.seq vs.toArray _ = Data.fields #[] from congrArg Obj.data q)
  -- any abstract heap that tracks the script and the tables alone will do
  have main : ∀ H : Hp, Bare K cs H a (ns.map V.int) → L2.HOk Pr w H s1.heap →
      codeAny (model Pr w) callerA (.call (.ref fa) ⟨[.ref a], []⟩) (fun r s' => r = .ok (.ret (.bool true)) ∧ OldK s1.heap s'.heap ∧ s'.os = s1.os ∧ AllBare s'.gens) s1 := by
    intro H hB hok
    have free : ∀ {b : Addr} {o : Obj}, s1.heap.get? b = some o → (∀ us n, o.data ≠ .seq us n) → o.data ≠ .fields #[] → H b = none := by
      intro b o e h1 h2
      cases q : H b with
      | none => rfl
      | some u =>
        rcases hB.only b (by rw [q]; exact fun z => nomatch z) with ⟨rfl, -⟩ | ⟨p, hp, rfl⟩
        · rw [ha] at e
          cases e
          exact absurd rfl (h1 _ _)
        · rw [tE p hp] at e
          cases e
          exact absurd rfl h2
    have freeD : ∀ {b : Addr} {o : Obj} {es : Array DictEntry} {ep : Nat}, s1.heap.get? b = some o → o.data = .dict es ep → H b = none := by
      intro b o es ep e d
      refine free e ?_ ?_ <;> rw [d]
      · exact fun _ _ z => nomatch z
      · exact fun z => nomatch z
    have nsB : ∀ {b : Addr} {mm : Str → Option Value}, s1.heap.Ns b mm → (L2.hidT s1.heap H).Ns b mm := by
      rintro b mm ⟨o, es, ep, e, d, r⟩
      exact ⟨o, es, ep, L2.hidT_get e (freeD e d), d, r⟩
    have KB : K.In (L2.hidT s1.heap H) := by
      intro b o e
      refine L2.hidT_get (KX b o e) ?_
      cases q : H b with
      | none => rfl
      | some u =>
        have n : H b ≠ none := by rw [q]; exact fun z => nomatch z
        rcases hB.only b n with ⟨rfl, -⟩ | ⟨p, hp, rfl⟩
        · rw [hB.apart n] at e
          cases e
        · rw [tN p hp] at e
          cases e
    have md : L2.Mod K mg (L2.hidT s1.heap H) := by
      refine ⟨KB, nsB hns, ⟨mb, nsB hb, hbb⟩, ?_⟩
      obtain ⟨mc, h1, h2⟩ := hlim
      exact ⟨mc, nsB h1, h2⟩
    have TB : ∀ p ∈ cs, LamX.TabB (L2.hidT s1.heap H) mg p.1 p.2 := by
      intro p hp
      constructor
      · obtain ⟨o, us, file, tf, flags, tg, inF, text, tt, e1, r1, r2, r3, rest⟩ := tC p hp
        refine ⟨o, us, file, tf, flags, tg, inF, text, tt, L2.hidT_get e1 (free e1 ?_ ?_), r1, r2, r3, rest⟩ <;> rw [r2]
        · exact fun _ _ z => nomatch z
        · intro z
          cases z
          simp at r3
      · rcases hbm with ⟨bm, ob, b1, b2, b3, rest⟩
        have b6 := rest.2.2
        refine ⟨bm, ob, b1, b2, ?_, ?_, L2.hidT_get b3 (free b3 ?_ ?_), rest⟩
        · rintro rfl
          obtain ⟨o, es, ep, e, hd, _⟩ := hns
          rw [e] at b3
          cases b3
          rw [hd] at b6
          cases b6
        · rintro rfl
          rw [tE p hp] at b3
          cases b3
          cases b6
        · rw [b6]; exact fun _ _ z => nomatch z
        · rw [b6]; exact fun z => nomatch z
      · intro z
        obtain ⟨o, es, ep, e, hd, _⟩ := hns
        rw [z, tE p hp] at e
        cases e
        cases hd
    have e0 : L2.Env0 Pr w K mg (L2.hidT s1.heap H) callerA [] s1 H :=
      { frames := rfl, mod := md, bs := fun b o e => L2.of_hidT e, bsz := Nat.le_of_eq (L2.hidT_size _ _), funs := trivial, frf := fun b hb => (by simp [L2.frs] at hb), hok := hok, bare := .of_eq hg }
    refine codeAny_mono ((F _ TB).run callerA [] s1 H ⟨[.ref a], []⟩ [.ref a] [.ref a] _ _ rfl hr e0 (hbind s1 (.ref a) KX) (.cons rfl .nil) (hsp H hB)) ?_
    rintro (e | fl) s' q
    · have q : L2.CX Pr w [] H s1 (fun _ _ _ => False) e s' := q
      obtain ⟨_, _, _, _, _, _, _, _, _, _, _, _, z⟩ := q
      exact False.elim z
    · rcases fl with _ | _ | _ | u
      · exact q.elim
      · exact q.elim
      · exact q.elim
      · obtain ⟨v, H', os, bare, un, hok', r', q⟩ := q
        obtain rfl : v = .bl true := q
        obtain rfl : u = Value.bool true := r'
        have keep : ∀ b o, (∀ p ∈ cs, b ≠ p.2) → s1.heap.get? b = some o → s'.heap.get? b = some o := by
          intro b o nb e
          cases qb : H b with
          | none => exact un.keep b o e qb (by simp [L2.frs]) (by simp)
          | some u =>
            rcases hB.only b (by rw [qb]; exact fun z => nomatch z) with ⟨rfl, ob, z⟩ | ⟨p, hp, z⟩
            · have z2 := un.frzs _ ob _ z
              obtain ⟨e1, _⟩ := hok _ _ z
              obtain ⟨e2, _⟩ := hok' _ _ z2
              rw [e] at e1
              cases e1
              exact e2
            · exact absurd z (nb p hp)
        have grown : ∀ p ∈ cs, ∃ more : Array Value, s'.heap.get? p.2 = some { cls := .none, data := .fields more } := by
          intro p hp
          obtain ⟨more, z⟩ := un.tbls p.2 #[] (hB.tabs p hp)
          exact ⟨_, hok' p.2 _ z⟩
        refine ⟨rfl, ⟨fun b o e => ?_, fun b o e => ?_⟩, os, bare⟩
        · by_cases hb : ∃ p ∈ cs, b = p.2
          · obtain ⟨p, hp, rfl⟩ := hb
            obtain ⟨more, hm⟩ := grown p hp
            rw [tE p hp] at e
            cases e
            refine .inr (.inl ⟨((tC p hp).tab (tE p hp)).isCodeTable, rfl, #[], more, rfl, ?_⟩)
            rw [Array.empty_append]
            exact hm
          · exact .inl (keep b o (fun p hp z => hb ⟨p, hp, z⟩) e)
        · by_cases hb : ∃ p ∈ cs, b = p.2
          · obtain ⟨p, hp, rfl⟩ := hb
            obtain ⟨more, hm⟩ := grown p hp
            exact ⟨_, hm⟩
          · exact ⟨o, keep b o (fun p hp z => hb ⟨p, hp, z⟩) e⟩
  have isT : ∀ b : Addr, (∃ p ∈ cs, b = p.2) → s1.heap.get? b = some noTab := by
    rintro b ⟨p, hp, rfl⟩
    exact tE p hp
  have anyT : ∀ p ∈ cs, (cs.any fun q => p.2 == q.2) = true := fun p hp => List.any_eq_true.mpr ⟨p, hp, by simp⟩
  by_cases hk : K.lookup a = none
  · refine main (fun b => if b = a then some (.frz { cls := .type "list", data := .seq vs.toArray } (.lst (ns.map V.int))) else if (cs.any fun p => b == p.2) = true then some (.tbl #[]) else none) ⟨fun b n => ?_, .inl ⟨_, if_pos rfl⟩, fun _ => hk, fun p hp => ?_⟩ fun b u z => ?_
    · by_cases e : b = a
      · exact .inl ⟨e, _, if_pos e⟩
      · by_cases e2 : (cs.any fun p => b == p.2) = true
        · obtain ⟨p, hp, z⟩ := List.any_eq_true.mp e2
          exact .inr ⟨p, hp, eq_of_beq z⟩
        · exact absurd ((if_neg e).trans (if_neg e2)) n
    · exact (if_neg (aT p hp)).trans (if_pos (anyT p hp))
    · by_cases e : b = a
      · have z' := (if_pos e).symm.trans z
        cases z'
        subst e
        exact ⟨ha, by rw [List.length_map]; exact hl, vs, _, rv, ha⟩
      · have z' := (if_neg e).symm.trans z
        by_cases e2 : (cs.any fun p => b == p.2) = true
        · have z2 := (if_pos e2).symm.trans z'
          cases z2
          obtain ⟨p, hp, z⟩ := List.any_eq_true.mp e2
          exact isT b ⟨p, hp, eq_of_beq z⟩
        · have z2 := (if_neg e2).symm.trans z'
          cases z2
  · obtain ⟨o, ho⟩ := Option.ne_none_iff_exists'.mp hk
    have e := KX a o ho
    rw [ha] at e
    cases e
    have nA : (if (cs.any fun p => a == p.2) = true then some (HO.tbl #[]) else none) = none := if_neg fun z => by
      obtain ⟨p, hp, z⟩ := List.any_eq_true.mp z
      exact aT p hp (eq_of_beq z).symm
    refine main (fun b => if (cs.any fun p => b == p.2) = true then some (.tbl #[]) else none) ⟨fun b n => ?_, .inr ⟨_, vs.toArray, _, ho, rfl, rfl, rfl, ?_, by simpa using rv⟩, fun n => absurd nA n, fun p hp => if_pos (anyT p hp)⟩ fun b u z => ?_
    · by_cases e2 : (cs.any fun p => b == p.2) = true
      · obtain ⟨p, hp, z⟩ := List.any_eq_true.mp e2
        exact .inr ⟨p, hp, eq_of_beq z⟩
      · exact absurd (if_neg e2) n
    · rw [List.size_toArray, hi.length]
      exact hl
    · by_cases e2 : (cs.any fun p => b == p.2) = true
      · have z2 := (if_pos e2).symm.trans z
        cases z2
        obtain ⟨p, hp, z⟩ := List.any_eq_true.mp e2
        exact isT b ⟨p, hp, eq_of_beq z⟩
      · have z2 := (if_neg e2).symm.trans z
        cases z2
/-- the tables of the defs -/
def csOf (P : Pg) (K : PySem.W.Frag) : List (Addr × Addr) := if P.lm = true then P.defs.map fun df => He.cT K (df.name, none) else []
/-- the end of a law's row -/
theorem walkG {l : PySem.W.OpenLaw} {n k : Nat} {q : Program} {loose : List Str} {XP : (Str → Option Value) → Heap → Prop} {YP : World → Heap → Prop} {d : DefRec}
    (hn : l.most = some n) (hn2 : n ≤ sizeLine) (hdf : d.params.defaults = []) (hr : Room (3 * k) callerA)
    (F : ∀ (w : World) (mg : Str → Option Value) (fa : Addr) (h : Heap), YP w h → h.Ns mainGlobals mg → mg d.name = some (.ref fa) →
      ∃ (A : Ad) (P : Pg) (f : Nat) (df : Df), A.K.In h ∧ Prog A P mg ∧ P.defs[f]? = some df ∧ A.F f = fa ∧
        df.npar = 1 ∧ df.dfl = [] ∧ (P.lm = false → A.T = []) ∧ (∀ p ∈ csOf P A.K, h.get? p.2 = some noTab ∧ A.K.lookup p.2 = none ∧ PySem.W.codeHdIn A.K p.1 p.2 = true) ∧
        ∀ ns : List Int, ns.length ≤ n → wpC P k f [.pv (.scr (ns.map PV.int))] [] (fun v _ => v = .pv (.bl true)) (fun _ _ => False)) :
    PySem.W.WalkO q loose XP YP l.row.toRowW d [] (fun f vs => PySem.call f vs) := by
  refine Att.attach_call hn hdf ?_
  intro w s0 s1 mg mb fa o pm cd doc a vs ns G Y ho hd hcd hmg hobj hints hlen hg
  obtain ⟨A, P, f, df, KX, T, hf, rfl, hp1, hp2, hT0, hcs, hw⟩ := F w mg fa _ Y G.T.g hmg
  obtain ⟨params, body, scope, dvs, fd, ps, t⟩ := T.defs f df hf
  have hl1 : ps.length = 1 := t.np.trans hp1
  obtain ⟨x, rfl⟩ : ∃ x, ps = [x] := by
    cases ps with
    | nil => cases hl1
    | cons x r => cases r with
      | nil => exact ⟨x, rfl⟩
      | cons y r => simp at hl1
  have hb : ∀ (s : Shared) (u : Value), A.K.In s.heap → BindsTo s fd ⟨[u], []⟩ [(x, u)] := fun s u hk => by
    obtain ⟨dvs, ds, e1, e2, e3⟩ := t.bd 0 (Nat.zero_le _)
    rw [hp2] at e1
    cases e1
    cases e2
    exact e3 s [u] hk rfl
  have tin : ∀ base : Heap, (∀ p ∈ csOf P A.K, LamX.TabB base mg p.1 p.2) → TabsIn P A.K mg base := fun base h hl df hdf => h _ (by
    unfold csOf
    rw [if_pos hl]
    exact List.mem_map.mpr ⟨df, hdf, rfl⟩)
  refine lawG (cs := csOf P A.K) KX G.T.g G.T.b G.T.builtins G.T.nolimit hg (fun p hp => (hcs p hp).1) (fun p hp => (hcs p hp).2.1) (fun p hp => PySem.W.codeHd_of_K KX (hcs p hp).2.2) G.T.bmain hobj hints (Nat.le_trans hlen hn2) hr (fun base tb => defs_ok T (tin base tb) k f df hf t) hb ?_
  intro H hB
  have rl : ∀ (L : Addr → Prop) (ms : List Int), RpL A L H (ms.map PV.int) (ms.map V.int) := fun L ms => by
    induction ms with
    | nil => exact .nil
    | cons i ms ih => exact .cons (.int i) ih
  have tb : LamX.Tabs A.T H := by
    cases hl : P.lm with
    | false => rw [hT0 hl]; exact fun p hp => nomatch hp
    | true =>
      rw [T.tab hl]
      intro p hp
      obtain ⟨df', hd', rfl⟩ := List.mem_map.mp hp
      exact LamX.TabS.nil (hB.tabs (He.cT A.K (df'.name, none)) (by unfold csOf; rw [if_pos hl]; exact List.mem_map.mpr ⟨df', hd', rfl⟩))
  refine ⟨fun _ => False, [], [], [.pv (.scr (ns.map PV.int))], ⟨rfl, fun i c a e => by simp at e, fun i j c d a e => by simp at e, fun _ z => False.elim z, fun _ z => False.elim z, tb⟩, .cons ?_ .nil, wpC_mono P k k (Nat.le_refl _) _ _ _ _ _ _ _ (fun v h e => ?_) (fun _ _ z => False.elim z) (hw ns hlen)⟩
  · exact Rp.scr hB.there (rl _ ns)
  · subst e
    intro m' H' w' S' M' r
    cases r
    rfl
end G43
set_option Elab.async false
set_option linter.all false
set_option maxRecDepth 100000
set_option maxHeartbeats 4000000
namespace G43
open PySem
open L2 (V HO Hp SqL SqT Vals)
/-! ### the top's constants -/
mutual
theorem repB_ok {A : Ad} : ∀ {p : PV} {u : Value}, repB A.K p u = true → ∃ v, L2.RelV v u ∧ ∀ L H, Rp A L H p v
  | .non, u, h => by
    cases u <;> simp [repB] at h
    exact ⟨.non, rfl, fun _ _ => .non⟩
  | .bl a, u, h => by
    cases u <;> simp [repB] at h
    subst h
    exact ⟨.bl a, rfl, fun _ _ => .bl a⟩
  | .int i, u, h => by
    cases u <;> simp [repB] at h
    subst h
    exact ⟨.int i, ⟨_, rfl⟩, fun _ _ => .int i⟩
  | .str x, u, h => by
    cases u <;> simp [repB] at h
    subst h
    exact ⟨.str x, ⟨_, rfl⟩, fun _ _ => .str x⟩
  | .tup l, u, h => by
    cases u with
    | ref a =>
      simp only [repB] at h
      split at h
      · rename_i c od its n sl e
        simp only [Bool.and_eq_true, decide_eq_true_eq] at h
        obtain ⟨⟨rfl, h1⟩, h2⟩ := h
        obtain ⟨vs, r1, r2⟩ := repBs_ok h2
        exact ⟨.ref a, rfl, fun L H => .tup (.inr ⟨_, its, n, e, rfl, rfl, Nat.le_trans h1 (by decide), r1⟩) (r2 L H)⟩
      · cases h
    | _ => simp [repB] at h
  | .lst l, u, h => by cases u <;> simp [repB] at h
  | .fn l, u, h => by cases u <;> simp [repB] at h
  | .obj l, u, h => by cases u <;> simp [repB] at h
  | .scr l, u, h => by cases u <;> simp [repB] at h
  | .dct, u, h => by cases u <;> simp [repB] at h
theorem repBs_ok {A : Ad} : ∀ {ps : List PV} {us : List Value}, repBs A.K ps us = true → ∃ vs, Vals vs us ∧ ∀ L H, RpL A L H ps vs
  | [], [], _ => ⟨[], .nil, fun _ _ => .nil⟩
  | [], _ :: _, h => by simp [repBs] at h
  | _ :: _, [], h => by simp [repBs] at h
  | p :: ps, u :: us, h => by
    simp only [repBs, Bool.and_eq_true] at h
    obtain ⟨v, r1, r2⟩ := repB_ok h.1
    obtain ⟨vs, r3, r4⟩ := repBs_ok h.2
    exact ⟨v :: vs, .cons r1 r3, fun L H => .cons (r2 L H) (r4 L H)⟩
end
theorem conB_ok {A : Ad} {h : Heap} {mg : Str → Option Value} (X : A.K.In h) (G : h.Ns mainGlobals mg) {q : Str × PV} (e : conB A.K q = true) : ∃ u v, mg q.1 = some u ∧ L2.RelV v u ∧ ∀ L H, Rp A L H q.2 v := by
  unfold conB at e
  split at e
  · rename_i u hu
    obtain ⟨v, r1, r2⟩ := repB_ok e
    exact ⟨u, v, PySem.W.mg_of X G hu, r1, r2⟩
  · cases e
/-! ### what the head tells -/
theorem seeP_eq {n : Nat} {P : Pg} {fn : List He.DefD} {ex : PySem.W.Frag → Bool} {g : Addr → Option Obj} {s : Shared} (h : ∀ a, g a = s.heap.get? a) : seeP n P fn ex g = (hookP n P fn ex).obs s := by
  have e : g = s.heap.get? := funext h
  subst e
  rfl
/-- a def of the row is what the small language says -/
structure DefS (P : Pg) (df : Df) (dd : He.DefD) : Prop where
  a1 : dd.at_ = (df.name, none)
  a2 : dd.name = df.name
  a3 : dd.qual = df.name
  a4 : dd.kwd = []
  ex : ∃ ps : List Str, L2.FnScope df.N ps dd.scope ∧ ps.length = df.npar ∧
    ∀ (K : PySem.W.Frag) (f : Addr) (fd : FuncData), L2.FunD K df.name df.name dd.params dd.body dd.scope (dd.dvs K) [] f fd → ∀ n, n ≤ df.dfl.length → ∃ dvs ds, (df.dfl.drop n).mapM dfV = some dvs ∧ Vals dvs ds ∧ L2.Binds K fd ps ds
  mt : mSL P df.N dd.scope dd.scope P.lm df.body dd.body = true
inductive DefsS (P : Pg) : List Df → List He.DefD → Prop
  | nil : DefsS P [] []
  | cons {d : Df} {e : He.DefD} {ds : List Df} {es : List He.DefD} : DefS P d e → DefsS P ds es → DefsS P (d :: ds) (e :: es)
theorem DefsS.get {P : Pg} : ∀ {ds : List Df} {es : List He.DefD} {i : Nat} {d : Df}, DefsS P ds es → ds[i]? = some d → ∃ e, es[i]? = some e ∧ DefS P d e
  | _, _, _, _, .nil, h => by simp at h
  | _, _, 0, _, .cons q _, h => by simp at h; subst h; exact ⟨_, rfl, q⟩
  | _, _, i + 1, d, .cons _ r, h => by
    obtain ⟨e, h1, h2⟩ := DefsS.get (i := i) (d := d) r (by simpa using h)
    exact ⟨e, by simpa using h1, h2⟩
def adOf (P : Pg) (K : PySem.W.Frag) : Ad := ⟨K, fun f => match P.defs[f]? with | some d => He.ga K d.name | none => 0, fun c => match P.exc[c]? with | some w => He.ga K w.1 | none => 0, tOf P K⟩
theorem ca_of {P : Pg} {K : PySem.W.Frag} {c : Nat} {w : Str × Str} (h : P.exc[c]? = some w) : (adOf P K).CA c = He.ga K w.1 := by
  show (match P.exc[c]? with | some w => He.ga K w.1 | none => 0) = _
  rw [h]
theorem prog_of {P : Pg} {fn fn2 : List He.DefD} {ex : PySem.W.Frag → Bool} {K : PySem.W.Frag} {h : Heap} {mg : Str → Option Value} (X : K.In h) (G : h.Ns mainGlobals mg) (c : obsP P (fn ++ fn2) ex K = valP (fn ++ fn2)) (D : DefsS P P.defs fn) (wd : P.lm = true → WordAt (adOf P K) P K mg) : Prog (adOf P K) P mg := by
  have c0 : (facB K P (fn ++ fn2) && ex K) = true := congrArg (fun z : Bool × List He.FnW => z.1) c
  have c1 : facB K P (fn ++ fn2) = true := (Bool.and_eq_true_iff.mp c0).1
  have c3 : (fn ++ fn2).map (fun d => He.fnW K d.at_) = (fn ++ fn2).map He.DefD.val := congrArg (fun z : Bool × List He.FnW => z.2) c
  have c2 : fn.map (fun d => He.fnW K d.at_) = fn.map He.DefD.val := by
    rw [List.map_append, List.map_append] at c3
    exact List.append_inj_left c3 (by simp)
  unfold facB at c1
  simp only [Bool.and_eq_true, List.all_eq_true] at c1
  obtain ⟨⟨⟨⟨⟨g1, g2⟩, g3⟩, g4⟩, g5⟩, g6⟩ := c1
  refine ⟨fun f df hf => ?_, fun g x p hg => ?_, fun x hx => He.free_ok X G (g2 x hx), fun c hc w hw => ?_, wd, fun hl => ?_, fun hl p hp q hq e => ?_⟩
  · obtain ⟨dd, hd, s⟩ := D.get hf
    have e2 : He.fnW K dd.at_ = dd.val := by
      have e3 : (fn.map fun d => He.fnW K d.at_)[f]? = (fn.map He.DefD.val)[f]? := by rw [c2]
      rw [List.getElem?_map, List.getElem?_map, hd] at e3
      exact Option.some.inj e3
    obtain ⟨fd, F⟩ := He.DefD.funD e2 (g4 dd (List.mem_append_left _ (List.mem_of_getElem? hd)))
    have ef : (adOf P K).F f = He.ga K df.name := by
      show (match P.defs[f]? with | some d => He.ga K d.name | none => 0) = _
      rw [hf]
    have eA : He.fAd K dd.at_ = (adOf P K).F f := by
      rw [ef, s.a1]
      rfl
    have ek : dd.kws K = [] := by
      unfold He.DefD.kws
      rw [s.a4]
      rfl
    rw [eA, s.a2, s.a3, ek] at F
    obtain ⟨ps, h1, h2, h3⟩ := s.ex
    refine ⟨dd.params, dd.body, dd.scope, dd.dvs K, fd, ps, F, ef, h1, h2, s.mt, ?_, fun n hn => h3 K _ fd F n hn⟩
    rw [ef]
    exact He.glo_ok X G (g1 df (List.mem_of_getElem? hf))
  · exact conB_ok (A := adOf P K) X G (g3 (x, p) (List.mem_of_getElem? hg))
  · have q := g5 c hc
    rw [hw] at q
    have q2 := Bool.and_eq_true_iff.mp q
    rw [ca_of hw]
    obtain ⟨h1, h2, h3, h4⟩ := He.exc_ok q2.2
    exact ⟨He.glo_ok X G q2.1, h1, h2, h3, h4⟩
  · show tOf P K = _
    unfold tOf
    rw [if_pos hl]
    rfl
  · have z := g6 p hp q hq
    rw [Bool.or_eq_true, Bool.not_eq_true', decide_eq_false_iff_not, decide_eq_true_eq] at z
    exact z.resolve_left fun n => n e
/-- a further def -/
theorem fn2_of {P : Pg} {fn fn2 : List He.DefD} {ex : PySem.W.Frag → Bool} {K : PySem.W.Frag} (c : obsP P (fn ++ fn2) ex K = valP (fn ++ fn2)) {d : He.DefD} (h : d ∈ fn2) : ∃ fd, L2.FunD K d.name d.qual d.params d.body d.scope (d.dvs K) (d.kws K) (He.fAd K d.at_) fd := by
  have c0 : (facB K P (fn ++ fn2) && ex K) = true := congrArg (fun z : Bool × List He.FnW => z.1) c
  have c1 : facB K P (fn ++ fn2) = true := (Bool.and_eq_true_iff.mp c0).1
  have c3 : (fn ++ fn2).map (fun d => He.fnW K d.at_) = (fn ++ fn2).map He.DefD.val := congrArg (fun z : Bool × List He.FnW => z.2) c
  unfold facB at c1
  simp only [Bool.and_eq_true, List.all_eq_true] at c1
  have hm : d ∈ fn ++ fn2 := List.mem_append_right _ h
  obtain ⟨i, hi, rfl⟩ := List.mem_iff_getElem.mp hm
  refine He.DefD.funD ?_ (c1.1.1.2 _ hm)
  have e3 : ((fn ++ fn2).map fun d => He.fnW K d.at_)[i]? = ((fn ++ fn2).map He.DefD.val)[i]? := by rw [c3]
  rw [List.getElem?_map, List.getElem?_map, List.getElem?_eq_getElem hi] at e3
  exact Option.some.inj e3
theorem ex_of {P : Pg} {fn : List He.DefD} {ex : PySem.W.Frag → Bool} {K : PySem.W.Frag} (c : obsP P fn ex K = valP fn) : ex K = true := (Bool.and_eq_true_iff.mp (congrArg (fun z : Bool × List He.FnW => z.1) c)).2
theorem cs_of {P : Pg} {K : PySem.W.Frag} {h : Heap} (t : TabsE P K h) : ∀ p ∈ csOf P K, h.get? p.2 = some noTab ∧ K.lookup p.2 = none ∧ PySem.W.codeHdIn K p.1 p.2 = true := by
  intro p hp
  unfold csOf at hp
  split at hp
  · rename_i hl
    obtain ⟨df, hd, rfl⟩ := List.mem_map.mp hp
    obtain ⟨h1, h2, h3⟩ := t (df.name, none) (by unfold tfOf; rw [if_pos hl]; exact List.mem_map.mpr ⟨df, hd, rfl⟩)
    exact ⟨h3, h2, h1⟩
  · cases hp
end G43
set_option Elab.async false
set_option linter.all false
set_option maxRecDepth 100000
set_option maxHeartbeats 4000000
namespace G43
open PySem PySem.Spec PyProof.Rows
open L2 (V HO Hp SqL SqT upd upd_same upd_ne Cx VK TE TA TS PE PA PS PSs XK Sp Room Vals Inv frs thn WX Takes Un CR)
/-! ### the law's flags of an error -/
structure FlX (X : Cx) (a D : Addr) : Prop where
  pin : ∃ oe, (a, oe) ∈ X.pn ∧ L2.Zc (.ref D) none oe ∧ ∃ vs, oe.data = .fields vs
  ec : L2.ExcC X.K D
  bi : X.mg "isinstance" = none
section
variable {X : Cx} {a D : Addr} {p p1 p2 p3 pos : Pos}
def tIs (a : Addr) (b : Bool) : TE := fun σ H Q => σ[0]? = some (some (.ref a)) ∧ Q (.bl b) H
theorem fl_is (F : FlX X a D) {e x : Str} {C : Addr} {b : Bool} (hg1 : L2.Gl X "isinstance") (hN : X.N[0]? = some e) (hv : L2.Vis X.env.scope e) (hgx : L2.Gl X x) (hm : X.mg x = some (.ref C)) (hk : PySem.W.kitOne X.K (.ref D) (.ref C) = some b)
    (hd : (x == ("__debug__" : Str)) = false := by decide) (h1 : (e == ("__debug__" : Str)) = false := by decide) (h2 : (e == ("__classdict__" : Str)) = false := by decide) :
    PE X (.Call (.Name "isinstance" p) [.Name e p1, .Name x p2] [] pos) (tIs a b) := by
  obtain ⟨oe, q1, q2, q3⟩ := F.pin
  refine PE_imp (L2.pe_callB (call_ex F.ec q1 q2 q3) hg1 F.bi (by decide +kernel) (L2.pa_cons (L2.pe_var (i := 0) hN hv h1 h2) (L2.pa_cons (L2.pe_glob (v := .ref C) hgx hm rfl hd) L2.pa_nil))) ?_
  rintro σ H Q ⟨h1, h2⟩
  exact ⟨_, h1, _, _, b, rfl, fun u r => r, hk, h2⟩
theorem fl_ve (F : FlX X a D) {e : Str} {x : String} {b : Bool} (hg1 : L2.Gl X "isinstance") (hN : X.N[0]? = some e) (hv : L2.Vis X.env.scope e) (hgx : L2.Gl X (Str.ofString x)) (hm : X.mg (Str.ofString x) = none) (hb : bootBuiltins (Str.ofString x) = some (.type x)) (hk : PySem.W.kitOne X.K (.ref D) (.type x) = some b)
    (hn : Str.ofString x ≠ "__name__") (hd : (Str.ofString x == ("__debug__" : Str)) = false) (h1 : (e == ("__debug__" : Str)) = false := by decide) (h2 : (e == ("__classdict__" : Str)) = false := by decide) :
    PE X (.Call (.Name "isinstance" p) [.Name e p1, .Name (Str.ofString x) p2] [] pos) (tIs a b) := by
  obtain ⟨oe, q1, q2, q3⟩ := F.pin
  refine PE_imp (L2.pe_callB (call_ex F.ec q1 q2 q3) hg1 F.bi (by decide +kernel) (L2.pa_cons (L2.pe_var (i := 0) hN hv h1 h2) (L2.pa_cons (L2.pe_bltn (v := .ty x) hgx hm hb rfl hn hd) L2.pa_nil))) ?_
  rintro σ H Q ⟨h1, h2⟩
  exact ⟨_, h1, _, _, b, rfl, fun u r => r, hk, h2⟩
end
/-! ### a def that is called while an error is handled -/
structure FnY (Pr : Program) (w : World) (K : PySem.W.Frag) (mg : Str → Option Value) (base : Heap) (k : Nat) (f : Addr) (fd : FuncData) (ps : List Str) (sp : Addr × Obj → Sp) : Prop where
  len : ∀ p vs H Q E, sp p vs H Q E → vs.length = ps.length
  run : ∀ (Ar : Around) (outer : List PySem.Env) (s : Shared) (H : Hp) (args : Args) (us : List Value) (vs : List V) (Q : VK) (E : XK) (p : Addr × Obj), L2H.RoomH k Ar → L2H.PinOk outer H s p → L2.Env0 Pr w K mg base Ar outer s H →
    BindsTo s fd args (ps.zip us) → Vals vs us → sp p vs H Q E → codeAny (model Pr w) Ar (.call (.ref f) args) (CR C8.CX0 outer Pr w H s Q E) s
theorem fny_of {Pr : Program} {w : World} {K : PySem.W.Frag} {mg : Str → Option Value} {base : Heap} {k : Nat} {f : Addr} {name qual : Str} {params : Arguments} {body : List Stmt} {scope : Scope} {dV kV doc pm cdv ct oc : Value} {an od : Option Addr}
    {osl : Array (Option Value)} {N ps : List Str} {sp : Addr × Obj → Sp} (lk : K.lookup f = some ⟨oc, od, .func (PySem.W.fnOf name qual params body scope dV kV doc pm an cdv ct), osl⟩) (hcd : PySem.W.codeIn K cdv qual = true) (S : L2.FnScope N ps scope)
    (len : ∀ p vs H Q E, sp p vs H Q E → vs.length = ps.length)
    (hb : ∀ (Ar : Around) (outer : List PySem.Env) (s : Shared) (H : Hp) (vs : List V) (Q : VK) (E : XK) (p : Addr × Obj), L2H.RoomH k (Ar.deeper (envOfC qual scope s.heap.objs.size f cdv)) → sp p vs H Q E →
      ∃ t, PSs (L2H.cxH C8.CX0 Pr w K mg base N qual scope f cdv Ar outer s H E p) body t ∧ t { nx := fun _ H' => Q .non H', rt := Q } (L2.start N vs) H) :
    FnY Pr w K mg base (k + 1) f (PySem.W.fnOf name qual params body scope dV kV doc pm an cdv ct) ps sp := by
  refine ⟨len, ?_⟩
  intro Ar outer s H args us vs Q E p hr hpin e0 hbd r hsp
  have hl := len _ _ _ _ _ hsp
  have kept : ∀ b o, base.get? b = some o → s.heap.get? b = some o := fun b o e => (e0.bs b o e).1
  have KX : K.In s.heap := e0.mod.kin.keeps kept
  have hk : ∀ y ∈ ps.zip us, scope.names.lookup y.1 = some .local ∨ (scope.names.lookup y.1 = some .cell ∧ ((cellsFrom (s.heap.objs.size + 1) scope.names []).lookup y.1).isSome = true) := by
    rintro ⟨n, v⟩ hy
    exact (S.par n (List.of_mem_zip hy).1).imp id fun q => ⟨q, PySem.W.cellsFrom_some _ _ _ (.inl q)⟩
  refine codeAny_call_function hr.depth (KX _ _ lk) rfl S.co S.gen rfl (PySem.W.codeRec_of KX hcd) (hbd _ _ _ _ ?_)
  refine wpAny_newFunctionEnv_cells S.kind hk ?_
  rintro env rfl s1 x
  refine ⟨(e0.mod.nolimit.keeps kept).keeps x.toInCall.keep, codeAny_func ?_⟩
  obtain ⟨t, ht, hq⟩ := hb Ar outer s H vs Q E p (hr.deeper _) hsp
  refine wpAny_mono (ht.run [] s1 (L2.start N vs) H _ (L2H.inv_startH S hpin e0 hl r x) hq) (fun fl s' hs => ?_) (fun _ _ z => z)
  rcases fl with _ | _ | _ | u
  · obtain ⟨σ', H', J, q⟩ := hs
    exact ⟨V.non, H', J.os, J.bare, J.base, J.hok, rfl, q⟩
  · obtain ⟨_, _, _, q⟩ := hs
    exact q.elim
  · obtain ⟨_, _, _, q⟩ := hs
    exact q.elim
  · obtain ⟨v, σ', H', J, rv, q⟩ := hs
    exact ⟨v, H', J.os, J.bare, J.base, J.hok, rv, q⟩
/-- called in an except suite -/
theorem y_call {X : Cx} {k : Nat} {f a : Addr} {oe : Obj} {fd : FuncData} {x e : Str} {sp : Addr × Obj → Sp} {i : Nat} {q q1 pos : Pos} (F : FnY X.prog X.w X.K X.mg X.base k f fd [e] sp) (hr : L2H.RoomH k X.A) (hp : (a, oe) ∈ X.pn) (hg : L2.Gl X x) (hm : X.mg x = some (.ref f))
    (hk : PySem.W.keepIn X.K (.ref f) = true) (hb : L2.Binds X.K fd [e] []) {n : Str} (hN : X.N[i]? = some n) (hv : L2.Vis X.env.scope n) (h1 : (n == ("__debug__" : Str)) = false) (h2 : (n == ("__classdict__" : Str)) = false) (hdb : (x == ("__debug__" : Str)) = false) :
    PE X (.Call (.Name x q) [.Name n q1] [] pos) (fun σ H Q => ∃ v, σ[i]? = some (some v) ∧ sp (a, oe) [v] H Q C8.E0) := by
  constructor
  rintro pins s σ H Q I ⟨v, hs, h⟩
  refine wpAny_Call_Name_kw (L2.ld_glob I hg hm ?_ hdb)
  have pa := L2.pa_cons (X := X) (L2.pe_var (X := X) (pos := q1) (i := i) hN hv h1 h2) L2.pa_nil
  refine PySem.W.callWith_K (h₀ := X.base) I.ok.mod.kin hk (thn (pa.run pos pins s σ H (fun vs H1 => sp (a, oe) vs H1 Q C8.E0) I ⟨v, hs, h⟩) ?_) (by rfl) (by rfl)
  rintro us s1 ⟨vs, H1, I1, r, z⟩
  refine ⟨I1.kIn, ?_⟩
  have P1 := I1.pin (a, oe) (List.mem_append_left _ hp)
  have hpin : L2H.PinOk X.stack H1 s1 (a, oe) := ⟨P1.1, P1.2.1, fun hm => (List.mem_cons.mp (I1.stkSub a hm)).elim P1.2.2.1 P1.2.2.2.1, P1.2.2.2.2⟩
  have hl : us.length = 1 := by rw [← r.length]; exact F.len _ _ _ _ _ z
  have b := hb s1 us I1.kIn (by rw [List.append_nil]; exact hl)
  rw [List.append_nil] at b
  refine wpAny_call (codeAny_mono (F.run X.A X.stack s1 H1 ⟨us, []⟩ us vs Q C8.E0 (a, oe) hr hpin I1.env0 b r z) ?_)
  rintro (e | fl) s2 hq
  · exact (show False from hq).elim
  · rcases fl with _ | _ | _ | u
    · exact hq.elim
    · exact hq.elim
    · exact hq.elim
    · exact I1.after hq
end G43
namespace G43
open PySem
open L2 (V HO Hp upd upd_same upd_ne)
theorem at_old {H : Hp} {p b : Addr} {o u : HO} (e : H b = some u) (hp : H p = none) : upd H p o b = some u := by
  rw [upd_ne (L2.ne_of_none e hp)]
  exact e
end G43
namespace G43
theorem sln {n : Nat} (h : n ≤ 1000) : n ≤ PySem.sizeLine := Nat.le_trans h (by decide)
end G43
namespace G43
open PySem
open L2 (V HO Hp upd upd_same upd_ne SqT)
/-- more objects, the old ones as they were -/
theorem Sim.ext {A : Ad} {B : Addr → Prop} {m : List Addr} {h : Hs} {H H' : Hp} (S : Sim A B m h H) (e : ∀ b o, H b = some o → H' b = some o) : Sim A B m h H' ∧ Mv m h H m h H' := by
  have M : Mv m h H m h H' := ⟨⟨[], by simp⟩, fun b o q _ n => ⟨e b o q, n⟩⟩
  refine ⟨⟨S.len, fun i c a h1 h2 => ?_, S.inj, S.bn, fun a q => ?_, S.tb.ext e⟩, M⟩
  · obtain ⟨xs, h3, h4⟩ := S.cell i c a h1 h2
    exact ⟨xs, e _ _ h3, h4.move S M⟩
  · obtain ⟨o', e', n'⟩ := S.bt a q
    exact ⟨o', e _ _ e', n'⟩
theorem excCB_ok {K : PySem.W.Frag} {D : Addr} (h : excCB K D = true) : L2.ExcC K D := by
  unfold excCB at h
  simp only [Bool.and_eq_true, decide_eq_true_eq] at h
  obtain ⟨⟨⟨⟨⟨⟨⟨h1, h2⟩, h3⟩, h4⟩, h5⟩, h6⟩, h7⟩, h8⟩ := h
  exact ⟨h1, h2, h3, h4, h5, h6, h7, h8⟩
end G43
set_option Elab.async false
set_option linter.all false
set_option maxRecDepth 100000
set_option maxHeartbeats 4000000
namespace G43
open PySem
/-! ### the evaluator's rules, as rewriting reads them -/
def kBin (op : Operator) (x y : RV) (h : Hs) (k : PV → Prop) : Prop := ∃ p q, val h x = some p ∧ val h y = some q ∧ wpBin op p q k
def kCmp (op : CmpOp) (x y : RV) (h : Hs) (k : Bool → Prop) : Prop := ∃ p q, val h x = some p ∧ val h y = some q ∧ wpCmp op p q k
def kIf (x : RV) (k : Bool → Prop) : Prop := ∃ c, x = .pv (.bl c) ∧ k c
def kNeg (x : RV) (k : Int → Prop) : Prop := ∃ i, x = .pv (.int i) ∧ k i
def kBi (b : BI) (vs : List RV) (h : Hs) (k : PV → Prop) : Prop := ∃ ps, vs.mapM (val h) = some ps ∧ wpBi b ps k
def kIs (x : RV) (t : Ty) (h : Hs) (k : Bool → Prop) : Prop := ∃ p b, val h x = some p ∧ isB p t = some b ∧ k b
def kIx (x y : RV) (h : Hs) (k : PV → Prop) : Prop := ∃ p q, val h x = some p ∧ y = .pv q ∧ wpIx p q k
def kS1 (x y : RV) (h : Hs) (k : PV → Prop) : Prop := ∃ p i, val h x = some p ∧ y = .pv (.int i) ∧ wpSl p (some i) none k
def kS2 (x y : RV) (h : Hs) (k : PV → Prop) : Prop := ∃ p i, val h x = some p ∧ y = .pv (.int i) ∧ wpSl p none (some i) k
def kS3 (x : RV) (i : Int) (z : RV) (h : Hs) (k : PV → Prop) : Prop := ∃ p j, val h x = some p ∧ z = .pv (.int j) ∧ wpSl p (some i) (some j) k
def kPs (vs : List RV) (k : List PV → Prop) : Prop := ∃ ps, vs = ps.map RV.pv ∧ k ps
def kPv (v : RV) (k : PV → Prop) : Prop := ∃ p, v = .pv p ∧ k p
def kFr (x : RV) (h : Hs) (k : List PV → Hs → Prop) : Prop := ∃ i c, x = .ref i ∧ h[i]? = some (some c) ∧ k c (h.set i none)
def kSq (x : RV) (h1 : Hs) (Q : List PV → (Hs → Prop) → Hs → Prop) : Prop := match x with
      | .pv (.lst l) => Q l (fun _ => True) h1
      | .pv (.tup l) => Q l (fun _ => True) h1
      | .pv (.scr l) => Q l (fun _ => True) h1
      | .ref i => ∃ c, h1[i]? = some (some c) ∧ Q c (fun h => h[i]? = some (some c)) h1
      | _ => False
def kZip (x y : RV) (k : List PV → Prop) : Prop := match x, y with
      | .pv (.lst l), .pv (.lst r) => k (zipL l r)
      | .pv (.tup l), .pv (.tup r) => k (zipL l r)
      | _, _ => False
def kEnm (x : RV) (k : List PV → Prop) : Prop := match x with
      | .pv (.lst l) => k (enmL l)
      | .pv (.tup l) => k (enmL l)
      | _ => False
def kSub (x z y : RV) (h3 : Hs) (nx : Hs → Prop) : Prop := ∃ k c n j q, x = .ref k ∧ h3[k]? = some (some c) ∧ z = .pv (.int n) ∧ L2.ixN c.length n = some j ∧ y = .pv q ∧ nx (h3.set k (some (c.set j q)))
def kAp1 (x : RV) (h1 : Hs) (g : Nat → Prop) : Prop := ∃ k c0, x = .ref k ∧ h1[k]? = some (some c0) ∧ g k
def kAp2 (k : Nat) (y : RV) (h2 : Hs) (nx : Hs → Prop) : Prop := ∃ c q, h2[k]? = some (some c) ∧ y = .pv q ∧ c.length < sizeLine ∧ nx (h2.set k (some (c ++ [q])))
def kSet (ρ : Env) (i : Nat) (v : Option RV) (k : Env → Prop) : Prop := k (ρ.set i v)
def kKill (ρ : Env) (is : List Nat) (k : Env → Prop) : Prop := k (kill ρ is)
def kSetA (ρ : Env) (is : List Nat) (vs : List RV) (k : Env → Prop) : Prop := k (setAll ρ is vs)
section
variable {P : Pg} {C : CallT} {ρ : Env} {h : Hs} {Q : QV} {X : QX}
theorem n_set0 {o v k} : kSet (o :: ρ) 0 v k = k (v :: ρ) := rfl
theorem n_setS {o n v k} : kSet (o :: ρ) (n + 1) v k = kSet ρ n v fun ρ' => k (o :: ρ') := rfl
theorem n_kil0 {k} : kKill ρ [] k = k ρ := rfl
theorem n_kilS {v vs k} : kKill ρ (v :: vs) k = kKill ρ vs fun ρ' => kSet ρ' v none k := rfl
theorem n_sa0 {vs k} : kSetA ρ [] vs k = k ρ := rfl
theorem n_saS {i is v vs k} : kSetA ρ (i :: is) (v :: vs) k = kSet ρ i (some v) fun ρ' => kSetA ρ' is vs k := rfl
theorem n_slot0 {i} : (Tg.nm i).slots = [i] := rfl
theorem n_slot1 : (Tg.nil).slots = [] := rfl
theorem n_slotS {i r} : (Tg.cons (.nm i) r).slots = i :: r.slots := rfl
/-! expressions -/
theorem e_var0 {v} : wpE P C (.var 0) (some v :: ρ) h Q X = Q v h := by
  show (∃ w, some (some v) = some (some w) ∧ Q w h) = _
  simp
theorem e_varS {n o} : wpE P C (.var (n + 1)) (o :: ρ) h Q X = wpE P C (.var n) ρ h Q X := rfl
theorem e_cst {p} : wpE P C (.cst p) ρ h Q X = Q (.pv p) h := rfl
theorem e_glo {g x p} (e : P.cons[g]? = some (x, p)) : wpE P C (.glo g) ρ h Q X = Q (.pv p) h := by
  show (∃ x p, P.cons[g]? = some (x, p) ∧ Q (.pv p) h) = _
  rw [e]
  apply propext
  constructor
  · rintro ⟨_, _, e, z⟩; cases e; exact z
  · intro z; exact ⟨_, _, rfl, z⟩
theorem e_bin {op a b} : wpE P C (.bin op a b) ρ h Q X = wpE P C a ρ h (fun x h1 => wpE P C b ρ h1 (fun y h2 => kBin op x y h2 fun r => Q (.pv r) h2) X) X := rfl
theorem e_neg {a} : wpE P C (.neg a) ρ h Q X = wpE P C a ρ h (fun x h1 => kNeg x fun i => Q (.pv (.int (-i))) h1) X := rfl
theorem e_nt {a} : wpE P C (.nt a) ρ h Q X = wpE P C a ρ h (fun x h1 => kIf x fun c => Q (.pv (.bl (!c))) h1) X := rfl
theorem e_and {a b} : wpE P C (.and a b) ρ h Q X = wpE P C a ρ h (fun x h1 => kIf x fun c => if c = true then wpE P C b ρ h1 Q X else Q (.pv (.bl false)) h1) X := rfl
theorem e_or {a b} : wpE P C (.or a b) ρ h Q X = wpE P C a ρ h (fun x h1 => kIf x fun c => if c = true then Q (.pv (.bl true)) h1 else wpE P C b ρ h1 Q X) X := rfl
theorem e_cmp {op a b} : wpE P C (.cmp op a b) ρ h Q X = wpE P C a ρ h (fun x h1 => wpE P C b ρ h1 (fun y h2 => kCmp op x y h2 fun r => Q (.pv (.bl r)) h2) X) X := rfl
theorem e_chn {op op' a b c} : wpE P C (.chn op op' a b c) ρ h Q X = wpE P C a ρ h (fun x h1 => wpE P C b ρ h1 (fun y h2 => kCmp op x y h2 fun r => if r = true then
      wpE P C c ρ h2 (fun z h3 => kCmp op' y z h3 fun r => Q (.pv (.bl r)) h3) X else Q (.pv (.bl false)) h2) X) X := rfl
theorem e_ite {t a b} : wpE P C (.ite t a b) ρ h Q X = wpE P C t ρ h (fun x h1 => kIf x fun c => if c = true then wpE P C a ρ h1 Q X else wpE P C b ρ h1 Q X) X := rfl
theorem e_call {f es dv} : wpE P C (.call f es dv) ρ h Q X = wpL P C es ρ h (fun vs h1 => C f (vs ++ dv.map .pv) h1 Q X) X := rfl
theorem e_bi {b es} : wpE P C (.bi b es) ρ h Q X = wpL P C es ρ h (fun vs h1 => kBi b vs h1 fun r => Q (.pv r) h1) X := rfl
theorem e_isi {a t} : wpE P C (.isi a t) ρ h Q X = wpE P C a ρ h (fun x h1 => kIs x t h1 fun b => Q (.pv (.bl b)) h1) X := rfl
theorem e_idx {a i} : wpE P C (.idx a i) ρ h Q X = wpE P C a ρ h (fun x h1 => wpE P C i ρ h1 (fun y h2 => kIx x y h2 fun r => Q (.pv r) h2) X) X := rfl
theorem e_slo {a i} : wpE P C (.slo a i) ρ h Q X = wpE P C a ρ h (fun x h1 => wpE P C i ρ h1 (fun y h2 => kS1 x y h2 fun r => Q (.pv r) h2) X) X := rfl
theorem e_shi {a i} : wpE P C (.shi a i) ρ h Q X = wpE P C a ρ h (fun x h1 => wpE P C i ρ h1 (fun y h2 => kS2 x y h2 fun r => Q (.pv r) h2) X) X := rfl
theorem e_slh {a lo hi} : wpE P C (.slh a lo hi) ρ h Q X = wpE P C a ρ h (fun x h1 => wpE P C lo ρ h1 (fun y h2 => kNeg y fun i => wpE P C hi ρ h2 (fun z h3 => kS3 x i z h3 fun r => Q (.pv r) h3) X) X) X := rfl
theorem e_tup {es} : wpE P C (.tup es) ρ h Q X = wpL P C es ρ h (fun vs h1 => kPs vs fun ps => Q (.pv (.tup ps)) h1) X := rfl
theorem e_lst {es} : wpE P C (.lst es) ρ h Q X = wpL P C es ρ h (fun vs h1 => kPs vs fun ps => Q (.pv (.lst ps)) h1) X := rfl
theorem e_mls {es} : wpE P C (.mls es) ρ h Q X = wpL P C es ρ h (fun vs h1 => kPs vs fun ps => Q (.ref h1.length) (h1 ++ [some ps])) X := rfl
def kMad (x y : RV) (h : Hs) (Q : RV → Hs → Prop) : Prop := ∃ p q, val h x = some (.lst p) ∧ val h y = some (.lst q) ∧ p.length + q.length ≤ sizeLine ∧ Q (.ref h.length) (h ++ [some (p ++ q)])
def kMrp (x y : RV) (h : Hs) (Q : RV → Hs → Prop) : Prop := ∃ p k, val h x = some (.lst p) ∧ y = .pv (.int k) ∧ -(2 ^ 63) ≤ k ∧ k < 2 ^ 63 ∧ p.length * k.toNat ≤ sizeLine ∧ Q (.ref h.length) (h ++ [some (List.replicate k.toNat p).flatten])
def kWd (P : Pg) (x : XV) (k : Str → Prop) : Prop := ∃ w, P.exc[x.cls]? = some w ∧ x.flds = [] ∧ k w.2
theorem e_word {e} : wpE P C (.word e) ρ h Q X = wpE P C e ρ h (fun v h1 => kPv v fun p => Q (.pv (.tup [.str "told", p])) h1) (fun x h1 => kWd P x fun w => Q (.pv (.tup [.str w])) h1) := by
  show wpE P C e ρ h _ (fun x h1 => ∃ w, P.exc[x.cls]? = some w ∧ x.flds = [] ∧ Q (.pv (.tup [.str w.2])) h1) = _
  rfl
theorem e_comp {elt tg it ifs} : wpE P C (.comp elt tg it ifs) ρ h Q X = wpI P C it ρ h (fun l gd h1 => l.length ≤ sizeLine ∧
      compT gd (fun x h2 k => kKill ρ tg.slots fun ρ0 => bindT tg x ρ0 fun ρ1 => wpTs P C ifs ρ1 h2 (fun b h3 => if b = true then wpE P C elt ρ1 h3 (fun y h4 => kPv y fun p => k [p] h4) (fun _ _ => False) else k [] h3) (fun _ _ => False)) l h1 fun r h2 => Q (.pv (.lst r)) h2) X := rfl
theorem l_nil {Q : List RV → Hs → Prop} : wpL P C .nil ρ h Q X = Q [] h := rfl
theorem l_cons {e r} {Q : List RV → Hs → Prop} : wpL P C (.cons e r) ρ h Q X = wpE P C e ρ h (fun v h1 => wpL P C r ρ h1 (fun vs h2 => Q (v :: vs) h2) X) X := rfl
theorem i_seq {e} {Q : List PV → (Hs → Prop) → Hs → Prop} : wpI P C (.seq e) ρ h Q X = wpE P C e ρ h (fun x h1 => kSq x h1 Q) X := rfl
theorem i_rng1 {e} {Q : List PV → (Hs → Prop) → Hs → Prop} : wpI P C (.rng1 e) ρ h Q X = wpE P C e ρ h (fun x h1 => kNeg x fun j => -(2 ^ 62) ≤ j ∧ j < 2 ^ 62 ∧ Q (rngL 0 j.toNat) (fun _ => True) h1) X := rfl
theorem i_enm {a} {Q : List PV → (Hs → Prop) → Hs → Prop} : wpI P C (.enm a) ρ h Q X = wpE P C a ρ h (fun x h1 => kEnm x fun l => Q l (fun _ => True) h1) X := rfl
theorem ts_nil {Q : Bool → Hs → Prop} : wpTs P C .nil ρ h Q X = Q true h := rfl
theorem ts_cons {e r} {Q : Bool → Hs → Prop} : wpTs P C (.cons e r) ρ h Q X = wpE P C e ρ h (fun x h1 => kIf x fun c => Q c h1) X := rfl
theorem b_def {e} {Q : Bool → Hs → Prop} : wpB P C e ρ h Q X = wpE P C e ρ h (fun x h1 => kIf x fun c => Q c h1) X := rfl
/-! statements -/
variable {nx : Env → Hs → Prop} {rt : QV}
theorem st_set {i e} : wpS P C (.set i e) ρ h nx rt X = wpE P C e ρ h (fun v h1 => kSet ρ i (some v) fun ρ' => nx ρ' h1) X := rfl
theorem st_par {is es} : wpS P C (.par is es) ρ h nx rt X = wpL P C es ρ h (fun vs h1 => vs.length = is.length ∧ kSetA ρ is vs fun ρ' => nx ρ' h1) X := rfl
theorem st_unp {tg e} : wpS P C (.unp tg e) ρ h nx rt X = wpE P C e ρ h (fun v h1 => kPv v fun p => bindT tg p ρ fun ρ' => nx ρ' h1) X := rfl
theorem st_sub {o i v} : wpS P C (.sub o i v) ρ h nx rt X = wpE P C v ρ h (fun y h1 => wpE P C o ρ h1 (fun x h2 => wpE P C i ρ h2 (fun z h3 => kSub x z y h3 fun h4 => nx ρ h4) X) X) X := rfl
theorem s_exp {e} : wpS P C (.exp e) ρ h nx rt X = wpE P C e ρ h (fun _ h1 => nx ρ h1) X := rfl
theorem s_iff {t a b} : wpS P C (.iff t a b) ρ h nx rt X = wpE P C t ρ h (fun x h1 => kIf x fun c => if c = true then wpSL P C a ρ h1 nx rt X else wpSL P C b ρ h1 nx rt X) X := rfl
theorem s_for {kl tg it body} : wpS P C (.for kl tg it body) ρ h nx rt X = wpI P C it ρ h (fun l gd h1 => kKill ρ kl fun ρ0 => loopT gd (fun x ρ1 h2 k => bindT tg x ρ1 fun ρ2 => wpSL P C body ρ2 h2 (fun ρ3 h3 => kKill ρ3 kl fun ρ4 => k ρ4 h3) rt X) l ρ0 h1 nx) X := rfl
theorem s_whl {kl t body} : wpS P C (.whl kl t body) ρ h nx rt X = ∃ W : Nat → Env → Hs → Prop, (∃ m, W m (kill ρ kl) h) ∧ ∀ m ρ1 h1, W m ρ1 h1 → wpB P C t ρ1 h1 (fun c h2 => if c = true then
      wpSL P C body ρ1 h2 (fun ρ3 h3 => ∃ m', m' < m ∧ W m' (kill ρ3 kl) h3) rt X else nx ρ1 h2) X := rfl
theorem s_ret {e} : wpS P C (.ret e) ρ h nx rt X = wpE P C e ρ h rt X := rfl
theorem s_retN : wpS P C .retN ρ h nx rt X = rt (.pv .non) h := rfl
theorem s_rsx {c} : wpS P C (.rsx c) ρ h nx rt X = X ⟨c, []⟩ h := rfl
theorem s_pass : wpS P C .pass ρ h nx rt X = nx ρ h := rfl
theorem sl_nil : wpSL P C .nil ρ h nx rt X = nx ρ h := rfl
theorem sl_cons {s r} : wpSL P C (.cons s r) ρ h nx rt X = wpS P C s ρ h (fun ρ1 h1 => wpSL P C r ρ1 h1 nx rt X) rt X := rfl
end
/-! continuations -/
section
variable {h : Hs}
theorem k_if {c : Bool} {k : Bool → Prop} : kIf (.pv (.bl c)) k = k c := by unfold kIf; simp
theorem k_neg {i : Int} {k : Int → Prop} : kNeg (.pv (.int i)) k = k i := by unfold kNeg; simp
theorem k_bin {op p q k} : kBin op (.pv p) (.pv q) h k = wpBin op p q k := by unfold kBin; simp [val]
theorem k_cmp {op p q k} : kCmp op (.pv p) (.pv q) h k = wpCmp op p q k := by unfold kCmp; simp [val]
theorem k_bi0 {b k} : kBi b [] h k = wpBi b [] k := by unfold kBi; simp [val]
theorem k_bi1 {b p k} : kBi b [.pv p] h k = wpBi b [p] k := by unfold kBi; simp [val]
theorem k_bi2 {b p q k} : kBi b [.pv p, .pv q] h k = wpBi b [p, q] k := by unfold kBi; simp [val]
theorem k_bir {b i c k} (e : h[i]? = some (some c)) : kBi b [.ref i] h k = wpBi b [.lst c] k := by unfold kBi; simp [val, e]
theorem k_is {p t k} : kIs (.pv p) t h k = ∃ b, isB p t = some b ∧ k b := by unfold kIs; simp [val]
theorem is_tup {l} {k : Bool → Prop} : kIs (.pv (.tup l)) .tuple h k = k true := by rw [k_is]; simp [isB, tyOf]
theorem is_int {i} {k : Bool → Prop} : kIs (.pv (.int i)) .int h k = k true := by rw [k_is]; simp [isB, tyOf]
theorem is_intb {i} {k : Bool → Prop} : kIs (.pv (.int i)) .bool h k = k false := by rw [k_is]; simp [isB, tyOf]
theorem k_ixt {l i k} : kIx (.pv (.tup l)) (.pv (.int i)) h k = ∃ v, atI l i = some v ∧ k v := by unfold kIx; simp [val, wpIx]
theorem k_ixl {l i k} : kIx (.pv (.lst l)) (.pv (.int i)) h k = ∃ v, atI l i = some v ∧ k v := by unfold kIx; simp [val, wpIx]
theorem k_ixs {l i k} : kIx (.pv (.scr l)) (.pv (.int i)) h k = ∃ v, atI l i = some v ∧ k v := by unfold kIx; simp [val, wpIx]
theorem k_ixr {j c i k} (e : h[j]? = some (some c)) : kIx (.ref j) (.pv (.int i)) h k = ∃ v, atI c i = some v ∧ k v := by unfold kIx; simp [val, wpIx, e]
theorem k_ixt0 {a l k} : kIx (.pv (.tup (a :: l))) (.pv (.int 0)) h k = k a := by rw [k_ixt]; simp [atI, L2.atI, L2.ixN]
theorem k_ixt1 {a b l k} : kIx (.pv (.tup (a :: b :: l))) (.pv (.int 1)) h k = k b := by
  rw [k_ixt]
  have : atI (a :: b :: l) 1 = some b := by
    unfold atI L2.atI L2.ixN
    rw [if_pos (by omega), if_pos (by simp; omega)]
    rfl
  rw [this]; simp
theorem k_ixt2 {a b c l k} : kIx (.pv (.tup (a :: b :: c :: l))) (.pv (.int 2)) h k = k c := by
  rw [k_ixt]
  have : atI (a :: b :: c :: l) 2 = some c := by
    unfold atI L2.atI L2.ixN
    rw [if_pos (by omega), if_pos (by simp; omega)]
    rfl
  rw [this]; simp
theorem k_s1t {l i k} : kS1 (.pv (.tup l)) (.pv (.int i)) h k = k (.tup (cut l (some i) none)) := by unfold kS1; simp [val, wpSl]
theorem k_s1l {l i k} : kS1 (.pv (.lst l)) (.pv (.int i)) h k = k (.lst (cut l (some i) none)) := by unfold kS1; simp [val, wpSl]
theorem k_s1s {l i k} : kS1 (.pv (.scr l)) (.pv (.int i)) h k = k (.lst (cut l (some i) none)) := by unfold kS1; simp [val, wpSl]
theorem k_s2t {l i k} : kS2 (.pv (.tup l)) (.pv (.int i)) h k = k (.tup (cut l none (some i))) := by unfold kS2; simp [val, wpSl]
theorem k_s2l {l i k} : kS2 (.pv (.lst l)) (.pv (.int i)) h k = k (.lst (cut l none (some i))) := by unfold kS2; simp [val, wpSl]
theorem k_s3t {l i j k} : kS3 (.pv (.tup l)) i (.pv (.int j)) h k = k (.tup (cut l (some i) (some j))) := by unfold kS3; simp [val, wpSl]
theorem k_s3l {l i j k} : kS3 (.pv (.lst l)) i (.pv (.int j)) h k = k (.lst (cut l (some i) (some j))) := by unfold kS3; simp [val, wpSl]
theorem k_s3s {l i j k} : kS3 (.pv (.scr l)) i (.pv (.int j)) h k = k (.lst (cut l (some i) (some j))) := by unfold kS3; simp [val, wpSl]
theorem k_ps0 {k} : kPs [] k = k [] := by unfold kPs; simp
theorem k_psS {p vs k} : kPs (.pv p :: vs) k = kPs vs fun ps => k (p :: ps) := by
  unfold kPs
  apply propext
  constructor
  · rintro ⟨ps, e, z⟩
    cases ps with
    | nil => cases e
    | cons q qs => simp at e; obtain ⟨rfl, rfl⟩ := e; exact ⟨_, rfl, z⟩
  · rintro ⟨ps, rfl, z⟩
    exact ⟨p :: ps, rfl, z⟩
theorem k_pv {p k} : kPv (.pv p) k = k p := by unfold kPv; simp
theorem k_fr {i c k} (e : h[i]? = some (some c)) : kFr (.ref i) h k = k c (h.set i none) := by unfold kFr; simp [e]
theorem k_madp {l2 l Q} : kMad (.pv (.lst l2)) (.pv (.lst l)) h Q = (l2.length + l.length ≤ sizeLine ∧ Q (.ref h.length) (h ++ [some (l2 ++ l)])) := by unfold kMad; simp [val]
theorem k_mrpp {l n Q} : kMrp (.pv (.lst l)) (.pv (.int n)) h Q = (-(2 ^ 63) ≤ n ∧ n < 2 ^ 63 ∧ l.length * n.toNat ≤ sizeLine ∧ Q (.ref h.length) (h ++ [some (List.replicate n.toNat l).flatten])) := by unfold kMrp; simp [val]
theorem k_frT {c k} : kFr (.ref h.length) (h ++ [some c]) k = k c (h ++ [none]) := by rw [k_fr (c := c) (by simp)]; simp
theorem k_sql {l Q} : kSq (.pv (.lst l)) h Q = Q l (fun _ => True) h := rfl
theorem k_sqt {l Q} : kSq (.pv (.tup l)) h Q = Q l (fun _ => True) h := rfl
theorem k_sqs {l Q} : kSq (.pv (.scr l)) h Q = Q l (fun _ => True) h := rfl
theorem k_enml {l k} : kEnm (.pv (.lst l)) k = k (enmL l) := rfl
theorem k_enmt {l k} : kEnm (.pv (.tup l)) k = k (enmL l) := rfl
theorem k_zipl {l r k} : kZip (.pv (.lst l)) (.pv (.lst r)) k = k (zipL l r) := rfl
theorem k_zipt {l r k} : kZip (.pv (.tup l)) (.pv (.tup r)) k = k (zipL l r) := rfl
theorem k_ap1 {i c k} (e : h[i]? = some (some c)) : kAp1 (.ref i) h k = k i := by unfold kAp1; simp [e]
theorem k_ap1T {c k} : kAp1 (.ref h.length) (h ++ [some c]) k = k h.length := k_ap1 (c := c) (by simp)
theorem k_ap2 {i c p k} (e : h[i]? = some (some c)) : kAp2 i (.pv p) h k = (c.length < sizeLine ∧ k (h.set i (some (c ++ [p])))) := by unfold kAp2; simp [e]
theorem k_ap2T {c p k} : kAp2 h.length (.pv p) (h ++ [some c]) k = (c.length < sizeLine ∧ k (h ++ [some (c ++ [p])])) := by rw [k_ap2 (c := c) (by simp)]; simp
theorem k_sub {i c n p j k} (e : h[i]? = some (some c)) (e2 : L2.ixN c.length n = some j) : kSub (.ref i) (.pv (.int n)) (.pv p) h k = k (h.set i (some (c.set j p))) := by
  unfold kSub
  apply propext
  constructor
  · rintro ⟨i', c', n', j', q, e3, e4, e5, e6, e7, z⟩
    cases e3; cases e5; cases e7
    rw [e] at e4; cases e4
    rw [e2] at e6; cases e6
    exact z
  · intro z
    exact ⟨i, c, n, j, p, rfl, e, rfl, e2, rfl, z⟩
theorem take_selfS {h : Hs} {i c} : (h.set i c).take h.length = h.set i c := List.take_of_length_le (by simp)
theorem take_topS {h : Hs} {i c d} : (h.set i c ++ [d]).take h.length = h.set i c := List.take_left' (by simp)
theorem fin_pv {n Q p} : fin n Q (.pv p) h = Q (.pv p) (h.take n) := rfl
theorem take_self {h : Hs} : h.take h.length = h := List.take_length
theorem take_top {h : Hs} {c : Option (List PV)} : (h ++ [c]).take h.length = h := List.take_left
end
/-! operations -/
section
variable {k : PV → Prop} {kb : Bool → Prop}
theorem o_addi {i j} : wpBin .Add (.int i) (.int j) k = k (.int (i + j)) := rfl
theorem o_addl {i j} : wpBin .Add (.lst i) (.lst j) k = (i.length + j.length ≤ sizeLine ∧ k (.lst (i ++ j))) := rfl
theorem o_addt {i j} : wpBin .Add (.tup i) (.tup j) k = (i.length + j.length ≤ sizeLine ∧ k (.tup (i ++ j))) := rfl
theorem o_adds {i j} : wpBin .Add (.str i) (.str j) k = (i.length + j.length ≤ sizeLine ∧ k (.str (i ++ j))) := rfl
theorem o_subi {i j} : wpBin .Sub (.int i) (.int j) k = k (.int (i - j)) := rfl
theorem o_muli {i j} : wpBin .Mult (.int i) (.int j) k = (L2.CMulW i j ∧ k (.int (i * j))) := rfl
theorem o_mult {l j} : wpBin .Mult (.tup l) (.int j) k = ((l ≠ [] ∧ 2 ≤ j ∧ j ≤ 1000 ∧ l.length ≤ 1000) ∧ k (.tup (List.replicate j.toNat l).flatten)) := rfl
theorem o_divi {i j} : wpBin .FloorDiv (.int i) (.int j) k = (L2.CDivW i j ∧ k (.int (i / j))) := rfl
theorem o_modi {i j} : wpBin .Mod (.int i) (.int j) k = (0 < j ∧ k (.int (i % j))) := rfl
theorem o_powi {i j} : wpBin .Pow (.int i) (.int j) k = (L2.CPow i j ∧ k (.int (i ^ j.toNat))) := rfl
theorem c_eqi {i j} : wpCmp .Eq (.int i) (.int j) kb = kb (decide (i = j)) := by
  show (True ∧ True ∧ kb (i == j)) = _
  rw [show (i == j) = decide (i = j) from rfl]
  simp
theorem c_nei {i j} : wpCmp .NotEq (.int i) (.int j) kb = kb (decide (i ≠ j)) := by
  show (True ∧ True ∧ kb (!(i == j))) = _
  rw [show (i == j) = decide (i = j) from rfl]
  simp
theorem c_lti {i j} : wpCmp .Lt (.int i) (.int j) kb = kb (decide (i < j)) := rfl
theorem c_lei {i j} : wpCmp .LtE (.int i) (.int j) kb = kb (decide (i ≤ j)) := rfl
theorem c_gti {i j} : wpCmp .Gt (.int i) (.int j) kb = kb (decide (j < i)) := rfl
theorem c_gei {i j} : wpCmp .GtE (.int i) (.int j) kb = kb (decide (j ≤ i)) := rfl
theorem c_isn {a} : wpCmp .Is a .non kb = kb (isNon a) := by cases a <;> rfl
theorem c_isnn {a} : wpCmp .IsNot a .non kb = kb (!isNon a) := by cases a <;> rfl
theorem isn_non : isNon .non = true := rfl
theorem isn_tup {l} : isNon (.tup l) = false := rfl
theorem isn_int {l} : isNon (.int l) = false := rfl
theorem isn_lst {l} : isNon (.lst l) = false := rfl
theorem isn_str {l} : isNon (.str l) = false := rfl
theorem f_lent {l} : wpBi .len [.tup l] k = k (.int l.length) := rfl
theorem f_lenl {l} : wpBi .len [.lst l] k = k (.int l.length) := rfl
theorem f_lens {l} : wpBi .len [.scr l] k = k (.int l.length) := rfl
theorem f_abs {i} : wpBi .abs [.int i] k = k (.int (if i < 0 then -i else i)) := rfl
theorem f_max {i j} : wpBi .max [.int i, .int j] k = k (.int (if j > i then j else i)) := rfl
theorem f_int {i} : wpBi .int [.int i] k = k (.int i) := rfl
theorem f_intb {b} : wpBi .int [.bl b] k = k (.int (if b then 1 else 0)) := rfl
theorem f_tupl {l} : wpBi .tuple [.lst l] k = k (.tup l) := rfl
theorem f_tupt {l} : wpBi .tuple [.tup l] k = k (.tup l) := rfl
theorem f_lstl {l} : wpBi .list [.lst l] k = k (.lst l) := rfl
theorem f_lstt {l} : wpBi .list [.tup l] k = k (.lst l) := rfl
theorem f_all {α} {f : α → Bool} {l : List α} : wpBi .all [.lst (l.map fun x => .bl (f x))] k = k (.bl (l.all f)) := by
  have : ∀ l : List α, bools (l.map fun x => PV.bl (f x)) = some (l.map f) := fun l => by
    induction l with
    | nil => rfl
    | cons a l ih => simp [bools, ih]
  show (∃ bs, bools _ = some bs ∧ k (.bl (bs.all id))) = _
  rw [this]
  simp [List.all_map]
theorem f_any {α} {f : α → Bool} {l : List α} : wpBi .any [.lst (l.map fun x => .bl (f x))] k = k (.bl (l.any f)) := by
  have : ∀ l : List α, bools (l.map fun x => PV.bl (f x)) = some (l.map f) := fun l => by
    induction l with
    | nil => rfl
    | cons a l ih => simp [bools, ih]
  show (∃ bs, bools _ = some bs ∧ k (.bl (bs.any id))) = _
  rw [this]
  simp [List.any_map]
end
/-! targets -/
section
variable {x : PV} {ρ : Env} {k : Env → Prop}
theorem t_nm {i} : bindT (.nm i) x ρ k = kSet ρ i (some (.pv x)) k := rfl
theorem t_tup {a r y ys} : bindT (.cons a r) (.tup (y :: ys)) ρ k = bindT a y ρ fun ρ' => bindL r ys ρ' k := by
  show (∃ y' ys', PV.tup (y :: ys) = .tup (y' :: ys') ∧ _) = _
  apply propext
  constructor
  · rintro ⟨_, _, e, z⟩; cases e; exact z
  · intro z; exact ⟨_, _, rfl, z⟩
theorem t_lnil : bindL .nil [] ρ k = k ρ := by show (([] : List PV) = [] ∧ k ρ) = _; simp
theorem t_lcons {a r y ys} : bindL (.cons a r) (y :: ys) ρ k = bindT a y ρ fun ρ' => bindL r ys ρ' k := by
  show (∃ y' ys', y :: ys = y' :: ys' ∧ _) = _
  apply propext
  constructor
  · rintro ⟨_, _, e, z⟩; cases e; exact z
  · intro z; exact ⟨_, _, rfl, z⟩
end
/-! ### calls -/
theorem wpC_in {P : Pg} {d f : Nat} {df : Df} {vs : List RV} {h : Hs} {Q : QV} {X : QX} (e : P.defs[f]? = some df) (n : vs.length = df.npar)
    (b : wpSL P (wpC P d) df.body (vs.map some ++ List.replicate (df.N.length - vs.length) none) h (fun _ h' => fin h.length Q (.pv .non) h') (fin h.length Q) (fun x h' => X x (h'.take h.length))) : wpC P (d + 1) f vs h Q X := ⟨df, e, n, b⟩
/-- a call that gives r and leaves the cells -/
def Ret (P : Pg) (k f : Nat) (args : List PV) (r : PV) : Prop := ∀ d, k ≤ d → ∀ (h : Hs) (Q : QV) (X : QX), Q (.pv r) h → wpC P d f (args.map .pv) h Q X
theorem Ret.in {P : Pg} {k f : Nat} {df : Df} {args : List PV} {r : PV} (e : P.defs[f]? = some df) (n : args.length = df.npar)
    (b : ∀ d, k ≤ d → ∀ (h : Hs) (Q : QV) (X : QX), Q (.pv r) h → wpSL P (wpC P d) df.body ((args.map .pv).map some ++ List.replicate (df.N.length - (args.map RV.pv).length) none) h (fun _ h' => fin h.length Q (.pv .non) h') (fin h.length Q) (fun x h' => X x (h'.take h.length))) : Ret P (k + 1) f args r := fun d hd h Q X z => by
  obtain ⟨d, rfl⟩ : ∃ d', d = d' + 1 := ⟨d - 1, by omega⟩
  exact wpC_in e (by simpa using n) (b d (by omega) h Q X z)
theorem Ret.up {P : Pg} {k k' f : Nat} {args : List PV} {r : PV} (q : Ret P k f args r) (l : k ≤ k') : Ret P k' f args r := fun d hd => q d (Nat.le_trans l hd)
/-! ### loops -/
theorem compT_map {α : Type} {gd : Hs → Prop} {step : PV → Hs → (List PV → Hs → Prop) → Prop} {h : Hs} (enc : α → PV) (f : α → List PV) (g : gd h) :
    ∀ (l : List α) {Q : List PV → Hs → Prop}, (∀ a ∈ l, ∀ k : List PV → Hs → Prop, k (f a) h → step (enc a) h k) → Q (l.flatMap f) h → compT gd step (l.map enc) h Q
  | [], _, _, q => ⟨g, q⟩
  | x :: r, Q, hs, q => ⟨g, hs x (.head _) _ (compT_map enc f g r (fun a ha => hs a (.tail _ ha)) (by simpa using q))⟩
theorem compT_map1 {α : Type} {gd : Hs → Prop} {step : PV → Hs → (List PV → Hs → Prop) → Prop} {h : Hs} (enc : α → PV) (f : α → PV) (g : gd h)
    (l : List α) {Q : List PV → Hs → Prop} (hs : ∀ a ∈ l, ∀ k : List PV → Hs → Prop, k [f a] h → step (enc a) h k) (q : Q (l.map f) h) : compT gd step (l.map enc) h Q :=
  compT_map enc (fun a => [f a]) g l hs (by rw [← List.map_eq_flatMap]; exact q)
end G43
set_option Elab.async false
set_option linter.all false
set_option maxRecDepth 100000
set_option maxHeartbeats 4000000
namespace G43
open PySem
/-! ### parts -/
/-- a part: top and bottom -/
def pt (q : Rat) : PV := .tup [.int q.num, .int q.den]
theorem Sz.up {a b : Nat} {q : Rat} (s : Sz a q) (l : a ≤ b) : Sz b q := ⟨Nat.lt_of_lt_of_le s.1 (Nat.pow_le_pow_right (by decide) l), Nat.lt_of_lt_of_le s.2 (Nat.pow_le_pow_right (by decide) l)⟩
theorem Sz.pos {a : Nat} {p : Rat} (s : Sz a p) : 1 ≤ a := by
  rcases Nat.eq_zero_or_pos a with rfl | h
  · have := s.2
    have := p.den_pos
    simp at *
    omega
  · exact h
theorem sz_divInt {b : Nat} {n d : Int} (hn : n.natAbs < 2 ^ b) (hd : d.natAbs < 2 ^ b) (h1 : 1 ≤ b) : Sz b (Rat.divInt n d) := by
  have h2 : 1 < 2 ^ b := Nat.one_lt_pow (by omega) (by decide)
  refine ⟨?_, ?_⟩
  · rw [Rat.num_divInt]
    refine Nat.lt_of_le_of_lt (natAbs_div_le _ _) ?_
    rw [Int.natAbs_mul]
    have : d.sign.natAbs ≤ 1 := by
      rw [Int.natAbs_sign]
      split <;> omega
    have := Nat.mul_le_mul_right n.natAbs this
    omega
  · rw [Rat.den_divInt]
    split
    · exact h2
    · exact Nat.lt_of_le_of_lt (Nat.div_le_self _ _) hd
theorem log2_le {n b : Nat} (h : n < 2 ^ b) : n.log2 ≤ b := by
  by_cases z : n = 0
  · subst z; simp
  · exact Nat.le_of_lt ((Nat.log2_lt z).mpr h)
theorem mulW {a b : Nat} {i j : Int} (h1 : i.natAbs < 2 ^ a) (h2 : j.natAbs < 2 ^ b) (h : a + b < 1000000) : L2.CMulW i j := by
  have := log2_le h1
  have := log2_le h2
  unfold L2.CMulW
  omega
theorem divW {i j : Int} {a : Nat} (h1 : 0 < j) (h2 : j.natAbs < 2 ^ a) (ha : a ≤ 9000) : L2.CDivW i j := by
  refine ⟨h1, ?_⟩
  exact (Nat.log2_lt (by omega)).mpr (Nat.lt_of_lt_of_le h2 (Nat.pow_le_pow_right (by decide) ha))
theorem den_nat (q : Rat) : ((q.den : Int)).natAbs = q.den := Int.natAbs_natCast _
theorem Sz.nd {a b : Nat} {p q : Rat} (s : Sz a p) (t : Sz b q) (h : a + b < 1000000) : L2.CMulW p.num q.den := mulW s.1 (b := b) (by rw [den_nat]; exact t.2) h
theorem Sz.dd {a b : Nat} {p q : Rat} (s : Sz a p) (t : Sz b q) (h : a + b < 1000000) : L2.CMulW p.den q.den := mulW (a := a) (b := b) (by rw [den_nat]; exact s.2) (by rw [den_nat]; exact t.2) h
/-! sums as the program makes them -/
theorem divInt_cast (n : Int) (d : Nat) : Rat.divInt n (d : Int) = mkRat n d := Rat.divInt_ofNat n d
theorem add_made (p q : Rat) : Rat.divInt (p.num * q.den + q.num * p.den) (p.den * q.den) = p + q := by
  rw [← Int.natCast_mul, divInt_cast, Rat.add_def']
theorem sub_made (p q : Rat) : Rat.divInt (p.num * q.den - q.num * p.den) (p.den * q.den) = p - q := by
  rw [← Int.natCast_mul, divInt_cast, Rat.sub_def']
theorem lt_made (p q : Rat) : decide (p.num * q.den < q.num * p.den) = decide (p < q) := decide_eq_decide.mpr (Rat.lt_iff p q).symm
theorem den_pos' (q : Rat) : (0 : Int) < q.den := by have := q.den_pos; omega
/-- lowest terms -/
theorem low_pos {n d : Int} (h : 0 < d) : PV.tup [.int (n / (Int.gcd n d : Int)), .int (d / (Int.gcd n d : Int))] = pt (Rat.divInt n d) := by
  unfold pt
  rw [Rat.num_divInt, Rat.den_divInt, if_neg (by omega), Int.gcd_comm d n, Int.sign_eq_one_of_pos h, Int.one_mul]
  congr 4
  rw [Int.natCast_ediv, Int.natAbs_of_nonneg (by omega)]
theorem gcd_pos {n d : Int} (h : 0 < d) : (0 : Int) < (Int.gcd n d : Int) := by
  have : 0 < Int.gcd n d := Int.gcd_pos_of_ne_zero_right _ (by omega)
  omega
theorem gcd_lt {n d : Int} {b : Nat} (h : 0 < d) (hb : d.natAbs < 2 ^ b) : ((Int.gcd n d : Int)).natAbs < 2 ^ b := by
  rw [Int.natAbs_natCast]
  exact Nat.lt_of_le_of_lt (Int.gcd_le_natAbs_right _ (by omega)) hb
theorem gcd_step (a b : Int) (h : 0 ≤ a) (hb : 0 ≤ b) : Int.gcd (b % a) a = Int.gcd a b := by
  unfold Int.gcd
  obtain ⟨b, rfl⟩ := Int.eq_ofNat_of_zero_le hb
  obtain ⟨a, rfl⟩ := Int.eq_ofNat_of_zero_le h
  rw [← Int.natCast_emod]
  simp only [Int.natAbs_natCast]
  rw [Nat.gcd_rec a b]
theorem pt_inj {p q : Rat} : peq (pt p) (pt q) = decide (p = q) := by
  unfold pt
  simp only [peq, peqL, Bool.and_true]
  rw [show (p.num == q.num) = decide (p.num = q.num) from rfl, show ((p.den : Int) == (q.den : Int)) = decide ((p.den : Int) = (q.den : Int)) from rfl, ← Bool.decide_and]
  apply decide_eq_decide.mpr
  constructor
  · rintro ⟨a, b⟩; exact Rat.ext a (by omega)
  · rintro rfl; exact ⟨rfl, rfl⟩
theorem dt_pt {n : Nat} (p : Rat) : Dt (n + 1) (pt p) := by
  intro x hx
  simp at hx
  rcases hx with rfl | rfl <;> cases n <;> trivial
section
variable {h : Hs} {k : PV → Prop} {kb : Bool → Prop}
theorem p_ix0 {q : Rat} : kIx (.pv (pt q)) (.pv (.int 0)) h k = k (.int q.num) := k_ixt0
theorem p_ix1 {q : Rat} : kIx (.pv (pt q)) (.pv (.int 1)) h k = k (.int q.den) := k_ixt1
theorem p_len {q : Rat} : wpBi .len [pt q] k = k (.int 2) := rfl
theorem p_is {q : Rat} : kIs (.pv (pt q)) .tuple h kb = kb true := is_tup
theorem p_isn {q : Rat} : isNon (pt q) = false := rfl
theorem p_eq {p q : Rat} : wpCmp .Eq (pt p) (pt q) kb = kb (decide (p = q)) := by
  show (Dt 60 _ ∧ Dt 60 _ ∧ kb (peq (pt p) (pt q))) = _
  rw [pt_inj]
  simp [dt_pt]
theorem p_ne {p q : Rat} : wpCmp .NotEq (pt p) (pt q) kb = kb (!decide (p = q)) := by
  show (Dt 60 _ ∧ Dt 60 _ ∧ kb (!peq (pt p) (pt q))) = _
  rw [pt_inj]
  simp [dt_pt]
theorem p_01 : PV.tup [.int 0, .int 1] = pt 0 := rfl
end
end G43
set_option Elab.async false
set_option linter.all false
set_option maxRecDepth 100000
set_option maxHeartbeats 4000000
namespace G43
open PySem
/-! ### pens -/
theorem PenH.app {i : Nat} {h : Hs} (P : PenH i h) (t : Hs) : PenH i (h ++ t) := by
  have l := P.lt
  obtain ⟨p, e⟩ := P
  exact ⟨p, by rw [List.getElem?_append_left l]; exact e⟩
theorem PenH.new {h : Hs} {p : Pen} : PenH h.length (h ++ [some (penL p)]) := ⟨p, by simp⟩
theorem set_app {i : Nat} {h t : Hs} {c} (P : i < h.length) : (h ++ t).set i c = h.set i c ++ t := by
  rw [List.set_append_left _ _ P]
theorem set_appS {i : Nat} {h t : Hs} {b c} (P : i < h.length) : (h.set i b ++ t).set i c = h.set i c ++ t := by
  rw [List.set_append_left _ _ (by simpa using P), List.set_set]
theorem PenH.setapp {i : Nat} {h t : Hs} (P : PenH i h) (p : Pen) : PenH i (h.set i (some (penL p)) ++ t) := (P.set p).app t
/-- a pick of a written list -/
theorem pickL {l : List PV} {v : Int} {h : Hs} {k : PV → Prop} (h0 : 0 ≤ v) (h1 : v < l.length) (z : ∀ x ∈ l, k x) : kIx (.pv (.lst l)) (.pv (.int v)) h k := by
  rw [k_ixl]
  obtain ⟨n, rfl⟩ := Int.eq_ofNat_of_zero_le h0
  have h2 : n < l.length := by omega
  refine ⟨l[n], ?_, z _ (List.getElem_mem h2)⟩
  unfold atI L2.atI L2.ixN
  rw [if_pos h0, if_pos (by omega)]
  simp [h2]
/-- a loop where every turn goes on, whatever is drawn -/
theorem loopT_any {gd : Hs → Prop} {step : PV → Env → Hs → (Env → Hs → Prop) → Prop} {nx : Env → Hs → Prop} (I : Nat → Env → Hs → Prop) (g : ∀ n ρ h, I n ρ h → gd h)
    (l : List PV) (hs : ∀ n x ρ h (k : Env → Hs → Prop), l[n]? = some x → I n ρ h → (∀ ρ' h', I (n + 1) ρ' h' → k ρ' h') → step x ρ h k) (e : ∀ ρ h, I l.length ρ h → nx ρ h) {ρ : Env} {h : Hs} (i : I 0 ρ h) : loopT gd step l ρ h nx := by
  have main : ∀ (post : List PV) (n : Nat) ρ h, (∀ j, l[n + j]? = post[j]?) → I n ρ h → n + post.length = l.length → loopT gd step post ρ h nx := by
    intro post
    induction post with
    | nil =>
      intro n ρ h hj i hl
      refine ⟨g _ _ _ i, e _ _ ?_⟩
      rw [← hl]
      exact i
    | cons a post ih =>
      intro n ρ h hj i hl
      refine ⟨g _ _ _ i, hs n a ρ h _ (by have := hj 0; simpa using this) i fun ρ' h' i' => ih (n + 1) ρ' h' (fun j => ?_) i' (by simp at hl; omega)⟩
      have := hj (j + 1)
      simp at this
      rw [← this]
      congr 1
      omega
  exact main l 0 ρ h (fun j => by simp) i (by simp)
theorem compT_any {gd : Hs → Prop} {step : PV → Hs → (List PV → Hs → Prop) → Prop} (I : Nat → List PV → Hs → Prop) (g : ∀ n r h, I n r h → gd h) (l : List PV)
    (hs : ∀ n x r h (k : List PV → Hs → Prop), l[n]? = some x → I n r h → (∀ y h', I (n + 1) (r ++ y) h' → k y h') → step x h k) {Q : List PV → Hs → Prop} {h : Hs} (i : I 0 [] h) (e : ∀ r h, I l.length r h → Q r h) : compT gd step l h Q := by
  have main : ∀ (post : List PV) (n : Nat) (r : List PV) (h : Hs) (Q' : List PV → Hs → Prop), (∀ j, l[n + j]? = post[j]?) → I n r h → n + post.length = l.length → (∀ y h', I l.length (r ++ y) h' → Q' y h') → compT gd step post h Q' := by
    intro post
    induction post with
    | nil =>
      intro n r h Q' hj i hl q
      refine ⟨g _ _ _ i, q _ _ ?_⟩
      rw [← hl, List.append_nil]
      exact i
    | cons a post ih =>
      intro n r h Q' hj i hl q
      refine ⟨g _ _ _ i, hs n a r h _ (by have := hj 0; simpa using this) i fun y h' i' => ih (n + 1) (r ++ y) h' _ (fun j => ?_) i' (by simp at hl; omega) fun y' h'' i'' => q _ _ (by rw [← List.append_assoc]; exact i'')⟩
      have := hj (j + 1)
      simp at this
      rw [← this]
      congr 1
      omega
  exact main l 0 [] h Q (fun j => by simp) i (by simp) (fun y h' z => e _ _ (by simpa using z))
theorem sz0 : Sz 1 (0 : Rat) := ⟨by decide, by decide⟩
end G43
namespace G43
open PySem
section
variable {h : Hs} {i : Nat} {x : Option (List PV)}
theorem k_ap1S {c k} : kAp1 (.ref h.length) (h.set i x ++ [some c]) k = k h.length := k_ap1 (c := c) (by simp)
theorem k_ap2S {c p k} : kAp2 h.length (.pv p) (h.set i x ++ [some c]) k = (c.length < sizeLine ∧ k (h.set i x ++ [some (c ++ [p])])) := by
  rw [k_ap2 (c := c) (by simp), List.set_append_right _ _ (by simp)]
  simp
theorem k_frS {c k} : kFr (.ref h.length) (h.set i x ++ [some c]) k = k c (h.set i x ++ [none]) := by
  rw [k_fr (c := c) (by simp), List.set_append_right _ _ (by simp)]
  simp
theorem k_birT {b c k} : kBi b [.ref h.length] (h ++ [some c]) k = wpBi b [.lst c] k := k_bir (by simp)
theorem k_birS {b c k} : kBi b [.ref h.length] (h.set i x ++ [some c]) k = wpBi b [.lst c] k := k_bir (by simp)
theorem length_setH : (h.set i x).length = h.length := by simp
theorem set_setH {y} : (h.set i x).set i y = h.set i y := List.set_set ..
end
/-- a call that draws: its value is of G, the pen at place i another one -/
def Dr {α : Type} (P : Pg) (k f : Nat) (args : List RV) (i : Nat) (enc : α → PV) (G : α → Prop) : Prop :=
  ∀ d, k ≤ d → ∀ (h : Hs), PenH i h → ∀ (Q : QV) (X : QX), (∀ a p, G a → Q (.pv (enc a)) (h.set i (some (penL p)))) → wpC P d f args h Q X
/-- at least so many bits -/
theorem Sz.le {a b : Nat} {q : Rat} (s : Sz a q) (l : a ≤ b := by omega) : Sz b q := s.up l
theorem natAbs_lt {n : Int} {b : Nat} (h0 : 0 ≤ n) (h : n < 2 ^ b) : n.natAbs < 2 ^ b := by
  have : ((n.natAbs : Nat) : Int) < ((2 ^ b : Nat) : Int) := by rw [Int.natAbs_of_nonneg h0]; simpa using h
  omega
end G43
namespace G43
theorem x_mapnil {α β : Type} {f : α → β} : List.map f [] = [] := List.map_nil
theorem x_mapcons {α β : Type} {f : α → β} {a : α} {l : List α} : List.map f (a :: l) = f a :: List.map f l := List.map_cons
theorem x_appnil {α : Type} {l : List α} : l ++ [] = l := List.append_nil l
theorem x_consapp {α : Type} {a : α} {l m : List α} : (a :: l) ++ m = a :: (l ++ m) := rfl
theorem x_nilapp {α : Type} {l : List α} : [] ++ l = l := rfl
theorem x_lennil {α : Type} : ([] : List α).length = 0 := rfl
theorem x_lencons {α : Type} {a : α} {l : List α} : (a :: l).length = l.length + 1 := rfl
theorem x_decT {p : Prop} [Decidable p] : (decide p = true) = p := decide_eq_true_eq
theorem x_notT {b : Bool} : ((!b) = true) = (b = false) := by simp
theorem x_decF {p : Prop} [Decidable p] : (decide p = false) = ¬ p := by simp
theorem x_nt : (!true) = false := rfl
theorem x_nf : (!false) = true := rfl
theorem x_ft : (false = true) = False := by simp
theorem x_tt : (true = true) = True := by simp
theorem x_ff : (false = false) = True := by simp
theorem x_tf : (true = false) = False := by simp
theorem x_iteT {α : Sort _} {a b : α} : (if True then a else b) = a := by simp
theorem x_iteF {α : Sort _} {a b : α} : (if False then a else b) = b := by simp
theorem x_iteN {α : Sort _} {p : Prop} [Decidable p] {a b : α} : (if ¬ p then a else b) = (if p then b else a) := by by_cases h : p <;> simp [h]
theorem x_ta {p : Prop} : (True ∧ p) = p := by simp
theorem x_at {p : Prop} : (p ∧ True) = p := by simp
end G43
namespace G43
end G43
set_option Elab.async false
set_option linter.all false
set_option maxRecDepth 100000
set_option maxHeartbeats 4000000
namespace G43
open PySem
/-! ### clocks -/
def encS (a : Rat × Rat) : PV := .tup [pt a.1, pt a.2]
def ck (g : Rat) (s : List (Rat × Rat)) : PV := .tup [pt g, .tup (s.map encS)]
/-- the jumps till a moment -/
def jf (m : Rat) (a : Rat) (x : Rat × Rat) : Rat := if m < x.1 then a else a + x.2
def jt (s : List (Rat × Rat)) (m : Rat) : Rat := s.foldl (jf m) 0
def drf (g : Rat) (s : List (Rat × Rat)) (m : Rat) : Rat := m * g + jt s m
def shw (g : Rat) (s : List (Rat × Rat)) (m e : Rat) : Rat := 24 * m + e + drf g s m
/-- stretches -/
def enO : Option Rat → PV
  | none => .non
  | some q => pt q
def enSt (x : Rat × Option Rat × Rat) : PV := .tup [pt x.1, enO x.2.1, pt x.2.2]
def stf (a : Rat × Rat × List (Rat × Option Rat × Rat)) (x : Rat × Rat) : Rat × Rat × List (Rat × Option Rat × Rat) := (x.1, a.2.1 + x.2, a.2.2 ++ [(a.1, some x.1, a.2.1)])
def stAll (s : List (Rat × Rat)) : Rat × Rat × List (Rat × Option Rat × Rat) := s.foldl stf (0, 0, [])
def sts (s : List (Rat × Rat)) : List (Rat × Option Rat × Rat) := (stAll s).2.2 ++ [((stAll s).1, none, (stAll s).2.1)]
def momOf (g hour own : Rat) (x : Rat × Option Rat × Rat) : Rat := (hour - (own + x.2.2)) / (24 + g)
def momIn (g hour own : Rat) (x : Rat × Option Rat × Rat) : Bool := !decide (momOf g hour own x < x.1) && (match x.2.1 with | none => true | some e => decide (momOf g hour own x < e))
def moms (g : Rat) (s : List (Rat × Rat)) (hour own : Rat) : List Rat := (sts s).foldl (fun l x => if momIn g hour own x = true then l ++ [momOf g hour own x] else l) []
/-- changes -/
def chf (g e : Rat) (a : Rat × List (Rat × Rat)) (x : Rat × Rat) : Rat × List (Rat × Rat) := (a.1 + x.2, a.2 ++ [((24 + g) * x.1 + e + a.1, (24 + g) * x.1 + e + a.1 + x.2)])
def chs (g e : Rat) (s : List (Rat × Rat)) : List (Rat × Rat) := (s.foldl (chf g e) (0, [])).2
def tbk (g : Rat) (s : List (Rat × Rat)) (e : Rat) : List (Rat × Rat) := ((chs g e s).filter fun x => decide (x.2 < x.1)).map fun x => (x.2, x.1)
def skp (g : Rat) (s : List (Rat × Rat)) (e : Rat) : List (Rat × Rat) := (chs g e s).filter fun x => decide (x.1 < x.2)
end G43
namespace G43
open PySem
/-! ### stretches: sizes -/
def okSt (b : Nat) (y : Rat × Option Rat × Rat) : Prop := Sz b y.1 ∧ (∀ e, y.2.1 = some e → Sz b e) ∧ Sz (7 * b + 7) y.2.2
/-! ### changes: sizes -/
end G43
namespace G43
end G43
namespace G43
open PySem
section
variable {h : Hs} {i : Nat} {a b c : Int} {k : PV → Prop}
theorem pn_ix0 (e : h[i]? = some (some [.int a, .int b, .int c])) : kIx (.ref i) (.pv (.int 0)) h k = k (.int a) := by
  rw [k_ixr e]
  simp [atI, L2.atI, L2.ixN]
theorem pn_ix1 (e : h[i]? = some (some [.int a, .int b, .int c])) : kIx (.ref i) (.pv (.int 1)) h k = k (.int b) := by
  rw [k_ixr e]
  have : atI [PV.int a, .int b, .int c] 1 = some (.int b) := by
    unfold atI L2.atI L2.ixN
    rw [if_pos (by omega), if_pos (by simp)]
    rfl
  rw [this]; simp
theorem pn_ix2 (e : h[i]? = some (some [.int a, .int b, .int c])) : kIx (.ref i) (.pv (.int 2)) h k = k (.int c) := by
  rw [k_ixr e]
  have : atI [PV.int a, .int b, .int c] 2 = some (.int c) := by
    unfold atI L2.atI L2.ixN
    rw [if_pos (by omega), if_pos (by simp)]
    rfl
  rw [this]; simp
variable {kh : Hs → Prop} {v : PV}
theorem pn_sub0 (e : h[i]? = some (some [.int a, .int b, .int c])) : kSub (.ref i) (.pv (.int 0)) (.pv v) h kh = kh (h.set i (some [v, .int b, .int c])) := by
  rw [k_sub (j := 0) e (by unfold L2.ixN; rw [if_pos (by omega), if_pos (by simp)]; rfl)]
  rfl
theorem pn_sub2 (e : h[i]? = some (some [.int a, .int b, .int c])) : kSub (.ref i) (.pv (.int 2)) (.pv v) h kh = kh (h.set i (some [.int a, .int b, v])) := by
  rw [k_sub (j := 2) e (by unfold L2.ixN; rw [if_pos (by omega), if_pos (by simp)]; rfl)]
  rfl
end
end G43
namespace G43
theorem fin_new {h : Hs} {Q : QV} {c : List PV} : fin h.length Q (.ref h.length) (h ++ [some c]) = Q (.ref h.length) (h ++ [some c]) := by
  unfold fin
  simp
end G43
namespace G43
open PySem
/-- a pick of ints -/
theorem pickN {l : List PV} {v : Int} {h : Hs} {k : PV → Prop} (G : Int → Prop) (h0 : 0 ≤ v) (h1 : v < l.length) (hl : ∀ x ∈ l, ∃ n, x = .int n ∧ G n) (z : ∀ n, G n → k (.int n)) : kIx (.pv (.lst l)) (.pv (.int v)) h k := by
  refine pickL h0 h1 fun x hx => ?_
  obtain ⟨n, rfl, g⟩ := hl x hx
  exact z n g
/-- a written list's items, one by one -/
theorem all1 {α : Type} {G : α → Prop} : ∀ x ∈ ([] : List α), G x := by simp
theorem allC {α : Type} {G : α → Prop} {a : α} {l : List α} (h : G a) (hl : ∀ x ∈ l, G x) : ∀ x ∈ a :: l, G x := by
  intro x hx
  rcases List.mem_cons.mp hx with rfl | hx
  · exact h
  · exact hl x hx
theorem divInt_nonneg {n d : Int} (hn : 0 ≤ n) (hd : 0 < d) : 0 ≤ Rat.divInt n d := by
  rw [Rat.divInt_nonneg_iff_of_pos_right hd]
  exact hn
end G43
namespace G43
open PySem
theorem rng_get {lo : Int} {m n : Nat} {x : PV} (e : (rngL lo m)[n]? = some x) : x = .int (lo + n) ∧ n < m := by
  have h : n < m := by
    have := (List.getElem?_eq_some_iff.mp e).1
    simpa [rngL] using this
  unfold rngL at e
  rw [List.getElem?_map, List.getElem?_range h] at e
  simp at e
  exact ⟨e.symm, h⟩
theorem rngL_len {lo : Int} {m : Nat} : (rngL lo m).length = m := by simp [rngL]
theorem DrS.up {b n m : Nat} {s : List (Rat × Rat)} (d : DrS b n s) (h : n ≤ m) : DrS b m s := ⟨Nat.le_trans d.l h, d.p, d.o, d.z⟩
end G43
namespace G43
open PySem
theorem szl {n : Nat} (h : n ≤ 1000) : n ≤ sizeLine := Nat.le_trans h (by decide)
end G43
set_option Elab.async false
set_option linter.all false
set_option maxRecDepth 100000
set_option maxHeartbeats 4000000
namespace G43
open PySem
def upb (e : Rat) (x : Rat × Rat) : Rat × Rat := (x.1 + e, x.2 + e)
/-! equality of what is the same -/
mutual
theorem peq_refl : ∀ {n : Nat} {p : PV}, Dt n p → peq p p = true
  | _, .non, _ => rfl
  | _, .bl b, _ => by simp [peq]
  | _, .int i, _ => by simp [peq]
  | _, .str s, _ => by simp [peq]
  | 0, .tup l, h => by simp [Dt] at h
  | 0, .lst l, h => by simp [Dt] at h
  | n + 1, .tup l, h => by simp only [peq]; exact peqL_refl (n := n) h
  | n + 1, .lst l, h => by simp only [peq]; exact peqL_refl (n := n) h
  | 0, .fn _, h => by simp [Dt] at h
  | 0, .obj _, h => by simp [Dt] at h
  | 0, .scr _, h => by simp [Dt] at h
  | n + 1, .fn _, h => by simp [Dt] at h
  | n + 1, .obj _, h => by simp [Dt] at h
  | n + 1, .scr _, h => by simp [Dt] at h
  | 0, .dct, h => by simp [Dt] at h
  | n + 1, .dct, h => by simp [Dt] at h
theorem peqL_refl : ∀ {n : Nat} {l : List PV}, (∀ x ∈ l, Dt n x) → peqL l l = true
  | _, [], _ => rfl
  | n, x :: l, h => by
    simp only [peqL, Bool.and_eq_true]
    exact ⟨peq_refl (h x (by simp)), peqL_refl (fun y hy => h y (by simp [hy]))⟩
end
theorem dt_tup {n : Nat} {l : List PV} (h : ∀ x ∈ l, Dt n x) : Dt (n + 1) (.tup l) := h
end G43
namespace G43
open PySem
end G43
namespace G43
open PySem
theorem cut_mem {l : List PV} {a b : Option Int} {x : PV} (h : x ∈ cut l a b) : x ∈ l := by
  unfold cut at h
  exact List.mem_of_mem_drop (List.mem_of_mem_take h)
theorem cut_len {l : List PV} {a b : Option Int} : (cut l a b).length ≤ l.length := by
  unfold cut
  simp
  omega
theorem cells_int {ns : List Int} {c0 : Int} {a b : Option Int} {n : Nat} {x : PV} (h : (PV.int c0 :: cut (ns.map PV.int) a b)[n]? = some x) : ∃ i, x = .int i := by
  rcases List.mem_cons.mp (List.mem_of_getElem? h) with rfl | h
  · exact ⟨_, rfl⟩
  · obtain ⟨i, _, rfl⟩ := List.mem_map.mp (cut_mem h)
    exact ⟨i, rfl⟩
end G43
set_option Elab.async false
set_option linter.all false
set_option maxRecDepth 100000
set_option maxHeartbeats 4000000
namespace G43
open PySem
/-! ### stretch by stretch -/
def stR : Rat → Rat → List (Rat × Rat) → List (Rat × Option Rat × Rat)
  | b, J, [] => [(b, none, J)]
  | b, J, x :: s => (b, some x.1, J) :: stR x.1 (J + x.2) s
def chR (g e : Rat) : Rat → List (Rat × Rat) → List (Rat × Rat)
  | _, [] => []
  | J, x :: s => ((24 + g) * x.1 + e + J, (24 + g) * x.1 + e + J + x.2) :: chR g e (J + x.2) s
/-- 1 where it is so -/
def ind (p : Prop) [Decidable p] : Int := if p then 1 else 0
/-- an hour lies in a pair -/
def inP (hour : Rat) (x : Rat × Rat) : Bool := !decide (hour < x.1) && decide (hour < x.2)
end G43
set_option Elab.async false
set_option linter.all false
set_option maxRecDepth 100000
set_option maxHeartbeats 4000000
namespace G43
open PySem
/-! ### what is shown by repr -/
def Shw (n w : Nat) (p : PV) : Prop := Dt n p ∧ (dat p).showable = true ∧ (dat p).shown.length ≤ w
theorem Dt.up : ∀ {n m : Nat} {p : PV}, Dt n p → n ≤ m → Dt m p := by
  intro n
  induction n with
  | zero =>
    intro m p h _
    cases p <;> first | (cases m <;> trivial) | (simp [Dt] at h; done) | (cases m <;> simpa [Dt] using h)
  | succ n ih =>
    intro m p h z
    obtain ⟨m, rfl⟩ : ∃ k, m = k + 1 := ⟨m - 1, by omega⟩
    cases p with
    | tup l =>
      have h' : ∀ x ∈ l, Dt n x := h
      exact fun x hx => ih (h' x hx) (by omega)
    | lst l =>
      have h' : ∀ x ∈ l, Dt n x := h
      exact fun x hx => ih (h' x hx) (by omega)
    | non => trivial
    | bl b => trivial
    | int i => trivial
    | str s => simpa [Dt] using h
    | fn f => simp [Dt] at h
    | obj f => simp [Dt] at h
    | scr f => simp [Dt] at h
    | dct => simp [Dt] at h
theorem Shw.up {n m w v : Nat} {p : PV} (h : Shw n w p) (hn : n ≤ m) (hw : w ≤ v) : Shw m v p := ⟨h.1.up hn, h.2.1, Nat.le_trans h.2.2 hw⟩
theorem shw_int {n : Nat} {i : Int} (h : i.natAbs < 2 ^ 1900) : Shw n 1925 (.int i) := by
  have h0 : i.natAbs.log2 < 1910 := by
    by_cases z : i.natAbs = 0
    · rw [z]; decide
    · exact (Nat.log2_lt z).mpr (Nat.lt_of_lt_of_le h (Nat.pow_le_pow_right (by decide) (by decide)))
  clear h
  refine ⟨by cases n <;> trivial, ?_, ?_⟩
  · simp only [dat, PyData.showable, decide_eq_true_eq]
    omega
  · simp only [dat]
    rw [PyData.shown_int, ofString_length]
    have := int_text_length_le (k := 1910) (by decide) h0
    omega
theorem shw_non {n : Nat} : Shw n 5 .non := ⟨by cases n <;> trivial, by simp [dat, PyData.showable], by decide⟩
theorem f_repr {n w : Nat} {p : PV} {k : PV → Prop} (h : Shw n w p) (hn : n ≤ 60) (hw : w ≤ 16777216) : wpBi .repr [p] k = k (.str (dat p).shown) := by
  show (Dt 60 p ∧ (dat p).showable = true ∧ (dat p).shown.length ≤ sizeLine ∧ k (.str (dat p).shown)) = _
  have : (dat p).shown.length ≤ sizeLine := Nat.le_trans h.2.2 (by rw [sizeLine_eq]; exact hw)
  simp [h.1.up hn, h.2.1, this]
theorem ns_same {s : Str} {k : Bool → Prop} : wpCmp .NotEq (.str s) (.str s) k = k false := by
  show k (!(s == s)) = _
  simp
end G43
namespace G43
open PySem
end G43
namespace G43
open PySem
theorem k_ixl0 {h : Hs} {a : PV} {l : List PV} {k : PV → Prop} : kIx (.pv (.lst (a :: l))) (.pv (.int 0)) h k = k a := by rw [k_ixl]; simp [atI, L2.atI, L2.ixN]
theorem k_ixl1 {h : Hs} {a b : PV} {l : List PV} {k : PV → Prop} : kIx (.pv (.lst (a :: b :: l))) (.pv (.int 1)) h k = k b := by
  rw [k_ixl, ← k_ixt (h := h)]; exact k_ixt1
theorem k_ixl2 {h : Hs} {a b c : PV} {l : List PV} {k : PV → Prop} : kIx (.pv (.lst (a :: b :: c :: l))) (.pv (.int 2)) h k = k c := by
  rw [k_ixl, ← k_ixt (h := h)]; exact k_ixt2
end G43
set_option Elab.async false
set_option linter.all false
set_option maxRecDepth 100000
set_option maxHeartbeats 4000000
namespace G43
open PySem
/-! ### any things -/
def plain : PV → Bool
  | .fn _ => false
  | .obj _ => false
  | .scr _ => false
  | _ => true
def plain2 : PV → Bool
  | .tup l => l.all plain
  | p => plain p
def whole : PV → Bool
  | .int _ => true
  | _ => false
def isPt : PV → Bool
  | .tup [.int n, .int d] => decide (0 < d) && decide (Int.gcd n d = 1)
  | _ => false
theorem isPt_pt {p : PV} (h : isPt p = true) : ∃ q : Rat, p = pt q := by
  unfold isPt at h
  split at h
  · rename_i n d
    rw [Bool.and_eq_true, decide_eq_true_eq, decide_eq_true_eq] at h
    refine ⟨⟨n, d.toNat, by omega, ?_⟩, ?_⟩
    · have : Nat.gcd n.natAbs d.natAbs = 1 := h.2
      have e : d.toNat = d.natAbs := by omega
      show Nat.Coprime _ _
      rw [e]
      exact this
    · unfold pt
      have e : (d.toNat : Int) = d := Int.toNat_of_nonneg (by omega)
      show _ = PV.tup [.int n, .int (d.toNat : Int)]
      rw [e]
  · cases h
theorem pt_isPt (q : Rat) : isPt (pt q) = true := by
  unfold pt isPt
  rw [Bool.and_eq_true, decide_eq_true_eq, decide_eq_true_eq]
  refine ⟨den_pos' q, ?_⟩
  unfold Int.gcd
  rw [den_nat]
  exact q.reduced
/-- a call that raises -/
def Rse (P : Pg) (k f : Nat) (args : List PV) (c : Nat) : Prop := ∀ d, k ≤ d → ∀ (h : Hs) (Q : QV) (X : QX), X ⟨c, []⟩ h → wpC P d f (args.map .pv) h Q X
end G43
namespace G43
open PySem
section
variable {h : Hs} {k : Bool → Prop}
theorem is_tupA {p : PV} (hp : plain p = true) : kIs (.pv p) .tuple h k = k (match p with | .tup _ => true | _ => false) := by
  rw [k_is]; cases p <;> first | (cases hp; done) | simp [isB, tyOf]
theorem is_intA {p : PV} (hp : plain p = true) : kIs (.pv p) .int h k = k (match p with | .int _ => true | .bl _ => true | _ => false) := by
  rw [k_is]; cases p <;> first | (cases hp; done) | simp [isB, tyOf]
theorem is_boolA {p : PV} (hp : plain p = true) : kIs (.pv p) .bool h k = k (match p with | .bl _ => true | _ => false) := by
  rw [k_is]; cases p <;> first | (cases hp; done) | simp [isB, tyOf]
end
end G43
set_option Elab.async false
set_option linter.all false
set_option maxRecDepth 100000
set_option maxHeartbeats 4000000
namespace G43
open PySem
/-! ### tellings and rows -/
structure Tel where
  a : Nat
  b : Nat
  lo : Option Rat
  hi : Option Rat
def ob : Option Rat → PV
  | none => .non
  | some q => pt q
def encT (t : Tel) : PV := .tup [.int t.a, .int t.b, ob t.lo, ob t.hi]
structure OkT (s : Nat) (t : Tel) : Prop where
  a6 : t.a < 6
  b6 : t.b < 6
  ne : t.a ≠ t.b
  so : t.lo ≠ none ∨ t.hi ≠ none
  le : ∀ l h, t.lo = some l → t.hi = some h → ¬ h < l
  zl : ∀ l, t.lo = some l → Sz s l
  zh : ∀ l, t.hi = some l → Sz s l
def tls (ts : List Tel) : PV := .tup (ts.map encT)
def rowP (r : List Rat) : PV := .tup (r.map pt)
def keptT (t : Tel) (r : List Rat) : Bool :=
  (match t.lo with | none => true | some l => !decide (r.getD t.b 0 - r.getD t.a 0 < l)) && (match t.hi with | none => true | some h => !decide (h < r.getD t.b 0 - r.getD t.a 0))
def fstIdx {α : Type} (bad : α → Bool) : List α → Nat → Option Nat
  | [], _ => none
  | a :: l, n => if bad a = true then some n else fstIdx bad l (n + 1)
def numP : Option Nat → PV
  | none => .non
  | some n => .int n
theorem enmL_map {α : Type} (f : α → PV) (l : List α) : enmL (l.map f) = (l.zipIdx).map fun p => PV.tup [.int p.2, f p.1] := by
  unfold enmL
  rw [List.zipIdx_map, List.map_map]
  rfl
/-- a loop that looks for the first one -/
theorem loopT_find {α : Type} {gd : Hs → Prop} {step : PV → Env → Hs → (Env → Hs → Prop) → Prop} {nx : Env → Hs → Prop} {ρ : Env} {h : Hs} (enc : Nat → α → PV) (bad : α → Bool) (R : Option Nat → Prop) (g : gd h) :
    ∀ (l : List α) (n0 : Nat), (∀ n a (k : Env → Hs → Prop), a ∈ l → (if bad a = true then R (some n) else k ρ h) → step (enc n a) ρ h k) → (R none → nx ρ h) → R (fstIdx bad l n0) → loopT gd step ((l.zipIdx n0).map fun p => enc p.2 p.1) ρ h nx
  | [], _, _, e, r => ⟨g, e r⟩
  | a :: l, n0, hs, e, r => by
    rw [List.zipIdx_cons, List.map_cons]
    refine ⟨g, hs n0 a _ (by simp) ?_⟩
    by_cases hb : bad a = true
    · rw [if_pos hb]
      rw [fstIdx, if_pos hb] at r
      exact r
    · rw [if_neg hb]
      rw [fstIdx, if_neg hb] at r
      exact loopT_find enc bad R g l (n0 + 1) (fun n a k ha => hs n a k (by simp [ha])) e r
def inB (a b : Int) : PV → Bool
  | .int n => decide (a ≤ n) && decide (n ≤ b)
  | _ => false
def isRow : PV → Bool
  | .tup (x :: l) => decide (l.length = 5) && (x :: l).all isPt && peq x (.tup [.int 0, .int 1])
  | _ => false
theorem k_ixt3 {h : Hs} {a b c e : PV} {l : List PV} {k : PV → Prop} : kIx (.pv (.tup (a :: b :: c :: e :: l))) (.pv (.int 3)) h k = k e := by
  rw [k_ixt]
  have : atI (a :: b :: c :: e :: l) 3 = some e := by
    unfold atI L2.atI L2.ixN
    rw [if_pos (by decide), if_pos (by simp; omega)]
    rfl
  rw [this]
  simp
theorem k_ixl3 {h : Hs} {a b c e : PV} {l : List PV} {k : PV → Prop} : kIx (.pv (.lst (a :: b :: c :: e :: l))) (.pv (.int 3)) h k = k e := by
  rw [k_ixl, ← k_ixt (h := h)]; exact k_ixt3
theorem compT_pv {gd : Hs → Prop} {step : PV → Hs → (List PV → Hs → Prop) → Prop} {h : Hs} (f : PV → PV) (g : gd h) (l : List PV) (hs : ∀ a ∈ l, ∀ k, k [f a] h → step a h k) {Q : List PV → Hs → Prop} (q : Q (l.map f) h) : compT gd step l h Q := by
  have := compT_map1 (fun x => x) f g l hs q
  rwa [List.map_id'] at this
structure RowOk (s : Nat) (r : List Rat) : Prop where
  l : r.length = 6
  z : r.getD 0 0 = 0
  s : ∀ i, Sz s (r.getD i 0)
theorem set_same {h : Hs} {i : Nat} {v : Option (List PV)} (e : h[i]? = some v) : h.set i v = h := by
  obtain ⟨hi, e⟩ := List.getElem?_eq_some_iff.mp e
  rw [← e]
  exact List.set_getElem_self hi
theorem getD_sz {s : Nat} (hs : 1 ≤ s) {r : List Rat} (h : ∀ q ∈ r, Sz s q) (i : Nat) : Sz s (r.getD i 0) := by
  by_cases hi : i < r.length
  · rw [List.getD_eq_getElem?_getD, List.getElem?_eq_getElem hi]
    exact h _ (List.getElem_mem hi)
  · rw [List.getD_eq_getElem?_getD, List.getElem?_eq_none (by omega)]
    exact sz0.up hs
theorem isPt_made {n m : Int} (h0 : 0 < m) : isPt (.tup [.int n, .int m]) = peq (pt (Rat.divInt n m)) (.tup [.int n, .int m]) := by
  show (decide (0 < m) && decide (Int.gcd n m = 1)) = _
  rw [decide_eq_true h0, Bool.true_and, ← low_pos h0]
  simp only [peq, peqL, Bool.and_true]
  rw [Bool.eq_iff_iff, decide_eq_true_eq, Bool.and_eq_true, beq_iff_eq, beq_iff_eq]
  constructor
  · intro g
    rw [g]
    simp
  · rintro ⟨_, g⟩
    have hg := gcd_pos (n := n) h0
    have dv : (Int.gcd n m : Int) ∣ m := Int.gcd_dvd_right ..
    have g2 := Int.ediv_mul_cancel dv
    rw [g] at g2
    have g3 : ((Int.gcd n m : Int) - 1) * m = 0 := by rw [Int.sub_mul, Int.one_mul, Int.mul_comm, g2]; omega
    rcases Int.mul_eq_zero.mp g3 with z | z
    · omega
    · omega
theorem cut_take {l : List PV} {n : Int} (h0 : 0 ≤ n) (h : n ≤ l.length) : cut l none (some n) = l.take n.toNat := by
  have e1 : HT.sIx l.length 0 none = 0 := rfl
  have e2 : HT.sIx l.length l.length (some n) = n.toNat := by
    unfold HT.sIx
    simp only
    split <;> omega
  unfold cut
  rw [e1, e2, List.drop_zero, Nat.sub_zero]
theorem cut_drop {l : List PV} {n : Int} (h0 : 0 ≤ n) (h : n ≤ l.length) : cut l (some n) none = l.drop n.toNat := by
  have e1 : HT.sIx l.length 0 (some n) = n.toNat := by
    unfold HT.sIx
    simp only
    split <;> omega
  have e2 : HT.sIx l.length l.length none = l.length := rfl
  unfold cut
  rw [e1, e2, List.take_of_length_le (by rw [List.length_drop]; omega)]
theorem cut_last {l : List PV} {x : PV} : cut (l ++ [x]) none (some (-1)) = l := by
  have e1 : HT.sIx (l ++ [x]).length 0 none = 0 := rfl
  have e2 : HT.sIx (l ++ [x]).length (l ++ [x]).length (some (-1)) = l.length := by
    unfold HT.sIx
    simp only [List.length_append, List.length_singleton]
    split <;> omega
  unfold cut
  rw [e1, e2, List.drop_zero, Nat.sub_zero, List.take_left' rfl]
theorem at_last {l : List PV} {x : PV} : atI (l ++ [x]) (-1) = some x := by
  unfold atI L2.atI L2.ixN
  rw [if_neg (by decide), if_pos (by rw [List.length_append]; simp; omega)]
  have e : (-1 + ((l ++ [x]).length : Int)).toNat = l.length := by rw [List.length_append, List.length_singleton]; omega
  show (l ++ [x])[(-1 + ((l ++ [x]).length : Int)).toNat]? = some x
  rw [e]
  simp
theorem put_row {r : List Rat} {n : Nat} {q : Rat} (h : n < r.length) : (r.map pt).take n ++ [pt q] ++ (r.map pt).drop (n + 1) = (r.set n q).map pt := by
  rw [List.set_eq_take_append_cons_drop, if_pos h]
  simp
theorem notRow {l : List PV} (h : ∃ x ∈ l, isPt x = false) : isRow (.tup l) = false := by
  cases l with
  | nil => rfl
  | cons x l =>
    show (decide (l.length = 5) && (x :: l).all isPt && peq x (.tup [.int 0, .int 1])) = false
    have : (x :: l).all isPt = false := by
      obtain ⟨y, hy, e⟩ := h
      rw [List.all_eq_false]
      exact ⟨y, hy, by rw [e]; decide⟩
    rw [this]
    simp
theorem notRowL {l : List PV} (h : l.length ≠ 6) : isRow (.tup l) = false := by
  cases l with
  | nil => rfl
  | cons x l =>
    show (decide (l.length = 5) && (x :: l).all isPt && peq x (.tup [.int 0, .int 1])) = false
    rw [decide_eq_false (by simp at h; omega)]
    simp
theorem notRow0 {x : PV} {l : List PV} (h : peq x (.tup [.int 0, .int 1]) = false) : isRow (.tup (x :: l)) = false := by
  show (decide (l.length = 5) && (x :: l).all isPt && peq x (.tup [.int 0, .int 1])) = false
  rw [h]
  simp
theorem dt_str {n : Nat} {s : Str} (e : PyData.strOk s = true) : Dt n (.str s) := by cases n <;> exact e
theorem ns_wd {s : Str} {k : Bool → Prop} (e : PyData.strOk s = true) (z : k false) : wpCmp .NotEq (.tup [.str s]) (.tup [.str s]) k := by
  show Dt 60 _ ∧ Dt 60 _ ∧ k (!peq (.tup [.str s]) (.tup [.str s]))
  have d0 : Dt 60 (.tup [.str s]) := dt_tup (n := 59) (allC (dt_str e) all1)
  refine ⟨d0, d0, ?_⟩
  simpa [peq, peqL] using z
/-- a thing that is no row -/
structure Bd (b : Nat) (x : PV) : Prop where
  p : plain x = true
  q : ∀ l, x = .tup l → ∀ y ∈ l, plain2 y = true ∧ ∀ n m, y = .tup [.int n, .int m] → m.natAbs < 2 ^ b
  r : isRow x = false
theorem ptSz {b : Nat} {q : Rat} (s : Sz b q) : plain2 (pt q) = true ∧ ∀ n m, pt q = .tup [.int n, .int m] → m.natAbs < 2 ^ b := by
  refine ⟨rfl, ?_⟩
  intro n m e
  unfold pt at e
  cases e
  rw [den_nat]
  exact s.2
theorem RowOk.up {a b : Nat} {r : List Rat} (k : RowOk a r) (h : a ≤ b) : RowOk b r := ⟨k.l, k.z, fun i => (k.s i).up h⟩
theorem OkT.up {a b : Nat} {t : Tel} (k : OkT a t) (h : a ≤ b) : OkT b t := ⟨k.a6, k.b6, k.ne, k.so, k.le, fun l e => (k.zl l e).up h, fun l e => (k.zh l e).up h⟩
theorem fst_le {α : Type} {bad : α → Bool} : ∀ {l : List α} {n m : Nat}, fstIdx bad l n = some m → m < n + l.length
  | [], _, _, e => by cases e
  | a :: l, n, m, e => by
    unfold fstIdx at e
    split at e
    · cases e; simp
    · have := fst_le e; simp; omega
theorem shw_num {α : Type} {bad : α → Bool} {l : List α} (h : l.length ≤ 16) : Shw 1 1925 (numP (fstIdx bad l 0)) := by
  cases e : fstIdx bad l 0 with
  | none => exact shw_non.up (Nat.le_refl _) (by decide)
  | some m =>
    have := fst_le e
    refine shw_int ?_
    have h1 : (2 : Nat) ^ 10 ≤ 2 ^ 1900 := Nat.pow_le_pow_right (by decide) (by decide)
    have h2 : m < 2 ^ 10 := by omega
    exact Nat.lt_of_lt_of_le h2 h1
theorem ixRow'  {h : Hs} {r : List Rat} {i : Int} (hr : r.length = 6) (h0 : 0 ≤ i) (hi : i < 6) {k : PV → Prop} : kIx (.pv (.tup (r.map pt))) (.pv (.int i)) h k = k (pt (r.getD i.toNat 0)) := by
  rw [k_ixt]
  have e : atI (r.map pt) i = some (pt (r.getD i.toNat 0)) := by
    unfold atI L2.atI L2.ixN
    rw [if_pos h0, if_pos (by rw [List.length_map]; omega)]
    simp only [Option.bind_some, List.getElem?_map, List.getD_eq_getElem?_getD]
    rw [List.getElem?_eq_getElem (show i.toNat < r.length by omega)]
    rfl
  rw [e]
  simp
theorem ixRow {h : Hs} {r : List Rat} {i : Nat} (hr : r.length = 6) (hi : i < 6) {k : PV → Prop} : kIx (.pv (rowP r)) (.pv (.int i)) h k = k (pt (r.getD i 0)) := by
  unfold rowP
  rw [k_ixt]
  have e : atI (r.map pt) (i : Int) = some (pt (r.getD i 0)) := by
    have h0 : ¬ ((i : Int) < 0) := by omega
    have h1 : (i : Int) < (r.map pt).length := by rw [List.length_map]; omega
    simp [atI, L2.atI, L2.ixN, h0, hr]
    rw [if_pos (by omega)]
    simp [List.getD, List.getElem?_eq_getElem (show i < r.length by omega)]
  rw [e]
  simp
end G43
set_option Elab.async false
set_option linter.all false
set_option maxRecDepth 100000
set_option maxHeartbeats 0
namespace Law
open PySem G43
/-! ### the same in the small language -/
abbrev i_is_whole : Nat := 0
abbrev i_is_from_to : Nat := 1
abbrev i_shared : Nat := 2
abbrev i_lowest : Nat := 3
abbrev i_is_part : Nat := 4
abbrev i_minus : Nat := 5
abbrev i_below : Nat := 6
abbrev i_is_clock_number : Nat := 7
abbrev i_are_bounds : Nat := 8
abbrev i_is_telling : Nat := 9
abbrev i_are_tellings : Nat := 10
abbrev i_need_tellings : Nat := 11
abbrev i_is_row : Nat := 12
abbrev i_need_row : Nat := 13
abbrev i_is_kept : Nat := 14
abbrev i_first_broken : Nat := 15
abbrev i__law_cell_at : Nat := 16
abbrev i__law_next : Nat := 17
abbrev i__law_pen_of : Nat := 18
abbrev i__law_draw : Nat := 19
abbrev i__law_made : Nat := 20
abbrev i__law_sum : Nat := 21
abbrev i__law_rest : Nat := 22
abbrev i__law_under : Nat := 23
abbrev i__law_some : Nat := 24
abbrev i__law_up : Nat := 25
abbrev i__law_row : Nat := 26
abbrev i__law_true : Nat := 27
abbrev i__law_shifted : Nat := 28
abbrev i__law_is_part : Nat := 29
abbrev i__law_is_row : Nat := 30
abbrev i__law_broken : Nat := 31
abbrev i_law : Nat := 32
section
variable {C : CallT} {ρ : G43.Env} {d : Nat} {h : Hs} {Q : QV} {X : QX}
theorem g_NOUGHT : wpE pg C (.glo 0) ρ h Q X = Q (.pv (pt 0)) h := e_glo rfl
theorem g_CLOCKS : wpE pg C (.glo 1) ρ h Q X = Q (.pv (.int 6)) h := e_glo rfl
theorem g_MOST_TELLINGS : wpE pg C (.glo 2) ρ h Q X = Q (.pv (.int 16)) h := e_glo rfl
theorem in_is_whole {a0 : RV} (b : wpSL pg (wpC pg d) b_is_whole [some a0] h (fun _ h' => fin h.length Q (.pv .non) h') (fin h.length Q) (fun x h' => X x (h'.take h.length))) : wpC pg (d + 1) i_is_whole [a0] h Q X := wpC_in rfl rfl b
theorem in_is_from_to {a0 a1 a2 : RV} (b : wpSL pg (wpC pg d) b_is_from_to [some a0, some a1, some a2] h (fun _ h' => fin h.length Q (.pv .non) h') (fin h.length Q) (fun x h' => X x (h'.take h.length))) : wpC pg (d + 1) i_is_from_to [a0, a1, a2] h Q X := wpC_in rfl rfl b
theorem in_shared {a0 a1 : RV} (b : wpSL pg (wpC pg d) b_shared [some a0, some a1] h (fun _ h' => fin h.length Q (.pv .non) h') (fin h.length Q) (fun x h' => X x (h'.take h.length))) : wpC pg (d + 1) i_shared [a0, a1] h Q X := wpC_in rfl rfl b
theorem in_lowest {a0 a1 : RV} (b : wpSL pg (wpC pg d) b_lowest [some a0, some a1, none] h (fun _ h' => fin h.length Q (.pv .non) h') (fin h.length Q) (fun x h' => X x (h'.take h.length))) : wpC pg (d + 1) i_lowest [a0, a1] h Q X := wpC_in rfl rfl b
theorem in_is_part {a0 : RV} (b : wpSL pg (wpC pg d) b_is_part [some a0] h (fun _ h' => fin h.length Q (.pv .non) h') (fin h.length Q) (fun x h' => X x (h'.take h.length))) : wpC pg (d + 1) i_is_part [a0] h Q X := wpC_in rfl rfl b
theorem in_minus {a0 a1 : RV} (b : wpSL pg (wpC pg d) b_minus [some a0, some a1] h (fun _ h' => fin h.length Q (.pv .non) h') (fin h.length Q) (fun x h' => X x (h'.take h.length))) : wpC pg (d + 1) i_minus [a0, a1] h Q X := wpC_in rfl rfl b
theorem in_below {a0 a1 : RV} (b : wpSL pg (wpC pg d) b_below [some a0, some a1] h (fun _ h' => fin h.length Q (.pv .non) h') (fin h.length Q) (fun x h' => X x (h'.take h.length))) : wpC pg (d + 1) i_below [a0, a1] h Q X := wpC_in rfl rfl b
theorem in_is_clock_number {a0 : RV} (b : wpSL pg (wpC pg d) b_is_clock_number [some a0] h (fun _ h' => fin h.length Q (.pv .non) h') (fin h.length Q) (fun x h' => X x (h'.take h.length))) : wpC pg (d + 1) i_is_clock_number [a0] h Q X := wpC_in rfl rfl b
theorem in_are_bounds {a0 a1 : RV} (b : wpSL pg (wpC pg d) b_are_bounds [some a0, some a1] h (fun _ h' => fin h.length Q (.pv .non) h') (fin h.length Q) (fun x h' => X x (h'.take h.length))) : wpC pg (d + 1) i_are_bounds [a0, a1] h Q X := wpC_in rfl rfl b
theorem in_is_telling {a0 : RV} (b : wpSL pg (wpC pg d) b_is_telling [some a0] h (fun _ h' => fin h.length Q (.pv .non) h') (fin h.length Q) (fun x h' => X x (h'.take h.length))) : wpC pg (d + 1) i_is_telling [a0] h Q X := wpC_in rfl rfl b
theorem in_are_tellings {a0 : RV} (b : wpSL pg (wpC pg d) b_are_tellings [some a0, none] h (fun _ h' => fin h.length Q (.pv .non) h') (fin h.length Q) (fun x h' => X x (h'.take h.length))) : wpC pg (d + 1) i_are_tellings [a0] h Q X := wpC_in rfl rfl b
theorem in_need_tellings {a0 : RV} (b : wpSL pg (wpC pg d) b_need_tellings [some a0] h (fun _ h' => fin h.length Q (.pv .non) h') (fin h.length Q) (fun x h' => X x (h'.take h.length))) : wpC pg (d + 1) i_need_tellings [a0] h Q X := wpC_in rfl rfl b
theorem in_is_row {a0 : RV} (b : wpSL pg (wpC pg d) b_is_row [some a0, none] h (fun _ h' => fin h.length Q (.pv .non) h') (fin h.length Q) (fun x h' => X x (h'.take h.length))) : wpC pg (d + 1) i_is_row [a0] h Q X := wpC_in rfl rfl b
theorem in_need_row {a0 : RV} (b : wpSL pg (wpC pg d) b_need_row [some a0] h (fun _ h' => fin h.length Q (.pv .non) h') (fin h.length Q) (fun x h' => X x (h'.take h.length))) : wpC pg (d + 1) i_need_row [a0] h Q X := wpC_in rfl rfl b
theorem in_is_kept {a0 a1 : RV} (b : wpSL pg (wpC pg d) b_is_kept [some a0, some a1, none, none, none, none, none] h (fun _ h' => fin h.length Q (.pv .non) h') (fin h.length Q) (fun x h' => X x (h'.take h.length))) : wpC pg (d + 1) i_is_kept [a0, a1] h Q X := wpC_in rfl rfl b
theorem in_first_broken {a0 a1 : RV} (b : wpSL pg (wpC pg d) b_first_broken [some a0, some a1, none, none] h (fun _ h' => fin h.length Q (.pv .non) h') (fin h.length Q) (fun x h' => X x (h'.take h.length))) : wpC pg (d + 1) i_first_broken [a0, a1] h Q X := wpC_in rfl rfl b
theorem in__law_cell_at {a0 a1 : RV} (b : wpSL pg (wpC pg d) b__law_cell_at [some a0, some a1] h (fun _ h' => fin h.length Q (.pv .non) h') (fin h.length Q) (fun x h' => X x (h'.take h.length))) : wpC pg (d + 1) i__law_cell_at [a0, a1] h Q X := wpC_in rfl rfl b
theorem in__law_next {a0 : RV} (b : wpSL pg (wpC pg d) b__law_next [some a0] h (fun _ h' => fin h.length Q (.pv .non) h') (fin h.length Q) (fun x h' => X x (h'.take h.length))) : wpC pg (d + 1) i__law_next [a0] h Q X := wpC_in rfl rfl b
theorem in__law_pen_of {a0 : RV} (b : wpSL pg (wpC pg d) b__law_pen_of [some a0, none] h (fun _ h' => fin h.length Q (.pv .non) h') (fin h.length Q) (fun x h' => X x (h'.take h.length))) : wpC pg (d + 1) i__law_pen_of [a0] h Q X := wpC_in rfl rfl b
theorem in__law_draw {a0 a1 : RV} (b : wpSL pg (wpC pg d) b__law_draw [some a0, some a1, none] h (fun _ h' => fin h.length Q (.pv .non) h') (fin h.length Q) (fun x h' => X x (h'.take h.length))) : wpC pg (d + 1) i__law_draw [a0, a1] h Q X := wpC_in rfl rfl b
theorem in__law_made {a0 a1 : RV} (b : wpSL pg (wpC pg d) b__law_made [some a0, some a1, none, none] h (fun _ h' => fin h.length Q (.pv .non) h') (fin h.length Q) (fun x h' => X x (h'.take h.length))) : wpC pg (d + 1) i__law_made [a0, a1] h Q X := wpC_in rfl rfl b
theorem in__law_sum {a0 a1 : RV} (b : wpSL pg (wpC pg d) b__law_sum [some a0, some a1] h (fun _ h' => fin h.length Q (.pv .non) h') (fin h.length Q) (fun x h' => X x (h'.take h.length))) : wpC pg (d + 1) i__law_sum [a0, a1] h Q X := wpC_in rfl rfl b
theorem in__law_rest {a0 a1 : RV} (b : wpSL pg (wpC pg d) b__law_rest [some a0, some a1] h (fun _ h' => fin h.length Q (.pv .non) h') (fin h.length Q) (fun x h' => X x (h'.take h.length))) : wpC pg (d + 1) i__law_rest [a0, a1] h Q X := wpC_in rfl rfl b
theorem in__law_under {a0 a1 : RV} (b : wpSL pg (wpC pg d) b__law_under [some a0, some a1] h (fun _ h' => fin h.length Q (.pv .non) h') (fin h.length Q) (fun x h' => X x (h'.take h.length))) : wpC pg (d + 1) i__law_under [a0, a1] h Q X := wpC_in rfl rfl b
theorem in__law_some {a0 : RV} (b : wpSL pg (wpC pg d) b__law_some [some a0, none, none] h (fun _ h' => fin h.length Q (.pv .non) h') (fin h.length Q) (fun x h' => X x (h'.take h.length))) : wpC pg (d + 1) i__law_some [a0] h Q X := wpC_in rfl rfl b
theorem in__law_up {a0 : RV} (b : wpSL pg (wpC pg d) b__law_up [some a0] h (fun _ h' => fin h.length Q (.pv .non) h') (fin h.length Q) (fun x h' => X x (h'.take h.length))) : wpC pg (d + 1) i__law_up [a0] h Q X := wpC_in rfl rfl b
theorem in__law_row {a0 : RV} (b : wpSL pg (wpC pg d) b__law_row [some a0, none] h (fun _ h' => fin h.length Q (.pv .non) h') (fin h.length Q) (fun x h' => X x (h'.take h.length))) : wpC pg (d + 1) i__law_row [a0] h Q X := wpC_in rfl rfl b
theorem in__law_true {a0 a1 a2 : RV} (b : wpSL pg (wpC pg d) b__law_true [some a0, some a1, some a2, none, none, none, none, none, none] h (fun _ h' => fin h.length Q (.pv .non) h') (fin h.length Q) (fun x h' => X x (h'.take h.length))) : wpC pg (d + 1) i__law_true [a0, a1, a2] h Q X := wpC_in rfl rfl b
theorem in__law_shifted {a0 a1 : RV} (b : wpSL pg (wpC pg d) b__law_shifted [some a0, some a1, none, none] h (fun _ h' => fin h.length Q (.pv .non) h') (fin h.length Q) (fun x h' => X x (h'.take h.length))) : wpC pg (d + 1) i__law_shifted [a0, a1] h Q X := wpC_in rfl rfl b
theorem in__law_is_part {a0 : RV} (b : wpSL pg (wpC pg d) b__law_is_part [some a0, none] h (fun _ h' => fin h.length Q (.pv .non) h') (fin h.length Q) (fun x h' => X x (h'.take h.length))) : wpC pg (d + 1) i__law_is_part [a0] h Q X := wpC_in rfl rfl b
theorem in__law_is_row {a0 : RV} (b : wpSL pg (wpC pg d) b__law_is_row [some a0, none] h (fun _ h' => fin h.length Q (.pv .non) h') (fin h.length Q) (fun x h' => X x (h'.take h.length))) : wpC pg (d + 1) i__law_is_row [a0] h Q X := wpC_in rfl rfl b
theorem in__law_broken {a0 a1 : RV} (b : wpSL pg (wpC pg d) b__law_broken [some a0, some a1, none, none, none, none, none, none] h (fun _ h' => fin h.length Q (.pv .non) h') (fin h.length Q) (fun x h' => X x (h'.take h.length))) : wpC pg (d + 1) i__law_broken [a0, a1] h Q X := wpC_in rfl rfl b
theorem in_law {a0 : RV} (b : wpSL pg (wpC pg d) b_law [some a0, none, none, none, none, none, none, none, none, none, none, none, none] h (fun _ h' => fin h.length Q (.pv .non) h') (fin h.length Q) (fun x h' => X x (h'.take h.length))) : wpC pg (d + 1) i_law [a0] h Q X := wpC_in rfl rfl b
end
end Law
set_option Elab.async false
set_option linter.all false
set_option maxRecDepth 100000
set_option maxHeartbeats 4000000
namespace Law
open PySem PySem.Spec PyProof.Rows G43
open L2 (V HO Hp SqL SqT upd upd_same upd_ne Cx VK TE TA TS PE PA PS PSs XK Sp Room Vals Inv)
def flN : List Str := ["_law_e", "_law_marks", "_law_words", "_law_word_here"]
def wrdN : List Str := ["part", "number", "moment", "clock", "hour", "telling", "tellings", "row", "apart", "twice", "missing", "deed", "air", "signal", "quarrel", "carriage", "line", "many", "text"]
abbrev flS : Scope := L2.defScope (top 59)
def marks (c : Nat) : List Bool := [decide (c = 0), decide (c = 1), decide (c = 2), decide (c = 3), decide (c = 4), decide (c = 5), decide (c = 6), decide (c = 7), decide (c = 8), decide (c = 9), decide (c = 10), decide (c = 11), decide (c = 12), decide (c = 13), decide (c = 14), decide (c = 15), decide (c = 16), decide (c = 17), decide (c = 18)]
theorem marks_one {c : Nat} (h : c < 17) : (marks c).count true = 1 := by
  have : c = 0 ∨ c = 1 ∨ c = 2 ∨ c = 3 ∨ c = 4 ∨ c = 5 ∨ c = 6 ∨ c = 7 ∨ c = 8 ∨ c = 9 ∨ c = 10 ∨ c = 11 ∨ c = 12 ∨ c = 13 ∨ c = 14 ∨ c = 15 ∨ c = 16 := by omega
  rcases this with rfl | rfl | rfl | rfl | rfl | rfl | rfl | rfl | rfl | rfl | rfl | rfl | rfl | rfl | rfl | rfl | rfl <;> decide
theorem marks_at {c : Nat} (h : c < 17) : (marks c)[c]? = some true ∧ ∀ k, k < c → (marks c)[k]? = some false := by
  have : c = 0 ∨ c = 1 ∨ c = 2 ∨ c = 3 ∨ c = 4 ∨ c = 5 ∨ c = 6 ∨ c = 7 ∨ c = 8 ∨ c = 9 ∨ c = 10 ∨ c = 11 ∨ c = 12 ∨ c = 13 ∨ c = 14 ∨ c = 15 ∨ c = 16 := by omega
  rcases this with rfl | rfl | rfl | rfl | rfl | rfl | rfl | rfl | rfl | rfl | rfl | rfl | rfl | rfl | rfl | rfl | rfl <;> decide
theorem at_nat {l : List V} {n : Nat} {v : V} (h : l[n]? = some v) : L2.atI l (n : Int) = some v := by
  have hl := (List.getElem?_eq_some_iff.mp h).1
  unfold L2.atI L2.ixN
  rw [if_pos (by omega), if_pos (by omega)]
  simpa using h
theorem word_ne {c : Nat} {w : Str} (h : c < 17) (hw : wrdN[c]? = some w) : w ≠ "many" ∧ w ≠ "text" := by
  have : c = 0 ∨ c = 1 ∨ c = 2 ∨ c = 3 ∨ c = 4 ∨ c = 5 ∨ c = 6 ∨ c = 7 ∨ c = 8 ∨ c = 9 ∨ c = 10 ∨ c = 11 ∨ c = 12 ∨ c = 13 ∨ c = 14 ∨ c = 15 ∨ c = 16 := by omega
  rcases this with rfl | rfl | rfl | rfl | rfl | rfl | rfl | rfl | rfl | rfl | rfl | rfl | rfl | rfl | rfl | rfl | rfl <;> (cases hw; decide)
theorem pe_no {X : Cx} {e : Expr} : PE X e (fun _ _ _ => False) := ⟨fun _ _ _ _ _ _ z => z.elim⟩
theorem flags_body {X : Cx} {a D : Addr} {c : Nat} {CA : Nat → Addr} (F : FlX X a D) (hS : X.env.scope = flS) (hN : X.N = flN) (hcl : ∀ j x, clsN[j]? = some x → X.mg x = some (.ref (CA j)) ∧ PySem.W.kitOne X.K (.ref D) (.ref (CA j)) = some (decide (c = j)))
    (hbl : ∀ x : Str, x ∈ ([("ValueError" : Str), "LookupError", "TypeError", "ArithmeticError", "RuntimeError"] : List Str) → X.mg x = none) (hve : PySem.W.kitOne X.K (.ref D) (.type "ValueError") = some true)
    (hot : PySem.W.kitAny X.K (.ref D) [.type "LookupError", .type "TypeError", .type "ArithmeticError", .type "RuntimeError"] = some false) {w : Str} (hc : c < 17) (hw : wrdN[c]? = some w) {Q : VK} {H : Hp}
    (hQ : ∀ H', (∀ b o, H b = some o → H' b = some o) → ∀ r, H r = none → H' r = some (.tup [.str w]) → Q (.ref r) H') :
    ∃ t, PSs X (L2.defBody (top 59)) t ∧ t { nx := fun _ H' => Q .non H', rt := Q } (L2.start flN [.ref a]) H := by
  have nd : X.N.Nodup := by rw [hN]; decide +kernel
  have n0 : X.N[0]? = some ("_law_e" : Str) := by rw [hN]; rfl
  have n1 : X.N[1]? = some ("_law_marks" : Str) := by rw [hN]; rfl
  have n2 : X.N[2]? = some ("_law_words" : Str) := by rw [hN]; rfl
  have n3 : X.N[3]? = some ("_law_word_here" : Str) := by rw [hN]; rfl
  have v0 : L2.Vis X.env.scope ("_law_e" : Str) := by rw [hS]; exact .inl (by decide +kernel)
  have v1 : L2.Vis X.env.scope ("_law_marks" : Str) := by rw [hS]; exact .inl (by decide +kernel)
  have v2 : L2.Vis X.env.scope ("_law_words" : Str) := by rw [hS]; exact .inl (by decide +kernel)
  have v3 : L2.Vis X.env.scope ("_law_word_here" : Str) := by rw [hS]; exact .inl (by decide +kernel)
  have l1 : L2.Loc X.env.scope ("_law_marks" : Str) := by rw [hS]; exact .inl (by decide +kernel)
  have l2 : L2.Loc X.env.scope ("_law_words" : Str) := by rw [hS]; exact .inl (by decide +kernel)
  have l3 : L2.Loc X.env.scope ("_law_word_here" : Str) := by rw [hS]; exact .inl (by decide +kernel)
  have gi : L2.Gl X "isinstance" := by show X.env.scope.names.lookup _ = _; rw [hS]; decide +kernel
  have is_ : ∀ (j : Nat) (x : Str) {p p1 p2 pos : Pos}, clsN[j]? = some x → X.env.scope.names.lookup x = some .globalImplicit → (x == ("__debug__" : Str)) = false → PE X (.Call (.Name "isinstance" p) [.Name "_law_e" p1, .Name x p2] [] pos) (tIs a (decide (c = j))) := by
    intro j x p p1 p2 pos hj hg hd
    obtain ⟨h1, h2⟩ := hcl j x hj
    exact fl_is F gi n0 v0 hg h1 h2 hd
  have gl : ∀ x : Str, flS.names.lookup x = some .globalImplicit → X.env.scope.names.lookup x = some .globalImplicit := by rw [hS]; exact fun _ h => h
  obtain ⟨oe, q1, q2, q3⟩ := F.pin
  have ve : ∀ {p p1 p2 pos : Pos}, PE X (.Call (.Name "isinstance" p) [.Name "_law_e" p1, .Name "ValueError" p2] [] pos) (tIs a true) := fun {p p1 p2 pos} => fl_ve (x := "ValueError") F gi n0 v0 (gl _ (by decide +kernel)) (hbl "ValueError" (by decide)) (by decide +kernel) hve (by decide) (by decide)
  refine ⟨_, (L2.pss_cons (L2.ps_set (i := 1) nd n1 l1 (L2.pe_lst (L2.pa_cons (is_ 0 "NoPart" rfl (gl _ (by decide +kernel)) (by decide)) (L2.pa_cons (is_ 1 "NoNumber" rfl (gl _ (by decide +kernel)) (by decide)) (L2.pa_cons (is_ 2 "NoMoment" rfl (gl _ (by decide +kernel)) (by decide)) (L2.pa_cons (is_ 3 "NoClock" rfl (gl _ (by decide +kernel)) (by decide)) L2.pa_nil))))) rfl (.inr (by rw [hS]; decide +kernel)))
    (L2.pss_cons (L2.ps_set (i := 1) nd n1 l1 (L2.pe_op L2.op_cat (L2.pe_var (i := 1) n1 v1) (L2.pe_lst (L2.pa_cons (is_ 4 "NoHour" rfl (gl _ (by decide +kernel)) (by decide)) (L2.pa_cons (is_ 5 "NoTelling" rfl (gl _ (by decide +kernel)) (by decide)) (L2.pa_cons (is_ 6 "NoTellings" rfl (gl _ (by decide +kernel)) (by decide)) (L2.pa_cons (is_ 7 "NoRow" rfl (gl _ (by decide +kernel)) (by decide)) L2.pa_nil)))))) rfl (.inr (by rw [hS]; decide +kernel)))
    (L2.pss_cons (L2.ps_set (i := 1) nd n1 l1 (L2.pe_op L2.op_cat (L2.pe_var (i := 1) n1 v1) (L2.pe_lst (L2.pa_cons (is_ 8 "Apart" rfl (gl _ (by decide +kernel)) (by decide)) (L2.pa_cons (is_ 9 "Twice" rfl (gl _ (by decide +kernel)) (by decide)) (L2.pa_cons (is_ 10 "Missing" rfl (gl _ (by decide +kernel)) (by decide)) (L2.pa_cons (is_ 11 "NoDeed" rfl (gl _ (by decide +kernel)) (by decide)) L2.pa_nil)))))) rfl (.inr (by rw [hS]; decide +kernel)))
    (L2.pss_cons (L2.ps_set (i := 1) nd n1 l1 (L2.pe_op L2.op_cat (L2.pe_var (i := 1) n1 v1) (L2.pe_lst (L2.pa_cons (is_ 12 "NoAir" rfl (gl _ (by decide +kernel)) (by decide)) (L2.pa_cons (is_ 13 "NoSignal" rfl (gl _ (by decide +kernel)) (by decide)) (L2.pa_cons (is_ 14 "NoQuarrel" rfl (gl _ (by decide +kernel)) (by decide)) (L2.pa_cons (is_ 15 "NoCarriage" rfl (gl _ (by decide +kernel)) (by decide)) L2.pa_nil)))))) rfl (.inr (by rw [hS]; decide +kernel)))
    (L2.pss_cons (L2.ps_set (i := 1) nd n1 l1 (L2.pe_op L2.op_cat (L2.pe_var (i := 1) n1 v1) (L2.pe_lst (L2.pa_cons (is_ 16 "NoLine" rfl (gl _ (by decide +kernel)) (by decide)) (L2.pa_cons (is_ 17 "TooMany" rfl (gl _ (by decide +kernel)) (by decide)) (L2.pa_cons (is_ 18 "NoText" rfl (gl _ (by decide +kernel)) (by decide)) L2.pa_nil))))) rfl (.inr (by rw [hS]; decide +kernel)))
    (L2.pss_cons (L2.ps_if (L2.pw_or (L2.pt_not (L2.pt_val ve (fun _ => rfl))) (L2.pw_or1 (L2.pt_val (L2.pe_callB (call_exT F.ec q1 q2 q3) gi F.bi (by decide +kernel) (L2.pa_cons (L2.pe_var (i := 0) n0 v0) (L2.pa_cons (L2.pe_tup (L2.pa_cons (L2.pe_bltn (v := .ty "LookupError") (gl _ (by decide +kernel)) (hbl "LookupError" (by decide)) (by decide +kernel) rfl) (L2.pa_cons (L2.pe_bltn (v := .ty "TypeError") (gl _ (by decide +kernel)) (hbl "TypeError" (by decide)) (by decide +kernel) rfl) (L2.pa_cons (L2.pe_bltn (v := .ty "ArithmeticError") (gl _ (by decide +kernel)) (hbl "ArithmeticError" (by decide)) (by decide +kernel) rfl) (L2.pa_cons (L2.pe_bltn (v := .ty "RuntimeError") (gl _ (by decide +kernel)) (hbl "RuntimeError" (by decide)) (by decide +kernel) rfl) L2.pa_nil))))) L2.pa_nil))) (fun _ => rfl)))).pt (L2.pss_one L2.ps_never) L2.pss_nil)
    (L2.pss_cons (L2.ps_if (L2.pt_cmpR L2.op_ne (L2.pe_bm PySem.F.plainAttrs_list PySem.F.slot_list_count PySem.F.type_list_count mt_cntB (L2.pe_var (i := 1) n1 v1) (L2.pa_cons L2.pe_bl L2.pa_nil)) L2.pe_int rfl) (L2.pss_one L2.ps_never) L2.pss_nil)
    (L2.pss_cons (L2.ps_set (i := 2) nd n2 l2 (L2.pe_lst (L2.pa_cons (L2.pe_str (x := "part")) (L2.pa_cons (L2.pe_str (x := "number")) (L2.pa_cons (L2.pe_str (x := "moment")) (L2.pa_cons (L2.pe_str (x := "clock")) (L2.pa_cons (L2.pe_str (x := "hour")) (L2.pa_cons (L2.pe_str (x := "telling")) (L2.pa_cons (L2.pe_str (x := "tellings")) (L2.pa_cons (L2.pe_str (x := "row")) (L2.pa_cons (L2.pe_str (x := "apart")) (L2.pa_cons (L2.pe_str (x := "twice")) (L2.pa_cons (L2.pe_str (x := "missing")) L2.pa_nil)))))))))))) rfl (.inr (by rw [hS]; decide +kernel)))
    (L2.pss_cons (L2.ps_set (i := 3) nd n3 l3 (L2.pe_ix L2.ix_list (L2.pe_op L2.op_cat (L2.pe_var (i := 2) n2 v2) (L2.pe_lst (L2.pa_cons (L2.pe_str (x := "deed")) (L2.pa_cons (L2.pe_str (x := "air")) (L2.pa_cons (L2.pe_str (x := "signal")) (L2.pa_cons (L2.pe_str (x := "quarrel")) (L2.pa_cons (L2.pe_str (x := "carriage")) (L2.pa_cons (L2.pe_str (x := "line")) (L2.pa_cons (L2.pe_str (x := "many")) (L2.pa_cons (L2.pe_str (x := "text")) L2.pa_nil)))))))))) (L2.pe_bm PySem.F.plainAttrs_list PySem.F.slot_list_index PySem.F.type_list_index L2.mt_index (L2.pe_var (i := 1) n1 v1) (L2.pa_cons L2.pe_bl L2.pa_nil)) (fun _ _ => rfl)) rfl (.inr (by rw [hS]; decide +kernel)))
    (L2.pss_cons (L2.ps_if (L2.pt_cmpR L2.op_eq (L2.pe_var (i := 3) n3 v3) L2.pe_str rfl) (L2.pss_one L2.ps_never) L2.pss_nil)
    (L2.pss_one (L2.ps_ret (L2.pe_ifExp (L2.pt_cmpR L2.op_eq (L2.pe_var (i := 3) n3 v3) L2.pe_str rfl) (pe_no (X := X)) (L2.pe_tup (L2.pa_cons (L2.pe_var (i := 3) n3 v3) L2.pa_nil))))))))))))))), ?_⟩
  have hc' : c = 0 ∨ c = 1 ∨ c = 2 ∨ c = 3 ∨ c = 4 ∨ c = 5 ∨ c = 6 ∨ c = 7 ∨ c = 8 ∨ c = 9 ∨ c = 10 ∨ c = 11 ∨ c = 12 ∨ c = 13 ∨ c = 14 ∨ c = 15 ∨ c = 16 := by omega
  refine ⟨rfl, rfl, rfl, rfl, sln (by simp), fun p1 hp1 => ?_⟩
  refine ⟨.ref p1, rfl, rfl, rfl, rfl, rfl, sln (by simp), fun r1 hr1 => ⟨p1, r1, _, _, rfl, rfl, at_old upd_same hr1, upd_same, sln (by simp), fun p2 hp2 => ?_⟩⟩
  refine ⟨.ref p2, rfl, rfl, rfl, rfl, rfl, sln (by simp), fun r2 hr2 => ⟨p2, r2, _, _, rfl, rfl, at_old upd_same hr2, upd_same, sln (by simp), fun p3 hp3 => ?_⟩⟩
  refine ⟨.ref p3, rfl, rfl, rfl, rfl, rfl, sln (by simp), fun r3 hr3 => ⟨p3, r3, _, _, rfl, rfl, at_old upd_same hr3, upd_same, sln (by simp), fun p4 hp4 => ?_⟩⟩
  refine ⟨.ref p4, rfl, rfl, rfl, rfl, sln (by simp), fun r4 hr4 => ⟨p4, r4, _, _, rfl, rfl, at_old upd_same hr4, upd_same, sln (by simp), fun p5 hp5 => ?_⟩⟩
  refine ⟨rfl, true, rfl, ?_⟩
  refine ⟨_, rfl, sln (by simp), fun p6 hp6 => ?_⟩
  refine ⟨p6, _, _, false, rfl, upd_same, .cons (.ty _) (.cons (.ty _) (.cons (.ty _) (.cons (.ty _) .nil))), hot, false, rfl, ?_⟩
  generalize hH6 : upd _ p6 _ = H6
  have e5 : H6 p5 = some (.lst ((marks c).map V.bl)) := by
    rw [← hH6]
    exact at_old upd_same hp6
  have old6 : ∀ b o, H b = some o → H6 b = some o := by
    intro b o e
    rw [← hH6]
    exact at_old (at_old (at_old (at_old (at_old (at_old (at_old (at_old (at_old (at_old e hp1) hr1) hp2) hr2) hp3) hr3) hp4) hr4) hp5) hp6
  clear hH6 hp6 hp5 hr4 hp4 hr3 hp3 hr2 hp2 hr1 hp1
  have flat : ((marks c).map V.bl).all L2.flatV = true := by
    rw [List.all_map]
    exact List.all_eq_true.mpr fun _ _ => rfl
  refine ⟨.ref p5, rfl, Or.inl ⟨rfl, _, SqL.of e5⟩, p5, marks c, rfl, rfl, SqL.of e5, ?_⟩
  rw [marks_one hc]
  refine ⟨rfl, false, rfl, ?_⟩
  refine ⟨sln (by simp), fun p7 hp7 => ?_⟩
  refine ⟨.ref p7, rfl, sln (by simp), fun r7 hr7 => ⟨p7, r7, _, _, rfl, rfl, at_old upd_same hr7, upd_same, sln (by simp), fun p8 hp8 => ?_⟩⟩
  generalize hH8 : upd _ p8 _ = H8
  have e8 : H8 p8 = some (.lst (wrdN.map V.str)) := by
    rw [← hH8]
    exact upd_same
  have e5' : H8 p5 = some (.lst ((marks c).map V.bl)) := by
    rw [← hH8]
    exact at_old (at_old (at_old e5 hp7) hr7) hp8
  have old8 : ∀ b o, H b = some o → H8 b = some o := by
    intro b o e
    rw [← hH8]
    exact at_old (at_old (at_old (old6 b o e) hp7) hr7) hp8
  clear hH8 hp8 hr7 hp7
  obtain ⟨k1, k2⟩ := marks_at hc
  refine ⟨.ref p5, rfl, Or.inl ⟨rfl, _, SqL.of e5'⟩, p5, _, _, c, .bl true, rfl, rfl, SqL.of e5', rfl, flat, by rw [List.getElem?_map, k1]; rfl, rfl, ?_, ?_⟩
  · intro m z' hm hz
    rw [List.getElem?_map, k2 m hm] at hz
    cases hz
    rfl
  refine ⟨p8, _, (c : Int), .str w, rfl, rfl, SqL.of e8, at_nat (by rw [List.getElem?_map, hw]; rfl), ?_⟩
  obtain ⟨w1, w2⟩ := word_ne hc hw
  refine ⟨.str w, rfl, rfl, false, by rw [decide_eq_false (by intro z; injection z with z; exact w1 z)], ?_⟩
  refine ⟨.str w, rfl, rfl, false, by rw [decide_eq_false (by intro z; injection z with z; exact w2 z)], ?_⟩
  refine ⟨.str w, rfl, sln (by simp), fun p9 hp9 => ?_⟩
  refine hQ _ (fun b o e => at_old (old8 b o e) hp9) p9 ?_ upd_same
  cases e : H p9 with
  | none => rfl
  | some o => rw [old8 p9 o e] at hp9; cases hp9
/-! ### what the head must tell of the errors -/
structure ErrK (K : PySem.W.Frag) (mg : Str → Option Value) (CA : Nat → Addr) : Prop where
  cls : ∀ j x, clsN[j]? = some x → mg x = some (.ref (CA j))
  ec : ∀ c, c < 17 → L2.ExcC K (CA c)
  one : ∀ c j, c < 17 → j < 19 → PySem.W.kitOne K (.ref (CA c)) (.ref (CA j)) = some (decide (c = j))
  ve : ∀ c, c < 17 → PySem.W.kitOne K (.ref (CA c)) (.type "ValueError") = some true
  ot : ∀ c, c < 17 → PySem.W.kitAny K (.ref (CA c)) [.type "LookupError", .type "TypeError", .type "ArithmeticError", .type "RuntimeError"] = some false
  ce : ∃ CE, mg "ClockError" = some (.ref CE) ∧ ∀ c, c < 17 → PySem.W.exmOne K (.ref (CA c)) (.ref CE) = some true
  bl : ∀ x ∈ others, mg x = none
  ii : mg "isinstance" = none
def spFl (CA : Nat → Addr) : Addr × Obj → Sp := fun p vs H Q _ => ∃ c w, c < 17 ∧ wrdN[c]? = some w ∧ vs = [.ref p.1] ∧ L2.Zc (.ref (CA c)) none p.2 ∧ (∃ us, p.2.data = .fields us) ∧ ∀ H', (∀ b o, H b = some o → H' b = some o) → ∀ r, H r = none → H' r = some (.tup [.str w]) → Q (.ref r) H'
theorem flags_fn {Pr : Program} {w : World} {K : PySem.W.Frag} {mg : Str → Option Value} {base : Heap} {CA : Nat → Addr} {f : Addr} {pg : Arguments} {dV kV doc pm cdv ct oc : Value} {an od : Option Addr} {osl : Array (Option Value)}
    (lk : K.lookup f = some ⟨oc, od, .func (PySem.W.fnOf "_law_flags" "_law_flags" pg (L2.defBody (top 59)) flS dV kV doc pm an cdv ct), osl⟩) (hcd : PySem.W.codeIn K cdv "_law_flags" = true) (E : ErrK K mg CA) :
    FnY Pr w K mg base 1 f (PySem.W.fnOf "_law_flags" "_law_flags" pg (L2.defBody (top 59)) flS dV kV doc pm an cdv ct) ["_law_e"] (spFl CA) := by
  refine fny_of (k := 0) (N := flN) lk hcd ⟨rfl, rfl, rfl, by decide +kernel, rfl, by decide +kernel, by decide +kernel⟩ ?_ ?_
  · rintro p vs H Q E ⟨c, w, _, _, rfl, _⟩
    rfl
  · rintro Ar outer s H vs Q E' p hr ⟨c, w, hc, hw, rfl, hz, hf, hQ⟩
    exact flags_body (X := L2H.cxH C8.CX0 Pr _ K mg base flN "_law_flags" flS f cdv Ar outer s H E' p) (a := p.1) (D := CA c) (c := c) (CA := CA) ⟨⟨p.2, List.mem_singleton.mpr rfl, hz, hf⟩, E.ec c hc, E.ii⟩ rfl rfl
      (fun j x hj => ⟨E.cls j x hj, E.one c j hc (List.getElem?_eq_some_iff.mp hj).1⟩) E.bl (E.ve c hc) (E.ot c hc) hc hw hQ
abbrev wdS : Scope := L2.defScope (top 60)
def wdN : List Str := ["_law_call", "_law_e"]
theorem word_gives {K : PySem.W.Frag} {mg : Str → Option Value} {CA : Nat → Addr} {A : Ad} {P : Pg} (hCA : ∀ c, c < 17 → A.CA c = CA c) (hP : ∀ c w, P.exc[c]? = some w → c < 17 ∧ wrdN[c]? = some w.2) (E : ErrK K mg CA) {f : Addr} {fd : FuncData}
    (kf : PySem.W.keepIn K (.ref f) = true) (mf : mg "_law_flags" = some (.ref f)) (bf : L2.Binds K fd ["_law_e"] []) (FY : ∀ Pr w base, FnY Pr w K mg base 1 f fd ["_law_e"] (spFl CA)) {g : Addr} {cdv : Value} :
    ∀ (X : Cx) (q : Str), X.K = K → X.mg = mg → Room 2 X.A → Gives X wdN "_law_word" wdS g cdv (L2.defBody (top 60)) "_law_call" q (TTw A P) := by
  rintro X q rfl rfl hr f' c' s H Q tl hgd act hco h
  obtain ⟨CE, ce1, ce2⟩ := E.ce
  refine ⟨_, L2.pss_one (L2.ps_try_as (X := (gCx X C8.CX0 wdN "_law_word" wdS g cdv s H C8.E0).nox) (i := 1) (c := .ref CE)
    (tb := fun W D σ H => ∃ Ech : XK, (∀ cls d σ' H', Ech cls d H' → W cls d σ' H') ∧ σ[0]? = some (some (.ref f')) ∧ H c' = some (LamX.CodeO c' q) ∧ tl Ech H fun v H' => ([.str "told", v] : List V).length ≤ sizeLine ∧ ∀ p, H' p = none → D.rt (.ref p) (upd H' p (.tup [.str "told", v])))
    (ts := fun a cls d D σ H => ∃ c w σ0, c < 17 ∧ wrdN[c]? = some w ∧ cls = .ref (CA c) ∧ d = none ∧ σ = List.set σ0 1 (some (.ref a)) ∧ ∀ H', (∀ b o, H b = some o → H' b = some o) → ∀ r, H r = none → H' r = some (.tup [.str w]) → D.rt (.ref r) H')
    rfl rfl (show wdN.Nodup by decide +kernel) rfl (show wdS.names.lookup _ = _ by decide +kernel) ⟨(show wdS.names.lookup _ = _ by decide +kernel), by decide, .inl ce1⟩ L2.takes0 (fun W pn xe tk _ => ?_) (fun a oe cls d pn hz hf => ?_)), ?_⟩
  · constructor
    rintro pins s' σ H' D I ⟨Ech, hW, h1, h2, h3⟩
    exact (L2.pss_one (L2.ps_ret (L2.pe_tup (L2.pa_cons L2.pe_str (L2.pa_cons (act W pn xe Ech _ _ tk hW) L2.pa_nil))))).run pins s' σ H' D I ⟨h1, h2, h3⟩
  · constructor
    rintro pins s' σ H' D I ⟨c, w, σ0, hc, hw, rfl, rfl, rfl, hQ⟩
    have hl := I.len
    have rh : L2H.RoomH 1 ((gCx X C8.CX0 wdN "_law_word" wdS g cdv s H C8.E0).nox.suite a ((a, oe) :: pn)).A := by
      constructor
      · have := hr.dp
        show X.A.depth + 1 + 3 * 1 + 5 < _
        omega
      · have := hr.un
        show X.A.units + 3 + 16 * 1 + 200 < _
        omega
    have yc := fun (q q1 pos : Pos) => y_call (X := (gCx X C8.CX0 wdN "_law_word" wdS g cdv s H C8.E0).nox.suite a ((a, oe) :: pn)) (q := q) (q1 := q1) (pos := pos) (k := 1) (i := 1) (n := "_law_e") (FY _ _ _) rh List.mem_cons_self (show wdS.names.lookup _ = _ by decide +kernel) mf kf bf rfl (.inl (show wdS.names.lookup _ = _ by decide +kernel)) (by decide) (by decide) (by decide)
    refine (L2.pss_one (L2.ps_ret (yc _ _ _))).run pins s' _ H' D I ⟨.ref a, ?_, c, w, hc, hw, rfl, hz, hf, hQ⟩
    have l2 : (List.set σ0 1 (some (V.ref a))).length = 2 := hl
    rw [List.length_set] at l2
    exact List.getElem?_set_self (by omega)
  · refine ⟨_, fun cls d σ' H' hE => ?_, rfl, hco, h⟩
    obtain ⟨c, w, B, m, hh, e1, rfl, rfl, S, kp⟩ := hE
    obtain ⟨hc, hw⟩ := hP c w e1
    rw [hCA c hc]
    refine ⟨true, ce2 c hc, fun _ a ha => ⟨c, w.2, σ', hc, hw, rfl, rfl, rfl, fun H2 ex r hr hH => ?_⟩, fun z => nomatch z⟩
    obtain ⟨S2, M2⟩ := S.ext ex
    exact kp H2 _ S2 M2 (.tup (SqT.of hH) (.cons (.str _) .nil))
theorem err_of {K : PySem.W.Frag} {h : Heap} {mg : Str → Option Value} (X : K.In h) (G : h.Ns mainGlobals mg) (e : exB K = true) : ErrK K mg (caL K) ∧ mg "_law_flags" = some (.ref (He.ga K "_law_flags")) ∧ mg "_law_word" = some (.ref (He.ga K "_law_word")) := by
  unfold exB at e
  simp only [Bool.and_eq_true, List.all_eq_true, decide_eq_true_eq, List.mem_range] at e
  obtain ⟨⟨⟨⟨⟨⟨h1, h2⟩, h3⟩, h4⟩, h5⟩, h6⟩, h7⟩ := e
  refine ⟨⟨fun j x hj => ?_, fun c hc => excCB_ok (h2 c hc).1.1.1.1, fun c j hc hj => (h2 c hc).1.1.1.2 j hj, fun c hc => (h2 c hc).1.1.2, fun c hc => (h2 c hc).1.2, ⟨_, He.glo_ok X G h3, fun c hc => (h2 c hc).2⟩, fun x hx => He.free_ok X G (h4 x hx), He.free_ok X G h5⟩, He.glo_ok X G h6, He.glo_ok X G h7⟩
  have e : caL K j = He.ga K x := by
    unfold caL
    rw [List.getD_eq_getElem?_getD, hj]
    rfl
  rw [e]
  exact He.glo_ok X G (h1 x (List.mem_of_getElem? hj))
theorem word_at {P : Pg} {fn : List He.DefD} {K : PySem.W.Frag} {h : Heap} {mg : Str → Option Value} (X : K.In h) (G : h.Ns mainGlobals mg) (c : obsP P (fn ++ fn2) exB K = valP (fn ++ fn2)) (hP : ∀ c w, P.exc[c]? = some w → c < 17 ∧ wrdN[c]? = some w.2 ∧ clsN[c]? = some w.1) (hl : ∀ c, c < 17 → ∃ w, P.exc[c]? = some w) : WordAt (adOf P K) P K mg := by
  obtain ⟨E, m1, m2⟩ := err_of X G (ex_of c)
  obtain ⟨fd1, F1⟩ := fn2_of c (d := t__law_flags) (by simp [fn2])
  obtain ⟨fd2, F2⟩ := fn2_of c (d := t__law_word) (by simp [fn2])
  have b1 : L2.Binds K fd1 ["_law_e"] [] := L2.FunD.bindsN (ps := ["_law_e"]) F1 fun _ _ _ _ _ _ us hl => match us, hl with | [_], _ => rfl
  have b2 : L2.Binds K fd2 ["_law_call"] [] := L2.FunD.bindsN (ps := ["_law_call"]) F2 fun _ _ _ _ _ _ us hl => match us, hl with | [_], _ => rfl
  have k1 := F1.kp
  have k2 := F2.kp
  obtain ⟨oc, od, dV, kV, doc, pm, an, cdv, ct, osl, rfl, lk, hcd, -, -⟩ := F1.ex
  obtain ⟨oc2, od2, dV2, kV2, doc2, pm2, an2, cdv2, ct2, osl2, rfl, lk2, hcd2, -, -⟩ := F2.ex
  refine ⟨⟨_, _, _, _, _, _, _, _, _, _, _, _, _, _, wdN, "_law_call", m2, k2, lk2, hcd2, b2, ⟨rfl, rfl, rfl, by decide +kernel, rfl, by decide +kernel, by decide +kernel⟩, rfl, .inl (by decide +kernel), by decide, by decide, ?_⟩⟩
  refine word_gives (CA := caL K) (fun c hc => ?_) (fun c w hw => ⟨(hP c w hw).1, (hP c w hw).2.1⟩) E k1 m1 b1 fun Pr w base => flags_fn lk hcd E
  obtain ⟨w, hw⟩ := hl c hc
  rw [ca_of hw]
  unfold caL
  rw [List.getD_eq_getElem?_getD, (hP c w hw).2.2]
  rfl
end Law
set_option Elab.async false
set_option linter.all false
set_option maxRecDepth 100000
set_option maxHeartbeats 0
namespace Law
open PySem G43
/-! ### the text -/
/-! ### the same in the small language -/
/-! ### they say the same -/
theorem s_is_whole : DefS pg d_is_whole t_is_whole := by
  refine ⟨rfl, rfl, rfl, rfl, ⟨["thing"], ⟨rfl, rfl, rfl, by decide +kernel, rfl, by decide +kernel, by decide +kernel⟩, rfl, fun K f fd F n hn => ?_⟩, by decide +kernel⟩
  obtain rfl : n = 0 := Nat.le_zero.mp hn
  exact ⟨[], [], rfl, .nil, L2.FunD.bindsN (ps := ["thing"]) F fun _ _ _ _ _ _ us hl => match us, hl with | [_], _ => rfl⟩
theorem s_is_from_to : DefS pg d_is_from_to t_is_from_to := by
  refine ⟨rfl, rfl, rfl, rfl, ⟨["thing", "least", "most"], ⟨rfl, rfl, rfl, by decide +kernel, rfl, by decide +kernel, by decide +kernel⟩, rfl, fun K f fd F n hn => ?_⟩, by decide +kernel⟩
  obtain rfl : n = 0 := Nat.le_zero.mp hn
  exact ⟨[], [], rfl, .nil, L2.FunD.bindsN (ps := ["thing", "least", "most"]) F fun _ _ _ _ _ _ us hl => match us, hl with | [_, _, _], _ => rfl⟩
theorem s_shared : DefS pg d_shared t_shared := by
  refine ⟨rfl, rfl, rfl, rfl, ⟨["one", "other"], ⟨rfl, rfl, rfl, by decide +kernel, rfl, by decide +kernel, by decide +kernel⟩, rfl, fun K f fd F n hn => ?_⟩, by decide +kernel⟩
  obtain rfl : n = 0 := Nat.le_zero.mp hn
  exact ⟨[], [], rfl, .nil, L2.FunD.bindsN (ps := ["one", "other"]) F fun _ _ _ _ _ _ us hl => match us, hl with | [_, _], _ => rfl⟩
theorem s_lowest : DefS pg d_lowest t_lowest := by
  refine ⟨rfl, rfl, rfl, rfl, ⟨["top", "bottom"], ⟨rfl, rfl, rfl, by decide +kernel, rfl, by decide +kernel, by decide +kernel⟩, rfl, fun K f fd F n hn => ?_⟩, by decide +kernel⟩
  obtain rfl : n = 0 := Nat.le_zero.mp hn
  exact ⟨[], [], rfl, .nil, L2.FunD.bindsN (ps := ["top", "bottom"]) F fun _ _ _ _ _ _ us hl => match us, hl with | [_, _], _ => rfl⟩
theorem s_is_part : DefS pg d_is_part t_is_part := by
  refine ⟨rfl, rfl, rfl, rfl, ⟨["thing"], ⟨rfl, rfl, rfl, by decide +kernel, rfl, by decide +kernel, by decide +kernel⟩, rfl, fun K f fd F n hn => ?_⟩, by decide +kernel⟩
  obtain rfl : n = 0 := Nat.le_zero.mp hn
  exact ⟨[], [], rfl, .nil, L2.FunD.bindsN (ps := ["thing"]) F fun _ _ _ _ _ _ us hl => match us, hl with | [_], _ => rfl⟩
theorem s_minus : DefS pg d_minus t_minus := by
  refine ⟨rfl, rfl, rfl, rfl, ⟨["one", "other"], ⟨rfl, rfl, rfl, by decide +kernel, rfl, by decide +kernel, by decide +kernel⟩, rfl, fun K f fd F n hn => ?_⟩, by decide +kernel⟩
  obtain rfl : n = 0 := Nat.le_zero.mp hn
  exact ⟨[], [], rfl, .nil, L2.FunD.bindsN (ps := ["one", "other"]) F fun _ _ _ _ _ _ us hl => match us, hl with | [_, _], _ => rfl⟩
theorem s_below : DefS pg d_below t_below := by
  refine ⟨rfl, rfl, rfl, rfl, ⟨["one", "other"], ⟨rfl, rfl, rfl, by decide +kernel, rfl, by decide +kernel, by decide +kernel⟩, rfl, fun K f fd F n hn => ?_⟩, by decide +kernel⟩
  obtain rfl : n = 0 := Nat.le_zero.mp hn
  exact ⟨[], [], rfl, .nil, L2.FunD.bindsN (ps := ["one", "other"]) F fun _ _ _ _ _ _ us hl => match us, hl with | [_, _], _ => rfl⟩
theorem s_is_clock_number : DefS pg d_is_clock_number t_is_clock_number := by
  refine ⟨rfl, rfl, rfl, rfl, ⟨["thing"], ⟨rfl, rfl, rfl, by decide +kernel, rfl, by decide +kernel, by decide +kernel⟩, rfl, fun K f fd F n hn => ?_⟩, by decide +kernel⟩
  obtain rfl : n = 0 := Nat.le_zero.mp hn
  exact ⟨[], [], rfl, .nil, L2.FunD.bindsN (ps := ["thing"]) F fun _ _ _ _ _ _ us hl => match us, hl with | [_], _ => rfl⟩
theorem s_are_bounds : DefS pg d_are_bounds t_are_bounds := by
  refine ⟨rfl, rfl, rfl, rfl, ⟨["low", "high"], ⟨rfl, rfl, rfl, by decide +kernel, rfl, by decide +kernel, by decide +kernel⟩, rfl, fun K f fd F n hn => ?_⟩, by decide +kernel⟩
  obtain rfl : n = 0 := Nat.le_zero.mp hn
  exact ⟨[], [], rfl, .nil, L2.FunD.bindsN (ps := ["low", "high"]) F fun _ _ _ _ _ _ us hl => match us, hl with | [_, _], _ => rfl⟩
theorem s_is_telling : DefS pg d_is_telling t_is_telling := by
  refine ⟨rfl, rfl, rfl, rfl, ⟨["thing"], ⟨rfl, rfl, rfl, by decide +kernel, rfl, by decide +kernel, by decide +kernel⟩, rfl, fun K f fd F n hn => ?_⟩, by decide +kernel⟩
  obtain rfl : n = 0 := Nat.le_zero.mp hn
  exact ⟨[], [], rfl, .nil, L2.FunD.bindsN (ps := ["thing"]) F fun _ _ _ _ _ _ us hl => match us, hl with | [_], _ => rfl⟩
theorem s_are_tellings : DefS pg d_are_tellings t_are_tellings := by
  refine ⟨rfl, rfl, rfl, rfl, ⟨["thing"], ⟨rfl, rfl, rfl, by decide +kernel, rfl, by decide +kernel, by decide +kernel⟩, rfl, fun K f fd F n hn => ?_⟩, by decide +kernel⟩
  obtain rfl : n = 0 := Nat.le_zero.mp hn
  exact ⟨[], [], rfl, .nil, L2.FunD.bindsN (ps := ["thing"]) F fun _ _ _ _ _ _ us hl => match us, hl with | [_], _ => rfl⟩
theorem s_need_tellings : DefS pg d_need_tellings t_need_tellings := by
  refine ⟨rfl, rfl, rfl, rfl, ⟨["thing"], ⟨rfl, rfl, rfl, by decide +kernel, rfl, by decide +kernel, by decide +kernel⟩, rfl, fun K f fd F n hn => ?_⟩, by decide +kernel⟩
  obtain rfl : n = 0 := Nat.le_zero.mp hn
  exact ⟨[], [], rfl, .nil, L2.FunD.bindsN (ps := ["thing"]) F fun _ _ _ _ _ _ us hl => match us, hl with | [_], _ => rfl⟩
theorem s_is_row : DefS pg d_is_row t_is_row := by
  refine ⟨rfl, rfl, rfl, rfl, ⟨["thing"], ⟨rfl, rfl, rfl, by decide +kernel, rfl, by decide +kernel, by decide +kernel⟩, rfl, fun K f fd F n hn => ?_⟩, by decide +kernel⟩
  obtain rfl : n = 0 := Nat.le_zero.mp hn
  exact ⟨[], [], rfl, .nil, L2.FunD.bindsN (ps := ["thing"]) F fun _ _ _ _ _ _ us hl => match us, hl with | [_], _ => rfl⟩
theorem s_need_row : DefS pg d_need_row t_need_row := by
  refine ⟨rfl, rfl, rfl, rfl, ⟨["thing"], ⟨rfl, rfl, rfl, by decide +kernel, rfl, by decide +kernel, by decide +kernel⟩, rfl, fun K f fd F n hn => ?_⟩, by decide +kernel⟩
  obtain rfl : n = 0 := Nat.le_zero.mp hn
  exact ⟨[], [], rfl, .nil, L2.FunD.bindsN (ps := ["thing"]) F fun _ _ _ _ _ _ us hl => match us, hl with | [_], _ => rfl⟩
theorem s_is_kept : DefS pg d_is_kept t_is_kept := by
  refine ⟨rfl, rfl, rfl, rfl, ⟨["telling", "row"], ⟨rfl, rfl, rfl, by decide +kernel, rfl, by decide +kernel, by decide +kernel⟩, rfl, fun K f fd F n hn => ?_⟩, by decide +kernel⟩
  obtain rfl : n = 0 := Nat.le_zero.mp hn
  exact ⟨[], [], rfl, .nil, L2.FunD.bindsN (ps := ["telling", "row"]) F fun _ _ _ _ _ _ us hl => match us, hl with | [_, _], _ => rfl⟩
theorem s_first_broken : DefS pg d_first_broken t_first_broken := by
  refine ⟨rfl, rfl, rfl, rfl, ⟨["tellings", "row"], ⟨rfl, rfl, rfl, by decide +kernel, rfl, by decide +kernel, by decide +kernel⟩, rfl, fun K f fd F n hn => ?_⟩, by decide +kernel⟩
  obtain rfl : n = 0 := Nat.le_zero.mp hn
  exact ⟨[], [], rfl, .nil, L2.FunD.bindsN (ps := ["tellings", "row"]) F fun _ _ _ _ _ _ us hl => match us, hl with | [_, _], _ => rfl⟩
theorem s__law_cell_at : DefS pg d__law_cell_at t__law_cell_at := by
  refine ⟨rfl, rfl, rfl, rfl, ⟨["_law_script", "_law_k"], ⟨rfl, rfl, rfl, by decide +kernel, rfl, by decide +kernel, by decide +kernel⟩, rfl, fun K f fd F n hn => ?_⟩, by decide +kernel⟩
  obtain rfl : n = 0 := Nat.le_zero.mp hn
  exact ⟨[], [], rfl, .nil, L2.FunD.bindsN (ps := ["_law_script", "_law_k"]) F fun _ _ _ _ _ _ us hl => match us, hl with | [_, _], _ => rfl⟩
theorem s__law_next : DefS pg d__law_next t__law_next := by
  refine ⟨rfl, rfl, rfl, rfl, ⟨["_law_seed"], ⟨rfl, rfl, rfl, by decide +kernel, rfl, by decide +kernel, by decide +kernel⟩, rfl, fun K f fd F n hn => ?_⟩, by decide +kernel⟩
  obtain rfl : n = 0 := Nat.le_zero.mp hn
  exact ⟨[], [], rfl, .nil, L2.FunD.bindsN (ps := ["_law_seed"]) F fun _ _ _ _ _ _ us hl => match us, hl with | [_], _ => rfl⟩
theorem s__law_pen_of : DefS pg d__law_pen_of t__law_pen_of := by
  refine ⟨rfl, rfl, rfl, rfl, ⟨["_law_cell"], ⟨rfl, rfl, rfl, by decide +kernel, rfl, by decide +kernel, by decide +kernel⟩, rfl, fun K f fd F n hn => ?_⟩, by decide +kernel⟩
  obtain rfl : n = 0 := Nat.le_zero.mp hn
  exact ⟨[], [], rfl, .nil, L2.FunD.bindsN (ps := ["_law_cell"]) F fun _ _ _ _ _ _ us hl => match us, hl with | [_], _ => rfl⟩
theorem s__law_draw : DefS pg d__law_draw t__law_draw := by
  refine ⟨rfl, rfl, rfl, rfl, ⟨["_law_pen", "_law_many"], ⟨rfl, rfl, rfl, by decide +kernel, rfl, by decide +kernel, by decide +kernel⟩, rfl, fun K f fd F n hn => ?_⟩, by decide +kernel⟩
  obtain rfl : n = 0 := Nat.le_zero.mp hn
  exact ⟨[], [], rfl, .nil, L2.FunD.bindsN (ps := ["_law_pen", "_law_many"]) F fun _ _ _ _ _ _ us hl => match us, hl with | [_, _], _ => rfl⟩
theorem s__law_made : DefS pg d__law_made t__law_made := by
  refine ⟨rfl, rfl, rfl, rfl, ⟨["_law_top", "_law_bottom"], ⟨rfl, rfl, rfl, by decide +kernel, rfl, by decide +kernel, by decide +kernel⟩, rfl, fun K f fd F n hn => ?_⟩, by decide +kernel⟩
  obtain rfl : n = 0 := Nat.le_zero.mp hn
  exact ⟨[], [], rfl, .nil, L2.FunD.bindsN (ps := ["_law_top", "_law_bottom"]) F fun _ _ _ _ _ _ us hl => match us, hl with | [_, _], _ => rfl⟩
theorem s__law_sum : DefS pg d__law_sum t__law_sum := by
  refine ⟨rfl, rfl, rfl, rfl, ⟨["_law_one", "_law_other"], ⟨rfl, rfl, rfl, by decide +kernel, rfl, by decide +kernel, by decide +kernel⟩, rfl, fun K f fd F n hn => ?_⟩, by decide +kernel⟩
  obtain rfl : n = 0 := Nat.le_zero.mp hn
  exact ⟨[], [], rfl, .nil, L2.FunD.bindsN (ps := ["_law_one", "_law_other"]) F fun _ _ _ _ _ _ us hl => match us, hl with | [_, _], _ => rfl⟩
theorem s__law_rest : DefS pg d__law_rest t__law_rest := by
  refine ⟨rfl, rfl, rfl, rfl, ⟨["_law_one", "_law_other"], ⟨rfl, rfl, rfl, by decide +kernel, rfl, by decide +kernel, by decide +kernel⟩, rfl, fun K f fd F n hn => ?_⟩, by decide +kernel⟩
  obtain rfl : n = 0 := Nat.le_zero.mp hn
  exact ⟨[], [], rfl, .nil, L2.FunD.bindsN (ps := ["_law_one", "_law_other"]) F fun _ _ _ _ _ _ us hl => match us, hl with | [_, _], _ => rfl⟩
theorem s__law_under : DefS pg d__law_under t__law_under := by
  refine ⟨rfl, rfl, rfl, rfl, ⟨["_law_one", "_law_other"], ⟨rfl, rfl, rfl, by decide +kernel, rfl, by decide +kernel, by decide +kernel⟩, rfl, fun K f fd F n hn => ?_⟩, by decide +kernel⟩
  obtain rfl : n = 0 := Nat.le_zero.mp hn
  exact ⟨[], [], rfl, .nil, L2.FunD.bindsN (ps := ["_law_one", "_law_other"]) F fun _ _ _ _ _ _ us hl => match us, hl with | [_, _], _ => rfl⟩
theorem s__law_some : DefS pg d__law_some t__law_some := by
  refine ⟨rfl, rfl, rfl, rfl, ⟨["_law_pen"], ⟨rfl, rfl, rfl, by decide +kernel, rfl, by decide +kernel, by decide +kernel⟩, rfl, fun K f fd F n hn => ?_⟩, by decide +kernel⟩
  obtain rfl : n = 0 := Nat.le_zero.mp hn
  exact ⟨[], [], rfl, .nil, L2.FunD.bindsN (ps := ["_law_pen"]) F fun _ _ _ _ _ _ us hl => match us, hl with | [_], _ => rfl⟩
theorem s__law_up : DefS pg d__law_up t__law_up := by
  refine ⟨rfl, rfl, rfl, rfl, ⟨["_law_pen"], ⟨rfl, rfl, rfl, by decide +kernel, rfl, by decide +kernel, by decide +kernel⟩, rfl, fun K f fd F n hn => ?_⟩, by decide +kernel⟩
  obtain rfl : n = 0 := Nat.le_zero.mp hn
  exact ⟨[], [], rfl, .nil, L2.FunD.bindsN (ps := ["_law_pen"]) F fun _ _ _ _ _ _ us hl => match us, hl with | [_], _ => rfl⟩
theorem s__law_row : DefS pg d__law_row t__law_row := by
  refine ⟨rfl, rfl, rfl, rfl, ⟨["_law_pen"], ⟨rfl, rfl, rfl, by decide +kernel, rfl, by decide +kernel, by decide +kernel⟩, rfl, fun K f fd F n hn => ?_⟩, by decide +kernel⟩
  obtain rfl : n = 0 := Nat.le_zero.mp hn
  exact ⟨[], [], rfl, .nil, L2.FunD.bindsN (ps := ["_law_pen"]) F fun _ _ _ _ _ _ us hl => match us, hl with | [_], _ => rfl⟩
theorem s__law_true : DefS pg d__law_true t__law_true := by
  refine ⟨rfl, rfl, rfl, rfl, ⟨["_law_pen", "_law_row_here", "_law_near"], ⟨rfl, rfl, rfl, by decide +kernel, rfl, by decide +kernel, by decide +kernel⟩, rfl, fun K f fd F n hn => ?_⟩, by decide +kernel⟩
  obtain rfl : n = 0 := Nat.le_zero.mp hn
  exact ⟨[], [], rfl, .nil, L2.FunD.bindsN (ps := ["_law_pen", "_law_row_here", "_law_near"]) F fun _ _ _ _ _ _ us hl => match us, hl with | [_, _, _], _ => rfl⟩
theorem s__law_shifted : DefS pg d__law_shifted t__law_shifted := by
  refine ⟨rfl, rfl, rfl, rfl, ⟨["_law_pen", "_law_telling"], ⟨rfl, rfl, rfl, by decide +kernel, rfl, by decide +kernel, by decide +kernel⟩, rfl, fun K f fd F n hn => ?_⟩, by decide +kernel⟩
  obtain rfl : n = 0 := Nat.le_zero.mp hn
  exact ⟨[], [], rfl, .nil, L2.FunD.bindsN (ps := ["_law_pen", "_law_telling"]) F fun _ _ _ _ _ _ us hl => match us, hl with | [_, _], _ => rfl⟩
theorem s__law_is_part : DefS pg d__law_is_part t__law_is_part := by
  refine ⟨rfl, rfl, rfl, rfl, ⟨["_law_thing"], ⟨rfl, rfl, rfl, by decide +kernel, rfl, by decide +kernel, by decide +kernel⟩, rfl, fun K f fd F n hn => ?_⟩, by decide +kernel⟩
  obtain rfl : n = 0 := Nat.le_zero.mp hn
  exact ⟨[], [], rfl, .nil, L2.FunD.bindsN (ps := ["_law_thing"]) F fun _ _ _ _ _ _ us hl => match us, hl with | [_], _ => rfl⟩
theorem s__law_is_row : DefS pg d__law_is_row t__law_is_row := by
  refine ⟨rfl, rfl, rfl, rfl, ⟨["_law_thing"], ⟨rfl, rfl, rfl, by decide +kernel, rfl, by decide +kernel, by decide +kernel⟩, rfl, fun K f fd F n hn => ?_⟩, by decide +kernel⟩
  obtain rfl : n = 0 := Nat.le_zero.mp hn
  exact ⟨[], [], rfl, .nil, L2.FunD.bindsN (ps := ["_law_thing"]) F fun _ _ _ _ _ _ us hl => match us, hl with | [_], _ => rfl⟩
theorem s__law_broken : DefS pg d__law_broken t__law_broken := by
  refine ⟨rfl, rfl, rfl, rfl, ⟨["_law_tellings", "_law_row_here"], ⟨rfl, rfl, rfl, by decide +kernel, rfl, by decide +kernel, by decide +kernel⟩, rfl, fun K f fd F n hn => ?_⟩, by decide +kernel⟩
  obtain rfl : n = 0 := Nat.le_zero.mp hn
  exact ⟨[], [], rfl, .nil, L2.FunD.bindsN (ps := ["_law_tellings", "_law_row_here"]) F fun _ _ _ _ _ _ us hl => match us, hl with | [_, _], _ => rfl⟩
theorem s_law : DefS pg d_law t_law := by
  refine ⟨rfl, rfl, rfl, rfl, ⟨["_law_script"], ⟨rfl, rfl, rfl, by decide +kernel, rfl, by decide +kernel, by decide +kernel⟩, rfl, fun K f fd F n hn => ?_⟩, by decide +kernel⟩
  obtain rfl : n = 0 := Nat.le_zero.mp hn
  exact ⟨[], [], rfl, .nil, L2.FunD.bindsN (ps := ["_law_script"]) F fun _ _ _ _ _ _ us hl => match us, hl with | [_], _ => rfl⟩
theorem all_s : DefsS pg pg.defs fn := .cons s_is_whole (.cons s_is_from_to (.cons s_shared (.cons s_lowest (.cons s_is_part (.cons s_minus (.cons s_below (.cons s_is_clock_number (.cons s_are_bounds (.cons s_is_telling (.cons s_are_tellings (.cons s_need_tellings (.cons s_is_row (.cons s_need_row (.cons s_is_kept (.cons s_first_broken (.cons s__law_cell_at (.cons s__law_next (.cons s__law_pen_of (.cons s__law_draw (.cons s__law_made (.cons s__law_sum (.cons s__law_rest (.cons s__law_under (.cons s__law_some (.cons s__law_up (.cons s__law_row (.cons s__law_true (.cons s__law_shifted (.cons s__law_is_part (.cons s__law_is_row (.cons s__law_broken (.cons s_law (.nil)))))))))))))))))))))))))))))))))
/-! ### the head -/
theorem ob_eq (s : PySem.W.SharedT) : obI s = hk.obs s.abs := seeP_eq (HandSHeadRun.getT_eq s)
theorem exc_p : ∀ c w, pg.exc[c]? = some w → c < 17 ∧ wrdN[c]? = some w.2 ∧ clsN[c]? = some w.1 := by
  intro c w h
  have hc : c < 17 := (List.getElem?_eq_some_iff.mp h).1
  have : c = 0 ∨ c = 1 ∨ c = 2 ∨ c = 3 ∨ c = 4 ∨ c = 5 ∨ c = 6 ∨ c = 7 ∨ c = 8 ∨ c = 9 ∨ c = 10 ∨ c = 11 ∨ c = 12 ∨ c = 13 ∨ c = 14 ∨ c = 15 ∨ c = 16 := by omega
  rcases this with rfl | rfl | rfl | rfl | rfl | rfl | rfl | rfl | rfl | rfl | rfl | rfl | rfl | rfl | rfl | rfl | rfl <;> (cases h; decide)
theorem exc_l : ∀ c, c < 17 → ∃ w, pg.exc[c]? = some w := fun c hc => ⟨_, List.getElem?_eq_getElem hc⟩
end Law
set_option Elab.async false
set_option linter.all false
set_option maxRecDepth 100000
set_option maxHeartbeats 0
namespace Law
open PySem G43
local macro_rules
  | `(tactic| exists $es,*) => `(tactic| simp only [↓e_var0, ↓e_varS, ↓e_cst, ↓e_bin, ↓e_neg, ↓e_nt, ↓e_and, ↓e_or, ↓e_cmp, ↓e_chn, ↓e_ite, ↓e_call, ↓e_bi, ↓e_isi, ↓e_idx, ↓e_slo, ↓e_shi, ↓e_slh, ↓e_tup, ↓e_lst, ↓e_mls, ↓e_comp, ↓l_nil, ↓l_cons, ↓i_seq, ↓i_rng1, ↓i_enm, ↓ts_nil, ↓ts_cons, ↓b_def, ↓st_set, ↓st_par, ↓st_unp, ↓st_sub, ↓s_exp, ↓s_iff, ↓s_for, ↓s_whl, ↓s_ret, ↓s_retN, ↓s_pass, ↓sl_nil, ↓sl_cons, ↓n_set0, ↓n_setS, ↓n_kil0, ↓n_kilS, ↓n_sa0, ↓n_saS, ↓t_nm, ↓t_tup, ↓t_lnil, ↓t_lcons, ↓k_if, ↓k_neg, ↓k_bin, ↓k_cmp, ↓k_bi0, ↓k_bi1, ↓k_bi2, ↓is_tup, ↓is_int, ↓is_intb, ↓p_ix0, ↓p_ix1, ↓p_is, ↓k_ixt0, ↓k_ixt1, ↓k_ixt2, ↓k_s1t, ↓k_s1l, ↓k_s1s, ↓k_s2t, ↓k_s2l, ↓k_s3t, ↓k_s3l, ↓k_s3s, ↓k_ps0, ↓k_psS, ↓k_pv, ↓k_frT, ↓k_sql, ↓k_sqt, ↓k_sqs, ↓k_zipl, ↓k_enml, ↓k_enmt, ↓k_zipt, ↓k_ap1T, ↓k_ap2T, ↓fin_pv, ↓o_addi, ↓o_addl, ↓o_addt, ↓o_adds, ↓o_subi, ↓o_muli, ↓o_mult, ↓o_divi, ↓o_modi, ↓o_powi, ↓c_eqi, ↓c_nei, ↓c_lti, ↓c_lei, ↓c_gti, ↓c_gei, ↓c_isn, ↓c_isnn, ↓f_lent, ↓f_lenl, ↓f_lens, ↓f_abs, ↓f_max, ↓f_int, ↓f_intb, ↓f_tupl, ↓f_tupt, ↓f_lstl, ↓f_lstt, ↓p_len, ↓p_eq, ↓p_ne, ↓k_ap1S, ↓k_ap2S, ↓k_frS, ↓k_birT, ↓k_birS, ↓k_madp, ↓k_mrpp, ↓e_word, ↓s_rsx, ↓g_NOUGHT, ↓g_CLOCKS, ↓g_MOST_TELLINGS, n_slot0, n_slot1, n_slotS, take_self, take_top, take_selfS, take_topS, isn_non, isn_tup, isn_int, isn_lst, isn_str, p_isn, p_01, length_setH, set_setH, f_all, f_any, x_mapnil, x_mapcons, x_appnil, x_consapp, x_nilapp, x_lennil, x_lencons, x_decT, x_notT, x_decF, x_nt, x_nf, x_ft, x_tt, x_ff, x_tf, x_iteT, x_iteF, x_iteN, x_ta, x_at, $[$es:term],*])
theorem is_whole_ok (i : Int) : Ret pg 1 i_is_whole [.int i] (.bl true) := by
  intro d hd h Q X z
  obtain ⟨d, rfl⟩ : ∃ e, d = e + 1 := ⟨d - 1, by omega⟩
  refine in_is_whole ?_
  (try exists x_ta, b_is_whole)
  exact z
theorem is_whole_any {p : PV} (hp : plain p = true) : Ret pg 1 i_is_whole [p] (.bl (whole p)) := by
  intro d hd h Q X z
  obtain ⟨d, rfl⟩ : ∃ e, d = e + 1 := ⟨d - 1, by omega⟩
  refine in_is_whole ?_
  (try exists x_ta, b_is_whole)
  rw [is_intA hp]
  cases p <;> first
    | (cases hp; done)
    | (simp only [Bool.false_eq_true, if_false]; exact z)
    | (simp only [if_true]; rw [is_boolA rfl]; exact z)
theorem is_from_to_any {p : PV} {a b : Int} (hp : plain p = true) : Ret pg 2 i_is_from_to [p, .int a, .int b] (.bl (inB a b p)) := by
  intro d hd h Q X z
  obtain ⟨d, rfl⟩ : ∃ e, d = e + 1 := ⟨d - 1, by omega⟩
  refine in_is_from_to ?_
  (try exists x_ta, b_is_from_to)
  refine is_whole_any hp d (by omega) _ _ _ ?_
  (try exists x_ta)
  cases p with
  | int n =>
    (try exists x_ta, whole)
    by_cases h1 : a ≤ n
    · by_cases h2 : n ≤ b
      · simpa [inB, h1, h2] using z
      · simpa [inB, h1, h2] using z
    · simpa [inB, h1] using z
  | _ => exact z
theorem shared_ok (a b : Int) (hb : 0 ≤ b) : Ret pg 1 i_shared [.int a, .int b] (.int (Int.gcd a b)) := by
  intro d hd h Q X z
  obtain ⟨d, rfl⟩ : ∃ e, d = e + 1 := ⟨d - 1, by omega⟩
  refine in_shared ?_
  (try exists x_ta, b_shared)
  refine ⟨fun m ρ h' => ∃ x y : Int, ρ = [some (.pv (.int x)), some (.pv (.int y))] ∧ h' = h ∧ 0 ≤ x ∧ 0 ≤ y ∧ Int.gcd x y = Int.gcd a b ∧ m = x.toNat, ⟨_, _, _, rfl, rfl, ?_, hb, ?_, rfl⟩, ?_⟩
  · split <;> omega
  · split
    · rw [Int.neg_gcd]
    · rfl
  · rintro m ρ h' ⟨x, y, rfl, rfl, hx, hy, hg, rfl⟩
    (try exists x_ta)
    split
    · rename_i hx0
      have h1 := Int.emod_lt_of_pos y hx0
      have h2 := Int.emod_nonneg y (show x ≠ 0 by omega)
      exact ⟨hx0, (y % x).toNat, by omega, y % x, x, rfl, h2, hx, by rw [gcd_step _ _ hx hy, hg], rfl⟩
    · obtain rfl : x = 0 := by omega
      rw [Int.zero_gcd] at hg
      have e : y = (Int.gcd a b : Int) := by omega
      rw [e]
      exact z
theorem lowest_ok (n m : Int) {b : Nat} (hm : m ≠ 0) (hb : m.natAbs < 2 ^ b) (h9 : b ≤ 9000) : Ret pg 2 i_lowest [.int n, .int m] (pt (Rat.divInt n m)) := by
  intro d hd h Q X z
  obtain ⟨d, rfl⟩ : ∃ e, d = e + 1 := ⟨d - 1, by omega⟩
  refine in_lowest ?_
  (try exists x_ta, b_lowest)
  split
  · rename_i h0
    refine shared_ok _ _ (by omega) d (by omega) _ _ _ ?_
    have hp : 0 < 0 - m := by omega
    have hc : ∀ x, L2.CDivW x ((Int.gcd (0 - n) (0 - m) : Int)) := fun x => divW (gcd_pos hp) (gcd_lt hp (by rw [Int.zero_sub, Int.natAbs_neg]; exact hb)) h9
    (try exists x_ta)
    refine ⟨hc _, hc _, ?_⟩
    rw [low_pos hp, Int.zero_sub, Int.zero_sub, Rat.neg_divInt_neg]
    exact z
  · rename_i h0
    refine shared_ok _ _ (by omega) d (by omega) _ _ _ ?_
    have hp : 0 < m := by omega
    have hc : ∀ x, L2.CDivW x ((Int.gcd n m : Int)) := fun x => divW (gcd_pos hp) (gcd_lt hp hb) h9
    (try exists x_ta)
    refine ⟨hc _, hc _, ?_⟩
    rw [low_pos hp]
    exact z
theorem is_part_ok (q : Rat) : Ret pg 2 i_is_part [pt q] (.bl true) := by
  intro d hd h Q X z
  obtain ⟨d, rfl⟩ : ∃ e, d = e + 1 := ⟨d - 1, by omega⟩
  refine in_is_part ?_
  (try exists x_ta, b_is_part)
  refine is_whole_ok _ d (by omega) _ _ _ ?_
  (try exists x_ta)
  refine is_whole_ok _ d (by omega) _ _ _ ?_
  (try exists x_ta)
  rw [if_pos (den_pos' q)]
  refine shared_ok _ _ (by omega) d (by omega) _ _ _ ?_
  (try exists x_ta)
  have e : Int.gcd q.num q.den = 1 := by
    unfold Int.gcd
    rw [den_nat]
    exact q.reduced
  rw [e]
  exact z
theorem is_part_any {p : PV} (hp : plain2 p = true) : Ret pg 2 i_is_part [p] (.bl (isPt p)) := by
  have hp1 : plain p = true := by cases p <;> first | rfl | (cases hp; done)
  intro d hd h Q X z
  obtain ⟨d, rfl⟩ : ∃ e, d = e + 1 := ⟨d - 1, by omega⟩
  refine in_is_part ?_
  (try exists x_ta, b_is_part)
  rw [is_tupA hp1]
  have no : ∀ {p : PV}, (∀ l, p ≠ .tup l) → isPt p = false := by
    intro p h
    unfold isPt
    split
    · exact absurd rfl (h _)
    · rfl
  cases p with
  | tup l =>
    (try exists x_ta)
    rcases l with _ | ⟨a, _ | ⟨b, _ | ⟨c, l⟩⟩⟩
    · (try exists x_ta)
      exact z
    · (try exists x_ta)
      rw [if_neg (by decide)]
      rw [show isPt (.tup [a]) = false by cases a <;> rfl] at z
      exact z
    · have ha : plain a = true := by have : ([a, b] : List PV).all plain = true := hp; simp at this; exact this.1
      have hb : plain b = true := by have : ([a, b] : List PV).all plain = true := hp; simp at this; exact this.2
      (try exists x_ta)
      refine is_whole_any ha d (by omega) _ _ _ ?_
      (try exists x_ta)
      cases a with
      | int n =>
        rw [if_neg (by simp [whole])]
        refine is_whole_any hb d (by omega) _ _ _ ?_
        (try exists x_ta)
        cases b with
        | int m =>
          rw [if_neg (by simp [whole])]
          (try exists x_ta)
          split
          · rename_i h0
            refine shared_ok _ _ (by omega) d (by omega) _ _ _ ?_
            (try exists x_ta)
            have e : isPt (.tup [.int n, .int m]) = decide ((Int.gcd n m : Int) = 1) := by
              show (decide (0 < m) && decide (Int.gcd n m = 1)) = _
              rw [decide_eq_true h0, Bool.true_and]
              exact decide_eq_decide.mpr (by omega)
            rw [e] at z
            exact z
          · rename_i h0
            have e : isPt (.tup [.int n, .int m]) = false := by
              show (decide (0 < m) && decide (Int.gcd n m = 1)) = _
              rw [decide_eq_false h0, Bool.false_and]
            rw [e] at z
            exact z
        | _ => exact z
      | _ => exact z
    · (try exists x_ta)
      rw [if_neg (by omega)]
      rw [show isPt (.tup (a :: b :: c :: l)) = false by cases a <;> cases b <;> rfl] at z
      exact z
  | _ => first | (cases hp1; done) | (rw [no (by intro l z; cases z)] at z; simp only [Bool.false_eq_true, if_false, Bool.not_false, if_true]; (try exists x_ta); exact z)
theorem minus_ok {p q : Rat} {a b : Nat} (sp : Sz a p) (sq : Sz b q) (h9 : a + b ≤ 9000) : Ret pg 3 i_minus [pt p, pt q] (pt (p - q)) := by
  intro d hd h Q X z
  obtain ⟨d, rfl⟩ : ∃ e, d = e + 1 := ⟨d - 1, by omega⟩
  refine in_minus ?_
  (try exists x_ta, b_minus)
  refine ⟨sp.nd sq (by omega), sq.nd sp (by omega), sp.dd sq (by omega), ?_⟩
  refine lowest_ok _ _ (b := a + b) (Int.ne_of_gt (Int.mul_pos (den_pos' p) (den_pos' q))) ?_ h9 d (by omega) _ _ _ ?_
  · rw [Int.natAbs_mul, den_nat, den_nat, Nat.pow_add]
    exact Nat.mul_lt_mul'' sp.2 sq.2
  · (try exists x_ta, sub_made)
    exact z
theorem below_ok {p q : Rat} {a b : Nat} (sp : Sz a p) (sq : Sz b q) (h9 : a + b ≤ 9000) : Ret pg 1 i_below [pt p, pt q] (.bl (decide (p < q))) := by
  intro d hd h Q X z
  obtain ⟨d, rfl⟩ : ∃ e, d = e + 1 := ⟨d - 1, by omega⟩
  refine in_below ?_
  (try exists x_ta, b_below, lt_made)
  exact ⟨sp.nd sq (by omega), sq.nd sp (by omega), z⟩
theorem is_clock_number_any {p : PV} (hp : plain p = true) : Ret pg 3 i_is_clock_number [p] (.bl (inB 0 5 p)) := by
  intro d hd h Q X z
  obtain ⟨d, rfl⟩ : ∃ e, d = e + 1 := ⟨d - 1, by omega⟩
  refine in_is_clock_number ?_
  (try exists x_ta, b_is_clock_number)
  refine is_from_to_any hp d (by omega) _ _ _ ?_
  (try exists x_ta)
  exact z
theorem is_clock_number_ok {n : Nat} (h : n < 6) : Ret pg 3 i_is_clock_number [.int n] (.bl true) := by
  have e : inB 0 5 (.int n) = true := by simp [inB]; omega
  rw [← e]
  exact is_clock_number_any rfl
theorem are_bounds_ok {s : Nat} {t : Tel} (k : OkT s t) (h9 : 2 * s ≤ 9000) : Ret pg 3 i_are_bounds [ob t.lo, ob t.hi] (.bl true) := by
  intro d hd h Q X z
  obtain ⟨d, rfl⟩ : ∃ e, d = e + 1 := ⟨d - 1, by omega⟩
  refine in_are_bounds ?_
  (try exists x_ta, b_are_bounds)
  obtain ⟨_, _, _, so, le, zl, zh⟩ := k
  cases e1 : t.lo with
  | none =>
    cases e2 : t.hi with
    | none => rw [e1, e2] at so; simp at so
    | some h =>
      (try exists x_ta, ob)
      refine is_part_any rfl d (by omega) _ _ _ ?_
      (try exists x_ta, isPt)
      refine is_part_ok _ d (by omega) _ _ _ ?_
      (try exists x_ta)
      exact z
  | some l =>
    cases e2 : t.hi with
    | none =>
      (try exists x_ta, ob)
      refine is_part_ok _ d (by omega) _ _ _ ?_
      (try exists x_ta)
      exact z
    | some h =>
      (try exists x_ta, ob)
      refine is_part_ok _ d (by omega) _ _ _ ?_
      (try exists x_ta)
      refine is_part_ok _ d (by omega) _ _ _ ?_
      (try exists x_ta)
      refine below_ok (zh _ e2) (zl _ e1) (by omega) d (by omega) _ _ _ ?_
      (try exists x_ta)
      rw [decide_eq_false (le _ _ e1 e2)]
      exact z
theorem is_telling_ok {s : Nat} {t : Tel} (k : OkT s t) (h9 : 2 * s ≤ 9000) : Ret pg 4 i_is_telling [encT t] (.bl true) := by
  intro d hd h Q X z
  obtain ⟨d, rfl⟩ : ∃ e, d = e + 1 := ⟨d - 1, by omega⟩
  refine in_is_telling ?_
  (try exists x_ta, b_is_telling, encT)
  refine is_clock_number_ok k.a6 d (by omega) _ _ _ ?_
  (try exists x_ta)
  refine is_clock_number_ok k.b6 d (by omega) _ _ _ ?_
  (try exists x_ta)
  have : ¬ ((t.a : Int) = t.b) := by have := k.ne; omega
  rw [if_neg this]
  rw [k_ixt3]
  refine are_bounds_ok k h9 d (by omega) _ _ _ ?_
  (try exists x_ta)
  exact z
theorem are_tellings_ok {s : Nat} {ts : List Tel} (k : ∀ t ∈ ts, OkT s t) (hl : ts.length ≤ 16) (h9 : 2 * s ≤ 9000) : Ret pg 5 i_are_tellings [tls ts] (.bl true) := by
  intro d hd h Q X z
  obtain ⟨d, rfl⟩ : ∃ e, d = e + 1 := ⟨d - 1, by omega⟩
  refine in_are_tellings ?_
  (try exists x_ta, b_are_tellings, tls)
  rw [List.length_map, if_pos (by omega)]
  refine ⟨szl (by omega), ?_⟩
  refine compT_map1 encT (fun x => .bl ((fun _ => true) x)) trivial ts (fun a ha q hq => ?_) ?_
  · (try exists x_ta)
    refine is_telling_ok (k a ha) h9 d (by omega) _ _ _ ?_
    (try exists x_ta)
    exact hq
  · (try exists x_ta)
    rw [show (List.all ts fun _ => true) = true by simp]
    exact z
theorem need_tellings_ok {s : Nat} {ts : List Tel} (k : ∀ t ∈ ts, OkT s t) (hl : ts.length ≤ 16) (h9 : 2 * s ≤ 9000) : Ret pg 6 i_need_tellings [tls ts] .non := by
  intro d hd h Q X z
  obtain ⟨d, rfl⟩ : ∃ e, d = e + 1 := ⟨d - 1, by omega⟩
  refine in_need_tellings ?_
  (try exists x_ta, b_need_tellings)
  refine are_tellings_ok k hl h9 d (by omega) _ _ _ ?_
  (try exists x_ta)
  exact z
theorem is_row_any {p : PV} (hp : plain p = true) (hq : ∀ l, p = .tup l → ∀ x ∈ l, plain2 x = true) : Ret pg 3 i_is_row [p] (.bl (isRow p)) := by
  intro d hd h Q X z
  obtain ⟨d, rfl⟩ : ∃ e, d = e + 1 := ⟨d - 1, by omega⟩
  refine in_is_row ?_
  (try exists x_ta, b_is_row)
  rw [is_tupA hp]
  cases p with
  | tup l =>
    (try exists x_ta)
    by_cases h6 : (l.length : Int) = 6
    · rw [if_pos h6]
      refine ⟨szl (by omega), ?_⟩
      refine compT_pv (fun x => .bl (isPt x)) trivial l (fun a ha q hq' => ?_) ?_
      · refine is_part_any (hq l rfl a ha) d (by omega) _ _ _ ?_
        (try exists x_ta)
        exact hq'
      · rw [f_all (f := isPt)]
        (try exists x_ta)
        cases l with
        | nil => simp at h6
        | cons x l =>
          have h5 : decide (l.length = 5) = true := by simp at h6 ⊢; omega
          cases e : (x :: l).all isPt with
          | false =>
            (try exists x_ta)
            have : isRow (.tup (x :: l)) = false := by
              show (decide (l.length = 5) && (x :: l).all isPt && peq x (.tup [.int 0, .int 1])) = false
              rw [e]
              simp
            rw [this] at z
            exact z
          | true =>
            (try exists x_ta)
            have : isRow (.tup (x :: l)) = peq x (.tup [.int 0, .int 1]) := by
              show (decide (l.length = 5) && (x :: l).all isPt && peq x (.tup [.int 0, .int 1])) = _
              rw [e, h5]
              simp
            rw [this] at z
            have hx : isPt x = true := by rw [List.all_cons, Bool.and_eq_true] at e; exact e.1
            obtain ⟨q, rfl⟩ := isPt_pt hx
            exact ⟨dt_pt _, dt_pt 0, z⟩
    · rw [if_neg h6]
      have : isRow (.tup l) = false := by
        cases l with
        | nil => rfl
        | cons x l =>
          show (decide (l.length = 5) && (x :: l).all isPt && peq x (.tup [.int 0, .int 1])) = false
          rw [decide_eq_false (by simp at h6; omega)]
          simp
      rw [this] at z
      exact z
  | _ => exact z
theorem is_row_ok {r : List Rat} (hr : r.length = 6) (h0 : r.getD 0 0 = 0) : isRow (rowP r) = true := by
  cases r with
  | nil => simp at hr
  | cons x r =>
    show (decide ((r.map pt).length = 5) && (pt x :: r.map pt).all isPt && peq (pt x) (pt 0)) = true
    have h1 : (pt x :: r.map pt).all isPt = true := by
      rw [List.all_eq_true]
      intro y hy
      rcases List.mem_cons.mp hy with rfl | hy
      · exact pt_isPt _
      · obtain ⟨q, _, rfl⟩ := List.mem_map.mp hy
        exact pt_isPt _
    have h2 : x = 0 := h0
    rw [h1, pt_inj, decide_eq_true h2, decide_eq_true (by simpa using hr)]
    rfl
theorem rowP_pl {r : List Rat} : ∀ l, rowP r = .tup l → ∀ x ∈ l, plain2 x = true := by
  intro l e x hx
  cases e
  obtain ⟨q, _, rfl⟩ := List.mem_map.mp hx
  rfl
theorem need_row_ok {r : List Rat} (hr : r.length = 6) (h0 : r.getD 0 0 = 0) : Ret pg 4 i_need_row [rowP r] .non := by
  intro d hd h Q X z
  obtain ⟨d, rfl⟩ : ∃ e, d = e + 1 := ⟨d - 1, by omega⟩
  refine in_need_row ?_
  (try exists x_ta, b_need_row)
  refine is_row_any rfl rowP_pl d (by omega) _ _ _ ?_
  rw [is_row_ok hr h0]
  (try exists x_ta)
  exact z
theorem need_row_bad {p : PV} (hp : plain p = true) (hq : ∀ l, p = .tup l → ∀ x ∈ l, plain2 x = true) (hb : isRow p = false) : Rse pg 4 i_need_row [p] 7 := by
  intro d hd h Q X z
  obtain ⟨d, rfl⟩ : ∃ e, d = e + 1 := ⟨d - 1, by omega⟩
  refine in_need_row ?_
  (try exists x_ta, b_need_row)
  refine is_row_any hp hq d (by omega) _ _ _ ?_
  rw [hb]
  (try exists x_ta)
  exact z
theorem is_kept_ok {s : Nat} {t : Tel} {r : List Rat} (k : OkT s t) (hr : r.length = 6) (zr : ∀ i, Sz s (r.getD i 0)) (h9 : 3 * s + 1 ≤ 9000) : Ret pg 4 i_is_kept [encT t, rowP r] (.bl (keptT t r)) := by
  intro d hd h Q X z
  obtain ⟨d, rfl⟩ : ∃ e, d = e + 1 := ⟨d - 1, by omega⟩
  refine in_is_kept ?_
  (try exists x_ta, b_is_kept, encT)
  rw [ixRow hr k.b6, ixRow hr k.a6]
  refine minus_ok (zr _) (zr _) (by omega) d (by omega) _ _ _ ?_
  have zz := (zr t.b).sub (zr t.a)
  unfold keptT at z
  cases e1 : t.lo with
  | none =>
    cases e2 : t.hi with
    | none => exact absurd k.so (by simp [e1, e2])
    | some hh =>
      rw [e1, e2] at z
      (try exists x_ta, ob)
      refine below_ok (k.zh _ e2) zz (by omega) d (by omega) _ _ _ ?_
      (try exists x_ta)
      simpa using z
  | some l =>
    (try exists x_ta, ob)
    refine below_ok zz (k.zl _ e1) (by omega) d (by omega) _ _ _ ?_
    (try exists x_ta)
    by_cases hb : r.getD t.b 0 - r.getD t.a 0 < l
    · simp only [e1, decide_eq_true hb, Bool.not_true, Bool.false_and] at z
      rw [if_pos hb]
      exact z
    · simp only [e1, decide_eq_false hb, Bool.not_false, Bool.true_and] at z
      rw [if_neg hb]
      cases e2 : t.hi with
      | none =>
        rw [e2] at z
        (try exists x_ta, ob)
        exact z
      | some hh =>
        rw [e2] at z
        (try exists x_ta, ob)
        refine below_ok (k.zh _ e2) zz (by omega) d (by omega) _ _ _ ?_
        (try exists x_ta)
        exact z
theorem first_broken_ok {s : Nat} {ts : List Tel} {r : List Rat} (k : ∀ t ∈ ts, OkT s t) (hl : ts.length ≤ 16) (hr : r.length = 6) (h0 : r.getD 0 0 = 0) (zr : ∀ i, Sz s (r.getD i 0)) (h9 : 3 * s + 1 ≤ 9000) :
    Ret pg 7 i_first_broken [tls ts, rowP r] (numP (fstIdx (fun t => !keptT t r) ts 0)) := by
  intro d hd h Q X z
  obtain ⟨d, rfl⟩ : ∃ e, d = e + 1 := ⟨d - 1, by omega⟩
  refine in_first_broken ?_
  (try exists x_ta, b_first_broken)
  refine need_tellings_ok k hl (by omega) d (by omega) _ _ _ ?_
  (try exists x_ta)
  refine need_row_ok hr h0 d (by omega) _ _ _ ?_
  (try exists x_ta, tls)
  rw [enmL_map]
  refine loopT_find (fun n t => PV.tup [.int n, encT t]) (fun t => !keptT t r) (fun o => Q (.pv (numP o)) h) trivial ts 0 ?_ ?_ z
  · intro n t kk ht hk
    (try exists x_ta)
    refine is_kept_ok (k t ht) hr zr h9 d (by omega) _ _ _ ?_
    (try exists x_ta)
    cases e : keptT t r with
    | true =>
      rw [e] at hk
      (try exists x_ta)
      exact hk
    | false =>
      rw [e] at hk
      (try exists x_ta)
      exact hk
  · intro q
    (try exists x_ta)
    exact q
theorem first_broken_bad {s : Nat} {ts : List Tel} {p : PV} (k : ∀ t ∈ ts, OkT s t) (hl : ts.length ≤ 16) (h9 : 2 * s ≤ 9000) (hp : plain p = true) (hq : ∀ l, p = .tup l → ∀ x ∈ l, plain2 x = true) (hb : isRow p = false) :
    Rse pg 7 i_first_broken [tls ts, p] 7 := by
  intro d hd h Q X z
  obtain ⟨d, rfl⟩ : ∃ e, d = e + 1 := ⟨d - 1, by omega⟩
  refine in_first_broken ?_
  (try exists x_ta, b_first_broken)
  refine need_tellings_ok k hl (by omega) d (by omega) _ _ _ ?_
  (try exists x_ta)
  refine need_row_bad hp hq hb d (by omega) _ _ _ ?_
  (try exists x_ta)
  exact z
theorem cell_at_ok {l : List PV} {k : Int} (hk : 0 ≤ k) (hi : ∀ x ∈ l, ∃ i, x = PV.int i) : ∀ d, 1 ≤ d → ∀ (h : Hs) (Q : QV) (X : QX), (∀ i, Q (.pv (.int i)) h) → wpC pg d i__law_cell_at [.pv (.scr l), .pv (.int k)] h Q X := by
  intro d hd h Q X z
  obtain ⟨d, rfl⟩ : ∃ e, d = e + 1 := ⟨d - 1, by omega⟩
  refine in__law_cell_at ?_
  (try exists x_ta, b__law_cell_at)
  split
  · rename_i hl
    obtain ⟨n, rfl⟩ := Int.eq_ofNat_of_zero_le hk
    have h2 : n < l.length := by omega
    rw [k_ixs]
    refine ⟨l[n], ?_, ?_⟩
    · unfold atI L2.atI L2.ixN
      rw [if_pos hk, if_pos (by omega)]
      simp [h2]
    · obtain ⟨i, e⟩ := hi _ (List.getElem_mem h2)
      rw [e]
      exact z i
  · exact z 0
theorem next_ok (s : Int) : ∃ r : Int, 0 ≤ r ∧ r < 2147483629 ∧ Ret pg 1 i__law_next [.int s] (.int r) := by
  have h1 : 0 ≤ (s + 7919) % 2147483647 := Int.emod_nonneg _ (by decide)
  have h2 : (s + 7919) % 2147483647 < 2147483647 := Int.emod_lt_of_pos _ (by decide)
  generalize hs : (s + 7919) % 2147483647 = t at h1 h2
  have n1 : t.natAbs < 2 ^ 31 := by
    have : (2 : Nat) ^ 31 = 2147483648 := by decide
    omega
  refine ⟨(t * t + 48271 * t + 12345) % 2147483629, Int.emod_nonneg _ (by decide), Int.emod_lt_of_pos _ (by decide), ?_⟩
  intro d hd h Q X z
  obtain ⟨d, rfl⟩ : ∃ e, d = e + 1 := ⟨d - 1, by omega⟩
  refine in__law_next ?_
  (try exists x_ta, b__law_next)
  rw [hs]
  (try exists x_ta)
  refine ⟨by decide, mulW n1 n1 (by decide), mulW (a := 16) (b := 31) (by decide) n1 (by decide), by decide, z⟩
theorem pen_of_ok (c : Int) : ∀ d, 1 ≤ d → ∀ (h : Hs) (Q : QV) (X : QX), (∀ p : Pen, Q (.ref h.length) (h ++ [some (penL p)])) → wpC pg d i__law_pen_of [.pv (.int c)] h Q X := by
  intro d hd h Q X z
  obtain ⟨d, rfl⟩ : ∃ e, d = e + 1 := ⟨d - 1, by omega⟩
  refine in__law_pen_of ?_
  (try exists x_ta, b__law_pen_of)
  refine ⟨⟨by decide, by decide, by decide⟩, by decide, ?_⟩
  rw [fin_new]
  have h1 := Int.emod_nonneg (if 0 - c > c then 0 - c else c) (show (1000003 : Int) ≠ 0 by decide)
  have h2 := Int.emod_lt_of_pos (if 0 - c > c then 0 - c else c) (show (0 : Int) < 1000003 by decide)
  have h0 : 0 ≤ (if 0 - c > c then 0 - c else c) := by split <;> omega
  exact z ⟨_, _, _, h0, h1, by omega⟩
theorem draw_ok {i : Nat} {n : Int} {b : Nat} (h0 : 0 < n) (h1 : n.natAbs < 2 ^ b) (hb : b ≤ 9000) : Dr pg 2 i__law_draw [.ref i, .pv (.int n)] i PV.int (fun v => 0 ≤ v ∧ v < n) := by
  intro d hd h P Q X z
  have hi := P.lt
  obtain ⟨p, e⟩ := P
  obtain ⟨d, rfl⟩ : ∃ e, d = e + 1 := ⟨d - 1, by omega⟩
  refine in__law_draw ?_
  unfold penL at e
  have hc : ∀ x, L2.CDivW x n := fun x => divW h0 h1 hb
  have low : ∀ (X : QX) , kIx (RV.ref i) (RV.pv (PV.int 2)) h fun r =>
        wpC pg d i__law_next [RV.pv r] h
          (fun x h1 =>
            kBin Operator.Add x (RV.pv (PV.int 7)) h1 fun r =>
              wpC pg d i__law_next [RV.pv r] h1
                (fun y h1 =>
                  kSub (RV.ref i) (RV.pv (PV.int 2)) y h1 fun h4 =>
                    kIx (RV.ref i) (RV.pv (PV.int 2)) h4 fun r =>
                      wpBin Operator.FloorDiv r (PV.int 64) fun r =>
                        wpBin Operator.Mod r (PV.int n) fun r => Q (RV.pv r) (List.take (List.length h) h4)) X) X := by
    intro X
    rw [pn_ix2 e]
    obtain ⟨r1, a1, a2, a3⟩ := next_ok p.c
    refine a3 d (by omega) _ _ _ ?_
    (try exists x_ta)
    obtain ⟨r2, b1, b2, b3⟩ := next_ok (r1 + 7)
    refine b3 d (by omega) _ _ _ ?_
    rw [pn_sub2 e, pn_ix2 (List.getElem?_set_self hi)]
    (try exists x_ta)
    refine ⟨⟨by decide, by decide⟩, h0, ?_⟩
    exact z _ ⟨p.a, p.b, r2, p.ha, b1, by omega⟩ ⟨Int.emod_nonneg _ (by omega), Int.emod_lt_of_pos _ h0⟩
  (try exists x_ta, b__law_draw)
  rw [pn_ix1 e]
  (try exists x_ta)
  split
  · rw [pn_ix0 e]
    (try exists x_ta)
    split
    · rename_i hp
      rw [pn_ix0 e]
      (try exists x_ta)
      refine ⟨h0, ?_⟩
      rw [pn_ix0 e]
      (try exists x_ta)
      refine ⟨hc _, ?_⟩
      rw [pn_sub0 e]
      (try exists x_ta)
      exact z _ ⟨p.a / n, p.b, p.c, Int.ediv_nonneg p.ha (by omega), p.hc, p.hc2⟩ ⟨Int.emod_nonneg _ (by omega), Int.emod_lt_of_pos _ h0⟩
    · exact low _
  · exact low _
theorem draw_n {i : Nat} {n : Int} (h0 : 0 < n) (h1 : n < 2 ^ 64) : Dr pg 2 i__law_draw [.ref i, .pv (.int n)] i PV.int (fun v => 0 ≤ v ∧ v < n) := draw_ok (b := 64) h0 (natAbs_lt (by omega) h1) (by decide)
theorem law_made_ok (n m : Int) {b : Nat} (hm : 0 < m) (hb : m.natAbs < 2 ^ b) (h9 : b ≤ 9000) : Ret pg 1 i__law_made [.int n, .int m] (pt (Rat.divInt n m)) := by
  intro d hd h Q X z
  obtain ⟨d, rfl⟩ : ∃ e, d = e + 1 := ⟨d - 1, by omega⟩
  refine in__law_made ?_
  (try exists x_ta, b__law_made)
  refine ⟨fun k ρ h' => ∃ x y : Int, ρ = [some (.pv (.int n)), some (.pv (.int m)), some (.pv (.int x)), some (.pv (.int y))] ∧ h' = h ∧ 0 ≤ x ∧ 0 ≤ y ∧ Int.gcd x y = Int.gcd n m ∧ k = y.toNat, ⟨_, _, _, rfl, rfl, ?_, by omega, ?_, rfl⟩, ?_⟩
  · split <;> omega
  · split
    · rw [Int.neg_gcd]
    · rfl
  · rintro k ρ h' ⟨x, y, rfl, rfl, hx, hy, hg, rfl⟩
    (try exists x_ta)
    split
    · rename_i hy0
      have h1 := Int.emod_lt_of_pos x hy0
      have h2 := Int.emod_nonneg x (show y ≠ 0 by omega)
      exact ⟨hy0, (x % y).toNat, by omega, y, x % y, rfl, hy, h2, by rw [Int.gcd_comm, gcd_step _ _ hy hx, Int.gcd_comm, hg], rfl⟩
    · obtain rfl : y = 0 := by omega
      rw [Int.gcd_zero] at hg
      have e : x = (Int.gcd n m : Int) := by omega
      rw [e]
      have hc : ∀ x, L2.CDivW x ((Int.gcd n m : Int)) := fun x => divW (gcd_pos hm) (gcd_lt hm hb) h9
      refine ⟨hc _, hc _, ?_⟩
      rw [low_pos hm]
      exact z
theorem law_sum_ok {p q : Rat} {a b : Nat} (sp : Sz a p) (sq : Sz b q) (h9 : a + b ≤ 9000) : Ret pg 2 i__law_sum [pt p, pt q] (pt (p + q)) := by
  intro d hd h Q X z
  obtain ⟨d, rfl⟩ : ∃ e, d = e + 1 := ⟨d - 1, by omega⟩
  refine in__law_sum ?_
  (try exists x_ta, b__law_sum)
  refine ⟨sp.nd sq (by omega), sq.nd sp (by omega), sp.dd sq (by omega), ?_⟩
  refine law_made_ok _ _ (b := a + b) (Int.mul_pos (den_pos' p) (den_pos' q)) ?_ h9 d (by omega) _ _ _ ?_
  · rw [Int.natAbs_mul, den_nat, den_nat, Nat.pow_add]
    exact Nat.mul_lt_mul'' sp.2 sq.2
  · (try exists x_ta, add_made)
    exact z
theorem law_rest_ok {p q : Rat} {a b : Nat} (sp : Sz a p) (sq : Sz b q) (h9 : a + b ≤ 9000) : Ret pg 2 i__law_rest [pt p, pt q] (pt (p - q)) := by
  intro d hd h Q X z
  obtain ⟨d, rfl⟩ : ∃ e, d = e + 1 := ⟨d - 1, by omega⟩
  refine in__law_rest ?_
  (try exists x_ta, b__law_rest)
  refine ⟨sp.nd sq (by omega), sq.nd sp (by omega), sp.dd sq (by omega), ?_⟩
  refine law_made_ok _ _ (b := a + b) (Int.mul_pos (den_pos' p) (den_pos' q)) ?_ h9 d (by omega) _ _ _ ?_
  · rw [Int.natAbs_mul, den_nat, den_nat, Nat.pow_add]
    exact Nat.mul_lt_mul'' sp.2 sq.2
  · (try exists x_ta, sub_made)
    exact z
theorem law_under_ok {p q : Rat} {a b : Nat} (sp : Sz a p) (sq : Sz b q) (h9 : a + b ≤ 9000) : Ret pg 1 i__law_under [pt p, pt q] (.bl (decide (p < q))) := by
  intro d hd h Q X z
  obtain ⟨d, rfl⟩ : ∃ e, d = e + 1 := ⟨d - 1, by omega⟩
  refine in__law_under ?_
  (try exists x_ta, b__law_under, lt_made)
  exact ⟨sp.nd sq (by omega), sq.nd sp (by omega), z⟩
theorem law_some_ok {i : Nat} : Dr pg 3 i__law_some [.ref i] i pt (fun q => Sz 6 q) := by
  intro d hd h P Q X z
  have hi := P.lt
  obtain ⟨d, rfl⟩ : ∃ e, d = e + 1 := ⟨d - 1, by omega⟩
  refine in__law_some ?_
  (try exists x_ta, b__law_some)
  refine draw_n (n := 40) (by decide) (by decide) d (by omega) _ (by first | assumption | exact PenH.set (by assumption) _ | exact PenH.setapp (by assumption) _ | exact PenH.new | exact PenH.app (by assumption) _) _ _ ?_
  rintro a p ⟨a1, a2⟩
  (try exists x_ta, set_appS hi, set_app hi)
  refine draw_n (n := 3) (by decide) (by decide) d (by omega) _ (by first | assumption | exact PenH.set (by assumption) _ | exact PenH.setapp (by assumption) _ | exact PenH.new | exact PenH.app (by assumption) _) _ _ ?_
  rintro b p2 ⟨b1, b2⟩
  (try exists x_ta, set_appS hi, set_app hi)
  refine pickN (fun n => 0 < n ∧ n ≤ 12) (by assumption) (by first | assumption | (simp; omega)) (by repeat (first | exact all1 | refine allC (by first | exact ⟨_, rfl, by omega⟩ | exact ⟨_, rfl, by decide⟩ | exact ⟨_, rfl, by grind⟩ | exact ⟨_, rfl, by assumption⟩) ?_)) ?_
  rintro n ⟨n1, n2⟩
  (try exists x_ta, set_appS hi, set_app hi)
  refine draw_n n1 (by omega) d (by omega) _ (by first | assumption | exact PenH.set (by assumption) _ | exact PenH.setapp (by assumption) _ | exact PenH.new | exact PenH.app (by assumption) _) _ _ ?_
  rintro c p3 ⟨c1, c2⟩
  (try exists x_ta, set_appS hi, set_app hi)
  refine draw_n (n := 2) (by decide) (by decide) d (by omega) _ (by first | assumption | exact PenH.set (by assumption) _ | exact PenH.setapp (by assumption) _ | exact PenH.new | exact PenH.app (by assumption) _) _ _ ?_
  rintro e p4 ⟨e1, e2⟩
  (try exists x_ta, set_appS hi, set_app hi)
  refine pickN (fun n => -40 < n ∧ n < 40) (by assumption) (by first | assumption | (simp; omega)) (by repeat (first | exact all1 | refine allC (by first | exact ⟨_, rfl, by omega⟩ | exact ⟨_, rfl, by decide⟩ | exact ⟨_, rfl, by grind⟩ | exact ⟨_, rfl, by assumption⟩) ?_)) ?_
  rintro t ⟨t1, t2⟩
  (try exists x_ta, set_appS hi, set_app hi)
  refine law_made_ok _ _ (b := 6) (by omega) (by omega) (by omega) d (by omega) _ _ _ ?_
  (try exists x_ta)
  exact z _ _ (sz_divInt (by omega) (by omega) (by omega))
theorem law_up_ok {i : Nat} : Dr pg 3 i__law_up [.ref i] i pt (fun q => 0 ≤ q ∧ Sz 5 q) := by
  intro d hd h P Q X z
  have hi := P.lt
  obtain ⟨d, rfl⟩ : ∃ e, d = e + 1 := ⟨d - 1, by omega⟩
  refine in__law_up ?_
  (try exists x_ta, b__law_up)
  refine draw_n (n := 30) (by decide) (by decide) d (by omega) _ (by first | assumption | exact PenH.set (by assumption) _ | exact PenH.setapp (by assumption) _ | exact PenH.new | exact PenH.app (by assumption) _) _ _ ?_
  rintro a p ⟨a1, a2⟩
  (try exists x_ta, set_appS hi, set_app hi)
  refine draw_n (n := 3) (by decide) (by decide) d (by omega) _ (by first | assumption | exact PenH.set (by assumption) _ | exact PenH.setapp (by assumption) _ | exact PenH.new | exact PenH.app (by assumption) _) _ _ ?_
  rintro b p2 ⟨b1, b2⟩
  (try exists x_ta, set_appS hi, set_app hi)
  refine pickN (fun n => 0 ≤ n ∧ n < 30) (by assumption) (by first | assumption | (simp; omega)) (by repeat (first | exact all1 | refine allC (by first | exact ⟨_, rfl, by omega⟩ | exact ⟨_, rfl, by decide⟩ | exact ⟨_, rfl, by grind⟩ | exact ⟨_, rfl, by assumption⟩) ?_)) ?_
  rintro n ⟨n1, n2⟩
  (try exists x_ta, set_appS hi, set_app hi)
  refine draw_n (n := 6) (by decide) (by decide) d (by omega) _ (by first | assumption | exact PenH.set (by assumption) _ | exact PenH.setapp (by assumption) _ | exact PenH.new | exact PenH.app (by assumption) _) _ _ ?_
  rintro c p3 ⟨c1, c2⟩
  (try exists x_ta, set_appS hi, set_app hi)
  refine law_made_ok _ _ (b := 5) (by omega) (by omega) (by omega) d (by omega) _ _ _ ?_
  (try exists x_ta)
  exact z _ _ ⟨divInt_nonneg n1 (by omega), sz_divInt (by omega) (by omega) (by omega)⟩
theorem law_row_ok {i : Nat} : Dr pg 4 i__law_row [.ref i] i rowP (RowOk 6) := by
  intro d hd h P Q X z
  have hi := P.lt
  obtain ⟨d, rfl⟩ : ∃ e, d = e + 1 := ⟨d - 1, by omega⟩
  refine in__law_row ?_
  (try exists x_ta, b__law_row)
  refine ⟨by decide, by decide, szl (by rw [rngL_len]; decide), ?_⟩
  obtain ⟨p0, hp0⟩ := id P
  refine compT_any (fun n l h1 => ∃ (qs : List Rat) (p : Pen), l = qs.map pt ∧ h1 = h.set i (some (penL p)) ∧ qs.length = n ∧ ∀ q ∈ qs, Sz 6 q) (fun _ _ _ _ => trivial) _ ?_ ⟨[], p0, rfl, (set_same hp0).symm, rfl, by simp⟩ ?_
  · rintro n x l h1 k hx ⟨qs, p1, rfl, rfl, hc, hok⟩ hk
    refine law_some_ok d (by omega) _ (by first | assumption | exact PenH.set (by assumption) _ | exact PenH.setapp (by assumption) _ | exact PenH.new | exact PenH.app (by assumption) _) _ _ ?_
    rintro q p zq
    (try exists x_ta, set_appS hi, set_app hi)
    refine hk _ _ ⟨qs ++ [q], p, by simp, rfl, by simp [hc], ?_⟩
    intro y hy
    rcases List.mem_append.mp hy with hy | hy
    · exact hok y hy
    · rw [List.mem_singleton] at hy; subst hy; exact zq
  · rintro l h1 ⟨qs, p1, rfl, rfl, hc, hok⟩
    rw [rngL_len] at hc
    have hc : qs.length = 5 := hc
    (try exists x_ta)
    refine ⟨szl (by rw [List.length_map]; omega), ?_⟩
    have := z (0 :: qs) p1 ⟨by simp [hc], rfl, getD_sz (by omega) (by
      intro q hq
      rcases List.mem_cons.mp hq with rfl | hq
      · exact sz0.up (by omega)
      · exact hok q hq)⟩
    exact this
theorem law_true_ok {i : Nat} {r : List Rat} {near : Nat} (k : RowOk 6 r) (n1 : 2 ≤ near) (n2 : near ≤ 6) : Dr pg 4 i__law_true [.ref i, .pv (rowP r), .pv (.int near)] i encT (fun t => OkT 19 t ∧ keptT t r = true) := by
  intro d hd h P Q X z
  have hi := P.lt
  obtain ⟨d, rfl⟩ : ∃ e, d = e + 1 := ⟨d - 1, by omega⟩
  refine in__law_true ?_
  (try exists x_ta, b__law_true)
  refine draw_n (n := near) (by omega) (by omega) d (by omega) _ (by first | assumption | exact PenH.set (by assumption) _ | exact PenH.setapp (by assumption) _ | exact PenH.new | exact PenH.app (by assumption) _) _ _ ?_
  rintro a p ⟨a1, a2⟩
  (try exists x_ta, set_appS hi, set_app hi)
  refine draw_n (n := near - 1) (by omega) (by omega) d (by omega) _ (by first | assumption | exact PenH.set (by assumption) _ | exact PenH.setapp (by assumption) _ | exact PenH.new | exact PenH.app (by assumption) _) _ _ ?_
  rintro b p2 ⟨b1, b2⟩
  (try exists x_ta, set_appS hi, set_app hi)
  refine ⟨by omega, ?_⟩
  have c1 := Int.emod_nonneg (a + 1 + b) (show (near : Int) ≠ 0 by omega)
  have c2 := Int.emod_lt_of_pos (a + 1 + b) (show (0 : Int) < near by omega)
  have c3 : (a + 1 + b) % near ≠ a := by
    by_cases hs : a + 1 + b < near
    · rw [Int.emod_eq_of_lt (by omega) hs]; omega
    · have : (a + 1 + b) % near = a + 1 + b - near := by
        rw [← Int.sub_emod_right, Int.emod_eq_of_lt (by omega) (by omega)]
      omega
  generalize (a + 1 + b) % near = c at c1 c2 c3
  unfold rowP
  rw [ixRow' k.l c1 (by omega), ixRow' k.l a1 (by omega)]
  obtain ⟨a, rfl⟩ : ∃ n : Nat, a = n := ⟨a.toNat, by omega⟩
  obtain ⟨c, rfl⟩ : ∃ n : Nat, c = n := ⟨c.toNat, by omega⟩
  rw [Int.toNat_natCast, Int.toNat_natCast]
  have za := k.s a
  have zc := k.s c
  refine law_rest_ok zc za (by omega) d (by omega) _ _ _ ?_
  (try exists x_ta)
  have ze := zc.sub za
  generalize hdf : r.getD c 0 - r.getD a 0 = df at ze
  refine law_up_ok d (by omega) _ (by first | assumption | exact PenH.set (by assumption) _ | exact PenH.setapp (by assumption) _ | exact PenH.new | exact PenH.app (by assumption) _) _ _ ?_
  rintro u p3 ⟨u0, zu⟩
  (try exists x_ta, set_appS hi, set_app hi)
  refine law_rest_ok ze zu (by omega) d (by omega) _ _ _ ?_
  (try exists x_ta)
  refine law_up_ok d (by omega) _ (by first | assumption | exact PenH.set (by assumption) _ | exact PenH.setapp (by assumption) _ | exact PenH.new | exact PenH.app (by assumption) _) _ _ ?_
  rintro v p4 ⟨v0, zv⟩
  (try exists x_ta, set_appS hi, set_app hi)
  refine law_sum_ok ze zv (by omega) d (by omega) _ _ _ ?_
  (try exists x_ta)
  refine draw_n (n := 4) (by decide) (by decide) d (by omega) _ (by first | assumption | exact PenH.set (by assumption) _ | exact PenH.setapp (by assumption) _ | exact PenH.new | exact PenH.app (by assumption) _) _ _ ?_
  rintro e p5 ⟨e1, e2⟩
  (try exists x_ta, set_appS hi, set_app hi)
  have zlo := ze.sub zu
  have zhi := ze.add zv
  have ne : a ≠ c := by omega
  have fin : ∀ lo hi : Option Rat, (lo = none ∨ lo = some (df - u)) → (hi = none ∨ hi = some (df + v)) → (lo ≠ none ∨ hi ≠ none) → OkT 19 ⟨a, c, lo, hi⟩ ∧ keptT ⟨a, c, lo, hi⟩ r = true := by
    intro lo hi hl hh hs
    refine ⟨⟨by show a < 6; omega, by show c < 6; omega, ne, hs, ?_, ?_, ?_⟩, ?_⟩
    · rintro l h e1 e2
      dsimp only at e1 e2
      subst e1 e2
      simp at hl hh
      subst hl hh
      grind
    · rintro l e1
      dsimp only at e1
      subst e1
      simp at hl
      subst hl
      exact zlo
    · rintro l e1
      dsimp only at e1
      subst e1
      simp at hh
      subst hh
      exact zhi
    · unfold keptT
      dsimp only
      rw [hdf]
      rcases hl with rfl | rfl <;> rcases hh with rfl | rfl <;> simp <;> grind
  have fin2 : ∀ lo hi : Option Rat, (lo = none ∨ lo = some (df - u)) → (hi = none ∨ hi = some (df + v)) → (lo ≠ none ∨ hi ≠ none) → Q (.pv (.tup [.int a, .int c, ob lo, ob hi])) (h.set i (some (penL p5))) := fun lo hi x y w => z ⟨a, c, lo, hi⟩ p5 (fin lo hi x y w)
  obtain rfl | rfl | rfl | rfl : e = 0 ∨ e = 1 ∨ e = 2 ∨ e = 3 := by omega
  · rw [k_ixl0, o_addt]
    exact ⟨szl (by simp), fin2 (some _) (some _) (.inr rfl) (.inr rfl) (.inl (by simp))⟩
  · rw [k_ixl1, o_addt]
    exact ⟨szl (by simp), fin2 (some _) (some _) (.inr rfl) (.inr rfl) (.inl (by simp))⟩
  · rw [k_ixl2, o_addt]
    exact ⟨szl (by simp), fin2 (some _) none (.inr rfl) (.inl rfl) (.inl (by simp))⟩
  · rw [k_ixl3, o_addt]
    exact ⟨szl (by simp), fin2 none (some _) (.inl rfl) (.inr rfl) (.inr (by simp))⟩
theorem law_shifted_ok {i s : Nat} {t : Tel} (k : OkT s t) (h9 : s ≤ 8000) : Dr pg 4 i__law_shifted [.ref i, .pv (encT t)] i encT (fun t => OkT (s + 7) t) := by
  intro d hd h P Q X z
  have hi := P.lt
  obtain ⟨d, rfl⟩ : ∃ e, d = e + 1 := ⟨d - 1, by omega⟩
  refine in__law_shifted ?_
  (try exists x_ta, b__law_shifted)
  refine law_some_ok d (by omega) _ (by first | assumption | exact PenH.set (by assumption) _ | exact PenH.setapp (by assumption) _ | exact PenH.new | exact PenH.app (by assumption) _) _ _ ?_
  rintro q p zq
  (try exists x_ta, set_appS hi, set_app hi)
  unfold encT
  (try exists x_ta)
  rw [show cut [PV.int t.a, PV.int t.b, ob t.lo, ob t.hi] none (some 2) = [PV.int t.a, PV.int t.b] from rfl, show cut [PV.int t.a, PV.int t.b, ob t.lo, ob t.hi] (some 2) none = [ob t.lo, ob t.hi] from rfl]
  refine ⟨szl (by simp), ?_⟩
  refine compT_map1 ob (fun o => ob (o.map (· + q))) trivial [t.lo, t.hi] (fun o ho k2 hq => ?_) ?_
  · cases o with
    | none => 
      (try exists x_ta, ob)
      exact hq
    | some l =>
      have zl : Sz s l := by
        simp only [List.mem_cons, List.not_mem_nil, or_false] at ho
        rcases ho with ho | ho
        · exact k.zl _ ho.symm
        · exact k.zh _ ho.symm
      (try exists x_ta, ob)
      refine law_sum_ok zl zq (by omega) d (by omega) _ _ _ ?_
      (try exists x_ta)
      exact hq
  · (try exists x_ta)
    refine ⟨szl (by simp), ?_⟩
    refine z ⟨t.a, t.b, t.lo.map (· + q), t.hi.map (· + q)⟩ p ⟨k.a6, k.b6, k.ne, ?_, ?_, ?_, ?_⟩
    · have := k.so
      simpa using this
    · rintro l h e1 e2
      dsimp only at e1 e2
      rw [Option.map_eq_some_iff] at e1 e2
      obtain ⟨l', e1, rfl⟩ := e1
      obtain ⟨h', e2, rfl⟩ := e2
      have := k.le _ _ e1 e2
      grind
    · rintro l e1
      dsimp only at e1
      rw [Option.map_eq_some_iff] at e1
      obtain ⟨l', e1, rfl⟩ := e1
      exact ((k.zl _ e1).add zq).up (by omega)
    · rintro l e1
      dsimp only at e1
      rw [Option.map_eq_some_iff] at e1
      obtain ⟨l', e1, rfl⟩ := e1
      exact ((k.zh _ e1).add zq).up (by omega)
theorem law_is_part_any {p : PV} {b : Nat} (hp : plain2 p = true) (hz : ∀ n m, p = .tup [.int n, .int m] → m.natAbs < 2 ^ b) (h9 : b ≤ 9000) : Ret pg 2 i__law_is_part [p] (.bl (isPt p)) := by
  have hp1 : plain p = true := by cases p <;> first | rfl | (cases hp; done)
  intro d hd h Q X z
  obtain ⟨d, rfl⟩ : ∃ e, d = e + 1 := ⟨d - 1, by omega⟩
  refine in__law_is_part ?_
  (try exists x_ta, b__law_is_part)
  rw [is_tupA hp1]
  have no : ∀ {p : PV}, (∀ l, p ≠ .tup l) → isPt p = false := by
    intro p h
    unfold isPt
    split
    · exact absurd rfl (h _)
    · rfl
  cases p with
  | tup l =>
    (try exists x_ta)
    rcases l with _ | ⟨x, _ | ⟨y, _ | ⟨w, l⟩⟩⟩
    · (try exists x_ta)
      exact z
    · (try exists x_ta)
      rw [if_neg (by decide)]
      rw [show isPt (.tup [x]) = false by cases x <;> rfl] at z
      exact z
    · have ha : plain x = true := by have : ([x, y] : List PV).all plain = true := hp; simp at this; exact this.1
      have hb : plain y = true := by have : ([x, y] : List PV).all plain = true := hp; simp at this; exact this.2
      (try exists x_ta)
      refine ⟨szl (by simp), ?_⟩
      refine compT_pv (fun v => .bl (whole v)) trivial [x, y] (fun v hv q hq => ?_) ?_
      · have hv : plain v = true := by
          simp only [List.mem_cons, List.not_mem_nil, or_false] at hv
          rcases hv with rfl | rfl <;> assumption
        rw [is_intA hv]
        cases v <;> first
          | (cases hv; done)
          | (simp only [Bool.false_eq_true, if_false]; exact hq)
          | (simp only [if_true]; rw [is_boolA rfl]; exact hq)
      · rw [f_all (f := whole)]
        (try exists x_ta, List.all_cons, List.all_nil)
        cases x with
        | int n =>
          cases y with
          | int m =>
            (try exists x_ta, whole)
            rw [if_neg (by decide)]
            split
            · rename_i h0
              refine law_made_ok _ _ (b := b) h0 (hz n m rfl) h9 d (by omega) _ _ _ ?_
              (try exists x_ta)
              rw [isPt_made h0] at z
              exact ⟨dt_pt _, dt_tup (n := 59) (allC trivial (allC trivial all1)), z⟩
            · rename_i h0
              have e : isPt (.tup [.int n, .int m]) = false := by
                show (decide (0 < m) && decide (Int.gcd n m = 1)) = _
                rw [decide_eq_false h0, Bool.false_and]
              rw [e] at z
              exact z
          | _ => exact z
        | _ => exact z
    · (try exists x_ta)
      rw [if_neg (by omega)]
      rw [show isPt (.tup (x :: y :: w :: l)) = false by cases x <;> cases y <;> rfl] at z
      exact z
  | _ => first | (cases hp1; done) | (rw [no (by intro l z; cases z)] at z; simp only [Bool.false_eq_true, if_false, Bool.not_false, if_true]; (try exists x_ta); exact z)
theorem law_is_row_any {p : PV} {b : Nat} (hp : plain p = true) (hq : ∀ l, p = .tup l → ∀ x ∈ l, plain2 x = true ∧ ∀ n m, x = .tup [.int n, .int m] → m.natAbs < 2 ^ b) (h9 : b ≤ 9000) : Ret pg 3 i__law_is_row [p] (.bl (isRow p)) := by
  intro d hd h Q X z
  obtain ⟨d, rfl⟩ : ∃ e, d = e + 1 := ⟨d - 1, by omega⟩
  refine in__law_is_row ?_
  (try exists x_ta, b__law_is_row)
  rw [is_tupA hp]
  cases p with
  | tup l =>
    (try exists x_ta)
    by_cases h6 : (l.length : Int) = 6
    · rw [if_pos h6]
      refine ⟨szl (by omega), ?_⟩
      refine compT_pv (fun x => .bl (isPt x)) trivial l (fun a ha q hq' => ?_) ?_
      · refine law_is_part_any (hq l rfl a ha).1 (hq l rfl a ha).2 h9 d (by omega) _ _ _ ?_
        (try exists x_ta)
        exact hq'
      · rw [f_all (f := isPt)]
        (try exists x_ta)
        cases l with
        | nil => simp at h6
        | cons x l =>
          have h5 : decide (l.length = 5) = true := by simp at h6 ⊢; omega
          cases e : (x :: l).all isPt with
          | false =>
            (try exists x_ta)
            have : isRow (.tup (x :: l)) = false := by
              show (decide (l.length = 5) && (x :: l).all isPt && peq x (.tup [.int 0, .int 1])) = false
              rw [e]
              simp
            rw [this] at z
            exact z
          | true =>
            (try exists x_ta)
            have : isRow (.tup (x :: l)) = peq x (.tup [.int 0, .int 1]) := by
              show (decide (l.length = 5) && (x :: l).all isPt && peq x (.tup [.int 0, .int 1])) = _
              rw [e, h5]
              simp
            rw [this] at z
            have hx : isPt x = true := by rw [List.all_cons, Bool.and_eq_true] at e; exact e.1
            obtain ⟨q, rfl⟩ := isPt_pt hx
            exact ⟨dt_pt _, dt_pt 0, z⟩
    · rw [if_neg h6]
      have : isRow (.tup l) = false := by
        cases l with
        | nil => rfl
        | cons x l =>
          show (decide (l.length = 5) && (x :: l).all isPt && peq x (.tup [.int 0, .int 1])) = false
          rw [decide_eq_false (by simp at h6; omega)]
          simp
      rw [this] at z
      exact z
  | _ => exact z
theorem law_broken_ok {s : Nat} {ts : List Tel} {r : List Rat} (k : ∀ t ∈ ts, OkT s t) (hl : ts.length ≤ 16) (hr : r.length = 6) (zr : ∀ i, Sz s (r.getD i 0)) (h9 : 3 * s + 1 ≤ 9000) :
    Ret pg 3 i__law_broken [tls ts, rowP r] (numP (fstIdx (fun t => !keptT t r) ts 0)) := by
  intro d hd h Q X z
  obtain ⟨d, rfl⟩ : ∃ e, d = e + 1 := ⟨d - 1, by omega⟩
  refine in__law_broken ?_
  (try exists x_ta, b__law_broken, tls)
  rw [enmL_map]
  refine loopT_find (fun n t => PV.tup [.int n, encT t]) (fun t => !keptT t r) (fun o => Q (.pv (numP o)) h) trivial ts 0 ?_ ?_ z
  · intro n t kk ht hk
    have ok := k t ht
    have zz := (zr t.b).sub (zr t.a)
    (try exists x_ta, encT)
    rw [ixRow hr ok.b6, ixRow hr ok.a6]
    refine law_rest_ok (zr _) (zr _) (by omega) d (by omega) _ _ _ ?_
    unfold keptT at hk
    cases e1 : t.lo with
    | none =>
      cases e2 : t.hi with
      | none => exact absurd ok.so (by simp [e1, e2])
      | some hh =>
        rw [e1, e2] at hk
        (try exists x_ta, ob)
        refine law_under_ok (ok.zh _ e2) zz (by omega) d (by omega) _ _ _ ?_
        (try exists x_ta)
        simpa [numP] using hk
    | some l =>
      (try exists x_ta, ob)
      refine law_under_ok zz (ok.zl _ e1) (by omega) d (by omega) _ _ _ ?_
      (try exists x_ta)
      by_cases hb : r.getD t.b 0 - r.getD t.a 0 < l
      · simp only [e1, decide_eq_true hb, Bool.not_true, Bool.false_and, Bool.not_false, if_true] at hk
        rw [if_pos hb]
        exact hk
      · simp only [e1, decide_eq_false hb, Bool.not_false, Bool.true_and] at hk
        rw [if_neg hb]
        cases e2 : t.hi with
        | none =>
          rw [e2] at hk
          (try exists x_ta, ob)
          exact hk
        | some hh =>
          rw [e2] at hk
          (try exists x_ta, ob)
          refine law_under_ok (ok.zh _ e2) zz (by omega) d (by omega) _ _ _ ?_
          (try exists x_ta)
          simpa [numP] using hk
  · intro q
    (try exists x_ta)
    exact q
--@tail law _law_at =
theorem law_t1 {s0 v1 v3 : RV} {j : Nat} {ts : List Tel} {r : List Rat} {h : Hs} {nx : G43.Env → Hs → Prop} {rt : QV} {X : QX} (hl : ts.length ≤ 16) (ok : ∀ t ∈ ts, OkT 33 t) (kr : RowOk 6 r) (P : PenH j h)
    (hk : ∀ h' a b c e, PenH j h' → nx [some s0, some v1, some (.ref j), some v3, some (.pv (rowP r)), some (.pv (tls ts)), none, some a, some b, some c, none, some e, none] h') :
    wpSL pg (wpC pg 39) b_law_t1 [some s0, some v1, some (.ref j), some v3, some (.pv (rowP r)), some (.pv (tls ts)), none, none, none, none, none, none, none] h nx rt X := by
  have hi := P.lt
  (try exists x_ta, b_law_t1)
  refine draw_n (n := 5) (by decide) (by decide) _ (by omega) _ P _ _ ?_
  rintro a p1 ⟨a1, a2⟩
  (try exists x_ta)
  have a5 : (1 + a).toNat < 6 := by omega
  have zat := kr.s (1 + a).toNat
  have z50 : Sz 6 (⟨1, 50, by decide, by decide⟩ : Rat) := ⟨by decide, by decide⟩
  have e50 : PV.tup [PV.int 1, PV.int 50] = pt ⟨1, 50, by decide, by decide⟩ := rfl
  generalize (⟨1, 50, by decide, by decide⟩ : Rat) = f50 at z50 e50
  rw [e50]
  unfold rowP
  rw [ixRow' kr.l (by omega) (by omega)]
  refine law_sum_ok zat z50 (by omega) _ (by omega) _ _ _ ?_
  (try exists x_ta)
  rw [ixRow' kr.l (by omega) (by omega)]
  refine law_rest_ok zat z50 (by omega) _ (by omega) _ _ _ ?_
  (try exists x_ta)
  refine law_some_ok _ (by omega) _ (P.set _) _ _ ?_
  rintro q3 p2 zq3
  (try exists x_ta)
  refine law_row_ok _ (by omega) _ (P.set _) _ _ ?_
  rintro r2 p3 kr2
  (try exists x_ta)
  refine ⟨⟨by simp, by omega, by omega, by omega⟩, szl (by simp), ?_⟩
  rw [cut_take (by omega) (by rw [List.length_map, kr.l]; omega), cut_drop (by omega) (by rw [List.length_map, kr.l]; omega)]
  have en : (1 + a + 1).toNat = (1 + a).toNat + 1 := by omega
  rw [en]
  generalize hn : (1 + a).toNat = n at *
  have h6 := kr.l
  refine compT_map1 pt (fun q => rowP (r.set n q)) trivial [r.getD n 0 + f50, r.getD n 0 - f50, q3] (fun q hq k2 hk2 => ?_) ?_
  · refine ⟨szl (by rw [List.length_take, List.length_map]; omega), szl (by simp [List.length_take, List.length_drop]; omega), ?_⟩
    rw [put_row (by omega)]
    exact hk2
  have rok : ∀ q, Sz 13 q → 0 < n → RowOk 13 (r.set n q) := by
    intro q zq hn0
    refine ⟨by simp [h6], ?_, ?_⟩
    · have := kr.z
      rw [List.getD_eq_getElem?_getD] at this ⊢
      rw [List.getElem?_set_ne (by omega)]
      exact this
    · intro m
      rw [List.getD_eq_getElem?_getD]
      by_cases hm : n = m
      · subst hm
        rw [List.getElem?_set_self (by omega)]
        exact zq
      · rw [List.getElem?_set_ne hm, ← List.getD_eq_getElem?_getD]
        exact (kr.s m).up (by omega)
  refine ⟨szl (by simp), szl (by refine Nat.le_trans (Nat.add_le_add_left cut_len _) (by simp)), ?_⟩
  refine loopT_any (fun m ρ h2 => ρ = [some s0, some v1, some (RV.ref j), some v3, some (RV.pv (rowP r)), some (RV.pv (tls ts)), none, some (.pv (.int (1 + a))), some (.pv (.lst [pt (r.getD n 0 + f50), pt (r.getD n 0 - f50), pt q3])), some (.pv (.lst (rowP r :: rowP r2 :: PV.tup (List.replicate (Int.toNat 6) [pt 0]).flatten :: List.map (fun q => rowP (r.set n q)) [r.getD n 0 + f50, r.getD n 0 - f50, q3]))), none, none, none] ∧ h2 = h.set j (some (penL p3))) (fun _ _ _ _ => trivial) _ ?_ ?_ ⟨rfl, rfl⟩
  · rintro m x ρ h2 kk hx ⟨rfl, rfl⟩ hkk
    have hx' : ∃ r', x = rowP r' ∧ RowOk 33 r' := by
      have r0 : RowOk 33 r := kr.up (by omega)
      have rk : ∀ q, Sz 13 q → RowOk 33 (r.set n q) := fun q z => (rok q z (by omega)).up (by omega)
      have all : ∀ x ∈ rowP r :: rowP r2 :: PV.tup (List.replicate (Int.toNat 6) [pt 0]).flatten :: List.map (fun q => rowP (r.set n q)) [r.getD n 0 + f50, r.getD n 0 - f50, q3], ∃ r', x = rowP r' ∧ RowOk 33 r' := by
        refine allC ⟨r, rfl, r0⟩ (allC ⟨r2, rfl, kr2.up (by omega)⟩ (allC ⟨[0, 0, 0, 0, 0, 0], rfl, ⟨rfl, rfl, getD_sz (by omega) (by intro q hq; simp at hq; subst hq; exact sz0.up (by omega))⟩⟩ (allC ⟨_, rfl, rk _ ((zat.add z50).up (by omega))⟩ (allC ⟨_, rfl, rk _ ((zat.sub z50).up (by omega))⟩ (allC ⟨_, rfl, rk _ (zq3.up (by omega))⟩ all1)))))
      have hx := List.mem_of_getElem? hx
      rcases List.mem_append.mp (show x ∈ (rowP r :: rowP r2 :: PV.tup (List.replicate (Int.toNat 6) [pt 0]).flatten :: List.map (fun q => rowP (r.set n q)) [r.getD n 0 + f50, r.getD n 0 - f50, q3]) ++ _ from hx) with hx | hx
      · exact all x hx
      · exact all x (cut_mem hx)
    obtain ⟨r', rfl, kr'⟩ := hx'
    (try exists x_ta)
    refine first_broken_ok ok hl kr'.l kr'.z kr'.s (by omega) _ (by omega) _ _ _ ?_
    have w1 : Shw 1 1925 (numP (fstIdx (fun t => !keptT t r') ts 0)) := shw_num (by omega)
    (try exists x_ta)
    rw [f_repr w1 (by omega) (by omega)]
    (try exists x_ta)
    refine law_broken_ok ok hl kr'.l kr'.s (by omega) _ (by omega) _ _ _ ?_
    (try exists x_ta)
    rw [f_repr w1 (by omega) (by omega), ns_same]
    (try exists x_ta)
    exact hkk _ _ ⟨rfl, rfl⟩
  rintro ρ h2 ⟨rfl, rfl⟩
  (try exists x_ta)
  have zr : ∀ q ∈ r, Sz 6 q := by
    intro q hq
    obtain ⟨m, hm, e⟩ := List.mem_iff_getElem.mp hq
    have := kr.s m
    rw [List.getD_eq_getElem?_getD, List.getElem?_eq_getElem hm] at this
    rw [← e]
    exact this
  have hz : ∀ y ∈ r.map pt, plain2 y = true ∧ ∀ n m, y = .tup [.int n, .int m] → m.natAbs < 2 ^ 6 := by
    intro y hy
    obtain ⟨q, hq, rfl⟩ := List.mem_map.mp hy
    exact ptSz (zr q hq)
  unfold rowP
  have l6 : (r.map pt).length = 6 := by rw [List.length_map]; exact h6
  (try exists x_ta)
  rw [cut_take (l := r.map pt) (n := 5) (by omega) (by omega), cut_take (l := r.map pt) (n := 1) (by omega) (by omega), cut_drop (l := r.map pt) (n := 1) (by omega) (by omega), cut_take (l := r.map pt) (n := 1 + a) (by omega) (by omega), cut_drop (l := r.map pt) (n := 1 + a + 1) (by omega) (by omega), en, hn]
  have b1 : ((r.map pt).take (Int.toNat 5)).length = 5 := by rw [List.length_take, l6]; rfl
  have b2 : ((r.map pt).take (Int.toNat 1)).length = 1 := by rw [List.length_take, l6]; rfl
  have b3 : ((r.map pt).drop (Int.toNat 1)).length = 5 := by rw [List.length_drop, l6]; rfl
  refine ⟨szl (by omega), szl (by omega), szl (by omega), szl (by omega), ?_⟩
  have hzt : ∀ m, ∀ y ∈ (r.map pt).take m, plain2 y = true ∧ ∀ n m, y = .tup [.int n, .int m] → m.natAbs < 2 ^ 6 := fun m y hy => hz y (List.mem_of_mem_take hy)
  have hzd : ∀ m, ∀ y ∈ (r.map pt).drop m, plain2 y = true ∧ ∀ n m, y = .tup [.int n, .int m] → m.natAbs < 2 ^ 6 := fun m y hy => hz y (List.mem_of_mem_drop hy)
  refine compT_pv (fun x => .tup ((r.map pt).take n ++ [x] ++ (r.map pt).drop (n + 1))) trivial _ (fun x hx k2 hk2 => ?_) ?_
  · exact ⟨szl (by rw [List.length_take]; omega), szl (by rw [List.length_append, List.length_take, List.length_drop]; simp; omega), hk2⟩
  refine ⟨szl (by simp), ?_⟩
  have small : ∀ x : PV, x ∈ [PV.non, PV.tup [PV.int 2, PV.int 2], PV.tup [PV.int 0, PV.int 2], PV.bl true, PV.int 0] → (plain2 x = true ∧ ∀ n m, x = .tup [.int n, .int m] → m.natAbs < 2 ^ 6) ∧ isPt x = false := by
    intro x hx
    simp only [List.mem_cons, List.not_mem_nil, or_false] at hx
    rcases hx with rfl | rfl | rfl | rfl | rfl <;> refine ⟨⟨rfl, ?_⟩, by decide⟩ <;> intro n m e <;> cases e <;> decide
  refine loopT_any (fun m ρ h2 => ∃ b c e, ρ = [some s0, some v1, some (RV.ref j), some v3, some (RV.pv (rowP r)), some (RV.pv (tls ts)), none, some (.pv (.int (1 + a))), some b, some c, none, some e, none] ∧ h2 = h.set j (some (penL p3))) (fun _ _ _ _ => trivial) _ ?_ ?_ ⟨_, _, _, rfl, rfl⟩
  · rintro m x ρ h2 kk hx ⟨b, c, e, rfl, rfl⟩ hkk
    have bd : Bd 6 x := by
      have hx := List.mem_of_getElem? hx
      simp only [List.mem_cons, List.mem_map] at hx
      rcases hx with rfl | rfl | rfl | rfl | rfl | rfl | rfl | rfl | ⟨y, hy, rfl⟩
      · exact ⟨rfl, (by intro l e; cases e), rfl⟩
      · exact ⟨rfl, (by intro l e; cases e; exact hzt _), notRowL (by omega)⟩
      · refine ⟨rfl, ?_, notRowL (by rw [List.length_append]; omega)⟩
        intro l e
        cases e
        intro y hy
        rcases List.mem_append.mp hy with hy | hy
        · exact hz y hy
        · exact hzt _ y hy
      · exact ⟨rfl, (by intro l e; cases e), rfl⟩
      · refine ⟨rfl, ?_, notRow0 (by decide)⟩
        intro l e
        cases e
        intro y hy
        rcases List.mem_cons.mp hy with rfl | hy
        · exact ⟨rfl, by intro n m e; cases e; decide⟩
        · exact hzd _ y hy
      · refine ⟨rfl, ?_, notRow ⟨_, List.mem_cons_self .., rfl⟩⟩
        intro l e
        cases e
        intro y hy
        rcases List.mem_cons.mp hy with rfl | hy
        · exact ⟨rfl, by intro n m e; cases e⟩
        · exact hzd _ y hy
      · exact ⟨rfl, (by intro l e; cases e; simp), rfl⟩
      · exact ⟨rfl, (by intro l e; cases e), rfl⟩
      · have sy := small y (by simpa using hy)
        refine ⟨rfl, ?_, notRow ⟨y, by simp, sy.2⟩⟩
        intro l e
        cases e
        intro w hw
        rcases List.mem_append.mp hw with hw | hw
        · rcases List.mem_append.mp hw with hw | hw
          · exact hzt _ w hw
          · rw [List.mem_singleton] at hw
            subst hw
            exact sy.1
        · exact hzd _ w hw
    (try exists x_ta)
    refine law_is_row_any bd.p bd.q (by omega) _ (by omega) _ _ _ ?_
    rw [bd.r]
    (try exists x_ta)
    refine first_broken_bad ok hl (by omega) bd.p (fun l e y hy => (bd.q l e y hy).1) bd.r _ (by omega) _ _ _ ?_
    refine ⟨_, rfl, rfl, ns_wd (by decide +kernel) ?_⟩
    (try exists x_ta)
    exact hkk _ _ ⟨_, _, _, rfl, rfl⟩
  · rintro ρ h2 ⟨b, c, e, rfl, rfl⟩
    exact hk _ _ _ _ _ (P.set _)
theorem law_wp : ∀ ns : List Int, ns.length ≤ 63 → wpC pg 40 i_law [.pv (.scr (ns.map PV.int))] [] (fun v _ => v = .pv (.bl true)) (fun _ _ => False) := by
  intro ns hn
  refine in_law (d := 39) ?_
  (try exists x_ta, b_law)
  refine cell_at_ok (by omega) (by simp) _ (by omega) _ _ _ ?_
  intro c0
  (try exists x_ta)
  refine ⟨szl (by have := cut_len (l := ns.map PV.int) (a := some 1) (b := some 3); rw [List.length_map] at this; omega), ?_⟩
  refine loopT_any (fun n ρ h' => ρ = some (RV.pv (PV.scr (ns.map PV.int))) :: List.replicate 12 none) (fun _ _ _ _ => trivial) _ ?_ (fun _ _ _ => trivial) rfl
  rintro n x ρ h' k hx rfl hk
  obtain ⟨i, rfl⟩ := cells_int hx
  simp only [List.replicate]
  (try exists x_ta)
  refine pen_of_ok _ _ (by omega) _ _ _ ?_
  intro p
  (try exists x_ta)
  refine ⟨by decide, by decide, ?_⟩
  refine loopT_any (fun n ρ h2 => ρ = some (RV.pv (PV.scr (ns.map PV.int))) :: some (.pv (.int i)) :: some (.ref h'.length) :: List.replicate 10 none ∧ PenH h'.length h2) (fun _ _ _ _ => trivial) _ ?_ ?_ ⟨rfl, PenH.new⟩
  · rintro n0 x ρ h2 k hx ⟨rfl, P⟩ hk
    obtain ⟨rfl, hn⟩ := rng_get hx
    simp only [List.replicate]
    (try exists x_ta)
    have hi := P.lt
    refine law_row_ok _ (by omega) _ P _ _ ?_
    rintro r p1 kr
    (try exists x_ta)
    refine draw_n (n := 17) (by decide) (by decide) _ (by omega) _ (P.set _) _ _ ?_
    rintro m p2 ⟨m1, m2⟩
    (try exists x_ta)
    refine ⟨by omega, by omega, ?_⟩
    refine loopT_any (fun n ρ h3 => ∃ (ts : List Tel) (p : Pen), ρ = some (RV.pv (PV.scr (ns.map PV.int))) :: some (.pv (.int i)) :: some (.ref h'.length) :: some (.pv (.int (0 + n0))) :: some (.pv (rowP r)) :: some (.pv (tls ts)) :: List.replicate 7 none ∧ h3 = h2.set h'.length (some (penL p)) ∧ ts.length = n ∧ ∀ t ∈ ts, OkT 26 t) (fun _ _ _ _ => trivial) _ ?_ ?_ ⟨[], p2, rfl, rfl, rfl, by simp⟩
    · rintro n x ρ h3 k hx ⟨ts, p3, rfl, rfl, hts, ok⟩ hk
      obtain ⟨rfl, hn2⟩ := rng_get hx
      simp only [List.replicate]
      (try exists x_ta)
      refine law_true_ok (near := 6) kr (by omega) (by omega) _ (by omega) _ (P.set _) _ _ ?_
      rintro t p4 ⟨kt, _⟩
      (try exists x_ta, tls)
      refine ⟨szl (by rw [List.length_map]; omega), ?_⟩
      refine hk _ _ ⟨ts ++ [t], p4, by simp [tls], rfl, by simp [hts], ?_⟩
      intro y hy
      rcases List.mem_append.mp hy with hy | hy
      · exact ok y hy
      · rw [List.mem_singleton] at hy
        subst hy
        exact ⟨kt.a6, kt.b6, kt.ne, kt.so, kt.le, fun l e => (kt.zl l e).up (by omega), fun l e => (kt.zh l e).up (by omega)⟩
    · rintro ρ h3 ⟨ts, p3, rfl, rfl, hts, ok⟩
      rw [rngL_len] at hts
      have hts : ts.length ≤ 16 := by omega
      simp only [List.replicate]
      (try exists x_ta)
      have up : ∀ t ∈ ts, OkT 33 t := fun t ht => (ok t ht).up (by omega)
      have e0 : ∀ kb : Bool → Prop, kb (!decide (ts = [])) → wpCmp .NotEq (tls ts) (.tup []) kb := by
        intro kb z
        have d1 : Dt 60 (tls ts) := by
          refine dt_tup (n := 59) ?_
          intro x hx
          obtain ⟨t, _, rfl⟩ := List.mem_map.mp hx
          have dob : ∀ o, Dt 58 (ob o) := by
            intro o
            cases o with
            | none => trivial
            | some q => exact dt_tup (n := 57) (allC trivial (allC trivial all1))
          exact dt_tup (n := 58) (allC trivial (allC trivial (allC (dob _) (allC (dob _) all1))))
        refine ⟨d1, dt_tup (n := 59) (by simp), ?_⟩
        have : peq (tls ts) (.tup []) = decide (ts = []) := by
          cases ts with
          | nil => rfl
          | cons t ts => simp [tls, peq, peqL]
        rw [this]
        exact z
      apply e0
      (try exists x_ta)
      split
      · exact law_t1 hts up kr (P.set _) fun h3 a b c e P3 => by
          (try exists x_ta)
          exact hk _ _ ⟨rfl, P3⟩
      · rename_i hne
        refine draw_n (n := 2) (by decide) (by decide) _ (by omega) _ (P.set _) _ _ ?_
        rintro m p4 ⟨_, _⟩
        (try exists x_ta)
        split
        · obtain ⟨l, t, rfl⟩ : ∃ l t, ts = l ++ [t] := ⟨ts.dropLast, ts.getLast hne, (List.dropLast_concat_getLast hne).symm⟩
          unfold tls
          rw [List.map_append, List.map_singleton]
          (try exists x_ta)
          rw [cut_last, k_ixt, at_last]
          refine ⟨_, rfl, ?_⟩
          refine law_shifted_ok (ok t (by simp)) (by omega) _ (by omega) _ (P.set _) _ _ ?_
          rintro t2 p5 kt2
          (try exists x_ta)
          refine ⟨szl (by rw [List.length_map]; simp at hts; omega), ?_⟩
          have e3 : l.map encT ++ [encT t2] = (l ++ [t2]).map encT := by simp
          rw [e3]
          refine law_t1 (ts := l ++ [t2]) (by simp at hts ⊢; omega) ?_ kr (P.set _) fun h3 a b c e P3 => by
            (try exists x_ta)
            exact hk _ _ ⟨rfl, P3⟩
          intro y hy
          rcases List.mem_append.mp hy with hy | hy
          · exact up y (by simp [hy])
          · rw [List.mem_singleton] at hy
            subst hy
            exact kt2
        · exact law_t1 hts up kr (P.set _) fun h3 a b c e P3 => by
            (try exists x_ta)
            exact hk _ _ ⟨rfl, P3⟩
  · rintro ρ h2 ⟨rfl, P⟩
    simp only [List.replicate]
    (try exists x_ta)
    exact hk _ _ rfl
end Law
set_option Elab.async false
set_option linter.all false
set_option maxRecDepth 100000
set_option maxHeartbeats 0
open PySem PySem.W PySem.Calls PyProof.Rows
set_option Elab.async false
set_option linter.all false
set_option maxRecDepth 100000
set_option maxHeartbeats 0
namespace Law
open PySem PySem.W PySem.Calls PyProof.Rows
theorem f_e : opening R.prog = plainProg R.prog.main.scope.names := by kernel_rfl
theorem f_f : ∀ s, fenceModules? R.prog s = some s := fun s => by kernel_rfl
theorem f_def : defOf (view R.prog [61]) R.name = some (HandSHeadRun.topDef R.prog 61, []) := by kernel_rfl
theorem f_hp : R.prog.theDef R.name = some ((HandSHeadRun.topDef R.prog 61).params, (HandSHeadRun.topDef R.prog 61).body, (HandSHeadRun.topDef R.prog 61).scope) := by kernel_rfl
theorem f_hk : kwWritten? (HandSHeadRun.topDef R.prog 61).params.kwonlyargs (HandSHeadRun.topDef R.prog 61).params.kw_defaults = some [] := by kernel_rfl
theorem f_hwr : (!R.writes || R.records.isEmpty) = true := by rfl
theorem f_ok : (chainsOk (view R.prog [61]) && opensWell R.prog && (frees R.toRowW && R.within.isEmpty)) = true := by decide +kernel
theorem f_nm : (HandSHeadRun.topDef R.prog 61).name = ("law" : PySem.Str) := by kernel_rfl
theorem f_df : (HandSHeadRun.topDef R.prog 61).params.defaults = [] := by kernel_rfl
theorem f_call : WalkO (view R.prog [61]) names (XL (view R.prog [61]) []) hk.says R.toRowW (HandSHeadRun.topDef R.prog 61) [] fun f vs => PySem.call f vs := by
  refine G43.walkG (l := PySem.Challenge.rw_gunclocks_k22_rows_kept) (n := 63) (k := 40) rfl (by decide) f_df ⟨rfl, by decide, by decide⟩ ?F
  intro w mg fa h Y G hm
  obtain ⟨K, KX, c, tb⟩ := Y
  have T := G43.prog_of KX G c Law.all_s (fun _ => Law.word_at KX G c Law.exc_p Law.exc_l)
  have hd : Law.pg.defs[32]? = some Law.d_law := rfl
  rw [f_nm] at hm
  refine ⟨G43.adOf Law.pg K, Law.pg, 32, Law.d_law, KX, T, hd, ?_, rfl, rfl, (fun z => nomatch z), G43.cs_of tb, Law.law_wp⟩
  · obtain ⟨_, _, _, _, _, _, t⟩ := T.defs 32 _ hd
    have n := t.nm.symm.trans hm
    injection n with n
    injection n
theorem f_row : R.Holds := HandSHeadRun.head_any (r := R) (q := view R.prog [61]) (H := hk) (ob := obI) (M := 60000) (loose := names) (d := HandSHeadRun.topDef R.prog 61) (kwd := []) ob_eq f_e f_f run f_def f_hp f_hk f_hwr f_k1 f_ok f_bare f_hw f_call
end Law
set_option Elab.async false
set_option linter.all false
set_option maxRecDepth 100000
set_option maxHeartbeats 0
open PySem PySem.W PySem.Calls PyProof.Rows
set_option maxRecDepth 100000 in
set_option maxHeartbeats 0 in
theorem PySem.Challenge.cw_gunclocks_k22_rows_kept_holds : PySem.Challenge.rw_gunclocks_k22_rows_kept.Holds := by
  exact Law.law_of Law.f_row
