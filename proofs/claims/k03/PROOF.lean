import PyProof.Rows.All
import Wide.All
import OpenK.AllK
import Wide.FinOn
import KE.KStateDown
import HandS.ForMost
import HandS.WordsExc
import HandS.More
import HandS.Defaults
import HandS.Wide
import HandS.IsInst
import HandS.Conv
import HandS.TupAny
import HandS.Zip
import HandS.CallSlots
import HandS.Style
import HandS.Deep
import HandS.HeadEnd
import HandS.Head0
import HandS.Head1
import HandS.Head2
import HandS.HeadHook1
import HandS.HeadHook2
import PyProof.ReprLen
import PySem.Challenge.RW_gunclocks_k03_what_clocks_show
section
set_option Elab.async false
set_option linter.all false
set_option maxRecDepth 100000
set_option maxHeartbeats 0
namespace Law
open PySem PySem.W PySem.Calls PyProof.Rows
abbrev R : PySem.W.OpenRow := PySem.W.OpenLaw.row PySem.Challenge.rw_gunclocks_k03_what_clocks_show
theorem f_k1 : R.wellSaid = true := by k_qdec
theorem f_bare : R.prog.bare := ⟨rfl, rfl, rfl, rfl, rfl, by decide +kernel⟩
theorem f_hw : R.toRowW.promised := by w_witness2
theorem law_of (h : R.Holds) : PySem.Challenge.rw_gunclocks_k03_what_clocks_show.Holds := by
  w_on; o_law
  exact h
end Law
set_option Elab.async false
set_option linter.all false
set_option maxRecDepth 100000
set_option maxHeartbeats 4000000
namespace G43
open PySem
/-! ### values without addresses -/
inductive PV where
  | non
  | bl (b : Bool)
  | int (i : Int)
  | str (s : Str)
  | tup (l : List PV)
  | lst (l : List PV)
  | fn (f : Nat)
  | obj (i : Nat)
  | scr (l : List PV)
inductive RV where
  | pv (p : PV)
  | ref (i : Nat)
abbrev Hs := List (Option (List PV))
abbrev Env := List (Option RV)
/-! ### the small language -/
inductive BI where
  | len | abs | max | int | tuple | list | all | any | repr | str | sorted | sum | bool | set
  deriving DecidableEq
inductive Ty where
  | int | bool | tuple | str | list
  deriving DecidableEq
inductive Tg where
  | nm (i : Nat)
  | nil
  | cons (a r : Tg)
mutual
inductive E where
  | var (i : Nat)
  | cst (p : PV)
  | glo (g : Nat)
  | bin (op : Operator) (a b : E)
  | neg (a : E)
  | nt (a : E)
  | and (a b : E)
  | or (a b : E)
  | cmp (op : CmpOp) (a b : E)
  | call (f : Nat) (es : EL) (dv : List PV)
  | bi (b : BI) (es : EL)
  | isi (a : E) (t : Ty)
  | idx (a i : E)
  | slo (a lo : E)
  | shi (a hi : E)
  | slh (a lo hi : E)
  | tup (es : EL)
  | lst (es : EL)
  | mls (es : EL)
  | mad (a b : E)
  | comp (elt : E) (tg : Tg) (it : It) (ifs : EL)
inductive EL where
  | nil
  | cons (e : E) (r : EL)
inductive It where
  | seq (e : E)
  | rng1 (e : E)
  | zip (a b : E)
end
mutual
inductive S where
  | set (i : Nat) (e : E)
  | par (is : List Nat) (es : EL)
  | sub (o i v : E)
  | app (o v : E)
  | exp (e : E)
  | iff (t : E) (a b : SL)
  | for (kl : List Nat) (tg : Tg) (it : It) (body : SL)
  | whl (kl : List Nat) (t : E) (body : SL)
  | ret (e : E)
  | retN
  | rse
  | pass
inductive SL where
  | nil
  | cons (s : S) (r : SL)
end
def EL.len : EL → Nat
  | .nil => 0
  | .cons _ r => r.len + 1
structure Df where
  name : Str
  npar : Nat
  dfl : List PV
  N : List Str
  body : SL
structure Pg where
  defs : List Df
  cons : List (Str × PV)
  blt : List Str
/-! ### equality, reading -/
/-- what is read at a value -/
def val (h : Hs) : RV → Option PV
  | .pv p => some p
  | .ref i => match h[i]? with
    | some (some c) => some (.lst c)
    | _ => none
/-! ### operations -/
/-! ### targets, loops -/
def Tg.len : Tg → Nat
  | .nm _ => 0
  | .nil => 0
  | .cons _ r => r.len + 1
def Tg.slots : Tg → List Nat
  | .nm i => [i]
  | .nil => []
  | .cons a r => a.slots ++ r.slots
/-! ### expressions -/
/-! ### calls: a def's body, so many levels deep -/
end G43
set_option Elab.async false
set_option linter.all false
set_option maxRecDepth 100000
set_option maxHeartbeats 4000000
set_option Elab.async false
set_option linter.all false
set_option maxRecDepth 100000
set_option maxHeartbeats 4000000
namespace G43
open PySem
open L2 (V HO Hp SqL SqT Rd upd upd_same upd_ne)
/-! ### where things lie -/
structure Ad where
  K : PySem.W.Frag
  F : Nat → Addr
  CA : Nat → Addr
def KL (K : PySem.W.Frag) (a : Addr) (xs : List V) : Prop :=
  ∃ (o : Obj) (its : Array Value) (n : Nat), K.lookup a = some o ∧ o.cls = .type "list" ∧ o.dict = none ∧ o.data = .seq its n ∧ its.size ≤ sizeLine ∧ L2.Vals xs its.toList
mutual
inductive Rp (A : Ad) (L : Addr → Prop) (H : Hp) : PV → V → Prop
  | non : Rp A L H .non .non
  | bl (b : Bool) : Rp A L H (.bl b) (.bl b)
  | int (i : Int) : Rp A L H (.int i) (.int i)
  | str (x : Str) : Rp A L H (.str x) (.str x)
  | fn (f : Nat) : Rp A L H (.fn f) (.ref (A.F f))
  | tup {a : Addr} {xs : List V} {l : List PV} : SqT A.K H a xs → RpL A L H l xs → Rp A L H (.tup l) (.ref a)
  | lst {a : Addr} {xs : List V} {l : List PV} : H a = some (.lst xs) → ¬ L a → RpL A L H l xs → Rp A L H (.lst l) (.ref a)
  | scr {a : Addr} {xs : List V} {l : List PV} : (∃ o, H a = some (.frz o (.lst xs))) ∨ KL A.K a xs → RpL A L H l xs → Rp A L H (.scr l) (.ref a)
inductive RpL (A : Ad) (L : Addr → Prop) (H : Hp) : List PV → List V → Prop
  | nil : RpL A L H [] []
  | cons {p : PV} {v : V} {l : List PV} {xs : List V} : Rp A L H p v → RpL A L H l xs → RpL A L H (p :: l) (v :: xs)
end
/-- the cells that may change -/
def Lv (m : List Addr) (h : Hs) (a : Addr) : Prop := ∃ (i : Nat) (c : List PV), h[i]? = some (some c) ∧ m[i]? = some a
def Xc (B : Addr → Prop) (m : List Addr) (h : Hs) (a : Addr) : Prop := B a ∨ Lv m h a
structure Sim (A : Ad) (B : Addr → Prop) (m : List Addr) (h : Hs) (H : Hp) : Prop where
  len : m.length = h.length
  cell : ∀ (i : Nat) (c : List PV) (a : Addr), h[i]? = some (some c) → m[i]? = some a → ∃ xs, H a = some (.lst xs) ∧ RpL A (Xc B m h) H c xs
  inj : ∀ (i j : Nat) (c d : List PV) (a : Addr), h[i]? = some (some c) → h[j]? = some (some d) → m[i]? = some a → m[j]? = some a → i = j
  bn : ∀ a, B a → ¬ Lv m h a
  bt : ∀ a, B a → H a ≠ none
structure Mv (m : List Addr) (h : Hs) (H : Hp) (m' : List Addr) (h' : Hs) (H' : Hp) : Prop where
  pre : ∃ t, m' = m ++ t
  keep : ∀ b o, H b = some o → (∀ ps, o ≠ .tbl ps) → ¬ Lv m h b → H' b = some o ∧ ¬ Lv m' h' b
theorem Mv.refl (m : List Addr) (h : Hs) (H : Hp) : Mv m h H m h H := ⟨⟨[], by simp⟩, fun _ _ e _ n => ⟨e, n⟩⟩
theorem Mv.at {m m' : List Addr} {h h' : Hs} {H H' : Hp} (M : Mv m h H m' h' H') {i : Nat} {a : Addr} (e : m[i]? = some a) : m'[i]? = some a := by
  obtain ⟨t, rfl⟩ := M.pre
  have hi : i < m.length := (List.getElem?_eq_some_iff.mp e).1
  rw [List.getElem?_append_left hi]
  exact e
section
variable {A : Ad} {B : Addr → Prop} {m m' : List Addr} {h h' : Hs} {H H' : Hp}
theorem Sim.notTup (S : Sim A B m h H) {a : Addr} {o : HO} (e : H a = some o) (n : ∀ xs, o ≠ .lst xs) : ¬ Lv m h a := fun ⟨i, c, e1, e2⟩ => by
  obtain ⟨xs, e3, _⟩ := S.cell i c a e1 e2
  rw [e] at e3
  exact n xs (Option.some.inj e3)
/-- the cells hold lists -/
def CL (m : List Addr) (h : Hs) (H : Hp) : Prop := ∀ (i : Nat) (c : List PV) (a : Addr), h[i]? = some (some c) → m[i]? = some a → ∃ xs, H a = some (.lst xs)
theorem Sim.cl (S : Sim A B m h H) : CL m h H := fun i c a e1 e2 => let ⟨xs, e, _⟩ := S.cell i c a e1 e2; ⟨xs, e⟩
theorem CL.notTup (S : CL m h H) {a : Addr} {o : HO} (e : H a = some o) (n : ∀ xs, o ≠ .lst xs) : ¬ Lv m h a := fun ⟨i, c, e1, e2⟩ => by
  obtain ⟨xs, e3⟩ := S i c a e1 e2
  rw [e] at e3
  exact n xs (Option.some.inj e3)
theorem sqT_move (S : CL m h H) (M : Mv m h H m' h' H') {a : Addr} {xs : List V} (q : SqT A.K H a xs) : SqT A.K H' a xs := by
  rcases q with (q | ⟨o, q⟩) | q
  · exact .inl (.inl (M.keep a _ q (fun _ e => nomatch e) (S.notTup q fun _ e => nomatch e)).1)
  · exact .inl (.inr ⟨o, (M.keep a _ q (fun _ e => nomatch e) (S.notTup q fun _ e => nomatch e)).1⟩)
  · exact .inr q
theorem sqLH_move (M : Mv m h H m' h' H') {a : Addr} {xs : List V} (q : H a = some (.lst xs)) (n : ¬ Xc B m h a) : H' a = some (.lst xs) ∧ ¬ Xc B m' h' a := by
  obtain ⟨e, n'⟩ := M.keep a _ q (fun _ e => nomatch e) fun z => n (.inr z)
  exact ⟨e, fun z => z.elim (fun z => n (.inl z)) n'⟩
theorem scr_move (S : CL m h H) (M : Mv m h H m' h' H') {a : Addr} {xs : List V} (q : (∃ o, H a = some (.frz o (.lst xs))) ∨ KL A.K a xs) : (∃ o, H' a = some (.frz o (.lst xs))) ∨ KL A.K a xs := by
  rcases q with ⟨o, q⟩ | q
  · exact .inl ⟨o, (M.keep a _ q (fun _ e => nomatch e) (S.notTup q fun _ e => nomatch e)).1⟩
  · exact .inr q
mutual
theorem Rp.moveC (S : CL m h H) (M : Mv m h H m' h' H') : ∀ {p : PV} {v : V}, Rp A (Xc B m h) H p v → Rp A (Xc B m' h') H' p v
  | _, _, .non => .non
  | _, _, .bl b => .bl b
  | _, _, .int i => .int i
  | _, _, .str x => .str x
  | _, _, .fn f => .fn f
  | _, _, .tup q r => .tup (sqT_move S M q) (RpL.moveC S M r)
  | _, _, .lst q n r => .lst (sqLH_move M q n).1 (sqLH_move M q n).2 (RpL.moveC S M r)
  | _, _, .scr q r => .scr (scr_move S M q) (RpL.moveC S M r)
theorem RpL.moveC (S : CL m h H) (M : Mv m h H m' h' H') : ∀ {l : List PV} {xs : List V}, RpL A (Xc B m h) H l xs → RpL A (Xc B m' h') H' l xs
  | _, _, .nil => .nil
  | _, _, .cons q r => .cons (Rp.moveC S M q) (RpL.moveC S M r)
end
theorem Rp.move (S : Sim A B m h H) (M : Mv m h H m' h' H') {p : PV} {v : V} (q : Rp A (Xc B m h) H p v) : Rp A (Xc B m' h') H' p v := Rp.moveC S.cl M q
theorem RpL.move (S : Sim A B m h H) (M : Mv m h H m' h' H') {l : List PV} {xs : List V} (q : RpL A (Xc B m h) H l xs) : RpL A (Xc B m' h') H' l xs := RpL.moveC S.cl M q
mutual
theorem Rp.strong {B' : Addr → Prop} (w : ∀ a, B' a → B a ∨ H a = none) : ∀ {p : PV} {v : V}, Rp A (Xc B m h) H p v → Rp A (Xc B' m h) H p v
  | _, _, .non => .non
  | _, _, .bl b => .bl b
  | _, _, .int i => .int i
  | _, _, .str x => .str x
  | _, _, .fn f => .fn f
  | _, _, .tup q r => .tup q (RpL.strong w r)
  | _, _, .lst q n r => .lst q (fun z => z.elim (fun z => (w _ z).elim (fun z => n (.inl z)) fun z => by rw [q] at z; cases z) fun z => n (.inr z)) (RpL.strong w r)
  | _, _, .scr q r => .scr q (RpL.strong w r)
theorem RpL.strong {B' : Addr → Prop} (w : ∀ a, B' a → B a ∨ H a = none) : ∀ {l : List PV} {xs : List V}, RpL A (Xc B m h) H l xs → RpL A (Xc B' m h) H l xs
  | _, _, .nil => .nil
  | _, _, .cons q r => .cons (Rp.strong w q) (RpL.strong w r)
end
theorem RpL.length {L : Addr → Prop} : ∀ {l : List PV} {xs : List V}, RpL A L H l xs → xs.length = l.length
  | _, _, .nil => rfl
  | _, _, .cons _ r => by rw [List.length_cons, List.length_cons, RpL.length r]
theorem RpL.set {L : Addr → Prop} {p : PV} {v : V} (q : Rp A L H p v) : ∀ (n : Nat) {l : List PV} {xs : List V}, RpL A L H l xs → RpL A L H (l.set n p) (xs.set n v)
  | _, _, _, .nil => .nil
  | 0, _, _, .cons _ r => .cons q r
  | n + 1, _, _, .cons z r => .cons z (RpL.set q n r)
/-- a new object that is no cell -/
theorem Sim.news (S : Sim A B m h H) {p : Addr} {o : HO} (e : H p = none) : Mv m h H m h (upd H p o) ∧ Sim A B m h (upd H p o) := by
  have M : Mv m h H m h (upd H p o) := ⟨⟨[], by simp⟩, fun b u q _ n => ⟨by rw [upd_ne (L2.ne_of_none q e)]; exact q, n⟩⟩
  refine ⟨M, S.len, fun i c a h1 h2 => ?_, S.inj, S.bn, fun a q z => ?_⟩
  · obtain ⟨xs, h3, h4⟩ := S.cell i c a h1 h2
    exact ⟨xs, by rw [upd_ne (L2.ne_of_none h3 e)]; exact h3, h4.move S M⟩
  · unfold upd at z
    split at z
    · cases z
    · exact S.bt a q z
theorem Sim.fresh (S : Sim A B m h H) {p : Addr} (e : H p = none) : ¬ Xc B m h p := fun z => by
  rcases z with z | ⟨i, c, h1, h2⟩
  · exact S.bt p z e
  · obtain ⟨xs, h3, _⟩ := S.cell i c p h1 h2
    rw [e] at h3; cases h3
theorem Sim.tup (S : Sim A B m h H) {p : Addr} {l : List PV} {xs : List V} (e : H p = none) (q : RpL A (Xc B m h) H l xs) :
    Mv m h H m h (upd H p (.tup xs)) ∧ Sim A B m h (upd H p (.tup xs)) ∧ Rp A (Xc B m h) (upd H p (.tup xs)) (.tup l) (.ref p) := by
  obtain ⟨M, S'⟩ := S.news (o := .tup xs) e
  exact ⟨M, S', .tup (SqT.of upd_same) (q.move S M)⟩
theorem Sim.lst (S : Sim A B m h H) {p : Addr} {l : List PV} {xs : List V} (e : H p = none) (q : RpL A (Xc B m h) H l xs) :
    Mv m h H m h (upd H p (.lst xs)) ∧ Sim A B m h (upd H p (.lst xs)) ∧ Rp A (Xc B m h) (upd H p (.lst xs)) (.lst l) (.ref p) := by
  obtain ⟨M, S'⟩ := S.news (o := .lst xs) e
  exact ⟨M, S', .lst upd_same (S.fresh e) (q.move S M)⟩
/-- values of slots -/
def RpR (A : Ad) (B : Addr → Prop) (m : List Addr) (h : Hs) (H : Hp) : RV → V → Prop
  | .pv p, v => Rp A (Xc B m h) H p v
  | .ref i, v => ∃ a, m[i]? = some a ∧ v = .ref a
inductive RpRs (A : Ad) (B : Addr → Prop) (m : List Addr) (h : Hs) (H : Hp) : List RV → List V → Prop
  | nil : RpRs A B m h H [] []
  | cons {x : RV} {v : V} {xs : List RV} {vs : List V} : RpR A B m h H x v → RpRs A B m h H xs vs → RpRs A B m h H (x :: xs) (v :: vs)
theorem RpRs.length : ∀ {x : List RV} {v : List V}, RpRs A B m h H x v → v.length = x.length
  | _, _, .nil => rfl
  | _, _, .cons _ r => by rw [List.length_cons, List.length_cons, RpRs.length r]
/-- what may be read: a value, or a cell's list -/
inductive Rw (A : Ad) (L : Addr → Prop) (H : Hp) : PV → V → Prop
  | p {x : PV} {v : V} : Rp A L H x v → Rw A L H x v
  | c {a : Addr} {xs : List V} {l : List PV} : H a = some (.lst xs) → RpL A L H l xs → Rw A L H (.lst l) (.ref a)
theorem RpR.rw (S : Sim A B m h H) {x : RV} {v : V} {p : PV} (q : RpR A B m h H x v) (e : val h x = some p) : Rw A (Xc B m h) H p v := by
  cases x with
  | pv y =>
    have e1 : y = p := Option.some.inj e
    subst e1
    exact .p q
  | ref i =>
    obtain ⟨a, e1, rfl⟩ := q
    simp only [val] at e
    cases hc : h[i]? with
    | none => rw [hc] at e; cases e
    | some o =>
      cases o with
      | none => rw [hc] at e; cases e
      | some c =>
        rw [hc] at e
        have e2 : PV.lst c = p := Option.some.inj e
        subst e2
        obtain ⟨xs, h3, h4⟩ := S.cell i c a hc e1
        exact .c h3 h4
theorem Rw.lst {L : Addr → Prop} {l : List PV} {v : V} (q : Rw A L H (.lst l) v) : ∃ a xs, v = .ref a ∧ H a = some (.lst xs) ∧ RpL A L H l xs := by
  cases q with
  | p q =>
    cases q with
    | lst q n r => exact ⟨_, _, rfl, q, r⟩
  | c q r => exact ⟨_, _, rfl, q, r⟩
theorem Rw.tup {L : Addr → Prop} {l : List PV} {v : V} (q : Rw A L H (.tup l) v) : ∃ a xs, v = .ref a ∧ SqT A.K H a xs ∧ RpL A L H l xs := by
  cases q with
  | p q => cases q with
    | tup q r => exact ⟨_, _, rfl, q, r⟩
theorem Rw.int {L : Addr → Prop} {i : Int} {v : V} (q : Rw A L H (.int i) v) : v = .int i := by
  cases q with
  | p q => cases q; rfl
theorem Rw.bl {L : Addr → Prop} {i : Bool} {v : V} (q : Rw A L H (.bl i) v) : v = .bl i := by
  cases q with
  | p q => cases q; rfl
theorem Rw.str {L : Addr → Prop} {i : Str} {v : V} (q : Rw A L H (.str i) v) : v = .str i := by
  cases q with
  | p q => cases q; rfl
theorem Rw.non {L : Addr → Prop} {v : V} (q : Rw A L H .non v) : v = .non := by
  cases q with
  | p q => cases q; rfl
/-- the slots -/
structure Sl (A : Ad) (B : Addr → Prop) (m : List Addr) (h : Hs) (H : Hp) (ρ : Env) (σ : L2.St) : Prop where
  len : ρ.length = σ.length
  at_ : ∀ (i : Nat) (v : RV), ρ[i]? = some (some v) → ∃ w, σ[i]? = some (some w) ∧ RpR A B m h H v w
theorem Sl.set {ρ : Env} {σ : L2.St} (s : Sl A B m h H ρ σ) (i : Nat) {v : RV} {w : V} (q : RpR A B m h H v w) : Sl A B m h H (ρ.set i (some v)) (σ.set i (some w)) := by
  refine ⟨by rw [List.length_set, List.length_set]; exact s.len, fun j u e => ?_⟩
  by_cases hj : i = j
  · subst hj
    have hi : i < ρ.length := by
      by_cases hi : i < ρ.length
      · exact hi
      · rw [List.getElem?_eq_none (by simpa using hi)] at e; cases e
    rw [List.getElem?_set_self hi] at e
    cases e
    exact ⟨w, List.getElem?_set_self (by rw [← s.len]; exact hi), q⟩
  · rw [List.getElem?_set_ne hj] at e
    obtain ⟨z, e1, e2⟩ := s.at_ j u e
    exact ⟨z, by rw [List.getElem?_set_ne hj]; exact e1, e2⟩
end
end G43
set_option Elab.async false
set_option linter.all false
set_option maxRecDepth 100000
set_option maxHeartbeats 4000000
namespace G43
open PySem
open L2 (V HO Hp SqL SqT Rd upd upd_same upd_ne Cx OpR R2 VK CallR IxR SlR)
/-! ### values as plain data -/
section
variable {A : Ad} {B : Addr → Prop} {m : List Addr} {h : Hs} {H : Hp} {L : Addr → Prop}
/-- what is wanted of a value that is told, the cells as they are -/
def Kp (A : Ad) (B : Addr → Prop) (m : List Addr) (h : Hs) (H : Hp) (Q : VK) : PV → Prop := fun r => ∀ H' v, Sim A B m h H' → Mv m h H m h H' → Rp A (Xc B m h) H' r v → Q v H'
theorem Kp.here {Q : VK} {r : PV} {v : V} (S : Sim A B m h H) (k : Kp A B m h H Q r) (q : Rp A (Xc B m h) H r v) : Q v H := k H v S (Mv.refl _ _ _) q
theorem Kp.tup {Q : VK} {l : List PV} {xs : List V} {p : Addr} (S : Sim A B m h H) (k : Kp A B m h H Q (.tup l)) (q : RpL A (Xc B m h) H l xs) (e : H p = none) : Q (.ref p) (upd H p (.tup xs)) := by
  obtain ⟨M, S', r⟩ := S.tup e q
  exact k _ _ S' M r
theorem Kp.lst {Q : VK} {l : List PV} {xs : List V} {p : Addr} (S : Sim A B m h H) (k : Kp A B m h H Q (.lst l)) (q : RpL A (Xc B m h) H l xs) (e : H p = none) : Q (.ref p) (upd H p (.lst xs)) := by
  obtain ⟨M, S', r⟩ := S.lst e q
  exact k _ _ S' M r
end
end G43
set_option Elab.async false
set_option linter.all false
set_option maxRecDepth 100000
set_option maxHeartbeats 4000000
namespace G43
open PySem
open L2 (V HO Hp SqL SqT Rd upd upd_same upd_ne Cx OpR R2 VK CallR IxR SlR)
section
variable {A : Ad} {B : Addr → Prop} {m : List Addr} {h : Hs} {H : Hp} {L : Addr → Prop}
inductive RwL (A : Ad) (L : Addr → Prop) (H : Hp) : List PV → List V → Prop
  | nil : RwL A L H [] []
  | cons {p : PV} {v : V} {l : List PV} {xs : List V} : Rw A L H p v → RwL A L H l xs → RwL A L H (p :: l) (v :: xs)
theorem RwL.one {p : PV} {xs : List V} (q : RwL A L H [p] xs) : ∃ v, xs = [v] ∧ Rw A L H p v := by
  cases q with
  | cons q r => cases r; exact ⟨_, rfl, q⟩
end
section
variable {X : Cx} {A : Ad}
/-! ### built-in functions -/
theorem Kp.str {B : Addr → Prop} {m : List Addr} {h : Hs} {H : Hp} {Q : VK} {x : Str} (S : Sim A B m h H) (k : Kp A B m h H Q (.str x)) : Q (.str x) H := k.here S (.str x)
/-! ### a[i], a[i:j] -/
/-! ### isinstance -/
end
end G43
set_option Elab.async false
set_option linter.all false
set_option maxRecDepth 100000
set_option maxHeartbeats 4000000
set_option Elab.async false
set_option linter.all false
set_option maxRecDepth 100000
set_option maxHeartbeats 4000000
set_option Elab.async false
set_option linter.all false
set_option maxRecDepth 100000
set_option maxHeartbeats 4000000
set_option Elab.async false
set_option linter.all false
set_option maxRecDepth 100000
set_option maxHeartbeats 4000000
set_option Elab.async false
set_option linter.all false
set_option maxRecDepth 100000
set_option maxHeartbeats 4000000
set_option Elab.async false
set_option linter.all false
set_option maxRecDepth 100000
set_option maxHeartbeats 4000000
namespace G43
open PySem
open L2 (V HO Hp SqL SqT Rd upd upd_same upd_ne Cx OpR R2 VK CallR IxR SlR TE TA TS TT TI TG TGs PE PA PS PSs PT PI PG PGs XK Sp Room Vals)
open PySem.Spec PyProof.Rows
/-! ### targets -/
def Off (vs : List Nat) (σ σ' : L2.St) : Prop := σ'.length = σ.length ∧ ∀ i, i ∉ vs → σ'[i]? = σ[i]?
theorem Off.set (σ : L2.St) (i : Nat) (v : Option V) : Off [i] σ (σ.set i v) := ⟨List.length_set, fun j hj => List.getElem?_set_ne fun e => hj (by simp [e])⟩
end G43
set_option Elab.async false
set_option linter.all false
set_option maxRecDepth 100000
set_option maxHeartbeats 4000000
namespace G43
open PySem
open L2 (V HO Hp SqL SqT Rd upd upd_same upd_ne Cx OpR R2 VK CallR IxR SlR TE TA TS TT TI TG TGs PE PA PS PSs PT PI PG PGs XK Sp Room Vals)
open PySem.Spec PyProof.Rows
section
variable {A : Ad} {B : Addr → Prop} {m : List Addr} {h : Hs} {H : Hp}
/-! ### a list that is being made -/
theorem RpR.later {B' : Addr → Prop} {m2 : List Addr} {h2 : Hs} {H2 : Hp} (c : CL m h H) (w : ∀ a, B' a → B a ∨ H a = none) (M : Mv m h H m2 h2 H2) : ∀ {x : RV} {v : V}, RpR A B m h H x v → RpR A B' m2 h2 H2 x v
  | .pv _, _, q => Rp.moveC c M (Rp.strong w q)
  | .ref _, _, ⟨a, e, z⟩ => ⟨a, M.at e, z⟩
theorem Sl.later {B' : Addr → Prop} {m2 : List Addr} {h2 : Hs} {H2 : Hp} (c : CL m h H) (w : ∀ a, B' a → B a ∨ H a = none) (M : Mv m h H m2 h2 H2) {ρ : Env} {σ : L2.St} (s : Sl A B m h H ρ σ) : Sl A B' m2 h2 H2 ρ σ :=
  ⟨s.len, fun i v e => let ⟨w', e1, e2⟩ := s.at_ i v e; ⟨w', e1, e2.later c w M⟩⟩
end
/-! ### a comprehension -/
end G43
set_option Elab.async false
set_option linter.all false
set_option maxRecDepth 100000
set_option maxHeartbeats 4000000
set_option Elab.async false
set_option linter.all false
set_option maxRecDepth 100000
set_option maxHeartbeats 4000000
set_option Elab.async false
set_option linter.all false
set_option maxRecDepth 100000
set_option maxHeartbeats 4000000
set_option Elab.async false
set_option linter.all false
set_option maxRecDepth 100000
set_option maxHeartbeats 4000000
set_option Elab.async false
set_option linter.all false
set_option maxRecDepth 100000
set_option maxHeartbeats 4000000
set_option Elab.async false
set_option linter.all false
set_option maxRecDepth 100000
set_option maxHeartbeats 4000000
namespace G43
open PySem
open L2 (V HO Hp SqL SqT Vals)
/-! ### the top's constants -/
mutual
def repB (K : PySem.W.Frag) : PV → Value → Bool
  | .non, .none => true
  | .bl a, .bool b => a == b
  | .int i, .int j _ => decide (i = j)
  | .str x, .str y _ => decide (x = y)
  | .tup l, .ref a => (match K.lookup a with
    | some ⟨.type c, _, .seq its _, _⟩ => decide (c = "tuple") && decide (its.size ≤ 1000) && repBs K l its.toList
    | _ => false)
  | _, _ => false
def repBs (K : PySem.W.Frag) : List PV → List Value → Bool
  | [], [] => true
  | p :: ps, u :: us => repB K p u && repBs K ps us
  | _, _ => false
end
def conB (K : PySem.W.Frag) (q : Str × PV) : Bool := match PySem.W.nsIn K mainGlobals q.1 with
  | some (some u) => repB K q.2 u
  | _ => false
/-! ### what the head tells -/
def facB (K : PySem.W.Frag) (P : Pg) (fn : List He.DefD) : Bool := P.defs.all (fun d => (He.Fa.glo d.name).ok K) && P.blt.all (fun x => (He.Fa.free x).ok K) && P.cons.all (conB K) && fn.all fun d => d.ok K
def obsP (P : Pg) (fn : List He.DefD) (K : PySem.W.Frag) : Bool × List He.FnW := (facB K P fn, fn.map fun d => He.fnW K d.at_)
def valP (fn : List He.DefD) : Bool × List He.FnW := (true, fn.map He.DefD.val)
def seeP (n : Nat) (P : Pg) (fn : List He.DefD) (g : Addr → Option Obj) : Bool × List He.FnW := obsP P fn (He.frG g (He.asD g n))
def hookP (n : Nat) (P : Pg) (fn : List He.DefD) : PySem.W.Hook where
  α := Bool × List He.FnW
  obs := fun s => seeP n P fn s.heap.get?
  val := fun _ => valP fn
  says := fun _ h => ∃ K : PySem.W.Frag, K.In h ∧ obsP P fn K = valP fn
  of := fun _ _ e => ⟨_, He.frG_in, e⟩
  keeps := fun _ _ _ q k => let ⟨K, hK, c⟩ := q; ⟨K, PySem.W.Frag.In.keeps hK k, c⟩
end G43
set_option Elab.async false
set_option linter.all false
set_option maxRecDepth 100000
set_option maxHeartbeats 4000000
set_option Elab.async false
set_option linter.all false
set_option maxRecDepth 100000
set_option maxHeartbeats 4000000
namespace G43
open PySem
/-! ### parts -/
/-- top and bottom are shorter than b bits -/
def Sz (b : Nat) (q : Rat) : Prop := q.num.natAbs < 2 ^ b ∧ q.den < 2 ^ b
theorem natAbs_div_le (n : Int) (g : Nat) : (n / (g : Int)).natAbs ≤ n.natAbs := Int.natAbs_ediv_le_natAbs n g
theorem sz_mk {b : Nat} {n : Int} {d : Nat} (hn : n.natAbs < 2 ^ b) (hd : d < 2 ^ b) (h1 : 1 ≤ b) : Sz b (mkRat n d) := by
  have h2 : 1 < 2 ^ b := Nat.one_lt_pow (by omega) (by decide)
  refine ⟨?_, ?_⟩
  · rw [Rat.num_mkRat]
    split
    · simp; omega
    · exact Nat.lt_of_le_of_lt (natAbs_div_le _ _) hn
  · rw [Rat.den_mkRat]
    split
    · exact h2
    · exact Nat.lt_of_le_of_lt (Nat.div_le_self _ _) hd
theorem Sz.neg {a : Nat} {p : Rat} (s : Sz a p) : Sz a (-p) := by
  refine ⟨?_, s.2⟩
  rw [Rat.neg_num, Int.natAbs_neg]
  exact s.1
theorem Sz.add {a b : Nat} {p q : Rat} (s : Sz a p) (t : Sz b q) : Sz (a + b + 1) (p + q) := by
  rw [Rat.add_def']
  refine sz_mk ?_ ?_ (by omega)
  · refine Nat.lt_of_le_of_lt (Int.natAbs_add_le _ _) ?_
    rw [Int.natAbs_mul, Int.natAbs_mul, Int.natAbs_natCast, Int.natAbs_natCast]
    have h1 := Nat.mul_lt_mul'' s.1 t.2
    have h2 := Nat.mul_lt_mul'' t.1 s.2
    rw [← Nat.pow_add] at h1 h2
    rw [Nat.pow_succ]
    rw [Nat.add_comm b a] at h2
    omega
  · have h1 := Nat.mul_lt_mul'' s.2 t.2
    rw [← Nat.pow_add] at h1
    rw [Nat.pow_succ]
    omega
theorem Sz.sub {a b : Nat} {p q : Rat} (s : Sz a p) (t : Sz b q) : Sz (a + b + 1) (p - q) := by
  rw [Rat.sub_eq_add_neg]
  exact s.add t.neg
/-! sums as the program makes them -/
end G43
set_option Elab.async false
set_option linter.all false
set_option maxRecDepth 100000
set_option maxHeartbeats 4000000
namespace G43
open PySem
/-! ### pens -/
structure Pen where
  a : Int
  b : Int
  c : Int
  ha : 0 ≤ a
  hc : 0 ≤ c
  hc2 : c < 2147483647
def penL (p : Pen) : List PV := [.int p.a, .int p.b, .int p.c]
/-- a pen stands at place i -/
def PenH (i : Nat) (h : Hs) : Prop := ∃ p, h[i]? = some (some (penL p))
theorem PenH.lt {i : Nat} {h : Hs} (P : PenH i h) : i < h.length := by
  obtain ⟨p, e⟩ := P
  exact (List.getElem?_eq_some_iff.mp e).1
theorem PenH.set {i : Nat} {h : Hs} (P : PenH i h) (p : Pen) : PenH i (h.set i (some (penL p))) := ⟨p, List.getElem?_set_self P.lt⟩
theorem PenH.app {i : Nat} {h : Hs} (P : PenH i h) (t : Hs) : PenH i (h ++ t) := by
  have l := P.lt
  obtain ⟨p, e⟩ := P
  exact ⟨p, by rw [List.getElem?_append_left l]; exact e⟩
end G43
set_option Elab.async false
set_option linter.all false
set_option maxRecDepth 100000
set_option maxHeartbeats 4000000
namespace G43
open PySem
/-- what is drawn for sets -/
structure DrS (b n : Nat) (s : List (Rat × Rat)) : Prop where
  l : s.length ≤ n
  p : ∀ x ∈ s, 0 ≤ x.1 ∧ x.2 ≠ 0
  o : s.Pairwise (fun a b => a.1 < b.1)
  z : ∀ x ∈ s, Sz b x.1 ∧ Sz b x.2
theorem DrS.nil {b n : Nat} : DrS b n [] := ⟨by simp, by simp, .nil, by simp⟩
end G43
set_option Elab.async false
set_option linter.all false
set_option maxRecDepth 100000
set_option maxHeartbeats 4000000
namespace G43
open PySem
theorem DrS.sub {b n : Nat} {s t : List (Rat × Rat)} (d : DrS b n s) (h : t.Sublist s) : DrS b n t := ⟨Nat.le_trans h.length_le d.l, fun x hx => d.p x (h.subset hx), d.o.sublist h, fun x hx => d.z x (h.subset hx)⟩
/-! equality of what is the same -/
end G43
set_option Elab.async false
set_option linter.all false
set_option maxRecDepth 100000
set_option maxHeartbeats 4000000
set_option Elab.async false
set_option linter.all false
set_option maxRecDepth 100000
set_option maxHeartbeats 4000000
set_option Elab.async false
set_option linter.all false
set_option maxRecDepth 100000
set_option maxHeartbeats 0
namespace Law
open PySem G43
/-! ### the same in the small language -/
def b_is_whole : SL := (.cons (.ret (.and (.isi (.var 0) .int) (.nt (.isi (.var 0) .bool)))) .nil)
def d_is_whole : Df := ⟨"is_whole", 1, [], ["thing"], b_is_whole⟩
def b_shared : SL := (.cons (.set 0 (.bi .abs (.cons (.var 0) .nil))) (.cons (.whl [] (.cmp .Gt (.var 0) (.cst (.int 0))) (.cons (.par [0, 1] (.cons (.bin .Mod (.var 1) (.var 0)) (.cons (.var 0) .nil))) .nil)) (.cons (.ret (.var 1)) .nil)))
def d_shared : Df := ⟨"shared", 2, [], ["one", "other"], b_shared⟩
def b_lowest : SL := (.cons (.iff (.cmp .Lt (.var 1) (.cst (.int 0))) (.cons (.par [0, 1] (.cons (.bin .Sub (.cst (.int 0)) (.var 0)) (.cons (.bin .Sub (.cst (.int 0)) (.var 1)) .nil))) .nil) .nil) (.cons (.set 2 (.call 1 (.cons (.var 0) (.cons (.var 1) .nil)) [])) (.cons (.ret (.tup (.cons (.bin .FloorDiv (.var 0) (.var 2)) (.cons (.bin .FloorDiv (.var 1) (.var 2)) .nil)))) .nil)))
def d_lowest : Df := ⟨"lowest", 2, [], ["top", "bottom", "factor"], b_lowest⟩
def b_is_part : SL := (.cons (.iff (.or (.nt (.isi (.var 0) .tuple)) (.or (.cmp .NotEq (.bi .len (.cons (.var 0) .nil)) (.cst (.int 2))) (.or (.nt (.call 0 (.cons (.idx (.var 0) (.cst (.int 0))) .nil) [])) (.nt (.call 0 (.cons (.idx (.var 0) (.cst (.int 1))) .nil) []))))) (.cons (.ret (.cst (.bl false))) .nil) .nil) (.cons (.ret (.and (.cmp .Gt (.idx (.var 0) (.cst (.int 1))) (.cst (.int 0))) (.cmp .Eq (.call 1 (.cons (.idx (.var 0) (.cst (.int 0))) (.cons (.idx (.var 0) (.cst (.int 1))) .nil)) []) (.cst (.int 1))))) .nil))
def d_is_part : Df := ⟨"is_part", 1, [], ["thing"], b_is_part⟩
def b_need_part : SL := (.cons (.iff (.nt (.call 3 (.cons (.var 0) .nil) [])) (.cons (.rse) .nil) .nil) .nil)
def d_need_part : Df := ⟨"need_part", 1, [], ["thing"], b_need_part⟩
def b_plus : SL := (.cons (.ret (.call 2 (.cons (.bin .Add (.bin .Mult (.idx (.var 0) (.cst (.int 0))) (.idx (.var 1) (.cst (.int 1)))) (.bin .Mult (.idx (.var 1) (.cst (.int 0))) (.idx (.var 0) (.cst (.int 1))))) (.cons (.bin .Mult (.idx (.var 0) (.cst (.int 1))) (.idx (.var 1) (.cst (.int 1)))) .nil)) [])) .nil)
def d_plus : Df := ⟨"plus", 2, [], ["one", "other"], b_plus⟩
def b_product : SL := (.cons (.ret (.call 2 (.cons (.bin .Mult (.idx (.var 0) (.cst (.int 0))) (.idx (.var 1) (.cst (.int 0)))) (.cons (.bin .Mult (.idx (.var 0) (.cst (.int 1))) (.idx (.var 1) (.cst (.int 1)))) .nil)) [])) .nil)
def d_product : Df := ⟨"product", 2, [], ["one", "other"], b_product⟩
def b_below : SL := (.cons (.ret (.cmp .Lt (.bin .Mult (.idx (.var 0) (.cst (.int 0))) (.idx (.var 1) (.cst (.int 1)))) (.bin .Mult (.idx (.var 1) (.cst (.int 0))) (.idx (.var 0) (.cst (.int 1)))))) .nil)
def d_below : Df := ⟨"below", 2, [], ["one", "other"], b_below⟩
def b_is_gain : SL := (.cons (.ret (.and (.call 3 (.cons (.var 0) .nil) []) (.and (.nt (.call 7 (.cons (.var 0) (.cons (.glo 2) .nil)) [])) (.nt (.call 7 (.cons (.glo 1) (.cons (.var 0) .nil)) []))))) .nil)
def d_is_gain : Df := ⟨"is_gain", 1, [], ["thing"], b_is_gain⟩
def b_is_moment : SL := (.cons (.ret (.and (.call 3 (.cons (.var 0) .nil) []) (.cmp .GtE (.idx (.var 0) (.cst (.int 0))) (.cst (.int 0))))) .nil)
def d_is_moment : Df := ⟨"is_moment", 1, [], ["thing"], b_is_moment⟩
def b_is_set : SL := (.cons (.iff (.or (.nt (.isi (.var 0) .tuple)) (.cmp .NotEq (.bi .len (.cons (.var 0) .nil)) (.cst (.int 2)))) (.cons (.ret (.cst (.bl false))) .nil) .nil) (.cons (.ret (.and (.call 9 (.cons (.idx (.var 0) (.cst (.int 0))) .nil) []) (.and (.call 3 (.cons (.idx (.var 0) (.cst (.int 1))) .nil) []) (.cmp .NotEq (.idx (.var 0) (.cst (.int 1))) (.glo 0))))) .nil))
def d_is_set : Df := ⟨"is_set", 1, [], ["thing"], b_is_set⟩
def b_is_clock : SL := (.cons (.iff (.or (.nt (.isi (.var 0) .tuple)) (.or (.cmp .NotEq (.bi .len (.cons (.var 0) .nil)) (.cst (.int 2))) (.or (.nt (.call 8 (.cons (.idx (.var 0) (.cst (.int 0))) .nil) [])) (.nt (.isi (.idx (.var 0) (.cst (.int 1))) .tuple))))) (.cons (.ret (.cst (.bl false))) .nil) .nil) (.cons (.iff (.or (.cmp .Gt (.bi .len (.cons (.idx (.var 0) (.cst (.int 1))) .nil)) (.glo 4)) (.nt (.bi .all (.cons (.comp (.call 10 (.cons (.var 1) .nil) []) (.nm 1) (.seq (.idx (.var 0) (.cst (.int 1)))) .nil) .nil)))) (.cons (.ret (.cst (.bl false))) .nil) .nil) (.cons (.ret (.bi .all (.cons (.comp (.call 7 (.cons (.idx (.var 1) (.cst (.int 0))) (.cons (.idx (.var 2) (.cst (.int 0))) .nil)) []) (.cons (.nm 1) (.cons (.nm 2) .nil)) (.zip (.idx (.var 0) (.cst (.int 1))) (.slo (.idx (.var 0) (.cst (.int 1))) (.cst (.int 1)))) .nil) .nil))) .nil)))
def d_is_clock : Df := ⟨"is_clock", 1, [], ["thing", "one", "later"], b_is_clock⟩
def b_need_clock : SL := (.cons (.iff (.nt (.call 11 (.cons (.var 0) .nil) [])) (.cons (.rse) .nil) .nil) .nil)
def d_need_clock : Df := ⟨"need_clock", 1, [], ["clock"], b_need_clock⟩
def b_need_moment : SL := (.cons (.iff (.nt (.call 9 (.cons (.var 0) .nil) [])) (.cons (.rse) .nil) .nil) .nil)
def d_need_moment : Df := ⟨"need_moment", 1, [], ["moment"], b_need_moment⟩
def b_own_error : SL := (.cons (.iff (.cmp .Is (.var 0) (.cst .non)) (.cons (.ret (.glo 0)) .nil) .nil) (.cons (.exp (.call 4 (.cons (.var 0) .nil) [])) (.cons (.ret (.var 0)) .nil)))
def d_own_error : Df := ⟨"own_error", 1, [], ["error"], b_own_error⟩
def b_jumps_till : SL := (.cons (.set 2 (.glo 0)) (.cons (.for [3, 4] (.cons (.nm 3) (.cons (.nm 4) .nil)) (.seq (.idx (.var 0) (.cst (.int 1)))) (.cons (.iff (.nt (.call 7 (.cons (.var 1) (.cons (.var 3) .nil)) [])) (.cons (.set 2 (.call 5 (.cons (.var 2) (.cons (.var 4) .nil)) [])) .nil) .nil) .nil)) (.cons (.ret (.var 2)) .nil)))
def d_jumps_till : Df := ⟨"jumps_till", 2, [], ["clock", "moment", "found", "when", "jump"], b_jumps_till⟩
def b_drift_by : SL := (.cons (.ret (.call 5 (.cons (.call 6 (.cons (.var 1) (.cons (.idx (.var 0) (.cst (.int 0))) .nil)) []) (.cons (.call 15 (.cons (.var 0) (.cons (.var 1) .nil)) []) .nil)) [])) .nil)
def d_drift_by : Df := ⟨"drift_by", 2, [], ["clock", "moment"], b_drift_by⟩
def b_drift : SL := (.cons (.exp (.call 12 (.cons (.var 0) .nil) [])) (.cons (.exp (.call 13 (.cons (.var 1) .nil) [])) (.cons (.ret (.call 16 (.cons (.var 0) (.cons (.var 1) .nil)) [])) .nil)))
def d_drift : Df := ⟨"drift", 2, [], ["clock", "moment"], b_drift⟩
def b_shown_by : SL := (.cons (.ret (.call 5 (.cons (.call 5 (.cons (.call 6 (.cons (.glo 3) (.cons (.var 1) .nil)) []) (.cons (.var 2) .nil)) []) (.cons (.call 16 (.cons (.var 0) (.cons (.var 1) .nil)) []) .nil)) [])) .nil)
def d_shown_by : Df := ⟨"shown_by", 3, [], ["clock", "moment", "error"], b_shown_by⟩
def b_shown_at : SL := (.cons (.exp (.call 12 (.cons (.var 0) .nil) [])) (.cons (.exp (.call 13 (.cons (.var 1) .nil) [])) (.cons (.ret (.call 18 (.cons (.var 0) (.cons (.var 1) (.cons (.call 14 (.cons (.var 2) .nil) []) .nil))) [])) .nil)))
def d_shown_at : Df := ⟨"shown_at", 3, [.non], ["clock", "moment", "error"], b_shown_at⟩
def b__law_cell_at : SL := (.cons (.iff (.cmp .Lt (.var 1) (.bi .len (.cons (.var 0) .nil))) (.cons (.ret (.idx (.var 0) (.var 1))) .nil) .nil) (.cons (.ret (.cst (.int 0))) .nil))
def d__law_cell_at : Df := ⟨"_law_cell_at", 2, [], ["_law_script", "_law_k"], b__law_cell_at⟩
def b__law_next : SL := (.cons (.set 0 (.bin .Mod (.bin .Add (.var 0) (.cst (.int 7919))) (.cst (.int 2147483647)))) (.cons (.ret (.bin .Mod (.bin .Add (.bin .Add (.bin .Mult (.var 0) (.var 0)) (.bin .Mult (.cst (.int 48271)) (.var 0))) (.cst (.int 12345))) (.cst (.int 2147483629)))) .nil))
def d__law_next : Df := ⟨"_law_next", 1, [], ["_law_seed"], b__law_next⟩
def b__law_pen_of : SL := (.cons (.set 1 (.bi .max (.cons (.var 0) (.cons (.bin .Sub (.cst (.int 0)) (.var 0)) .nil)))) (.cons (.ret (.mls (.cons (.var 1) (.cons (.bi .int (.cons (.cmp .GtE (.var 1) (.bin .Pow (.cst (.int 10)) (.cst (.int 18)))) .nil)) (.cons (.bin .Mod (.var 1) (.cst (.int 1000003))) .nil))))) .nil))
def d__law_pen_of : Df := ⟨"_law_pen_of", 1, [], ["_law_cell", "_law_left"], b__law_pen_of⟩
def b__law_draw : SL := (.cons (.iff (.and (.cmp .Eq (.idx (.var 0) (.cst (.int 1))) (.cst (.int 1))) (.cmp .Gt (.idx (.var 0) (.cst (.int 0))) (.cst (.int 0)))) (.cons (.set 2 (.bin .Mod (.idx (.var 0) (.cst (.int 0))) (.var 1))) (.cons (.sub (.var 0) (.cst (.int 0)) (.bin .FloorDiv (.idx (.var 0) (.cst (.int 0))) (.var 1))) (.cons (.ret (.var 2)) .nil))) .nil) (.cons (.sub (.var 0) (.cst (.int 2)) (.call 21 (.cons (.bin .Add (.call 21 (.cons (.idx (.var 0) (.cst (.int 2))) .nil) []) (.cst (.int 7))) .nil) [])) (.cons (.ret (.bin .Mod (.bin .FloorDiv (.idx (.var 0) (.cst (.int 2))) (.cst (.int 64))) (.var 1))) .nil)))
def d__law_draw : Df := ⟨"_law_draw", 2, [], ["_law_pen", "_law_many", "_law_found"], b__law_draw⟩
def b__law_made : SL := (.cons (.par [2, 3] (.cons (.bi .abs (.cons (.var 0) .nil)) (.cons (.var 1) .nil))) (.cons (.whl [] (.cmp .Gt (.var 3) (.cst (.int 0))) (.cons (.par [2, 3] (.cons (.var 3) (.cons (.bin .Mod (.var 2) (.var 3)) .nil))) .nil)) (.cons (.ret (.tup (.cons (.bin .FloorDiv (.var 0) (.var 2)) (.cons (.bin .FloorDiv (.var 1) (.var 2)) .nil)))) .nil)))
def d__law_made : Df := ⟨"_law_made", 2, [], ["_law_top", "_law_bottom", "_law_one", "_law_other"], b__law_made⟩
def b__law_sum : SL := (.cons (.ret (.call 24 (.cons (.bin .Add (.bin .Mult (.idx (.var 0) (.cst (.int 0))) (.idx (.var 1) (.cst (.int 1)))) (.bin .Mult (.idx (.var 1) (.cst (.int 0))) (.idx (.var 0) (.cst (.int 1))))) (.cons (.bin .Mult (.idx (.var 0) (.cst (.int 1))) (.idx (.var 1) (.cst (.int 1)))) .nil)) [])) .nil)
def d__law_sum : Df := ⟨"_law_sum", 2, [], ["_law_one", "_law_other"], b__law_sum⟩
def b__law_rest : SL := (.cons (.ret (.call 24 (.cons (.bin .Sub (.bin .Mult (.idx (.var 0) (.cst (.int 0))) (.idx (.var 1) (.cst (.int 1)))) (.bin .Mult (.idx (.var 1) (.cst (.int 0))) (.idx (.var 0) (.cst (.int 1))))) (.cons (.bin .Mult (.idx (.var 0) (.cst (.int 1))) (.idx (.var 1) (.cst (.int 1)))) .nil)) [])) .nil)
def d__law_rest : Df := ⟨"_law_rest", 2, [], ["_law_one", "_law_other"], b__law_rest⟩
def b__law_prod : SL := (.cons (.ret (.call 24 (.cons (.bin .Mult (.idx (.var 0) (.cst (.int 0))) (.idx (.var 1) (.cst (.int 0)))) (.cons (.bin .Mult (.idx (.var 0) (.cst (.int 1))) (.idx (.var 1) (.cst (.int 1)))) .nil)) [])) .nil)
def d__law_prod : Df := ⟨"_law_prod", 2, [], ["_law_one", "_law_other"], b__law_prod⟩
def b__law_under : SL := (.cons (.ret (.cmp .Lt (.bin .Mult (.idx (.var 0) (.cst (.int 0))) (.idx (.var 1) (.cst (.int 1)))) (.bin .Mult (.idx (.var 1) (.cst (.int 0))) (.idx (.var 0) (.cst (.int 1)))))) .nil)
def d__law_under : Df := ⟨"_law_under", 2, [], ["_law_one", "_law_other"], b__law_under⟩
def b__law_some : SL := (.cons (.par [1, 2] (.cons (.call 23 (.cons (.var 0) (.cons (.cst (.int 40)) .nil)) []) (.cons (.bin .Add (.cst (.int 1)) (.call 23 (.cons (.var 0) (.cons (.idx (.lst (.cons (.cst (.int 1)) (.cons (.cst (.int 4)) (.cons (.cst (.int 12)) .nil)))) (.call 23 (.cons (.var 0) (.cons (.cst (.int 3)) .nil)) [])) .nil)) [])) .nil))) (.cons (.ret (.call 24 (.cons (.idx (.lst (.cons (.var 1) (.cons (.bin .Sub (.cst (.int 0)) (.var 1)) .nil))) (.call 23 (.cons (.var 0) (.cons (.cst (.int 2)) .nil)) [])) (.cons (.var 2) .nil)) [])) .nil))
def d__law_some : Df := ⟨"_law_some", 1, [], ["_law_pen", "_law_top", "_law_bottom"], b__law_some⟩
def b__law_up : SL := (.cons (.ret (.call 24 (.cons (.idx (.lst (.cons (.cst (.int 0)) (.cons (.call 23 (.cons (.var 0) (.cons (.cst (.int 30)) .nil)) []) (.cons (.cst (.int 1)) .nil)))) (.call 23 (.cons (.var 0) (.cons (.cst (.int 3)) .nil)) [])) (.cons (.bin .Add (.cst (.int 1)) (.call 23 (.cons (.var 0) (.cons (.cst (.int 6)) .nil)) [])) .nil)) [])) .nil)
def d__law_up : Df := ⟨"_law_up", 1, [], ["_law_pen"], b__law_up⟩
def b__law_gain : SL := (.cons (.par [1, 2] (.cons (.call 23 (.cons (.var 0) (.cons (.cst (.int 13)) .nil)) []) (.cons (.bin .Add (.cst (.int 1)) (.call 23 (.cons (.var 0) (.cons (.cst (.int 7)) .nil)) [])) .nil))) (.cons (.ret (.idx (.lst (.cons (.tup (.cons (.cst (.int 0)) (.cons (.cst (.int 1)) .nil))) (.cons (.call 24 (.cons (.var 1) (.cons (.var 2) .nil)) []) (.cons (.call 24 (.cons (.bin .Sub (.cst (.int 0)) (.var 1)) (.cons (.var 2) .nil)) []) (.cons (.tup (.cons (.cst (.int 12)) (.cons (.cst (.int 1)) .nil))) (.cons (.tup (.cons (.neg (.cst (.int 12))) (.cons (.cst (.int 1)) .nil))) .nil)))))) (.call 23 (.cons (.var 0) (.cons (.cst (.int 5)) .nil)) []))) .nil))
def d__law_gain : Df := ⟨"_law_gain", 1, [], ["_law_pen", "_law_top", "_law_bottom"], b__law_gain⟩
def b__law_sets : SL := (.cons (.par [2, 3] (.cons (.mls .nil) (.cons (.tup (.cons (.cst (.int 0)) (.cons (.cst (.int 1)) .nil))) .nil))) (.cons (.for [4, 5] (.nm 4) (.rng1 (.call 23 (.cons (.var 0) (.cons (.bin .Add (.var 1) (.cst (.int 1))) .nil)) [])) (.cons (.iff (.or (.cmp .Gt (.var 4) (.cst (.int 0))) (.cmp .Gt (.call 23 (.cons (.var 0) (.cons (.cst (.int 3)) .nil)) []) (.cst (.int 0)))) (.cons (.set 3 (.call 25 (.cons (.var 3) (.cons (.call 24 (.cons (.bin .Add (.cst (.int 1)) (.call 23 (.cons (.var 0) (.cons (.cst (.int 9)) .nil)) [])) (.cons (.bin .Add (.cst (.int 1)) (.call 23 (.cons (.var 0) (.cons (.cst (.int 6)) .nil)) [])) .nil)) []) .nil)) [])) .nil) .nil) (.cons (.set 5 (.call 24 (.cons (.bin .Add (.cst (.int 1)) (.call 23 (.cons (.var 0) (.cons (.idx (.lst (.cons (.cst (.int 9)) (.cons (.cst (.int 99)) .nil))) (.call 23 (.cons (.var 0) (.cons (.cst (.int 2)) .nil)) [])) .nil)) [])) (.cons (.bin .Add (.cst (.int 1)) (.call 23 (.cons (.var 0) (.cons (.cst (.int 4)) .nil)) [])) .nil)) [])) (.cons (.app (.var 2) (.tup (.cons (.var 3) (.cons (.idx (.lst (.cons (.var 5) (.cons (.tup (.cons (.bin .Sub (.cst (.int 0)) (.idx (.var 5) (.cst (.int 0)))) (.cons (.idx (.var 5) (.cst (.int 1))) .nil))) .nil))) (.call 23 (.cons (.var 0) (.cons (.cst (.int 2)) .nil)) [])) .nil)))) .nil)))) (.cons (.ret (.bi .tuple (.cons (.var 2) .nil))) .nil)))
def d__law_sets : Df := ⟨"_law_sets", 2, [], ["_law_pen", "_law_most", "_law_found", "_law_when", "_law_turn", "_law_jump"], b__law_sets⟩
def b__law_drift : SL := (.cons (.set 2 (.call 27 (.cons (.idx (.var 0) (.cst (.int 0))) (.cons (.var 1) .nil)) [])) (.cons (.for [3, 4] (.cons (.nm 3) (.cons (.nm 4) .nil)) (.seq (.idx (.var 0) (.cst (.int 1)))) (.cons (.iff (.nt (.call 28 (.cons (.var 1) (.cons (.var 3) .nil)) [])) (.cons (.set 2 (.call 25 (.cons (.var 2) (.cons (.var 4) .nil)) [])) .nil) .nil) .nil)) (.cons (.ret (.var 2)) .nil)))
def d__law_drift : Df := ⟨"_law_drift", 2, [], ["_law_clock", "_law_moment", "_law_found", "_law_when", "_law_jump"], b__law_drift⟩
def b__law_shown : SL := (.cons (.ret (.call 25 (.cons (.call 25 (.cons (.call 27 (.cons (.tup (.cons (.cst (.int 24)) (.cons (.cst (.int 1)) .nil))) (.cons (.var 1) .nil)) []) (.cons (.var 2) .nil)) []) (.cons (.call 33 (.cons (.var 0) (.cons (.var 1) .nil)) []) .nil)) [])) .nil)
def d__law_shown : Df := ⟨"_law_shown", 3, [], ["_law_clock", "_law_moment", "_law_error"], b__law_shown⟩
def b_law : SL := (.cons (.for [1, 2, 3] (.nm 1) (.seq (.bin .Add (.lst (.cons (.call 20 (.cons (.var 0) (.cons (.cst (.int 0)) .nil)) []) .nil)) (.slh (.var 0) (.cst (.int 1)) (.cst (.int 3))))) (.cons (.set 2 (.call 22 (.cons (.var 1) .nil) [])) (.cons (.set 3 (.comp (.tup (.cons (.call 31 (.cons (.var 2) .nil) []) (.cons (.call 32 (.cons (.var 2) (.cons (.cst (.int 6)) .nil)) []) .nil))) (.nm 4) (.rng1 (.cst (.int 2))) .nil)) (.cons (.for [5, 6] (.nm 5) (.seq (.bin .Add (.var 3) (.shi (.var 3) (.cst (.int 1))))) (.cons (.set 6 (.mls (.cons (.tup (.cons (.cst (.int 0)) (.cons (.cst (.int 1)) .nil))) (.cons (.call 30 (.cons (.var 2) .nil) []) (.cons (.tup (.cons (.cst (.int 1000)) (.cons (.cst (.int 7)) .nil))) .nil))))) (.cons (.for [7, 8] (.cons (.nm 7) (.cons (.nm 8) .nil)) (.seq (.idx (.var 5) (.cst (.int 1)))) (.cons (.set 6 (.mad (.var 6) (.lst (.cons (.var 7) (.cons (.call 25 (.cons (.var 7) (.cons (.tup (.cons (.cst (.int 1)) (.cons (.cst (.int 1000)) .nil))) .nil)) []) .nil))))) (.cons (.iff (.cmp .Gt (.idx (.var 7) (.cst (.int 0))) (.cst (.int 0))) (.cons (.app (.var 6) (.call 26 (.cons (.var 7) (.cons (.call 27 (.cons (.var 7) (.cons (.tup (.cons (.cst (.int 1)) (.cons (.cst (.int 1000)) .nil))) .nil)) []) .nil)) [])) .nil) .nil) .nil))) (.cons (.for [9, 10, 11, 12] (.nm 9) (.seq (.var 6)) (.cons (.set 10 (.call 29 (.cons (.var 2) .nil) [])) (.cons (.set 11 (.lst (.cons (.call 33 (.cons (.var 5) (.cons (.var 9) .nil)) []) (.cons (.call 34 (.cons (.var 5) (.cons (.var 9) (.cons (.var 10) .nil))) []) (.cons (.call 34 (.cons (.var 5) (.cons (.var 9) (.cons (.tup (.cons (.cst (.int 0)) (.cons (.cst (.int 1)) .nil))) .nil))) []) .nil))))) (.cons (.set 12 (.lst (.cons (.call 17 (.cons (.var 5) (.cons (.var 9) .nil)) []) (.cons (.call 19 (.cons (.var 5) (.cons (.var 9) (.cons (.var 10) .nil))) []) (.cons (.call 19 (.cons (.var 5) (.cons (.var 9) .nil)) [.non]) .nil))))) (.cons (.iff (.or (.cmp .NotEq (.bi .repr (.cons (.var 12) .nil)) (.bi .repr (.cons (.var 11) .nil))) (.cmp .NotEq (.bi .repr (.cons (.call 19 (.cons (.var 5) (.cons (.var 9) (.cons (.cst .non) .nil))) []) .nil)) (.bi .repr (.cons (.idx (.var 11) (.cst (.int 2))) .nil)))) (.cons (.ret (.cst (.bl false))) .nil) .nil) .nil))))) .nil)))) .nil)))) (.cons (.ret (.cst (.bl true))) .nil))
def d_law : Df := ⟨"law", 1, [], ["_law_script", "_law_cell", "_law_pen", "_law_clocks", "_law_turn", "_law_clock", "_law_some_here", "_law_when", "_law_jump", "_law_moment", "_law_error", "_law_due", "_law_found"], b_law⟩
def pg : Pg := ⟨[d_is_whole, d_shared, d_lowest, d_is_part, d_need_part, d_plus, d_product, d_below, d_is_gain, d_is_moment, d_is_set, d_is_clock, d_need_clock, d_need_moment, d_own_error, d_jumps_till, d_drift_by, d_drift, d_shown_by, d_shown_at, d__law_cell_at, d__law_next, d__law_pen_of, d__law_draw, d__law_made, d__law_sum, d__law_rest, d__law_prod, d__law_under, d__law_some, d__law_up, d__law_gain, d__law_sets, d__law_drift, d__law_shown, d_law], [("NOUGHT", .tup [.int 0, .int 1]), ("MOST_GAIN", .tup [.int 12, .int 1]), ("LEAST_GAIN", .tup [.int (-12), .int 1]), ("HOURS", .tup [.int 24, .int 1]), ("MOST_SETS", .int 6)], ["abs", "all", "max", "range", "tuple", "isinstance", "int", "len", "bool", "zip", "repr"]⟩
end Law
set_option Elab.async false
set_option linter.all false
set_option maxRecDepth 100000
set_option maxHeartbeats 0
namespace Law
open PySem G43
/-! ### the text -/
def top (i : Nat) : Stmt := PySem.Challenge.pw_gunclocks_k03_what_clocks_show.main.body.getD i (.Pass ⟨0, 0, 0, 0⟩)
def t_is_whole : He.DefD := ⟨("is_whole", none), "is_whole", "is_whole", L2.defArgs (top 7), L2.defBody (top 7), L2.defScope (top 7), [], []⟩
def t_shared : He.DefD := ⟨("shared", none), "shared", "shared", L2.defArgs (top 8), L2.defBody (top 8), L2.defScope (top 8), [], []⟩
def t_lowest : He.DefD := ⟨("lowest", none), "lowest", "lowest", L2.defArgs (top 9), L2.defBody (top 9), L2.defScope (top 9), [], []⟩
def t_is_part : He.DefD := ⟨("is_part", none), "is_part", "is_part", L2.defArgs (top 10), L2.defBody (top 10), L2.defScope (top 10), [], []⟩
def t_need_part : He.DefD := ⟨("need_part", none), "need_part", "need_part", L2.defArgs (top 11), L2.defBody (top 11), L2.defScope (top 11), [], []⟩
def t_plus : He.DefD := ⟨("plus", none), "plus", "plus", L2.defArgs (top 12), L2.defBody (top 12), L2.defScope (top 12), [], []⟩
def t_product : He.DefD := ⟨("product", none), "product", "product", L2.defArgs (top 13), L2.defBody (top 13), L2.defScope (top 13), [], []⟩
def t_below : He.DefD := ⟨("below", none), "below", "below", L2.defArgs (top 14), L2.defBody (top 14), L2.defScope (top 14), [], []⟩
def t_is_gain : He.DefD := ⟨("is_gain", none), "is_gain", "is_gain", L2.defArgs (top 20), L2.defBody (top 20), L2.defScope (top 20), [], []⟩
def t_is_moment : He.DefD := ⟨("is_moment", none), "is_moment", "is_moment", L2.defArgs (top 21), L2.defBody (top 21), L2.defScope (top 21), [], []⟩
def t_is_set : He.DefD := ⟨("is_set", none), "is_set", "is_set", L2.defArgs (top 22), L2.defBody (top 22), L2.defScope (top 22), [], []⟩
def t_is_clock : He.DefD := ⟨("is_clock", none), "is_clock", "is_clock", L2.defArgs (top 23), L2.defBody (top 23), L2.defScope (top 23), [], []⟩
def t_need_clock : He.DefD := ⟨("need_clock", none), "need_clock", "need_clock", L2.defArgs (top 24), L2.defBody (top 24), L2.defScope (top 24), [], []⟩
def t_need_moment : He.DefD := ⟨("need_moment", none), "need_moment", "need_moment", L2.defArgs (top 25), L2.defBody (top 25), L2.defScope (top 25), [], []⟩
def t_own_error : He.DefD := ⟨("own_error", none), "own_error", "own_error", L2.defArgs (top 26), L2.defBody (top 26), L2.defScope (top 26), [], []⟩
def t_jumps_till : He.DefD := ⟨("jumps_till", none), "jumps_till", "jumps_till", L2.defArgs (top 27), L2.defBody (top 27), L2.defScope (top 27), [], []⟩
def t_drift_by : He.DefD := ⟨("drift_by", none), "drift_by", "drift_by", L2.defArgs (top 28), L2.defBody (top 28), L2.defScope (top 28), [], []⟩
def t_drift : He.DefD := ⟨("drift", none), "drift", "drift", L2.defArgs (top 29), L2.defBody (top 29), L2.defScope (top 29), [], []⟩
def t_shown_by : He.DefD := ⟨("shown_by", none), "shown_by", "shown_by", L2.defArgs (top 30), L2.defBody (top 30), L2.defScope (top 30), [], []⟩
def t_shown_at : He.DefD := ⟨("shown_at", none), "shown_at", "shown_at", L2.defArgs (top 31), L2.defBody (top 31), L2.defScope (top 31), [.non], []⟩
def t__law_cell_at : He.DefD := ⟨("_law_cell_at", none), "_law_cell_at", "_law_cell_at", L2.defArgs (top 33), L2.defBody (top 33), L2.defScope (top 33), [], []⟩
def t__law_next : He.DefD := ⟨("_law_next", none), "_law_next", "_law_next", L2.defArgs (top 34), L2.defBody (top 34), L2.defScope (top 34), [], []⟩
def t__law_pen_of : He.DefD := ⟨("_law_pen_of", none), "_law_pen_of", "_law_pen_of", L2.defArgs (top 35), L2.defBody (top 35), L2.defScope (top 35), [], []⟩
def t__law_draw : He.DefD := ⟨("_law_draw", none), "_law_draw", "_law_draw", L2.defArgs (top 36), L2.defBody (top 36), L2.defScope (top 36), [], []⟩
def t__law_made : He.DefD := ⟨("_law_made", none), "_law_made", "_law_made", L2.defArgs (top 37), L2.defBody (top 37), L2.defScope (top 37), [], []⟩
def t__law_sum : He.DefD := ⟨("_law_sum", none), "_law_sum", "_law_sum", L2.defArgs (top 38), L2.defBody (top 38), L2.defScope (top 38), [], []⟩
def t__law_rest : He.DefD := ⟨("_law_rest", none), "_law_rest", "_law_rest", L2.defArgs (top 39), L2.defBody (top 39), L2.defScope (top 39), [], []⟩
def t__law_prod : He.DefD := ⟨("_law_prod", none), "_law_prod", "_law_prod", L2.defArgs (top 40), L2.defBody (top 40), L2.defScope (top 40), [], []⟩
def t__law_under : He.DefD := ⟨("_law_under", none), "_law_under", "_law_under", L2.defArgs (top 41), L2.defBody (top 41), L2.defScope (top 41), [], []⟩
def t__law_some : He.DefD := ⟨("_law_some", none), "_law_some", "_law_some", L2.defArgs (top 42), L2.defBody (top 42), L2.defScope (top 42), [], []⟩
def t__law_up : He.DefD := ⟨("_law_up", none), "_law_up", "_law_up", L2.defArgs (top 43), L2.defBody (top 43), L2.defScope (top 43), [], []⟩
def t__law_gain : He.DefD := ⟨("_law_gain", none), "_law_gain", "_law_gain", L2.defArgs (top 44), L2.defBody (top 44), L2.defScope (top 44), [], []⟩
def t__law_sets : He.DefD := ⟨("_law_sets", none), "_law_sets", "_law_sets", L2.defArgs (top 45), L2.defBody (top 45), L2.defScope (top 45), [], []⟩
def t__law_drift : He.DefD := ⟨("_law_drift", none), "_law_drift", "_law_drift", L2.defArgs (top 46), L2.defBody (top 46), L2.defScope (top 46), [], []⟩
def t__law_shown : He.DefD := ⟨("_law_shown", none), "_law_shown", "_law_shown", L2.defArgs (top 47), L2.defBody (top 47), L2.defScope (top 47), [], []⟩
def t_law : He.DefD := ⟨("law", none), "law", "law", L2.defArgs (top 48), L2.defBody (top 48), L2.defScope (top 48), [], []⟩
def fn : List He.DefD := [t_is_whole, t_shared, t_lowest, t_is_part, t_need_part, t_plus, t_product, t_below, t_is_gain, t_is_moment, t_is_set, t_is_clock, t_need_clock, t_need_moment, t_own_error, t_jumps_till, t_drift_by, t_drift, t_shown_by, t_shown_at, t__law_cell_at, t__law_next, t__law_pen_of, t__law_draw, t__law_made, t__law_sum, t__law_rest, t__law_prod, t__law_under, t__law_some, t__law_up, t__law_gain, t__law_sets, t__law_drift, t__law_shown, t_law]
/-! ### the same in the small language -/
/-! ### they say the same -/
/-! ### the head -/
def nm0 : List PySem.Str := ["ClockError", "NoPart", "NoMoment", "NoClock", "NOUGHT", "is_whole", "shared", "lowest", "is_part", "need_part", "plus", "product", "below", "MOST_GAIN", "LEAST_GAIN", "HOURS", "MOST_SETS", "is_gain", "is_moment", "is_set", "is_clock", "need_clock", "need_moment", "own_error", "jumps_till", "drift_by", "drift", "shown_by", "shown_at", "_law_cell_at"]
def nm1 : List PySem.Str := ["_law_next", "_law_pen_of", "_law_draw", "_law_made", "_law_sum", "_law_rest", "_law_prod", "_law_under", "_law_some", "_law_up", "_law_gain", "_law_sets", "_law_drift", "_law_shown"]
def names : List PySem.Str := nm0 ++ nm1
abbrev hk : PySem.W.Hook := hookP 4 pg fn
def ob (s : PySem.W.SharedT) : Bool × List He.FnW := seeP 4 pg fn (HandSHeadRun.getT s)
theorem run (w : World) : HandSHeadRun.RunEq R (PySem.W.view R.prog [48]) hk ob 60000 names w := by
  intro os
  kernel_rfl
end Law
set_option Elab.async false
set_option linter.all false
set_option maxRecDepth 100000
set_option maxHeartbeats 0
set_option Elab.async false
set_option linter.all false
set_option maxRecDepth 100000
set_option maxHeartbeats 0
open PySem PySem.W PySem.Calls PyProof.Rows
set_option Elab.async false
set_option linter.all false
set_option maxRecDepth 100000
set_option maxHeartbeats 0
set_option Elab.async false
set_option linter.all false
set_option maxRecDepth 100000
set_option maxHeartbeats 0
open PySem PySem.W PySem.Calls PyProof.Rows
end
set_option Elab.async false
set_option linter.all false
set_option maxRecDepth 100000
set_option maxHeartbeats 0
namespace Law
open PySem PySem.W PySem.Calls PyProof.Rows
end Law
set_option Elab.async false
set_option linter.all false
set_option maxRecDepth 100000
set_option maxHeartbeats 4000000
namespace G43
open PySem
/-! ### values without addresses -/
structure XV where
  cls : Nat
  flds : List (Str × PV)
abbrev QV := RV → Hs → Prop
abbrev QX := XV → Hs → Prop
abbrev CallT := Nat → List RV → Hs → QV → QX → Prop
/-! ### the small language -/
/-! ### equality, reading -/
mutual
def peq : PV → PV → Bool
  | .non, .non => true
  | .bl a, .bl b => a == b
  | .bl a, .int j => (if a then 1 else 0) == j
  | .int i, .bl b => i == (if b then 1 else 0)
  | .int i, .int j => i == j
  | .str x, .str y => x == y
  | .lst xs, .lst ys => peqL xs ys
  | .tup xs, .tup ys => peqL xs ys
  | _, _ => false
def peqL : List PV → List PV → Bool
  | [], [] => true
  | x :: xs, y :: ys => peq x y && peqL xs ys
  | [], _ :: _ => false
  | _ :: _, [] => false
end
/-- plain data, at most n deep -/
def Dt : Nat → PV → Prop
  | _, .non => True
  | _, .bl _ => True
  | _, .int _ => True
  | _, .str s => PyData.strOk s = true
  | n + 1, .tup l => ∀ x ∈ l, Dt n x
  | n + 1, .lst l => ∀ x ∈ l, Dt n x
  | _, _ => False
def tyOf : PV → String
  | .non => "NoneType"
  | .bl _ => "bool"
  | .int _ => "int"
  | .str _ => "str"
  | .tup _ => "tuple"
  | .lst _ => "list"
  | .fn _ => "function"
  | .obj _ => "object"
  | .scr _ => "list"
def isB : PV → Ty → Option Bool
  | .fn _, _ => none
  | .obj _, _ => none
  | .scr _, _ => none
  | p, .int => some (tyOf p == "int" || tyOf p == "bool")
  | p, .bool => some (tyOf p == "bool")
  | p, .tuple => some (tyOf p == "tuple")
  | p, .str => some (tyOf p == "str")
  | p, .list => some (tyOf p == "list")
def atI {α : Type} (xs : List α) (i : Int) : Option α := L2.atI xs i
mutual
def dat : PV → PyData
  | .non => .none
  | .bl b => .bool b
  | .int i => .int i
  | .str x => .str x
  | .tup l => .tuple (datL l)
  | .lst l => .list (datL l)
  | .fn _ => .none
  | .obj _ => .none
  | .scr _ => .none
def datL : List PV → List PyData
  | [] => []
  | x :: r => dat x :: datL r
end
def flat : PV → Bool
  | .non => true
  | .bl _ => true
  | .int _ => true
  | .str _ => true
  | _ => false
/-! ### operations -/
def wpBin : Operator → PV → PV → (PV → Prop) → Prop
  | .Add, .int i, .int j, Q => Q (.int (i + j))
  | .Add, .str a, .str b, Q => a.length + b.length ≤ sizeLine ∧ Q (.str (a ++ b))
  | .Add, .lst a, .lst b, Q => a.length + b.length ≤ sizeLine ∧ Q (.lst (a ++ b))
  | .Add, .tup a, .tup b, Q => a.length + b.length ≤ sizeLine ∧ Q (.tup (a ++ b))
  | .Sub, .int i, .int j, Q => Q (.int (i - j))
  | .Mult, .int i, .int j, Q => L2.CMulW i j ∧ Q (.int (i * j))
  | .FloorDiv, .int i, .int j, Q => L2.CDivW i j ∧ Q (.int (i / j))
  | .Mod, .int i, .int j, Q => 0 < j ∧ Q (.int (i % j))
  | .Pow, .int i, .int j, Q => L2.CPow i j ∧ Q (.int (i ^ j.toNat))
  | _, _, _, _ => False
def inL (x : PV) : List PV → Bool
  | [] => false
  | y :: r => peq y x || inL x r
def isNon : PV → Bool
  | .non => true
  | _ => false
def wpCmp : CmpOp → PV → PV → (Bool → Prop) → Prop
  | .Eq, .str a, .str b, Q => Q (a == b)
  | .NotEq, .str a, .str b, Q => Q (!(a == b))
  | .Eq, a, b, Q => Dt 60 a ∧ Dt 60 b ∧ Q (peq a b)
  | .NotEq, a, b, Q => Dt 60 a ∧ Dt 60 b ∧ Q (!peq a b)
  | .Lt, .int i, .int j, Q => Q (decide (i < j))
  | .LtE, .int i, .int j, Q => Q (decide (i ≤ j))
  | .Gt, .int i, .int j, Q => Q (decide (j < i))
  | .GtE, .int i, .int j, Q => Q (decide (j ≤ i))
  | .Is, a, .non, Q => Q (isNon a)
  | .IsNot, a, .non, Q => Q (!isNon a)
  | .In, a, .lst l, Q => Dt 60 a ∧ Dt 60 (.lst l) ∧ Q (inL a l)
  | .NotIn, a, .lst l, Q => Dt 60 a ∧ Dt 60 (.lst l) ∧ Q (!inL a l)
  | .In, a, .tup l, Q => flat a = true ∧ l.all flat = true ∧ Q (inL a l)
  | .NotIn, a, .tup l, Q => flat a = true ∧ l.all flat = true ∧ Q (!inL a l)
  | _, _, _, _ => False
def bools : List PV → Option (List Bool)
  | [] => some []
  | .bl b :: r => (bools r).map (b :: ·)
  | _ => none
def wpBi : BI → List PV → (PV → Prop) → Prop
  | .len, [.tup l], Q => Q (.int l.length)
  | .len, [.lst l], Q => Q (.int l.length)
  | .len, [.scr l], Q => Q (.int l.length)
  | .abs, [.int i], Q => Q (.int (if i < 0 then -i else i))
  | .max, [.int i, .int j], Q => Q (.int (if j > i then j else i))
  | .int, [.int i], Q => Q (.int i)
  | .int, [.bl b], Q => Q (.int (if b then 1 else 0))
  | .tuple, [.lst l], Q => Q (.tup l)
  | .tuple, [.tup l], Q => Q (.tup l)
  | .list, [.lst l], Q => Q (.lst l)
  | .list, [.tup l], Q => Q (.lst l)
  | .repr, [p], Q => Dt 60 p ∧ (dat p).showable = true ∧ (dat p).shown.length ≤ sizeLine ∧ Q (.str (dat p).shown)
  | .str, [.int i], Q => i.natAbs.log2 < 1920 ∧ Q (.str (toString i))
  | .all, [.lst l], Q => ∃ bs, bools l = some bs ∧ Q (.bl (bs.all id))
  | .any, [.lst l], Q => ∃ bs, bools l = some bs ∧ Q (.bl (bs.any id))
  | _, _, _ => False
/-- a part of a list: as the layer's cutV -/
def cut (xs : List PV) (lo hi : Option Int) : List PV := (xs.drop (HT.sIx xs.length 0 lo)).take (HT.sIx xs.length xs.length hi - HT.sIx xs.length 0 lo)
def wpSl : PV → Option Int → Option Int → (PV → Prop) → Prop
  | .lst l, lo, hi, Q => Q (.lst (cut l lo hi))
  | .tup l, lo, hi, Q => Q (.tup (cut l lo hi))
  | .scr l, lo, hi, Q => Q (.lst (cut l lo hi))
  | _, _, _, _ => False
def wpIx : PV → PV → (PV → Prop) → Prop
  | .lst l, .int i, Q => ∃ v, atI l i = some v ∧ Q v
  | .tup l, .int i, Q => ∃ v, atI l i = some v ∧ Q v
  | .scr l, .int i, Q => ∃ v, atI l i = some v ∧ Q v
  | _, _, _ => False
/-! ### targets, loops -/
mutual
def bindT : Tg → PV → Env → (Env → Prop) → Prop
  | .nm i, x, ρ, k => k (ρ.set i (some (.pv x)))
  | .nil, x, ρ, k => x = .tup [] ∧ k ρ
  | .cons a r, x, ρ, k => ∃ y ys, x = .tup (y :: ys) ∧ bindT a y ρ fun ρ' => bindL r ys ρ' k
def bindL : Tg → List PV → Env → (Env → Prop) → Prop
  | .nm _, _, _, _ => False
  | .nil, l, ρ, k => l = [] ∧ k ρ
  | .cons a r, l, ρ, k => ∃ x xs, l = x :: xs ∧ bindT a x ρ fun ρ' => bindL r xs ρ' k
end
def kill (ρ : Env) : List Nat → Env
  | [] => ρ
  | v :: vs => (kill ρ vs).set v none
def setAll (ρ : Env) : List Nat → List RV → Env
  | i :: is, v :: vs => setAll (ρ.set i (some v)) is vs
  | _, _ => ρ
def loopT (gd : Hs → Prop) (step : PV → Env → Hs → (Env → Hs → Prop) → Prop) : List PV → Env → Hs → (Env → Hs → Prop) → Prop
  | [], ρ, h, nx => gd h ∧ nx ρ h
  | x :: r, ρ, h, nx => gd h ∧ step x ρ h fun ρ' h' => loopT gd step r ρ' h' nx
def compT (gd : Hs → Prop) (step : PV → Hs → (List PV → Hs → Prop) → Prop) : List PV → Hs → (List PV → Hs → Prop) → Prop
  | [], h, Q => gd h ∧ Q [] h
  | x :: r, h, Q => gd h ∧ step x h fun y h' => compT gd step r h' fun l h'' => Q (y ++ l) h''
example (a r : Tg) (x : PV) (ρ : Env) (k : Env → Prop) : bindT (.cons a r) x ρ k = ∃ y ys, x = .tup (y :: ys) ∧ bindT a y ρ fun ρ' => bindL r ys ρ' k := rfl
def rngL (lo : Int) (n : Nat) : List PV := (List.range n).map fun (i : Nat) => PV.int (lo + i)
def enmL (l : List PV) : List PV := l.zipIdx.map fun p => PV.tup [.int p.2, p.1]
def zipL (a b : List PV) : List PV := (a.zip b).map fun p => PV.tup [p.1, p.2]
/-! ### expressions -/
section
variable (P : Pg) (C : CallT)
mutual
def wpE : E → Env → Hs → QV → QX → Prop
  | .var i, ρ, h, Q, _ => ∃ v, ρ[i]? = some (some v) ∧ Q v h
  | .cst p, _, h, Q, _ => Q (.pv p) h
  | .glo g, _, h, Q, _ => ∃ x p, P.cons[g]? = some (x, p) ∧ Q (.pv p) h
  | .bin op a b, ρ, h, Q, X => wpE a ρ h (fun x h1 => wpE b ρ h1 (fun y h2 => ∃ p q, val h2 x = some p ∧ val h2 y = some q ∧ wpBin op p q fun r => Q (.pv r) h2) X) X
  | .neg a, ρ, h, Q, X => wpE a ρ h (fun x h1 => ∃ i, x = .pv (.int i) ∧ Q (.pv (.int (-i))) h1) X
  | .nt a, ρ, h, Q, X => wpE a ρ h (fun x h1 => ∃ c, x = .pv (.bl c) ∧ Q (.pv (.bl (!c))) h1) X
  | .and a b, ρ, h, Q, X => wpE a ρ h (fun x h1 => ∃ c, x = .pv (.bl c) ∧ if c = true then wpE b ρ h1 Q X else Q (.pv (.bl false)) h1) X
  | .or a b, ρ, h, Q, X => wpE a ρ h (fun x h1 => ∃ c, x = .pv (.bl c) ∧ if c = true then Q (.pv (.bl true)) h1 else wpE b ρ h1 Q X) X
  | .cmp op a b, ρ, h, Q, X => wpE a ρ h (fun x h1 => wpE b ρ h1 (fun y h2 => ∃ p q, val h2 x = some p ∧ val h2 y = some q ∧ wpCmp op p q fun r => Q (.pv (.bl r)) h2) X) X
  | .call f es dv, ρ, h, Q, X => wpL es ρ h (fun vs h1 => C f (vs ++ dv.map .pv) h1 Q X) X
  | .bi b es, ρ, h, Q, X => wpL es ρ h (fun vs h1 => ∃ ps, vs.mapM (val h1) = some ps ∧ wpBi b ps fun r => Q (.pv r) h1) X
  | .isi a t, ρ, h, Q, X => wpE a ρ h (fun x h1 => ∃ p b, val h1 x = some p ∧ isB p t = some b ∧ Q (.pv (.bl b)) h1) X
  | .idx a i, ρ, h, Q, X => wpE a ρ h (fun x h1 => wpE i ρ h1 (fun y h2 => ∃ p q, val h2 x = some p ∧ y = .pv q ∧ wpIx p q fun r => Q (.pv r) h2) X) X
  | .slo a lo, ρ, h, Q, X => wpE a ρ h (fun x h1 => wpE lo ρ h1 (fun y h2 => ∃ p i, val h2 x = some p ∧ y = .pv (.int i) ∧ wpSl p (some i) none fun r => Q (.pv r) h2) X) X
  | .shi a hi, ρ, h, Q, X => wpE a ρ h (fun x h1 => wpE hi ρ h1 (fun y h2 => ∃ p i, val h2 x = some p ∧ y = .pv (.int i) ∧ wpSl p none (some i) fun r => Q (.pv r) h2) X) X
  | .slh a lo hi, ρ, h, Q, X => wpE a ρ h (fun x h1 => wpE lo ρ h1 (fun y h2 => ∃ i, y = .pv (.int i) ∧ wpE hi ρ h2 (fun z h3 => ∃ p j, val h3 x = some p ∧ z = .pv (.int j) ∧ wpSl p (some i) (some j) fun r => Q (.pv r) h3) X) X) X
  | .tup es, ρ, h, Q, X => wpL es ρ h (fun vs h1 => ∃ ps, vs = ps.map RV.pv ∧ Q (.pv (.tup ps)) h1) X
  | .lst es, ρ, h, Q, X => wpL es ρ h (fun vs h1 => ∃ ps, vs = ps.map RV.pv ∧ Q (.pv (.lst ps)) h1) X
  | .mls es, ρ, h, Q, X => wpL es ρ h (fun vs h1 => ∃ ps, vs = ps.map RV.pv ∧ Q (.ref h1.length) (h1 ++ [some ps])) X
  | .mad a b, ρ, h, Q, X => wpE a ρ h (fun x h1 => wpE b ρ h1 (fun y h2 => ∃ p q, val h2 x = some (.lst p) ∧ val h2 y = some (.lst q) ∧ p.length + q.length ≤ sizeLine ∧ Q (.ref h2.length) (h2 ++ [some (p ++ q)])) X) X
  | .comp elt tg it ifs, ρ, h, Q, X => wpI it ρ h (fun l gd h1 => l.length ≤ sizeLine ∧
      compT gd (fun x h2 k => bindT tg x (kill ρ tg.slots) fun ρ1 => wpTs ifs ρ1 h2 (fun b h3 => if b = true then wpE elt ρ1 h3 (fun y h4 => ∃ p, y = .pv p ∧ k [p] h4) (fun _ _ => False) else k [] h3) (fun _ _ => False)) l h1 fun r h2 => Q (.pv (.lst r)) h2) X
def wpL : EL → Env → Hs → (List RV → Hs → Prop) → QX → Prop
  | .nil, _, h, Q, _ => Q [] h
  | .cons e r, ρ, h, Q, X => wpE e ρ h (fun v h1 => wpL r ρ h1 (fun vs h2 => Q (v :: vs) h2) X) X
def wpI : It → Env → Hs → (List PV → (Hs → Prop) → Hs → Prop) → QX → Prop
  | .seq e, ρ, h, Q, X => wpE e ρ h (fun x h1 => match x with
      | .pv (.lst l) => Q l (fun _ => True) h1
      | .pv (.tup l) => Q l (fun _ => True) h1
      | .pv (.scr l) => Q l (fun _ => True) h1
      | .ref i => ∃ c, h1[i]? = some (some c) ∧ Q c (fun h => h[i]? = some (some c)) h1
      | _ => False) X
  | .rng1 e, ρ, h, Q, X => wpE e ρ h (fun x h1 => ∃ j, x = .pv (.int j) ∧ -(2 ^ 62) ≤ j ∧ j < 2 ^ 62 ∧ Q (rngL 0 j.toNat) (fun _ => True) h1) X
  | .zip a b, ρ, h, Q, X => wpE a ρ h (fun x h1 => wpE b ρ h1 (fun y h2 => match x, y with
      | .pv (.lst l), .pv (.lst r) => Q (zipL l r) (fun _ => True) h2
      | .pv (.tup l), .pv (.tup r) => Q (zipL l r) (fun _ => True) h2
      | _, _ => False) X) X
def wpTs : EL → Env → Hs → (Bool → Hs → Prop) → QX → Prop
  | .nil, _, h, Q, _ => Q true h
  | .cons e _, ρ, h, Q, X => wpE e ρ h (fun x h1 => ∃ c, x = .pv (.bl c) ∧ Q c h1) X
end
def wpB (e : E) (ρ : Env) (h : Hs) (Q : Bool → Hs → Prop) (X : QX) : Prop := wpE P C e ρ h (fun x h1 => ∃ c, x = .pv (.bl c) ∧ Q c h1) X
/-! ### statements -/
mutual
def wpS : S → Env → Hs → (Env → Hs → Prop) → QV → QX → Prop
  | .set i e, ρ, h, nx, _, X => wpE P C e ρ h (fun v h1 => nx (ρ.set i (some v)) h1) X
  | .par is es, ρ, h, nx, _, X => wpL P C es ρ h (fun vs h1 => vs.length = is.length ∧ nx (setAll ρ is vs) h1) X
  | .sub o i v, ρ, h, nx, _, X => wpE P C v ρ h (fun y h1 => wpE P C o ρ h1 (fun x h2 => wpE P C i ρ h2 (fun z h3 => ∃ k c n j q, x = .ref k ∧ h3[k]? = some (some c) ∧ z = .pv (.int n) ∧ L2.ixN c.length n = some j ∧ y = .pv q ∧ nx ρ (h3.set k (some (c.set j q)))) X) X) X
  | .app o v, ρ, h, nx, _, X => wpE P C o ρ h (fun x h1 => ∃ k c0, x = .ref k ∧ h1[k]? = some (some c0) ∧ wpE P C v ρ h1 (fun y h2 => ∃ c q, h2[k]? = some (some c) ∧ y = .pv q ∧ c.length < sizeLine ∧ nx ρ (h2.set k (some (c ++ [q])))) X) X
  | .exp e, ρ, h, nx, _, X => wpE P C e ρ h (fun _ h1 => nx ρ h1) X
  | .iff t a b, ρ, h, nx, rt, X => wpB P C t ρ h (fun c h1 => if c = true then wpSL a ρ h1 nx rt X else wpSL b ρ h1 nx rt X) X
  | .for kl tg it body, ρ, h, nx, rt, X => wpI P C it ρ h (fun l gd h1 => loopT gd (fun x ρ1 h2 k => bindT tg x ρ1 fun ρ2 => wpSL body ρ2 h2 (fun ρ3 h3 => k (kill ρ3 kl) h3) rt X) l (kill ρ kl) h1 nx) X
  | .whl kl t body, ρ, h, nx, rt, X => ∃ W : Nat → Env → Hs → Prop, (∃ m, W m (kill ρ kl) h) ∧ ∀ m ρ1 h1, W m ρ1 h1 → wpB P C t ρ1 h1 (fun c h2 => if c = true then
      wpSL body ρ1 h2 (fun ρ3 h3 => ∃ m', m' < m ∧ W m' (kill ρ3 kl) h3) rt X else nx ρ1 h2) X
  | .ret e, ρ, h, _, rt, X => wpE P C e ρ h rt X
  | .retN, _, h, _, rt, _ => rt (.pv .non) h
  | .rse, _, _, _, _, _ => False
  | .pass, ρ, h, nx, _, _ => nx ρ h
def wpSL : SL → Env → Hs → (Env → Hs → Prop) → QV → QX → Prop
  | .nil, ρ, h, nx, _, _ => nx ρ h
  | .cons s r, ρ, h, nx, rt, X => wpS s ρ h (fun ρ1 h1 => wpSL r ρ1 h1 nx rt X) rt X
end
end
/-! ### calls: a def's body, so many levels deep -/
/-- what is left of the cells behind a call -/
def fin (n : Nat) (Q : QV) : QV := fun v h' => match v with
  | .pv p => Q (.pv p) (h'.take n)
  | .ref i => if i < n then Q (.ref i) (h'.take n) else ∃ c, h'[i]? = some (some c) ∧ Q (.ref n) (h'.take n ++ [some c])
def wpC (P : Pg) : Nat → CallT
  | 0, _, _, _, _, _ => False
  | d + 1, f, vs, h, Q, X => ∃ df, P.defs[f]? = some df ∧ vs.length = df.npar ∧
      wpSL P (wpC P d) df.body (vs.map some ++ List.replicate (df.N.length - vs.length) none) h (fun _ h' => fin h.length Q (.pv .non) h') (fin h.length Q) (fun x h' => X x (h'.take h.length))
example (P : Pg) (C : CallT) (ρ h Q X) (a b : E) : wpE P C (.nt a) ρ h Q X = wpE P C a ρ h (fun x h1 => ∃ c, x = .pv (.bl c) ∧ Q (.pv (.bl (!c))) h1) X := rfl
example (P : Pg) (C : CallT) (ρ h nx rt X) (e : E) : wpSL P C (.cons (.ret e) .nil) ρ h nx rt X = wpE P C e ρ h rt X := rfl
end G43
set_option Elab.async false
set_option linter.all false
set_option maxRecDepth 100000
set_option maxHeartbeats 4000000
namespace G43
open PySem
/-! ### weaker ends -/
theorem wpBin_mono {op : Operator} {p q : PV} {Q Q' : PV → Prop} (hQ : ∀ r, Q r → Q' r) (h : wpBin op p q Q) : wpBin op p q Q' := by
  unfold wpBin at h ⊢
  split at h <;> first
    | exact hQ _ h
    | exact ⟨h.1, hQ _ h.2⟩
    | exact h.elim
theorem wpCmp_mono {op : CmpOp} {p q : PV} {Q Q' : Bool → Prop} (hQ : ∀ r, Q r → Q' r) (h : wpCmp op p q Q) : wpCmp op p q Q' := by
  unfold wpCmp at h ⊢
  split at h <;> first
    | exact hQ _ h
    | exact ⟨h.1, h.2.1, hQ _ h.2.2⟩
    | exact h.elim
theorem wpBi_mono {b : BI} {ps : List PV} {Q Q' : PV → Prop} (hQ : ∀ r, Q r → Q' r) (h : wpBi b ps Q) : wpBi b ps Q' := by
  unfold wpBi at h ⊢
  split at h <;> first
    | exact hQ _ h
    | (obtain ⟨bs, e, q⟩ := h; exact ⟨bs, e, hQ _ q⟩)
    | exact ⟨h.1, h.2.1, h.2.2.1, hQ _ h.2.2.2⟩
    | exact ⟨h.1, hQ _ h.2⟩
    | exact h.elim
theorem wpSl_mono {p : PV} {lo hi : Option Int} {Q Q' : PV → Prop} (hQ : ∀ r, Q r → Q' r) (h : wpSl p lo hi Q) : wpSl p lo hi Q' := by
  unfold wpSl at h ⊢
  split at h <;> first
    | exact hQ _ h
    | exact h.elim
theorem wpIx_mono {p q : PV} {Q Q' : PV → Prop} (hQ : ∀ r, Q r → Q' r) (h : wpIx p q Q) : wpIx p q Q' := by
  unfold wpIx at h ⊢
  split at h <;> first
    | (obtain ⟨v, e, z⟩ := h; exact ⟨v, e, hQ _ z⟩)
    | exact h.elim
mutual
theorem bindT_mono : ∀ (t : Tg) {x : PV} {ρ : Env} {k k' : Env → Prop}, (∀ r, k r → k' r) → bindT t x ρ k → bindT t x ρ k'
  | .nm i, x, ρ, k, k', hk, h => by unfold bindT at h ⊢; exact hk _ h
  | .nil, x, ρ, k, k', hk, h => by unfold bindT at h ⊢; exact ⟨h.1, hk _ h.2⟩
  | .cons a r, x, ρ, k, k', hk, h => by
    unfold bindT at h ⊢
    obtain ⟨x, xs, e, z⟩ := h
    exact ⟨x, xs, e, bindT_mono a (fun ρ' q => bindL_mono r hk q) z⟩
theorem bindL_mono : ∀ (t : Tg) {l : List PV} {ρ : Env} {k k' : Env → Prop}, (∀ r, k r → k' r) → bindL t l ρ k → bindL t l ρ k'
  | .nm i, l, ρ, k, k', hk, h => by unfold bindL at h; exact h.elim
  | .nil, l, ρ, k, k', hk, h => by unfold bindL at h ⊢; exact ⟨h.1, hk _ h.2⟩
  | .cons a r, l, ρ, k, k', hk, h => by
    unfold bindL at h ⊢
    obtain ⟨x, xs, e, z⟩ := h
    exact ⟨x, xs, e, bindT_mono a (fun ρ' q => bindL_mono r hk q) z⟩
end
mutual
theorem bindT_some : ∀ (t : Tg) {x : PV} {ρ : Env} {k : Env → Prop}, bindT t x ρ k → ∃ ρ', k ρ'
  | .nm i, x, ρ, k, h => by unfold bindT at h; exact ⟨_, h⟩
  | .nil, x, ρ, k, h => by unfold bindT at h; exact ⟨_, h.2⟩
  | .cons a r, x, ρ, k, h => by
    unfold bindT at h
    obtain ⟨x, xs, e, z⟩ := h
    obtain ⟨ρ', z⟩ := bindT_some a z
    exact bindL_some r z
theorem bindL_some : ∀ (t : Tg) {l : List PV} {ρ : Env} {k : Env → Prop}, bindL t l ρ k → ∃ ρ', k ρ'
  | .nm i, l, ρ, k, h => by unfold bindL at h; exact h.elim
  | .nil, l, ρ, k, h => by unfold bindL at h; exact ⟨_, h.2⟩
  | .cons a r, l, ρ, k, h => by
    unfold bindL at h
    obtain ⟨x, xs, e, z⟩ := h
    obtain ⟨ρ', z⟩ := bindT_some a z
    exact bindL_some r z
end
theorem loopT_mono {gd : Hs → Prop} {st st' : PV → Env → Hs → (Env → Hs → Prop) → Prop} (hs : ∀ x ρ h k k', (∀ ρ h, k ρ h → k' ρ h) → st x ρ h k → st' x ρ h k') :
    ∀ (l : List PV) {ρ : Env} {h : Hs} {nx nx' : Env → Hs → Prop}, (∀ ρ h, nx ρ h → nx' ρ h) → loopT gd st l ρ h nx → loopT gd st' l ρ h nx'
  | [], _, _, _, _, hn, z => ⟨z.1, hn _ _ z.2⟩
  | x :: r, _, _, _, _, hn, z => ⟨z.1, hs x _ _ _ _ (fun _ _ q => loopT_mono hs r hn q) z.2⟩
theorem compT_mono {gd : Hs → Prop} {st st' : PV → Hs → (List PV → Hs → Prop) → Prop} (hs : ∀ x h k k', (∀ l h, k l h → k' l h) → st x h k → st' x h k') :
    ∀ (l : List PV) {h : Hs} {Q Q' : List PV → Hs → Prop}, (∀ l h, Q l h → Q' l h) → compT gd st l h Q → compT gd st' l h Q'
  | [], _, _, _, hn, z => ⟨z.1, hn _ _ z.2⟩
  | x :: r, _, _, _, hn, z => ⟨z.1, hs x _ _ _ (fun y _ q => compT_mono hs r (fun l h q => hn _ _ q) q) z.2⟩
def MonoC (C C' : CallT) : Prop := ∀ f vs h Q Q' X X', (∀ v h, Q v h → Q' v h) → (∀ x h, X x h → X' x h) → C f vs h Q X → C' f vs h Q' X'
section
variable {P : Pg} {C C' : CallT} (hC : MonoC C C')
include hC
mutual
theorem wpE_mono : ∀ (e : E) {ρ : Env} {h : Hs} {Q Q' : QV} {X X' : QX}, (∀ v h, Q v h → Q' v h) → (∀ x h, X x h → X' x h) → wpE P C e ρ h Q X → wpE P C' e ρ h Q' X'
  | .var i, ρ, h, Q, Q', X, X', hQ, hX, z => by
    unfold wpE at z ⊢
    obtain ⟨v, e, q⟩ := z
    exact ⟨v, e, hQ _ _ q⟩
  | .cst p, ρ, h, Q, Q', X, X', hQ, hX, z => by unfold wpE at z ⊢; exact hQ _ _ z
  | .glo g, ρ, h, Q, Q', X, X', hQ, hX, z => by
    unfold wpE at z ⊢
    obtain ⟨x, p, e, q⟩ := z
    exact ⟨x, p, e, hQ _ _ q⟩
  | .bin op a b, ρ, h, Q, Q', X, X', hQ, hX, z => by
    unfold wpE at z ⊢
    refine wpE_mono a (fun x h1 q => wpE_mono b (fun y h2 q => ?_) hX q) hX z
    obtain ⟨p, r, e1, e2, q⟩ := q
    exact ⟨p, r, e1, e2, wpBin_mono (fun _ => hQ _ _) q⟩
  | .neg a, ρ, h, Q, Q', X, X', hQ, hX, z => by
    unfold wpE at z ⊢
    refine wpE_mono a (fun x h1 q => ?_) hX z
    obtain ⟨i, e, q⟩ := q
    exact ⟨i, e, hQ _ _ q⟩
  | .nt a, ρ, h, Q, Q', X, X', hQ, hX, z => by
    unfold wpE at z ⊢
    refine wpE_mono a (fun x h1 q => ?_) hX z
    obtain ⟨i, e, q⟩ := q
    exact ⟨i, e, hQ _ _ q⟩
  | .and a b, ρ, h, Q, Q', X, X', hQ, hX, z => by
    unfold wpE at z ⊢
    refine wpE_mono a (fun x h1 q => ?_) hX z
    obtain ⟨c, e, q⟩ := q
    refine ⟨c, e, ?_⟩
    cases c with
    | true => rw [if_pos rfl] at q ⊢; exact wpE_mono b hQ hX q
    | false => rw [if_neg Bool.false_ne_true] at q ⊢; exact hQ _ _ q
  | .or a b, ρ, h, Q, Q', X, X', hQ, hX, z => by
    unfold wpE at z ⊢
    refine wpE_mono a (fun x h1 q => ?_) hX z
    obtain ⟨c, e, q⟩ := q
    refine ⟨c, e, ?_⟩
    cases c with
    | true => rw [if_pos rfl] at q ⊢; exact hQ _ _ q
    | false => rw [if_neg Bool.false_ne_true] at q ⊢; exact wpE_mono b hQ hX q
  | .cmp op a b, ρ, h, Q, Q', X, X', hQ, hX, z => by
    unfold wpE at z ⊢
    refine wpE_mono a (fun x h1 q => wpE_mono b (fun y h2 q => ?_) hX q) hX z
    obtain ⟨p, r, e1, e2, q⟩ := q
    exact ⟨p, r, e1, e2, wpCmp_mono (fun _ => hQ _ _) q⟩
  | .call f es dv, ρ, h, Q, Q', X, X', hQ, hX, z => by
    unfold wpE at z ⊢
    exact wpL_mono es (fun vs h1 q => hC _ _ _ _ _ _ _ hQ hX q) hX z
  | .bi b es, ρ, h, Q, Q', X, X', hQ, hX, z => by
    unfold wpE at z ⊢
    refine wpL_mono es (fun vs h1 q => ?_) hX z
    obtain ⟨ps, e, q⟩ := q
    exact ⟨ps, e, wpBi_mono (fun _ => hQ _ _) q⟩
  | .isi a t, ρ, h, Q, Q', X, X', hQ, hX, z => by
    unfold wpE at z ⊢
    refine wpE_mono a (fun x h1 q => ?_) hX z
    obtain ⟨p, b, e1, e2, q⟩ := q
    exact ⟨p, b, e1, e2, hQ _ _ q⟩
  | .idx a i, ρ, h, Q, Q', X, X', hQ, hX, z => by
    unfold wpE at z ⊢
    refine wpE_mono a (fun x h1 q => wpE_mono i (fun y h2 q => ?_) hX q) hX z
    obtain ⟨p, r, e1, e2, q⟩ := q
    exact ⟨p, r, e1, e2, wpIx_mono (fun _ => hQ _ _) q⟩
  | .slo a lo, ρ, h, Q, Q', X, X', hQ, hX, z => by
    unfold wpE at z ⊢
    refine wpE_mono a (fun x h1 q => wpE_mono lo (fun y h2 q => ?_) hX q) hX z
    obtain ⟨p, r, e1, e2, q⟩ := q
    exact ⟨p, r, e1, e2, wpSl_mono (fun _ => hQ _ _) q⟩
  | .shi a hi, ρ, h, Q, Q', X, X', hQ, hX, z => by
    unfold wpE at z ⊢
    refine wpE_mono a (fun x h1 q => wpE_mono hi (fun y h2 q => ?_) hX q) hX z
    obtain ⟨p, r, e1, e2, q⟩ := q
    exact ⟨p, r, e1, e2, wpSl_mono (fun _ => hQ _ _) q⟩
  | .slh a lo hi, ρ, h, Q, Q', X, X', hQ, hX, z => by
    unfold wpE at z ⊢
    refine wpE_mono a (fun x h1 q => wpE_mono lo (fun y h2 q => ?_) hX q) hX z
    obtain ⟨i, e, q⟩ := q
    refine ⟨i, e, wpE_mono hi (fun w h3 q => ?_) hX q⟩
    obtain ⟨p, j, e1, e2, q⟩ := q
    exact ⟨p, j, e1, e2, wpSl_mono (fun _ => hQ _ _) q⟩
  | .tup es, ρ, h, Q, Q', X, X', hQ, hX, z => by
    unfold wpE at z ⊢
    refine wpL_mono es (fun vs h1 q => ?_) hX z
    obtain ⟨ps, e, q⟩ := q
    exact ⟨ps, e, hQ _ _ q⟩
  | .lst es, ρ, h, Q, Q', X, X', hQ, hX, z => by
    unfold wpE at z ⊢
    refine wpL_mono es (fun vs h1 q => ?_) hX z
    obtain ⟨ps, e, q⟩ := q
    exact ⟨ps, e, hQ _ _ q⟩
  | .mls es, ρ, h, Q, Q', X, X', hQ, hX, z => by
    unfold wpE at z ⊢
    refine wpL_mono es (fun vs h1 q => ?_) hX z
    obtain ⟨ps, e, q⟩ := q
    exact ⟨ps, e, hQ _ _ q⟩
  | .mad a b, ρ, h, Q, Q', X, X', hQ, hX, z => by
    unfold wpE at z ⊢
    refine wpE_mono a (fun x h1 q => wpE_mono b (fun y h2 q => ?_) hX q) hX z
    obtain ⟨p, r, e1, e2, e3, q⟩ := q
    exact ⟨p, r, e1, e2, e3, hQ _ _ q⟩
  | .comp elt tg it ifs, ρ, h, Q, Q', X, X', hQ, hX, z => by
    unfold wpE at z ⊢
    refine wpI_mono it (fun l gd h1 q => ⟨q.1, ?_⟩) hX z
    refine compT_mono (fun x h2 k k' hk q => bindT_mono tg (fun ρ1 q => wpTs_mono ifs (fun b h3 q => ?_) (fun _ _ z => z) q) q) l (fun r h q => hQ _ _ q) q.2
    cases b with
    | true =>
      rw [if_pos rfl] at q ⊢
      refine wpE_mono elt (fun y h4 q => ?_) (fun _ _ z => z) q
      obtain ⟨p, e, q⟩ := q
      exact ⟨p, e, hk _ _ q⟩
    | false => rw [if_neg Bool.false_ne_true] at q ⊢; exact hk _ _ q
theorem wpL_mono : ∀ (es : EL) {ρ : Env} {h : Hs} {Q Q' : List RV → Hs → Prop} {X X' : QX}, (∀ v h, Q v h → Q' v h) → (∀ x h, X x h → X' x h) → wpL P C es ρ h Q X → wpL P C' es ρ h Q' X'
  | .nil, ρ, h, Q, Q', X, X', hQ, hX, z => by unfold wpL at z ⊢; exact hQ _ _ z
  | .cons e r, ρ, h, Q, Q', X, X', hQ, hX, z => by
    unfold wpL at z ⊢
    exact wpE_mono e (fun v h1 q => wpL_mono r (fun vs h2 q => hQ _ _ q) hX q) hX z
theorem wpI_mono : ∀ (it : It) {ρ : Env} {h : Hs} {Q Q' : List PV → (Hs → Prop) → Hs → Prop} {X X' : QX}, (∀ l g h, Q l g h → Q' l g h) → (∀ x h, X x h → X' x h) → wpI P C it ρ h Q X → wpI P C' it ρ h Q' X'
  | .seq e, ρ, h, Q, Q', X, X', hQ, hX, z => by
    unfold wpI at z ⊢
    refine wpE_mono e (fun x h1 q => ?_) hX z
    split at q
    · exact hQ _ _ _ q
    · exact hQ _ _ _ q
    · exact hQ _ _ _ q
    · obtain ⟨c, e, q⟩ := q
      exact ⟨c, e, hQ _ _ _ q⟩
    · exact q.elim
  | .rng1 e, ρ, h, Q, Q', X, X', hQ, hX, z => by
    unfold wpI at z ⊢
    refine wpE_mono e (fun x h1 q => ?_) hX z
    obtain ⟨j, e1, e2, e3, q⟩ := q
    exact ⟨j, e1, e2, e3, hQ _ _ _ q⟩
  | .zip a b, ρ, h, Q, Q', X, X', hQ, hX, z => by
    unfold wpI at z ⊢
    refine wpE_mono a (fun x h1 q => wpE_mono b (fun y h2 q => ?_) hX q) hX z
    split at q
    · exact hQ _ _ _ q
    · exact hQ _ _ _ q
    · exact q.elim
theorem wpTs_mono : ∀ (es : EL) {ρ : Env} {h : Hs} {Q Q' : Bool → Hs → Prop} {X X' : QX}, (∀ v h, Q v h → Q' v h) → (∀ x h, X x h → X' x h) → wpTs P C es ρ h Q X → wpTs P C' es ρ h Q' X'
  | .nil, ρ, h, Q, Q', X, X', hQ, hX, z => by unfold wpTs at z ⊢; exact hQ _ _ z
  | .cons e r, ρ, h, Q, Q', X, X', hQ, hX, z => by
    unfold wpTs at z ⊢
    refine wpE_mono e (fun x h1 q => ?_) hX z
    obtain ⟨c, e, q⟩ := q
    exact ⟨c, e, hQ _ _ q⟩
end
theorem wpL_len (hCC : MonoC C' C') : ∀ (es : EL) {ρ : Env} {h : Hs} {Q : List RV → Hs → Prop} {X : QX}, wpL P C es ρ h Q X → wpL P C' es ρ h (fun vs h' => vs.length = es.len ∧ Q vs h') X
  | .nil, ρ, h, Q, X, z => by unfold wpL at z ⊢; exact ⟨rfl, z⟩
  | .cons e r, ρ, h, Q, X, z => by
    unfold wpL at z ⊢
    refine wpE_mono hC e (fun v h1 q => ?_) (fun _ _ z => z) z
    exact wpL_mono (C := C') (C' := C') (fun f vs h Q Q' X X' hQ hX z => hCC f vs h Q Q' X X' hQ hX z) r (fun vs h2 q => ⟨by show vs.length + 1 = r.len + 1; rw [q.1], q.2⟩) (fun _ _ z => z) (wpL_len hCC r q)
theorem wpB_mono (e : E) {ρ : Env} {h : Hs} {Q Q' : Bool → Hs → Prop} {X X' : QX} (hQ : ∀ v h, Q v h → Q' v h) (hX : ∀ x h, X x h → X' x h) (z : wpB P C e ρ h Q X) : wpB P C' e ρ h Q' X' :=
  wpE_mono hC e (fun x h1 ⟨c, e, q⟩ => ⟨c, e, hQ _ _ q⟩) hX z
mutual
theorem wpS_mono : ∀ (s : S) {ρ : Env} {h : Hs} {nx nx' : Env → Hs → Prop} {rt rt' : QV} {X X' : QX}, (∀ ρ h, nx ρ h → nx' ρ h) → (∀ v h, rt v h → rt' v h) → (∀ x h, X x h → X' x h) → wpS P C s ρ h nx rt X → wpS P C' s ρ h nx' rt' X'
  | .set i e, ρ, h, nx, nx', rt, rt', X, X', hn, hr, hX, z => by unfold wpS at z ⊢; exact wpE_mono hC e (fun v h1 q => hn _ _ q) hX z
  | .par is es, ρ, h, nx, nx', rt, rt', X, X', hn, hr, hX, z => by unfold wpS at z ⊢; exact wpL_mono hC es (fun v h1 q => ⟨q.1, hn _ _ q.2⟩) hX z
  | .sub o i v, ρ, h, nx, nx', rt, rt', X, X', hn, hr, hX, z => by
    unfold wpS at z ⊢
    refine wpE_mono hC v (fun y h1 q => wpE_mono hC o (fun x h2 q => wpE_mono hC i (fun w h3 q => ?_) hX q) hX q) hX z
    obtain ⟨k, c, n, j, q1, e1, e2, e3, e4, e5, q⟩ := q
    exact ⟨k, c, n, j, q1, e1, e2, e3, e4, e5, hn _ _ q⟩
  | .app o v, ρ, h, nx, nx', rt, rt', X, X', hn, hr, hX, z => by
    unfold wpS at z ⊢
    refine wpE_mono hC o (fun y h1 q => ?_) hX z
    obtain ⟨k, c0, e1, e2, q⟩ := q
    refine ⟨k, c0, e1, e2, wpE_mono hC v (fun x h2 q => ?_) hX q⟩
    obtain ⟨c, q1, e3, e4, e5, q⟩ := q
    exact ⟨c, q1, e3, e4, e5, hn _ _ q⟩
  | .exp e, ρ, h, nx, nx', rt, rt', X, X', hn, hr, hX, z => by unfold wpS at z ⊢; exact wpE_mono hC e (fun v h1 q => hn _ _ q) hX z
  | .iff t a b, ρ, h, nx, nx', rt, rt', X, X', hn, hr, hX, z => by
    unfold wpS at z ⊢
    refine wpB_mono hC t (fun c h1 q => ?_) hX z
    cases c with
    | true => rw [if_pos rfl] at q ⊢; exact wpSL_mono a hn hr hX q
    | false => rw [if_neg Bool.false_ne_true] at q ⊢; exact wpSL_mono b hn hr hX q
  | .for kl tg it body, ρ, h, nx, nx', rt, rt', X, X', hn, hr, hX, z => by
    unfold wpS at z ⊢
    refine wpI_mono hC it (fun l gd h1 q => ?_) hX z
    exact loopT_mono (fun x ρ1 h2 k k' hk q => bindT_mono tg (fun ρ2 q => wpSL_mono body (fun ρ3 h3 q => hk _ _ q) hr hX q) q) l hn q
  | .whl kl t body, ρ, h, nx, nx', rt, rt', X, X', hn, hr, hX, z => by
    unfold wpS at z ⊢
    obtain ⟨W, h0, hs⟩ := z
    refine ⟨W, h0, fun m ρ1 h1 w => wpB_mono hC t (fun c h2 q => ?_) hX (hs m ρ1 h1 w)⟩
    cases c with
    | true => rw [if_pos rfl] at q ⊢; exact wpSL_mono body (fun _ _ q => q) hr hX q
    | false => rw [if_neg Bool.false_ne_true] at q ⊢; exact hn _ _ q
  | .ret e, ρ, h, nx, nx', rt, rt', X, X', hn, hr, hX, z => by unfold wpS at z ⊢; exact wpE_mono hC e hr hX z
  | .retN, ρ, h, nx, nx', rt, rt', X, X', hn, hr, hX, z => by unfold wpS at z ⊢; exact hr _ _ z
  | .rse, ρ, h, nx, nx', rt, rt', X, X', hn, hr, hX, z => by unfold wpS at z; exact z.elim
  | .pass, ρ, h, nx, nx', rt, rt', X, X', hn, hr, hX, z => by unfold wpS at z ⊢; exact hn _ _ z
theorem wpSL_mono : ∀ (s : SL) {ρ : Env} {h : Hs} {nx nx' : Env → Hs → Prop} {rt rt' : QV} {X X' : QX}, (∀ ρ h, nx ρ h → nx' ρ h) → (∀ v h, rt v h → rt' v h) → (∀ x h, X x h → X' x h) → wpSL P C s ρ h nx rt X → wpSL P C' s ρ h nx' rt' X'
  | .nil, ρ, h, nx, nx', rt, rt', X, X', hn, hr, hX, z => by unfold wpSL at z ⊢; exact hn _ _ z
  | .cons s r, ρ, h, nx, nx', rt, rt', X, X', hn, hr, hX, z => by
    unfold wpSL at z ⊢
    exact wpS_mono s (fun ρ1 h1 q => wpSL_mono r hn hr hX q) hr hX z
end
end
theorem fin_mono {n : Nat} {Q Q' : QV} (hQ : ∀ v h, Q v h → Q' v h) : ∀ v h, fin n Q v h → fin n Q' v h := fun v h z => by
  unfold fin at z ⊢
  split at z
  · exact hQ _ _ z
  · split at z
    · rename_i hi; rw [if_pos hi]; exact hQ _ _ z
    · rename_i hi; rw [if_neg hi]; obtain ⟨c, e, q⟩ := z; exact ⟨c, e, hQ _ _ q⟩
theorem wpC_mono (P : Pg) : ∀ d d', d ≤ d' → MonoC (wpC P d) (wpC P d')
  | 0, _, _ => fun f vs h Q Q' X X' hQ hX z => by unfold wpC at z; exact z.elim
  | d + 1, 0, hd => by omega
  | d + 1, d' + 1, hd => fun f vs h Q Q' X X' hQ hX z => by
    unfold wpC at z ⊢
    obtain ⟨df, e1, e2, q⟩ := z
    exact ⟨df, e1, e2, wpSL_mono (wpC_mono P d d' (by omega)) df.body (fun _ _ q => fin_mono hQ _ _ q) (fin_mono hQ) (fun x h q => hX _ _ q) q⟩
end G43
set_option Elab.async false
set_option linter.all false
set_option maxRecDepth 100000
set_option maxHeartbeats 4000000
namespace G43
open PySem
open L2 (V HO Hp SqL SqT Rd upd upd_same upd_ne)
/-! ### where things lie -/
theorem Mv.trans {m1 m2 m3 : List Addr} {h1 h2 h3 : Hs} {H1 H2 H3 : Hp} (a : Mv m1 h1 H1 m2 h2 H2) (b : Mv m2 h2 H2 m3 h3 H3) : Mv m1 h1 H1 m3 h3 H3 := by
  refine ⟨?_, fun c o e t n => ?_⟩
  · obtain ⟨t1, rfl⟩ := a.pre
    obtain ⟨t2, rfl⟩ := b.pre
    exact ⟨t1 ++ t2, by rw [List.append_assoc]⟩
  · obtain ⟨e1, n1⟩ := a.keep c o e t n
    exact b.keep c o e1 t n1
section
variable {A : Ad} {B : Addr → Prop} {m m' : List Addr} {h h' : Hs} {H H' : Hp}
mutual
theorem Rp.weak {L L' : Addr → Prop} (w : ∀ a, L' a → L a) : ∀ {p : PV} {v : V}, Rp A L H p v → Rp A L' H p v
  | _, _, .non => .non
  | _, _, .bl b => .bl b
  | _, _, .int i => .int i
  | _, _, .str x => .str x
  | _, _, .fn f => .fn f
  | _, _, .tup q r => .tup q (RpL.weak w r)
  | _, _, .lst q n r => .lst q (fun y => n (w _ y)) (RpL.weak w r)
  | _, _, .scr q r => .scr q (RpL.weak w r)
theorem RpL.weak {L L' : Addr → Prop} (w : ∀ a, L' a → L a) : ∀ {l : List PV} {xs : List V}, RpL A L H l xs → RpL A L' H l xs
  | _, _, .nil => .nil
  | _, _, .cons q r => .cons (Rp.weak w q) (RpL.weak w r)
end
theorem RpL.get {L : Addr → Prop} : ∀ {l : List PV} {xs : List V} {i : Nat} {p : PV}, RpL A L H l xs → l[i]? = some p → ∃ v, xs[i]? = some v ∧ Rp A L H p v
  | _, _, _, _, .nil, e => by simp at e
  | _, _, 0, _, .cons q _, e => by simp at e; subst e; exact ⟨_, rfl, q⟩
  | _, _, i + 1, p, .cons _ r, e => by
    obtain ⟨v, h1, h2⟩ := RpL.get (i := i) (p := p) r (by simpa using e)
    exact ⟨v, by simpa using h1, h2⟩
theorem RpL.append {L : Addr → Prop} : ∀ {l l2 : List PV} {xs ys : List V}, RpL A L H l xs → RpL A L H l2 ys → RpL A L H (l ++ l2) (xs ++ ys)
  | _, _, _, _, .nil, s => s
  | _, _, _, _, .cons q r, s => .cons q (RpL.append r s)
theorem RpL.drop {L : Addr → Prop} : ∀ (n : Nat) {l : List PV} {xs : List V}, RpL A L H l xs → RpL A L H (l.drop n) (xs.drop n)
  | 0, _, _, q => q
  | n + 1, _, _, .nil => .nil
  | n + 1, _, _, .cons _ r => RpL.drop n r
theorem RpL.take {L : Addr → Prop} : ∀ (n : Nat) {l : List PV} {xs : List V}, RpL A L H l xs → RpL A L H (l.take n) (xs.take n)
  | 0, _, _, q => .nil
  | n + 1, _, _, .nil => .nil
  | n + 1, _, _, .cons q r => .cons q (RpL.take n r)
/-- a new cell -/
theorem Sim.cell_new (S : Sim A B m h H) {p : Addr} {l : List PV} {xs : List V} (e : H p = none) (q : RpL A (Xc B m h) H l xs) :
    Mv m h H (m ++ [p]) (h ++ [some l]) (upd H p (.lst xs)) ∧ Sim A B (m ++ [p]) (h ++ [some l]) (upd H p (.lst xs)) := by
  have hl := S.len
  have inv : ∀ {i : Nat} {c : List PV} {a : Addr}, (h ++ [some l])[i]? = some (some c) → (m ++ [p])[i]? = some a → (h[i]? = some (some c) ∧ m[i]? = some a) ∨ (i = h.length ∧ c = l ∧ a = p) := fun {i c a} h1 h2 => by
    by_cases hi : i < h.length
    · rw [List.getElem?_append_left hi] at h1
      rw [List.getElem?_append_left (by omega)] at h2
      exact .inl ⟨h1, h2⟩
    · rw [List.getElem?_append_right (by omega)] at h1
      rw [List.getElem?_append_right (by omega)] at h2
      have hz : i - h.length = 0 := by
        by_cases hz : i - h.length = 0
        · exact hz
        · rw [List.getElem?_eq_none (by simp; omega)] at h1; cases h1
      have hz2 : i - m.length = 0 := by omega
      rw [hz] at h1
      rw [hz2] at h2
      simp at h1 h2
      exact .inr ⟨by omega, h1.symm, h2.symm⟩
  have lv : ∀ a, Lv (m ++ [p]) (h ++ [some l]) a → Lv m h a ∨ a = p := fun a ⟨i, c, h1, h2⟩ => (inv h1 h2).elim (fun z => .inl ⟨i, c, z.1, z.2⟩) fun z => .inr z.2.2
  have M : Mv m h H (m ++ [p]) (h ++ [some l]) (upd H p (.lst xs)) := ⟨⟨[p], rfl⟩, fun b u r _ n => ⟨by rw [upd_ne (L2.ne_of_none r e)]; exact r, fun z => (lv b z).elim n fun z => by rw [z, e] at r; cases r⟩⟩
  refine ⟨M, by simp [hl], fun i c a h1 h2 => ?_, fun i j c d a h1 h2 h3 h4 => ?_, fun a b z => ?_, fun a b z => ?_⟩
  · rcases inv h1 h2 with ⟨z1, z2⟩ | ⟨_, rfl, rfl⟩
    · obtain ⟨ys, h3, h4⟩ := S.cell i c a z1 z2
      exact ⟨ys, by rw [upd_ne (L2.ne_of_none h3 e)]; exact h3, h4.move S M⟩
    · exact ⟨xs, upd_same, q.move S M⟩
  · rcases inv h1 h3 with ⟨z1, z2⟩ | ⟨z1, _, z3⟩ <;> rcases inv h2 h4 with ⟨z4, z5⟩ | ⟨z4, _, z6⟩
    · exact S.inj i j c d a z1 z4 z2 z5
    · subst z6
      obtain ⟨ys, h5, _⟩ := S.cell i c a z1 z2
      rw [e] at h5; cases h5
    · subst z3
      obtain ⟨ys, h5, _⟩ := S.cell j d a z4 z5
      rw [e] at h5; cases h5
    · omega
  · rcases lv a z with z | z
    · exact S.bn a b z
    · subst z
      exact S.bt a b e
  · unfold upd at z
    split at z
    · cases z
    · exact S.bt a b z
/-- fewer cells are looked at -/
theorem Sim.less (S : Sim A B m h H) {m' : List Addr} {h' : Hs} (hl : m'.length = h'.length) (w : ∀ (i : Nat) (c : List PV) (a : Addr), h'[i]? = some (some c) → m'[i]? = some a → ∃ j : Nat, h[j]? = some (some c) ∧ m[j]? = some a)
    (inj : ∀ (i j : Nat) (c d : List PV) (a : Addr), h'[i]? = some (some c) → h'[j]? = some (some d) → m'[i]? = some a → m'[j]? = some a → i = j) : Sim A B m' h' H ∧ ∀ a, Lv m' h' a → Lv m h a := by
  have lv : ∀ a, Lv m' h' a → Lv m h a := fun a ⟨i, c, e1, e2⟩ => let ⟨j, e3, e4⟩ := w i c a e1 e2; ⟨j, c, e3, e4⟩
  refine ⟨⟨hl, fun i c a e1 e2 => ?_, inj, fun a b z => S.bn a b (lv a z), S.bt⟩, lv⟩
  obtain ⟨j, e3, e4⟩ := w i c a e1 e2
  obtain ⟨xs, e5, r⟩ := S.cell j c a e3 e4
  exact ⟨xs, e5, r.weak fun b z => z.imp id (lv b)⟩
/-- a cell's list becomes another one -/
theorem Sim.write (S : Sim A B m h H) {i : Nat} {c l : List PV} {a : Addr} {xs : List V} (e1 : h[i]? = some (some c)) (e2 : m[i]? = some a) (q : RpL A (Xc B m h) H l xs) :
    Mv m h H m (h.set i (some l)) (upd H a (.lst xs)) ∧ Sim A B m (h.set i (some l)) (upd H a (.lst xs)) := by
  have hi : i < h.length := (List.getElem?_eq_some_iff.mp e1).1
  have at_ : ∀ {j : Nat} {d : List PV}, (h.set i (some l))[j]? = some (some d) → (j = i ∧ d = l) ∨ (j ≠ i ∧ h[j]? = some (some d)) := fun {j d} q => by
    by_cases hj : i = j
    · subst hj
      rw [List.getElem?_set_self hi] at q
      cases q
      exact .inl ⟨rfl, rfl⟩
    · rw [List.getElem?_set_ne hj] at q
      exact .inr ⟨fun z => hj z.symm, q⟩
  have lv : ∀ b, Lv m (h.set i (some l)) b → Lv m h b := fun b ⟨j, d, z1, z2⟩ => (at_ z1).elim (fun z => by
    obtain ⟨rfl, rfl⟩ := z
    exact ⟨j, c, e1, z2⟩) fun z => ⟨j, d, z.2, z2⟩
  have M : Mv m h H m (h.set i (some l)) (upd H a (.lst xs)) := ⟨⟨[], by simp⟩, fun b o r _ n => ⟨by rw [upd_ne (fun z => n (by rw [z]; exact ⟨i, c, e1, e2⟩))]; exact r, fun z => n (lv b z)⟩⟩
  refine ⟨M, by simp [S.len], fun j d b z1 z2 => ?_, fun j k d1 d2 b z1 z2 z3 z4 => ?_, fun b z1 z2 => S.bn b z1 (lv b z2), fun b z1 z2 => ?_⟩
  · rcases at_ z1 with ⟨rfl, rfl⟩ | ⟨nj, z3⟩
    · rw [e2] at z2
      cases z2
      exact ⟨xs, upd_same, q.moveC S.cl M⟩
    · obtain ⟨ys, q1, q2⟩ := S.cell j d b z3 z2
      have ne : b ≠ a := fun z => nj (S.inj j i d c a z3 e1 (by rw [← z]; exact z2) e2)
      exact ⟨ys, by rw [upd_ne ne]; exact q1, q2.moveC S.cl M⟩
  · have un : ∀ {j : Nat} {d : List PV}, (h.set i (some l))[j]? = some (some d) → ∃ d', h[j]? = some (some d') := fun {j d} z => (at_ z).elim (fun z => ⟨c, by rw [z.1]; exact e1⟩) fun z => ⟨d, z.2⟩
    obtain ⟨d3, z5⟩ := un z1
    obtain ⟨d4, z6⟩ := un z2
    exact S.inj j k d3 d4 b z5 z6 z3 z4
  · unfold upd at z2
    split at z2
    · cases z2
    · exact S.bt b z1 z2
theorem RpR.move (S : Sim A B m h H) (M : Mv m h H m' h' H') : ∀ {x : RV} {v : V}, RpR A B m h H x v → RpR A B m' h' H' x v
  | .pv _, _, q => Rp.move S M q
  | .ref _, _, ⟨a, e, z⟩ => ⟨a, M.at e, z⟩
theorem RpRs.move (S : Sim A B m h H) (M : Mv m h H m' h' H') : ∀ {x : List RV} {v : List V}, RpRs A B m h H x v → RpRs A B m' h' H' x v
  | _, _, .nil => .nil
  | _, _, .cons q r => .cons (q.move S M) (RpRs.move S M r)
theorem RpRs.append : ∀ {x y : List RV} {v w : List V}, RpRs A B m h H x v → RpRs A B m h H y w → RpRs A B m h H (x ++ y) (v ++ w)
  | _, _, _, _, .nil, s => s
  | _, _, _, _, .cons q r, s => .cons q (RpRs.append r s)
theorem RpRs.get : ∀ {x : List RV} {v : List V} {i : Nat} {a : RV}, RpRs A B m h H x v → x[i]? = some a → ∃ b, v[i]? = some b ∧ RpR A B m h H a b
  | _, _, _, _, .nil, e => by simp at e
  | _, _, 0, _, .cons q _, e => by simp at e; subst e; exact ⟨_, rfl, q⟩
  | _, _, i + 1, p, .cons _ r, e => by
    obtain ⟨v, h1, h2⟩ := RpRs.get (i := i) (a := p) r (by simpa using e)
    exact ⟨v, by simpa using h1, h2⟩
theorem RpRs.pvs : ∀ {ps : List PV} {v : List V}, RpRs A B m h H (ps.map RV.pv) v → RpL A (Xc B m h) H ps v
  | [], _, q => by cases q; exact .nil
  | p :: ps, _, q => by
    cases q with
    | cons q r => exact .cons q (RpRs.pvs r)
theorem Rw.scr {L : Addr → Prop} {l : List PV} {v : V} (q : Rw A L H (.scr l) v) : ∃ a xs, v = .ref a ∧ SqL A.K H a xs ∧ RpL A L H l xs := by
  cases q with
  | p q =>
    cases q with
    | scr q r =>
      rcases q with q | q
      · exact ⟨_, _, rfl, .inl (.inr q), r⟩
      · exact ⟨_, _, rfl, .inr q, r⟩
theorem Sl.move (S : Sim A B m h H) (M : Mv m h H m' h' H') {ρ : Env} {σ : L2.St} (s : Sl A B m h H ρ σ) : Sl A B m' h' H' ρ σ :=
  ⟨s.len, fun i v e => let ⟨w, e1, e2⟩ := s.at_ i v e; ⟨w, e1, e2.move S M⟩⟩
theorem kill_some {ρ : Env} {i : Nat} {x : RV} : ∀ {vs : List Nat}, (kill ρ vs)[i]? = some (some x) → ρ[i]? = some (some x) ∧ i ∉ vs
  | [], h => ⟨h, by simp⟩
  | v :: vs, h => by
    unfold kill at h
    by_cases hi : v = i
    · subst hi
      by_cases hv : v < (kill ρ vs).length
      · rw [List.getElem?_set_self hv] at h; cases h
      · rw [List.getElem?_eq_none (by simpa using hv)] at h; cases h
    · rw [List.getElem?_set_ne hi] at h
      obtain ⟨h1, h2⟩ := kill_some h
      exact ⟨h1, by simp only [List.mem_cons, not_or]; exact ⟨fun e => hi e.symm, h2⟩⟩
theorem kill_length (ρ : Env) : ∀ vs : List Nat, (kill ρ vs).length = ρ.length
  | [] => rfl
  | v :: vs => by unfold kill; rw [List.length_set, kill_length ρ vs]
theorem Sl.kill {ρ : Env} {σ : L2.St} (s : Sl A B m h H ρ σ) (vs : List Nat) : Sl A B m h H (kill ρ vs) σ :=
  ⟨by rw [kill_length]; exact s.len, fun i v e => s.at_ i v (kill_some e).1⟩
theorem Sl.wipe {ρ : Env} {σ : L2.St} (s : Sl A B m h H ρ σ) (vs : List Nat) : Sl A B m h H (G43.kill ρ vs) (L2.wipe σ vs) := by
  refine ⟨by rw [kill_length, L2.wipe_length]; exact s.len, fun i v e => ?_⟩
  obtain ⟨e1, e2⟩ := kill_some e
  obtain ⟨w, e3, e4⟩ := s.at_ i v e1
  exact ⟨w, by rw [L2.wipe_out e2]; exact e3, e4⟩
end
end G43
set_option Elab.async false
set_option linter.all false
set_option maxRecDepth 100000
set_option maxHeartbeats 4000000
namespace G43
open PySem
open L2 (V HO Hp SqL SqT Rd upd upd_same upd_ne Cx OpR R2 VK CallR IxR SlR)
/-! ### values as plain data -/
theorem Dt_up : ∀ {n : Nat} {a : PV}, Dt n a → Dt (n + 1) a
  | n, .non, _ => by simp [Dt]
  | n, .bl _, _ => by simp [Dt]
  | n, .int _, _ => by simp [Dt]
  | n, .str _, h => by
    cases n <;> simpa [Dt] using h
  | 0, .tup _, h => by simp [Dt] at h
  | 0, .lst _, h => by simp [Dt] at h
  | n + 1, .tup l, h => by
    have h' : ∀ x ∈ l, Dt n x := by simpa [Dt] using h
    simp only [Dt]
    exact fun x hx => Dt_up (h' x hx)
  | n + 1, .lst l, h => by
    have h' : ∀ x ∈ l, Dt n x := by simpa [Dt] using h
    simp only [Dt]
    exact fun x hx => Dt_up (h' x hx)
  | n, .fn _, h => by cases n <;> simp [Dt] at h
  | n, .obj _, h => by cases n <;> simp [Dt] at h
  | n, .scr _, h => by cases n <;> simp [Dt] at h
mutual
theorem peq_dat : ∀ (n : Nat) (a b : PV), Dt n a → Dt n b → peq a b = PyData.eqv (dat a) (dat b)
  | n, .non, b, ha, hb => by cases b <;> simp [peq, dat, PyData.eqv, Dt] at *
  | n, .bl x, b, ha, hb => by cases b <;> simp [peq, dat, PyData.eqv, Dt] at *
  | n, .int x, b, ha, hb => by cases b <;> simp [peq, dat, PyData.eqv, Dt] at *
  | n, .str x, b, ha, hb => by cases b <;> simp [peq, dat, PyData.eqv, Dt] at *
  | 0, .tup x, b, ha, hb => by simp [Dt] at ha
  | 0, .lst x, b, ha, hb => by simp [Dt] at ha
  | n + 1, .tup x, b, ha, hb => by
    cases b with
    | tup y =>
      simp only [peq, dat, PyData.eqv]
      exact peqL_dat n x y (by simpa [Dt] using ha) (by simpa [Dt] using hb)
    | _ => simp [peq, dat, PyData.eqv, Dt] at *
  | n + 1, .lst x, b, ha, hb => by
    cases b with
    | lst y =>
      simp only [peq, dat, PyData.eqv]
      exact peqL_dat n x y (by simpa [Dt] using ha) (by simpa [Dt] using hb)
    | _ => simp [peq, dat, PyData.eqv, Dt] at *
  | n, .fn x, b, ha, hb => by cases n <;> simp [Dt] at ha
  | n, .obj x, b, ha, hb => by cases n <;> simp [Dt] at ha
  | n, .scr x, b, ha, hb => by cases n <;> simp [Dt] at ha
theorem peqL_dat : ∀ (n : Nat) (a b : List PV), (∀ x ∈ a, Dt n x) → (∀ x ∈ b, Dt n x) → peqL a b = PyData.eqvAll (datL a) (datL b)
  | n, [], [], _, _ => rfl
  | n, [], _ :: _, _, _ => rfl
  | n, _ :: _, [], _, _ => rfl
  | n, x :: xs, y :: ys, ha, hb => by
    simp only [peqL, datL, PyData.eqvAll]
    rw [peq_dat n x y (ha x (by simp)) (hb y (by simp)), peqL_dat n xs ys (fun z hz => ha z (by simp [hz])) fun z hz => hb z (by simp [hz])]
end
mutual
theorem dat_lay : ∀ (n : Nat) (a : PV), Dt n a → (dat a).canLay0 = true ∧ (dat a).depth ≤ n
  | n, .non, h => by simp [dat, PyData.canLay0, PyData.depth]
  | n, .bl x, h => by simp [dat, PyData.canLay0, PyData.depth]
  | n, .int x, h => by simp [dat, PyData.canLay0, PyData.depth]
  | n, .str x, h => by
    have h' : PyData.strOk x = true := by cases n <;> simpa [Dt] using h
    simp [dat, PyData.canLay0, PyData.depth, h']
  | 0, .tup x, ha => by simp [Dt] at ha
  | 0, .lst x, ha => by simp [Dt] at ha
  | n + 1, .tup x, ha => by
    obtain ⟨h1, h2⟩ := datL_lay n x (by simpa [Dt] using ha)
    simp only [dat, PyData.canLay0, PyData.depth]
    exact ⟨h1, by omega⟩
  | n + 1, .lst x, ha => by
    obtain ⟨h1, h2⟩ := datL_lay n x (by simpa [Dt] using ha)
    simp only [dat, PyData.canLay0, PyData.depth]
    exact ⟨h1, by omega⟩
  | n, .fn x, ha => by cases n <;> simp [Dt] at ha
  | n, .obj x, ha => by cases n <;> simp [Dt] at ha
  | n, .scr x, ha => by cases n <;> simp [Dt] at ha
theorem datL_lay : ∀ (n : Nat) (a : List PV), (∀ x ∈ a, Dt n x) → PyData.canLayAll0 (datL a) = true ∧ PyData.depthAll (datL a) ≤ n
  | n, [], _ => by simp [datL, PyData.canLayAll0, PyData.depthAll]
  | n, x :: xs, ha => by
    obtain ⟨h1, h2⟩ := dat_lay n x (ha x (by simp))
    obtain ⟨h3, h4⟩ := datL_lay n xs fun z hz => ha z (by simp [hz])
    simp only [datL, PyData.canLayAll0, PyData.depthAll]
    exact ⟨by rw [h1, h3]; rfl, by omega⟩
end
theorem dat_shaped {n : Nat} {a : PV} (hn : n ≤ 64) (h : Dt n a) : SeqAt.shaped (dat a) = true := by
  obtain ⟨h1, h2⟩ := dat_lay n a h
  unfold SeqAt.shaped
  rw [h1, decide_eq_true (by omega)]
  rfl
section
variable {A : Ad} {B : Addr → Prop} {m : List Addr} {h : Hs} {H : Hp} {L : Addr → Prop}
mutual
theorem Rp.dp : ∀ {n : Nat} {p : PV} {v : V}, Rp A L H p v → Dt n p → L2.Dp A.K H v (dat p)
  | _, _, _, .non, _ => .non
  | _, _, _, .bl b, _ => .bl b
  | _, _, _, .int i, _ => .int i
  | _, _, _, .str x, _ => .str x
  | n, _, _, .fn f, h => by cases n <;> simp [Dt] at h
  | 0, _, _, .tup q r, h => by simp [Dt] at h
  | n + 1, _, _, .tup q r, h => .tup q (RpL.dp r (by simpa [Dt] using h))
  | 0, _, _, .lst q _ r, h => by simp [Dt] at h
  | n + 1, _, _, .lst q _ r, h => .lst (SqL.of q) (RpL.dp r (by simpa [Dt] using h))
  | n, _, _, .scr _ _, h => by cases n <;> simp [Dt] at h
theorem RpL.dp : ∀ {n : Nat} {l : List PV} {xs : List V}, RpL A L H l xs → (∀ x ∈ l, Dt n x) → L2.DpAll A.K H xs (datL l)
  | _, _, _, .nil, _ => .nil
  | n, _, _, .cons q r, h => .cons (Rp.dp q (h _ (by simp))) (RpL.dp r fun z hz => h z (by simp [hz]))
end
theorem Rw.dp {n : Nat} {p : PV} {v : V} (q : Rw A L H p v) (h : Dt n p) : L2.Dp A.K H v (dat p) := by
  cases q with
  | p q => exact q.dp h
  | c q r =>
    cases n with
    | zero => simp [Dt] at h
    | succ n => exact .lst (SqL.of q) (r.dp (n := n) (by simpa [Dt] using h))
end
section
variable {X : Cx} {A : Ad}
/-! ### a op b -/
def rB (A : Ad) (op : Operator) : R2 := fun x y H Q => ∃ B m h p q, Sim A B m h H ∧ Rw A (Xc B m h) H p x ∧ Rw A (Xc B m h) H q y ∧ wpBin op p q (Kp A B m h H Q)
theorem op_bin (hK : X.K = A.K) (op : Operator) : OpR X (binaryOp op) (rB A op) := by
  intro pins s σ H x y v u Q I rx ry z
  obtain ⟨B, m, h, p, q, S, rp, rq, z⟩ := z
  unfold wpBin at z
  split at z
  · cases rp.int; cases rq.int
    exact L2.op_add pins s σ H _ _ v u Q I rx ry ⟨_, _, rfl, rfl, z.here S (.int _)⟩
  · cases rp.str; cases rq.str
    exact L2.op_add_str pins s σ H _ _ v u Q I rx ry ⟨_, _, rfl, rfl, z.1, Kp.here S z.2 (.str _)⟩
  · obtain ⟨a, xs, rfl, e1, r1⟩ := rp.lst
    obtain ⟨b, ys, rfl, e2, r2⟩ := rq.lst
    exact L2.op_cat pins s σ H _ _ v u Q I rx ry ⟨a, b, xs, ys, rfl, rfl, e1, e2, by rw [r1.length, r2.length]; exact z.1, fun c e => Kp.lst S z.2 (r1.append r2) e⟩
  · obtain ⟨a, xs, rfl, e1, r1⟩ := rp.tup
    obtain ⟨b, ys, rfl, e2, r2⟩ := rq.tup
    refine L2.op_catA pins s σ H _ _ v u Q I rx ry ⟨a, b, xs, ys, rfl, rfl, by rw [hK]; exact e1, by rw [hK]; exact e2, by rw [r1.length, r2.length]; exact z.1, fun n => ?_, fun _ n => ?_, fun _ _ c e => Kp.tup S z.2 (r1.append r2) e⟩
    · subst n
      cases r1
      exact Kp.here S z.2 (.tup e2 r2)
    · subst n
      cases r2
      rw [List.append_nil] at z
      exact Kp.here S z.2 (.tup e1 r1)
  · cases rp.int; cases rq.int
    exact L2.op_sub pins s σ H _ _ v u Q I rx ry ⟨_, _, rfl, rfl, z.here S (.int _)⟩
  · cases rp.int; cases rq.int
    exact L2.op_mulW pins s σ H _ _ v u Q I rx ry ⟨_, _, rfl, rfl, z.1, Kp.here S z.2 (.int _)⟩
  · cases rp.int; cases rq.int
    exact L2.op_fdivW pins s σ H _ _ v u Q I rx ry ⟨_, _, rfl, rfl, z.1, Kp.here S z.2 (.int _)⟩
  · cases rp.int; cases rq.int
    exact L2.op_mod pins s σ H _ _ v u Q I rx ry ⟨_, _, rfl, rfl, z.1, Kp.here S z.2 (.int _)⟩
  · cases rp.int; cases rq.int
    exact L2.op_pow pins s σ H _ _ v u Q I rx ry ⟨_, _, rfl, rfl, z.1, Kp.here S z.2 (.int _)⟩
  · exact z.elim
/-! ### comparisons -/
def rC (A : Ad) (op : CmpOp) : R2 := fun x y H Q => ∃ B m h p q, Sim A B m h H ∧ Rw A (Xc B m h) H p x ∧ Rw A (Xc B m h) H q y ∧ wpCmp op p q (fun r => Q (.bl r) H)
theorem inL_dat {n : Nat} {a : PV} (ha : Dt n a) : ∀ {l : List PV}, (∀ x ∈ l, Dt n x) → inL a l = (datL l).any fun z => PyData.eqv z (dat a)
  | [], _ => rfl
  | x :: r, h => by
    simp only [inL, datL, List.any_cons]
    rw [peq_dat n x a (h x (by simp)) ha, inL_dat ha fun z hz => h z (by simp [hz])]
theorem is_non {L : Addr → Prop} {H : Hp} {p : PV} {x : V} (r : Rw A L H p x) : isNon p = decide (x = .non) := by
  cases r with
  | p r => cases r <;> simp [isNon]
  | c _ _ => simp [isNon]
/-- flat values -/
def FlR (p : PV) (v : V) : Prop := L2.flatV v = true ∧ ∀ q w, (flat q = true ∧ L2.flatV w = true ∧ ((q = .non ∧ w = .non) ∨ (∃ b, q = .bl b ∧ w = .bl b) ∨ (∃ i, q = .int i ∧ w = .int i) ∨ ∃ x, q = .str x ∧ w = .str x)) → peq q p = L2.eqV w v
theorem Rp.flat {L : Addr → Prop} {H : Hp} {p : PV} {v : V} (r : Rp A L H p v) (f : flat p = true) : FlR p v ∧ ((p = .non ∧ v = .non) ∨ (∃ b, p = .bl b ∧ v = .bl b) ∨ (∃ i, p = .int i ∧ v = .int i) ∨ ∃ x, p = .str x ∧ v = .str x) := by
  have key : ∀ (p : PV) (v : V), ((p = .non ∧ v = .non) ∨ (∃ b, p = .bl b ∧ v = .bl b) ∨ (∃ i, p = .int i ∧ v = .int i) ∨ ∃ x, p = .str x ∧ v = .str x) → FlR p v := by
    intro p v hp
    refine ⟨?_, fun q w ⟨_, _, hq⟩ => ?_⟩
    · rcases hp with ⟨_, rfl⟩ | ⟨b, _, rfl⟩ | ⟨i, _, rfl⟩ | ⟨x, _, rfl⟩ <;> rfl
    · rcases hp with ⟨rfl, rfl⟩ | ⟨b, rfl, rfl⟩ | ⟨i, rfl, rfl⟩ | ⟨x, rfl, rfl⟩ <;> rcases hq with ⟨rfl, rfl⟩ | ⟨b, rfl, rfl⟩ | ⟨i, rfl, rfl⟩ | ⟨x, rfl, rfl⟩ <;> simp [peq, L2.eqV]
  have h2 : (p = .non ∧ v = .non) ∨ (∃ b, p = .bl b ∧ v = .bl b) ∨ (∃ i, p = .int i ∧ v = .int i) ∨ ∃ x, p = .str x ∧ v = .str x := by
    cases r <;> simp [G43.flat] at f ⊢
  exact ⟨key p v h2, h2⟩
theorem Rw.flat {L : Addr → Prop} {H : Hp} {p : PV} {v : V} (r : Rw A L H p v) (f : G43.flat p = true) : FlR p v := by
  cases r with
  | p r => exact (r.flat f).1
  | c _ _ => simp [G43.flat] at f
theorem RpL.flats {L : Addr → Prop} {H : Hp} : ∀ {l : List PV} {xs : List V}, RpL A L H l xs → l.all G43.flat = true → xs.all L2.flatV = true
  | _, _, .nil, _ => rfl
  | _, _, .cons q r, h => by
    rw [List.all_cons, Bool.and_eq_true] at h ⊢
    exact ⟨(q.flat h.1).1.1, RpL.flats r h.2⟩
theorem inL_V {L : Addr → Prop} {H : Hp} {p : PV} {v : V} (fp : FlR p v) : ∀ {l : List PV} {xs : List V}, RpL A L H l xs → l.all G43.flat = true → inL p l = L2.inV v xs
  | _, _, .nil, _ => rfl
  | _, _, @RpL.cons _ _ _ q w l xs r t, h => by
    rw [List.all_cons, Bool.and_eq_true] at h
    have z := r.flat h.1
    have e : peq q p = L2.eqV w v := fp.2 q w ⟨h.1, z.1.1, z.2⟩
    simp only [inL, L2.inV, List.any_cons]
    rw [e, inL_V fp t h.2]
    rfl
theorem Dt_items {n : Nat} {l : List PV} (h : Dt (n + 1) (.lst l)) : ∀ x ∈ l, Dt (n + 1) x := by
  have h' : ∀ x ∈ l, Dt n x := by simpa [Dt] using h
  exact fun x hx => Dt_up (h' x hx)
theorem op_cmp (hK : X.K = A.K) (hu : X.A.units + 65 < cLine) (op : CmpOp) : OpR X (compareOp op) (rC A op) := by
  intro pins s σ H x y v u Q I rx ry z
  obtain ⟨B, m, h, p, q, S, rp, rq, z⟩ := z
  unfold wpCmp at z
  split at z
  · cases rp.str; cases rq.str
    exact L2.op_eq pins s σ H _ _ v u Q I rx ry ⟨rfl, by rw [L2.dec_str]; exact z⟩
  · cases rp.str; cases rq.str
    exact L2.op_ne pins s σ H _ _ v u Q I rx ry ⟨rfl, by rw [L2.dec_str]; exact z⟩
  · obtain ⟨d1, d2, z⟩ := z
    rw [peq_dat 60 _ _ d1 d2] at z
    exact L2.op_eqD (by omega) pins s σ H _ _ v u Q I rx ry ⟨_, _, by rw [hK]; exact rp.dp d1, by rw [hK]; exact rq.dp d2, dat_shaped (by omega) d1, dat_shaped (by omega) d2, z⟩
  · obtain ⟨d1, d2, z⟩ := z
    rw [peq_dat 60 _ _ d1 d2] at z
    exact L2.op_neD (by omega) pins s σ H _ _ v u Q I rx ry ⟨_, _, by rw [hK]; exact rp.dp d1, by rw [hK]; exact rq.dp d2, dat_shaped (by omega) d1, dat_shaped (by omega) d2, z⟩
  · cases rp.int; cases rq.int
    exact L2.op_lt pins s σ H _ _ v u Q I rx ry ⟨_, _, rfl, rfl, z⟩
  · cases rp.int; cases rq.int
    exact L2.op_le pins s σ H _ _ v u Q I rx ry ⟨_, _, rfl, rfl, z⟩
  · cases rp.int; cases rq.int
    exact L2.op_gt pins s σ H _ _ v u Q I rx ry ⟨_, _, rfl, rfl, z⟩
  · cases rp.int; cases rq.int
    exact L2.op_ge pins s σ H _ _ v u Q I rx ry ⟨_, _, rfl, rfl, z⟩
  · cases rq.non
    rw [is_non rp] at z
    exact L2.op_isN pins s σ H _ _ v u Q I rx ry ⟨rfl, z⟩
  · cases rq.non
    rw [is_non rp] at z
    exact L2.op_notN pins s σ H _ _ v u Q I rx ry ⟨rfl, z⟩
  · obtain ⟨d1, d2, z⟩ := z
    rw [inL_dat (n := 60) d1 (Dt_items d2)] at z
    exact L2.op_inD hu pins s σ H _ _ v u Q I rx ry ⟨_, _, by rw [hK]; exact rp.dp d1, by rw [hK]; exact rq.dp d2, dat_shaped (by omega) d1, dat_shaped (by omega) d2, z⟩
  · obtain ⟨d1, d2, z⟩ := z
    rw [inL_dat (n := 60) d1 (Dt_items d2)] at z
    exact L2.op_notInD hu pins s σ H _ _ v u Q I rx ry ⟨_, _, by rw [hK]; exact rp.dp d1, by rw [hK]; exact rq.dp d2, dat_shaped (by omega) d1, dat_shaped (by omega) d2, z⟩
  · obtain ⟨d1, d2, z⟩ := z
    obtain ⟨b, ys, rfl, e2, r2⟩ := rq.tup
    rw [inL_V (rp.flat d1) r2 d2] at z
    exact L2.op_in_seq pins s σ H _ _ v u Q I rx ry ⟨b, ys, rfl, .inr (by rw [hK]; exact e2), (rp.flat d1).1, r2.flats d2, z⟩
  · obtain ⟨d1, d2, z⟩ := z
    obtain ⟨b, ys, rfl, e2, r2⟩ := rq.tup
    rw [inL_V (rp.flat d1) r2 d2] at z
    exact L2.op_notIn_seq pins s σ H _ _ v u Q I rx ry ⟨b, ys, rfl, .inr (by rw [hK]; exact e2), (rp.flat d1).1, r2.flats d2, z⟩
  · exact z.elim
end
end G43
set_option Elab.async false
set_option linter.all false
set_option maxRecDepth 100000
set_option maxHeartbeats 4000000
namespace G43
open PySem
open L2 (V HO Hp SqL SqT Rd upd upd_same upd_ne Cx OpR R2 VK CallR IxR SlR)
section
variable {A : Ad} {B : Addr → Prop} {m : List Addr} {h : Hs} {H : Hp} {L : Addr → Prop}
theorem RpRs.rws (S : Sim A B m h H) : ∀ {x : List RV} {v : List V} {ps : List PV}, RpRs A B m h H x v → x.mapM (val h) = some ps → RwL A (Xc B m h) H ps v
  | [], _, ps, .nil, e => by
    simp at e
    subst e
    exact .nil
  | a :: x, _, ps, .cons q r, e => by
    rw [List.mapM_cons] at e
    cases ea : val h a with
    | none => rw [ea] at e; simp at e
    | some p =>
      cases er : x.mapM (val h) with
      | none => rw [ea, er] at e; simp at e
      | some qs =>
        rw [ea, er] at e
        simp at e
        subst e
        exact .cons (q.rw S ea) (RpRs.rws S r er)
theorem RwL.two {p q : PV} {xs : List V} (z : RwL A L H [p, q] xs) : ∃ v w, xs = [v, w] ∧ Rw A L H p v ∧ Rw A L H q w := by
  cases z with
  | cons q r =>
    cases r with
    | cons q2 r => cases r; exact ⟨_, _, rfl, q, q2⟩
theorem bools_rep : ∀ {l : List PV} {bs : List Bool} {xs : List V}, bools l = some bs → RpL A L H l xs → xs = bs.map V.bl
  | [], bs, _, e, .nil => by
    simp [bools] at e
    subst e
    rfl
  | p :: l, bs, _, e, .cons q r => by
    cases q with
    | bl b =>
      simp only [bools] at e
      cases el : bools l with
      | none => rw [el] at e; simp at e
      | some cs =>
        rw [el] at e
        simp at e
        subst e
        rw [bools_rep el r]
        rfl
    | _ => simp [bools] at e
end
section
variable {X : Cx} {A : Ad}
/-! ### built-in functions -/
def rBi (A : Ad) (b : BI) : List V → Hp → VK → Prop := fun xs H Q => ∃ B m h ps, Sim A B m h H ∧ RwL A (Xc B m h) H ps xs ∧ wpBi b ps (Kp A B m h H Q)
def biV : BI → Value
  | .len => .builtin "len"
  | .abs => .builtin "abs"
  | .max => .builtin "max"
  | .int => .type "int"
  | .tuple => .type "tuple"
  | .list => .type "list"
  | .all => .builtin "all"
  | .any => .builtin "any"
  | .repr => .builtin "repr"
  | .str => .type "str"
  | .sorted => .builtin "sorted"
  | .sum => .builtin "sum"
  | .bool => .type "bool"
  | .set => .type "set"
theorem rep_repr (hK : X.K = A.K) (hu : X.A.units + 65 < cLine) (hg : X.A.guards = some []) {B : Addr → Prop} {m : List Addr} {h : Hs} {pins : List (Addr × Obj)} {s : Shared} {σ : L2.St} {H : Hp} {Q : VK} {p : PV} {x : V} {u : Value}
    (I : L2.Inv X pins σ H s) (S : Sim A B m h H) (r : L2.RelV x u) (q : Rw A (Xc B m h) H p x) (d : Dt 60 p) (hs : (dat p).showable = true) (hz : (dat p).shown.length ≤ sizeLine) (k : Kp A B m h H Q (.str (dat p).shown)) :
    wpAny (model X.prog X.w) X.A (call (.builtin "repr") [u]) (L2.EP X pins σ Q) X.xe s := by
  have fin := k.str S
  have dp := q.dp d
  rw [← hK] at dp
  obtain ⟨as, rd⟩ := L2.Dp.reads I (dat p) x u dp r
  obtain ⟨lay, dep⟩ := dat_lay 60 p d
  have nd : (dat p).hasDict = false := PyData.hasDict_of_canLay _ lay
  have done : ∀ (t : Tok) (s' : Shared), L2.Inv X pins σ H s' → L2.EP X pins σ Q (.str (dat p).shown t) s' := fun t s' I' => ⟨V.str _, H, I', ⟨t, rfl⟩, fin⟩
  cases u with
  | ref a => exact repr_of_reads' rd hs (PyData.noDict_hsm nd) hg (by omega) (fun b o e => e) (fun h' t tk kp => done t _ (I.kept (h' := h') (t' := tk) kp)) hz
  | int i t =>
    cases hp : p <;> rw [hp] at rd done hs <;> cases rd
    exact PySem.P.repr_of_int (by simpa [dat, PyData.showable] using hs) (done _ _ (I.tok _))
  | str z t =>
    cases hp : p <;> rw [hp] at rd done hz <;> cases rd
    exact PySem.P.repr_of_str (done _ _ (I.tok _)) hz
  | bool b =>
    cases hp : p <;> rw [hp] at rd done <;> cases rd
    exact PySem.P.repr_of_bool (done _ _ (I.tok _))
  | none =>
    have e : (dat p).shown = "None" := by
      cases hp : p <;> rw [hp] at rd <;> cases rd <;> rfl
    rw [e] at done
    exact PySem.P.repr_of_none (done _ _ (I.tok _))
  | _ => cases hp : p <;> rw [hp] at rd <;> cases rd
theorem call_bi (hK : X.K = A.K) (hc : X.calm = true) (hu : X.A.units + 65 < cLine) (hg : X.A.guards = some []) (b : BI) : CallR X (biV b) (rBi A b) := by
  intro pins s σ H xs us Q I r z
  obtain ⟨B, m, h, ps, S, q, z⟩ := z
  unfold wpBi at z
  split at z
  · obtain ⟨v, rfl, w1⟩ := q.one
    obtain ⟨a, ys, rfl, e, t⟩ := w1.tup
    exact L2.call_len_seq pins s σ H _ us Q I r ⟨a, ys, rfl, .inr (by rw [hK]; exact e), by rw [t.length]; exact z.here S (.int _)⟩
  · obtain ⟨v, rfl, w1⟩ := q.one
    obtain ⟨a, ys, rfl, e, t⟩ := w1.lst
    exact L2.call_len_seq pins s σ H _ us Q I r ⟨a, ys, rfl, .inl (SqL.of e), by rw [t.length]; exact z.here S (.int _)⟩
  · obtain ⟨v, rfl, w1⟩ := q.one
    obtain ⟨a, ys, rfl, e, t⟩ := w1.scr
    exact L2.call_len_seq pins s σ H _ us Q I r ⟨a, ys, rfl, .inl (by rw [hK]; exact e), by rw [t.length]; exact z.here S (.int _)⟩
  · obtain ⟨v, rfl, w1⟩ := q.one
    cases w1.int
    exact L2.call_abs pins s σ H _ us Q I r ⟨_, rfl, z.here S (.int _)⟩
  · obtain ⟨v, w, rfl, w1, w2⟩ := q.two
    cases w1.int; cases w2.int
    exact L2.call_max2 hc pins s σ H _ us Q I r ⟨_, _, rfl, z.here S (.int _)⟩
  · obtain ⟨v, rfl, w1⟩ := q.one
    cases w1.int
    exact L2.call_int1 pins s σ H _ us Q I r (.inl ⟨_, rfl, z.here S (.int _)⟩)
  · obtain ⟨v, rfl, w1⟩ := q.one
    cases w1.bl
    exact L2.call_int1 pins s σ H _ us Q I r (.inr ⟨_, rfl, z.here S (.int _)⟩)
  · obtain ⟨v, rfl, w1⟩ := q.one
    obtain ⟨a, ys, rfl, e, t⟩ := w1.lst
    exact L2.call_tuple_of pins s σ H _ us Q I r ⟨a, ys, rfl, .inl ⟨SqL.of e, fun l hl => z.tup S t hl⟩⟩
  · obtain ⟨v, rfl, w1⟩ := q.one
    obtain ⟨a, ys, rfl, e, t⟩ := w1.tup
    exact L2.call_tuple_of pins s σ H _ us Q I r ⟨a, ys, rfl, .inr ⟨by rw [hK]; exact e, z.here S (.tup e t)⟩⟩
  · obtain ⟨v, rfl, w1⟩ := q.one
    obtain ⟨a, ys, rfl, e, t⟩ := w1.lst
    exact L2.call_list_of pins s σ H _ us Q I r ⟨a, ys, rfl, .inl (SqL.of e), fun l hl => z.lst S t hl⟩
  · obtain ⟨v, rfl, w1⟩ := q.one
    obtain ⟨a, ys, rfl, e, t⟩ := w1.tup
    exact L2.call_list_of pins s σ H _ us Q I r ⟨a, ys, rfl, .inr (by rw [hK]; exact e), fun l hl => z.lst S t hl⟩
  · obtain ⟨v, rfl, w1⟩ := q.one
    obtain ⟨u, rfl, r1⟩ := L2.vals1 r
    exact rep_repr hK hu hg I S r1 w1 z.1 z.2.1 z.2.2.1 z.2.2.2
  · obtain ⟨v, rfl, w1⟩ := q.one
    cases w1.int
    exact L2.call_str_int pins s σ H _ us Q I r ⟨_, rfl, z.1, Kp.str S z.2⟩
  · obtain ⟨v, rfl, w1⟩ := q.one
    obtain ⟨a, ys, rfl, e, t⟩ := w1.lst
    obtain ⟨bs, eb, z⟩ := z
    have e2 := bools_rep eb t
    subst e2
    exact L2.cr_all hc pins s σ H _ us Q I r ⟨a, bs, rfl, SqL.of e, z.here S (.bl _)⟩
  · obtain ⟨v, rfl, w1⟩ := q.one
    obtain ⟨a, ys, rfl, e, t⟩ := w1.lst
    obtain ⟨bs, eb, z⟩ := z
    have e2 := bools_rep eb t
    subst e2
    exact L2.cr_any hc pins s σ H _ us Q I r ⟨a, bs, rfl, SqL.of e, z.here S (.bl _)⟩
  · exact z.elim
/-! ### a[i], a[i:j] -/
def rI (A : Ad) : R2 := fun x y H Q => ∃ B m h p q, Sim A B m h H ∧ Rw A (Xc B m h) H p x ∧ Rw A (Xc B m h) H q y ∧ wpIx p q (Kp A B m h H Q)
theorem atI_rep {L : Addr → Prop} {H : Hp} {l : List PV} {xs : List V} {i : Int} {p : PV} (r : RpL A L H l xs) (e : atI l i = some p) : ∃ v, L2.atI xs i = some v ∧ Rp A L H p v := by
  unfold atI L2.atI at e
  unfold L2.atI
  rw [r.length]
  cases hj : L2.ixN l.length i with
  | none => rw [hj] at e; cases e
  | some j =>
    rw [hj] at e
    exact r.get (i := j) e
theorem ix_ok (hK : X.K = A.K) : IxR X (rI A) := by
  intro value slice pins s σ H x y v u Q I rx ry z hs
  obtain ⟨B, m, h, p, q, S, rp, rq, z⟩ := z
  unfold wpIx at z
  split at z
  · obtain ⟨w, e, k⟩ := z
    cases rq.int
    obtain ⟨a, ys, rfl, e1, t⟩ := rp.lst
    obtain ⟨c, e2, t2⟩ := atI_rep t e
    exact L2.ix_list value slice pins s σ H _ _ v u Q I rx ry ⟨a, ys, _, c, rfl, rfl, SqL.of e1, e2, Kp.here S k t2⟩ hs
  · obtain ⟨w, e, k⟩ := z
    cases rq.int
    obtain ⟨a, ys, rfl, e1, t⟩ := rp.tup
    obtain ⟨c, e2, t2⟩ := atI_rep t e
    exact L2.ix_tup value slice pins s σ H _ _ v u Q I rx ry ⟨a, ys, _, c, rfl, rfl, by rw [hK]; exact e1, e2, Kp.here S k t2⟩ hs
  · obtain ⟨w, e, k⟩ := z
    cases rq.int
    obtain ⟨a, ys, rfl, e1, t⟩ := rp.scr
    obtain ⟨c, e2, t2⟩ := atI_rep t e
    exact L2.ix_list value slice pins s σ H _ _ v u Q I rx ry ⟨a, ys, _, c, rfl, rfl, by rw [hK]; exact e1, e2, Kp.here S k t2⟩ hs
  · exact z.elim
theorem cut_rep {L : Addr → Prop} {H : Hp} {l : List PV} {xs : List V} {lo hi : Option Int} (r : RpL A L H l xs) : RpL A L H (cut l lo hi) (L2.cutV xs lo hi) := by
  unfold cut L2.cutV
  rw [r.length]
  exact (r.drop _).take _
def rS (A : Ad) : V → Option Int → Option Int → Hp → VK → Prop := fun x lo hi H Q => ∃ B m h p, Sim A B m h H ∧ Rw A (Xc B m h) H p x ∧ wpSl p lo hi (Kp A B m h H Q)
theorem sl_ok (hK : X.K = A.K) : SlR X (rS A) := by
  intro pins s σ H x v vl vu lo hi sl Q I rx hs pl pu z
  obtain ⟨B, m, h, p, S, rp, z⟩ := z
  rcases p with _ | _ | _ | _ | l | l | _ | _ | l <;> simp only [wpSl] at z
  · obtain ⟨a, ys, rfl, e1, t⟩ := rp.tup
    refine L2.sl_tupA pins s σ H _ v vl vu lo hi sl Q I rx hs pl pu ⟨a, ys, rfl, by rw [hK]; exact e1, fun hw => ?_, fun _ p hp => z.tup S (cut_rep t) hp⟩
    refine z.here S (.tup e1 ?_)
    have t2 := cut_rep (lo := lo) (hi := hi) t
    have e3 : L2.cutV ys lo hi = ys := by
      unfold L2.cutV
      rw [hw.1, hw.2]
      simp
    rw [e3] at t2
    exact t2
  · obtain ⟨a, ys, rfl, e1, t⟩ := rp.lst
    exact L2.sl_list pins s σ H _ v vl vu lo hi sl Q I rx hs pl pu ⟨a, ys, rfl, SqL.of e1, fun p hp => z.lst S (cut_rep t) hp⟩
  · obtain ⟨a, ys, rfl, e1, t⟩ := rp.scr
    exact L2.sl_list pins s σ H _ v vl vu lo hi sl Q I rx hs pl pu ⟨a, ys, rfl, by rw [hK]; exact e1, fun p hp => z.lst S (cut_rep t) hp⟩
/-! ### isinstance -/
def tyN : Ty → String
  | .int => "int"
  | .bool => "bool"
  | .tuple => "tuple"
  | .str => "str"
  | .list => "list"
theorem kit_all : ∀ (t : Ty), (L2.kitB "NoneType" (tyN t) = some false) ∧ (L2.kitB "bool" (tyN t) = some (decide (t = .int ∨ t = .bool))) ∧ (L2.kitB "int" (tyN t) = some (decide (t = .int))) ∧ (L2.kitB "str" (tyN t) = some (decide (t = .str))) ∧
    (L2.kitB "tuple" (tyN t) = some (decide (t = .tuple))) ∧ (L2.kitB "list" (tyN t) = some (decide (t = .list)))
  | .int => by decide +kernel
  | .bool => by decide +kernel
  | .tuple => by decide +kernel
  | .str => by decide +kernel
  | .list => by decide +kernel
def rIs (A : Ad) (t : Ty) : V → Hp → VK → Prop := fun x H Q => ∃ B m h p b, Sim A B m h H ∧ Rw A (Xc B m h) H p x ∧ isB p t = some b ∧ Q (.bl b) H
theorem rIs_isi {K : PySem.W.Frag} (hK : K = A.K) {t : Ty} {x : V} {H : Hp} {Q : VK} (z : rIs A t x H Q) : L2.rIsi K [x, .ty (tyN t)] H Q := by
  obtain ⟨B, m, h, p, b, S, rp, e, k⟩ := z
  subst hK
  obtain ⟨k1, k2, k3, k4, k5, k6⟩ := kit_all t
  cases p with
  | non =>
    cases rp.non
    refine ⟨_, _, _, _, false, rfl, .ty _, .base .non, L2.kit_ty k1, ?_⟩
    have : b = false := by cases t <;> simp [isB, tyOf] at e <;> exact e
    rw [← this]; exact k
  | bl y =>
    cases rp.bl
    refine ⟨_, _, _, _, _, rfl, .ty _, .base (.bl _), L2.kit_ty k2, ?_⟩
    have : b = decide (t = .int ∨ t = .bool) := by cases t <;> simp [isB, tyOf] at e <;> simp [e]
    rw [← this]; exact k
  | int y =>
    cases rp.int
    refine ⟨_, _, _, _, _, rfl, .ty _, .base (.int _), L2.kit_ty k3, ?_⟩
    have : b = decide (t = .int) := by cases t <;> simp [isB, tyOf] at e <;> simp [e]
    rw [← this]; exact k
  | str y =>
    cases rp.str
    refine ⟨_, _, _, _, _, rfl, .ty _, .base (.str _), L2.kit_ty k4, ?_⟩
    have : b = decide (t = .str) := by cases t <;> simp [isB, tyOf] at e <;> simp [e]
    rw [← this]; exact k
  | tup y =>
    have eb : b = decide (t = .tuple) := by cases t <;> simp [isB, tyOf] at e <;> simp [e]
    rw [eb] at k
    obtain ⟨a, ys, rfl, e1, _⟩ := rp.tup
    rcases e1 with (e1 | ⟨o, e1⟩) | ⟨o, its, n, e1, e2, _⟩
    · exact ⟨_, _, _, _, _, rfl, .ty _, .base (.tup e1), L2.kit_ty k5, k⟩
    · exact ⟨_, _, _, _, _, rfl, .ty _, .fTuple e1, L2.kit_ty k5, k⟩
    · exact ⟨_, _, _, _, _, rfl, .ty _, .kTuple e1 e2, L2.kit_ty k5, k⟩
  | lst y =>
    have eb : b = decide (t = .list) := by cases t <;> simp [isB, tyOf] at e <;> simp [e]
    rw [eb] at k
    obtain ⟨a, ys, rfl, e1, _⟩ := rp.lst
    exact ⟨_, _, _, _, _, rfl, .ty _, .base (.lst e1), L2.kit_ty k6, k⟩
  | fn _ => simp [isB] at e
  | obj _ => simp [isB] at e
  | scr _ => simp [isB] at e
end
end G43
set_option Elab.async false
set_option linter.all false
set_option maxRecDepth 100000
set_option maxHeartbeats 4000000
namespace G43
open PySem
open L2 (V HO Hp SqL SqT Rd upd upd_same upd_ne Cx OpR R2 VK CallR IxR SlR TE TA TS TT PE PA PS PSs PT XK Sp Room Vals)
open PySem.Spec PyProof.Rows
/-! ### a def that keeps a promise where no repr is under way -/
structure FnG (Pr : Program) (w : World) (K : PySem.W.Frag) (mg : Str → Option Value) (base : Heap) (k : Nat) (f : Addr) (fd : FuncData) (ps : List Str) (sp : Sp) : Prop where
  len : ∀ vs H Q E, sp vs H Q E → vs.length = ps.length
  run : ∀ (Ar : Around) (outer : List PySem.Env) (s : Shared) (H : Hp) (args : Args) (us : List Value) (vs : List V) (Q : VK) (E : XK), Ar.guards = some [] → Room k Ar → L2.Env0 Pr w K mg base Ar outer s H →
    BindsTo s fd args (ps.zip us) → Vals vs us → sp vs H Q E → codeAny (model Pr w) Ar (.call (.ref f) args) (L2.CR (L2.CX Pr w) outer Pr w H s Q E) s
theorem FnG.mono {Pr : Program} {w : World} {K : PySem.W.Frag} {mg : Str → Option Value} {base : Heap} {j k : Nat} {f : Addr} {fd : FuncData} {ps : List Str} {sp : Sp} (F : FnG Pr w K mg base j f fd ps sp) (h : j ≤ k) : FnG Pr w K mg base k f fd ps sp :=
  ⟨F.len, fun Ar outer s H args us vs Q E g r => F.run Ar outer s H args us vs Q E g (r.mono h)⟩
theorem guards_deeper (Ar : Around) (env : PySem.Env) : (Ar.deeper env).guards = Ar.guards := by
  cases hg : Ar.guards <;> simp [Around.deeper, hg]
/-- by the body -/
theorem fng_of {Pr : Program} {w : World} {K : PySem.W.Frag} {mg : Str → Option Value} {base : Heap} {k : Nat} {f : Addr} {x qual : Str} {params : Arguments} {body : List Stmt} {scope : Scope} {dvs : List V} {kws : List (Str × V)} {fd : FuncData} {N ps : List Str} {sp : Sp}
    (F : L2.FunD K x qual params body scope dvs kws f fd) (S : L2.FnScope N ps scope) (len : ∀ vs H Q E, sp vs H Q E → vs.length = ps.length)
    (hb : ∀ (cdv : Value) (Ar : Around) (outer : List PySem.Env) (s : Shared) (H : Hp) (vs : List V) (Q : VK) (E : XK), Ar.guards = some [] → Room k (Ar.deeper (envOfC qual scope s.heap.objs.size f cdv)) → sp vs H Q E →
      ∃ t, PSs (L2.cxOf (L2.CX Pr w) Pr w K mg base N qual scope f cdv Ar outer s H E) body t ∧ t { nx := fun _ H' => Q .non H', rt := Q } (L2.start N vs) H) : FnG Pr w K mg base (k + 1) f fd ps sp := by
  obtain ⟨oc, od, dV, kV, doc, pm, an, cdv, ct, osl, rfl, lk, hcd, -, -⟩ := F.ex
  refine ⟨len, ?_⟩
  intro Ar outer s H args us vs Q E hg hr e0 hbd r hsp
  have hl := len _ _ _ _ hsp
  have kept : ∀ b o, base.get? b = some o → s.heap.get? b = some o := fun b o e => (e0.bs b o e).1
  have KX : K.In s.heap := e0.mod.kin.keeps kept
  have lim : s.heap.NoLimit := e0.mod.nolimit.keeps kept
  have hk : ∀ y ∈ ps.zip us, scope.names.lookup y.1 = some .local ∨ (scope.names.lookup y.1 = some .cell ∧ ((cellsFrom (s.heap.objs.size + 1) scope.names []).lookup y.1).isSome = true) := by
    rintro ⟨n, v⟩ hy
    exact (S.par n (List.of_mem_zip hy).1).imp id fun q => ⟨q, PySem.W.cellsFrom_some _ _ _ (.inl q)⟩
  refine codeAny_call_function hr.depth (KX _ _ lk) rfl S.co S.gen rfl (PySem.W.codeRec_of KX hcd) (hbd _ _ _ _ ?_)
  refine wpAny_newFunctionEnv_cells S.kind hk ?_
  rintro env rfl s1 x
  refine ⟨lim.keeps x.toInCall.keep, codeAny_func ?_⟩
  obtain ⟨t, ht, hq⟩ := hb cdv Ar outer s H vs Q E hg (hr.deeper _) hsp
  refine wpAny_mono (ht.run [] s1 (L2.start N vs) H _ (L2.inv_start S hr.hd e0 hl r x) hq) (fun fl s' hs => ?_) (fun _ _ z => z)
  rcases fl with _ | _ | _ | u
  · obtain ⟨σ', H', J, q⟩ := hs
    exact ⟨V.non, H', J.os, J.bare, J.base, J.hok, rfl, q⟩
  · obtain ⟨_, _, _, q⟩ := hs
    exact q.elim
  · obtain ⟨_, _, _, q⟩ := hs
    exact q.elim
  · obtain ⟨v, σ', H', J, rv, q⟩ := hs
    exact ⟨v, H', J.os, J.bare, J.base, J.hok, rv, q⟩
section
variable {X : Cx}
/-- called from a body -/
theorem runG {k : Nat} {f : Addr} {fd : FuncData} {ps : List Str} {sp : Sp} {dvs : List V} {ds : List Value} {W : XK} {pins : List (Addr × Obj)} {σ : L2.St} {H : Hp} {s : Shared} {Q : VK} {us : List Value} {vs : List V}
    (F : FnG X.prog X.w X.K X.mg X.base k f fd ps sp) (hg : X.A.guards = some []) (hr : Room k X.A) (hb : L2.Binds X.K fd ps ds) (hd : Vals dvs ds) (tk : L2.Takes X fun c d _ H => W c d H)
    (I : L2.Inv X pins σ H s) (r : Vals vs us) (h : sp (vs ++ dvs) H Q W) : wpAny (model X.prog X.w) X.A (call (.ref f) us) (L2.EP X pins σ Q) X.xe s := by
  have r2 := L2.Vals.append r hd
  have hl : (us ++ ds).length = ps.length := by
    rw [← L2.Vals.length r2]
    exact F.len _ _ _ _ h
  refine wpAny_call (codeAny_mono (F.run X.A X.stack s H ⟨us, []⟩ _ _ Q W hg hr I.env0 (hb s us I.kIn hl) r2 h) ?_)
  rintro (e | fl) s' hq
  · exact L2.passAt tk σ pins H s e s' I hq
  · rcases fl with _ | _ | _ | u
    · exact hq.elim
    · exact hq.elim
    · exact hq.elim
    · exact I.after hq
end
/-! ### names -/
def visB (sc : Scope) (x : Str) : Bool := match sc.names.lookup x with
  | some .local => true
  | some .cell => true
  | some .free => true
  | _ => false
def gloB (sc : Scope) (x : Str) : Bool := match sc.names.lookup x with
  | some .globalImplicit => true
  | _ => false
def stoB (sc : Scope) (x : Str) : Bool := match sc.names.lookup x with
  | some .local => true
  | some .cell => true
  | _ => false
def odd (x : Str) : Bool := x == ("__debug__" : Str) || x == ("__classdict__" : Str) || x == ("__name__" : Str)
theorem visB_ok {sc : Scope} {x : Str} (h : visB sc x = true) : L2.Vis sc x := by
  unfold visB at h
  split at h
  · exact .inl (by assumption)
  · exact .inr (.inl (by assumption))
  · exact .inr (.inr (by assumption))
  · cases h
theorem gloB_ok {sc : Scope} {x : Str} (h : gloB sc x = true) : sc.names.lookup x = some .globalImplicit := by
  unfold gloB at h
  split at h
  · assumption
  · cases h
theorem stoB_ok {sc : Scope} {x : Str} (h : stoB sc x = true) : sc.names.lookup x = some .local ∨ sc.names.lookup x = some .cell := by
  unfold stoB at h
  split at h
  · exact .inl (by assumption)
  · exact .inr (by assumption)
  · cases h
theorem odd_ok {x : Str} (h : odd x = false) : (x == ("__debug__" : Str)) = false ∧ (x == ("__classdict__" : Str)) = false ∧ x ≠ "__name__" := by
  unfold odd at h
  rw [Bool.or_eq_false_iff, Bool.or_eq_false_iff] at h
  exact ⟨h.1.1, h.1.2, fun e => by rw [e] at h; simp at h⟩
/-! ### promises -/
def RpX (A : Ad) (B : Addr → Prop) (m : List Addr) (h : Hs) (H : Hp) (x : XV) (cls : Value) (d : Option Addr) : Prop := cls = .ref (A.CA x.cls) ∧ x.flds = [] ∧ d = none
def Kv (A : Ad) (B : Addr → Prop) (m : List Addr) (h : Hs) (H : Hp) (Q : VK) : QV := fun v h' => ∀ m' H' w, Sim A B m' h' H' → Mv m h H m' h' H' → RpR A B m' h' H' v w → Q w H'
def Kx (A : Ad) (B : Addr → Prop) (m : List Addr) (h : Hs) (H : Hp) (W : XK) : QX := fun x h' => ∀ m' H' cls d, Sim A B m' h' H' → Mv m h H m' h' H' → RpX A B m' h' H' x cls d → W cls d H'
theorem Kx.move {A : Ad} {B : Addr → Prop} {m m1 : List Addr} {h h1 : Hs} {H H1 : Hp} {W : XK} (M : Mv m h H m1 h1 H1) : ∀ x h', Kx A B m h H W x h' → Kx A B m1 h1 H1 W x h' := fun x h' k m' H' cls d S M' r => k m' H' cls d S (M.trans M') r
theorem Kv.move {A : Ad} {B : Addr → Prop} {m m1 : List Addr} {h h1 : Hs} {H H1 : Hp} {Q : VK} (M : Mv m h H m1 h1 H1) : ∀ x h', Kv A B m h H Q x h' → Kv A B m1 h1 H1 Q x h' := fun x h' k m' H' w S M' r => k m' H' w S (M.trans M') r
/-- the promise of a def, as the language has it -/
def spC (A : Ad) (C : CallT) (f : Nat) : Sp := fun vs H Q E => ∃ B m h args, Sim A B m h H ∧ RpRs A B m h H args vs ∧ C f args h (Kv A B m h H Q) (Kx A B m h H E)
/-- defaults -/
def dfV : PV → Option V
  | .non => some .non
  | .int i => some (.int i)
  | .bl b => some (.bl b)
  | _ => none
theorem dfV_rep {A : Ad} {L : Addr → Prop} {H : Hp} {p : PV} {v : V} (e : dfV p = some v) : Rp A L H p v := by
  cases p <;> simp [dfV] at e <;> subst e <;> constructor
/-- a def of the text: where it stands, how it is called with the defaults dv -/
structure DefAt (A : Ad) (C : CallT) (X : Cx) (f : Nat) (df : Df) : Prop where
  nm : X.mg df.name = some (.ref (A.F f))
  kp : PySem.W.keepIn X.K (.ref (A.F f)) = true
  fn : ∃ (k : Nat) (fd : FuncData) (ps : List Str), FnG X.prog X.w X.K X.mg X.base k (A.F f) fd ps (spC A C f) ∧ Room k X.A ∧ ps.length = df.npar ∧
    ∀ n, n ≤ df.dfl.length → ∃ dvs ds, (df.dfl.drop n).mapM dfV = some dvs ∧ Vals dvs ds ∧ L2.Binds X.K fd ps ds
structure Ctx (A : Ad) (P : Pg) (C : CallT) (N : List Str) (sc ss : Scope) (W : XK) (X : Cx) : Prop where
  eK : X.K = A.K
  eS : X.env.scope = sc
  eN : X.N = N
  kd : sc.kind = .function
  nd : N.Nodup
  calm : X.calm = true
  un : X.A.units + 65 < cLine
  gd : X.A.guards = some []
  tk : L2.Takes X fun c d _ H => W c d H
  po : PassesOwn (model X.prog X.w) X.A X.env X.xe
  st : ∀ x, stoB ss x = true → L2.Loc sc x ∧ (X.fn x = true ∨ sc.names.lookup x = some .local)
  cal : ∀ (f : Nat) (df : Df), P.defs[f]? = some df → DefAt A C X f df
  con : ∀ (g : Nat) (x : Str) (p : PV), P.cons[g]? = some (x, p) → ∃ u v, X.mg x = some u ∧ L2.RelV v u ∧ ∀ L H, Rp A L H p v
  blt : ∀ x ∈ P.blt, X.mg x = none
end G43
set_option Elab.async false
set_option linter.all false
set_option maxRecDepth 100000
set_option maxHeartbeats 4000000
namespace G43
open PySem
open L2 (V HO Hp SqL SqT Rd upd upd_same upd_ne Cx OpR R2 VK CallR IxR SlR TE TA TS TT PE PA PS PSs PT XK Sp Room Vals)
open PySem.Spec PyProof.Rows
/-! ### does a text say what the small language says? -/
def biN : BI → Str
  | .len => "len"
  | .abs => "abs"
  | .max => "max"
  | .int => "int"
  | .tuple => "tuple"
  | .list => "list"
  | .all => "all"
  | .any => "any"
  | .repr => "repr"
  | .str => "str"
  | .sorted => "sorted"
  | .sum => "sum"
  | .bool => "bool"
  | .set => "set"
def cstB : PV → Const → Bool
  | .non, .none => true
  | .bl a, .bool b => a == b
  | .int i, .int j => decide (i = j)
  | .str x, .str y => decide (x = y)
  | _, _ => false
def noStar : Expr → Bool
  | .Starred _ _ => false
  | _ => true
def noSlice : Expr → Bool
  | .Slice _ _ _ _ => false
  | _ => true
def noSet : Expr → Bool
  | .Set _ _ _ => false
  | _ => true
def samD : PV → PV → Bool
  | .non, .non => true
  | .int i, .int j => decide (i = j)
  | .bl i, .bl j => i == j
  | _, _ => false
def samDs : List PV → List PV → Bool
  | [], [] => true
  | x :: xs, y :: ys => samD x y && samDs xs ys
  | _, _ => false
mutual
def mG (N : List Str) (ss : Scope) : Tg → Expr → Bool
  | .nm i, .Name x _ => decide (N[i]? = some x) && stoB ss x
  | .nil, .Tuple [] _ _ => true
  | .cons a r, .Tuple (e :: es) _ _ => mG N ss a e && noStar e && mGL N ss r es
  | _, _ => false
def mGL (N : List Str) (ss : Scope) : Tg → List Expr → Bool
  | .nil, [] => true
  | .cons a r, e :: es => mG N ss a e && noStar e && mGL N ss r es
  | _, _ => false
end
def itT : It → Expr → Bool
  | .zip _ _, .Tuple _ _ _ => true
  | .zip _ _, _ => false
  | _, _ => true
def ownOf (N : List Str) (tg : Tg) : List (Str × Nat) := tg.slots.map fun i => (N.getD i "", i)
theorem ownOf_slots (N : List Str) (tg : Tg) : (ownOf N tg).map (·.2) = tg.slots := by
  unfold ownOf
  rw [List.map_map]
  exact List.map_id _
section
variable (P : Pg) (N : List Str)
mutual
def mE : E → Scope → Expr → Bool
  | .var i, sc, .Name x _ => decide (N[i]? = some x) && visB sc x && !odd x
  | .cst p, _, .Constant c _ _ => cstB p c
  | .glo g, sc, .Name x _ => (match P.cons[g]? with | some q => decide (q.1 = x) | none => false) && gloB sc x && !odd x
  | .bin op a b, sc, .BinOp a' op' b' _ => decide (op = op') && mE a sc a' && mE b sc b'
  | .neg a, sc, .UnaryOp .USub a' _ => mE a sc a'
  | .nt a, sc, .UnaryOp .Not a' _ => mE a sc a'
  | .and a b, sc, .BoolOp .And [x, y] _ => mE a sc x && mE b sc y
  | .and a b, sc, .BoolOp .And (x :: y :: z :: r) p => mE a sc x && mE b sc (.BoolOp .And (y :: z :: r) p)
  | .or a b, sc, .BoolOp .Or [x, y] _ => mE a sc x && mE b sc y
  | .or a b, sc, .BoolOp .Or (x :: y :: z :: r) p => mE a sc x && mE b sc (.BoolOp .Or (y :: z :: r) p)
  | .cmp op a b, sc, .Compare a' [op'] [b'] _ => decide (op = op') && !behindInMarks op b' && mE a sc a' && mE b sc b'
  | .call f es dv, sc, .Call (.Name x _) args [] _ => (match P.defs[f]? with | some df => decide (df.name = x) && decide (es.len + dv.length = df.npar) && decide (dv.length ≤ df.dfl.length) && samDs (df.dfl.drop (df.dfl.length - dv.length)) dv | none => false) && gloB sc x && !odd x && mL es sc args
  | .bi b es, sc, .Call (.Name x _) args [] _ => decide (biN b = x) && decide (x ∈ P.blt) && gloB sc x && mL es sc args && !args.isEmpty
  | .isi a t, sc, .Call (.Name x _) [a', .Name y _] [] _ => decide (x = "isinstance") && decide (y = Str.ofString (tyN t)) && decide (x ∈ P.blt) && decide (y ∈ P.blt) && gloB sc x && gloB sc y && mE a sc a' && noStar a'
  | .idx a i, sc, .Subscript a' i' _ => noSlice i' && mE a sc a' && mE i sc i'
  | .slo a lo, sc, .Subscript a' (.Slice (some l') none none _) _ => mE a sc a' && mE lo sc l'
  | .shi a hi, sc, .Subscript a' (.Slice none (some h') none _) _ => mE a sc a' && mE hi sc h'
  | .slh a lo hi, sc, .Subscript a' (.Slice (some l') (some h') none _) _ => mE a sc a' && mE lo sc l' && mE hi sc h'
  | .tup es, sc, .Tuple es' _ _ => mL es sc es' && decide (es'.length ≤ 1000)
  | .lst es, sc, .List es' _ => mL es sc es' && decide (es'.length ≤ 1000)
  | .mls es, sc, .List es' _ => mL es sc es' && decide (es'.length ≤ 1000)
  | .mad a b, sc, .BinOp a' op' b' _ => decide (op' = .Add) && mE a sc a' && mE b sc b'
  | .comp elt tg it ifs, sc, .ListComp elt' [⟨tg', it', ifs', as⟩] scope _ => decide (as = 0) && L2.blkC N sc scope (ownOf N tg) && mG N scope tg tg' && itT it tg' && noSet it' && mI it sc it' && mTs ifs (L2.relS scope sc) ifs' && mE elt (L2.relS scope sc) elt'
  | _, _, _ => false
def mL : EL → Scope → List Expr → Bool
  | .nil, _, [] => true
  | .cons e r, sc, e' :: r' => mE e sc e' && noStar e' && mL r sc r'
  | _, _, _ => false
def mI : It → Scope → Expr → Bool
  | .seq e, sc, x => mE e sc x
  | .rng1 e, sc, .Call (.Name x _) [e'] [] _ => decide (x = "range") && decide (x ∈ P.blt) && gloB sc x && noStar e' && mE e sc e'
  | .zip a b, sc, .Call (.Name x _) [a', b'] [] _ => decide (x = "zip") && decide (x ∈ P.blt) && gloB sc x && noStar a' && noStar b' && mE a sc a' && mE b sc b'
  | _, _, _ => false
def mTs : EL → Scope → List Expr → Bool
  | .nil, _, [] => true
  | .cons e .nil, sc, [e'] => mE e sc e'
  | _, _, _ => false
end
end
theorem starEach_no {e : Expr} (h : noStar e = true) (es : List Expr) (env : PySem.Env) : starEach (e :: es) env = (false, eval e env) :: starEach es env := by
  cases e <;> first | rfl | cases h
theorem back_no (pos : Pos) (env : PySem.Env) : ∀ {es : List Expr}, es.all noStar = true → (backTo pos (starEach es env)).any (·.1) = false
  | [], _ => rfl
  | e :: es, h => by
    rw [List.all_cons, Bool.and_eq_true] at h
    rw [starEach_no h.1]
    have := back_no pos env h.2
    simpa [backTo] using this
/-! ### readings -/
section
variable (A : Ad) (P : Pg) (C : CallT) (W : XK)
def tE (e : E) : TE := fun σ H Q => ∃ B m h ρ, Sim A B m h H ∧ Sl A B m h H ρ σ ∧ wpE P C e ρ h (Kv A B m h H Q) (Kx A B m h H W)
def Kvs (A : Ad) (B : Addr → Prop) (m : List Addr) (h : Hs) (H : Hp) (Q : List V → Hp → Prop) : List RV → Hs → Prop := fun v h' => ∀ m' H' w, Sim A B m' h' H' → Mv m h H m' h' H' → RpRs A B m' h' H' v w → Q w H'
def tL (es : EL) : TA := fun σ H Q => ∃ B m h ρ, Sim A B m h H ∧ Sl A B m h H ρ σ ∧ wpL P C es ρ h (Kvs A B m h H Q) (Kx A B m h H W)
/-- as a test -/
def tQ (e : E) : TT := fun σ H Q => tE A P C W e σ H fun v H1 => ∃ c, v = .bl c ∧ Q c H1
end
section
variable {A : Ad} {P : Pg} {C : CallT} {W : XK} {B : Addr → Prop} {m : List Addr} {h : Hs} {H : Hp} {ρ : Env} {σ : L2.St}
theorem tE_of (hC : MonoC C C) {e : E} {R : QV} {T : VK} (S : Sim A B m h H) (s : Sl A B m h H ρ σ) (z : wpE P C e ρ h R (Kx A B m h H W))
    (k : ∀ v h1 m1 H1 w, R v h1 → Sim A B m1 h1 H1 → Mv m h H m1 h1 H1 → RpR A B m1 h1 H1 v w → T w H1) : tE A P C W e σ H T :=
  ⟨B, m, h, ρ, S, s, wpE_mono hC e (fun v h1 r m1 H1 w S1 M1 q => k v h1 m1 H1 w r S1 M1 q) (fun _ _ z => z) z⟩
theorem tL_of (hC : MonoC C C) {es : EL} {R : List RV → Hs → Prop} {T : List V → Hp → Prop} (S : Sim A B m h H) (s : Sl A B m h H ρ σ) (z : wpL P C es ρ h R (Kx A B m h H W))
    (k : ∀ v h1 m1 H1 w, R v h1 → Sim A B m1 h1 H1 → Mv m h H m1 h1 H1 → RpRs A B m1 h1 H1 v w → T w H1) : tL A P C W es σ H T :=
  ⟨B, m, h, ρ, S, s, wpL_mono hC es (fun v h1 r m1 H1 w S1 M1 q => k v h1 m1 H1 w r S1 M1 q) (fun _ _ z => z) z⟩
/-- the next expression, behind another -/
theorem wpE_next (hC : MonoC C C) {e : E} {R : QV} {m1 : List Addr} {h1 : Hs} {H1 : Hp} (M : Mv m h H m1 h1 H1) (z : wpE P C e ρ h1 R (Kx A B m h H W)) : wpE P C e ρ h1 R (Kx A B m1 h1 H1 W) :=
  wpE_mono hC e (fun _ _ q => q) (Kx.move M) z
theorem wpL_next (hC : MonoC C C) {e : EL} {R : List RV → Hs → Prop} {m1 : List Addr} {h1 : Hs} {H1 : Hp} (M : Mv m h H m1 h1 H1) (z : wpL P C e ρ h1 R (Kx A B m h H W)) : wpL P C e ρ h1 R (Kx A B m1 h1 H1 W) :=
  wpL_mono hC e (fun _ _ q => q) (Kx.move M) z
theorem PE_imp {X : Cx} {e : Expr} {t t' : TE} (p : PE X e t) (i : ∀ σ H Q, t' σ H Q → t σ H Q) : PE X e t' := ⟨fun pins s σ H Q I z => p.run pins s σ H Q I (i σ H Q z)⟩
theorem PT_imp {X : Cx} {e : Expr} {t t' : TT} (p : PT X e t) (i : ∀ σ H Q, t' σ H Q → t σ H Q) : PT X e t' := ⟨fun pins s σ H Q I z => p.run pins s σ H Q I (i σ H Q z)⟩
theorem PA_imp {X : Cx} {e : List Expr} {t t' : TA} (p : PA X e t) (i : ∀ σ H Q, t' σ H Q → t σ H Q) : PA X e t' := ⟨fun pos pins s σ H Q I z => p.run pos pins s σ H Q I (i σ H Q z)⟩
theorem Kp_of {Q : VK} {m1 : List Addr} {h1 : Hs} {H1 : Hp} (M : Mv m h H m1 h1 H1) {p : PV} (k : Kv A B m h H Q (.pv p) h1) : Kp A B m1 h1 H1 Q p := fun H' v S M' r => k m1 H' v S (M.trans M') r
end
end G43
set_option Elab.async false
set_option linter.all false
set_option maxRecDepth 100000
set_option maxHeartbeats 4000000
namespace G43
open PySem
open L2 (V HO Hp SqL SqT Rd upd upd_same upd_ne Cx OpR R2 VK CallR IxR SlR TE TA TS TT PE PA PS PSs PT XK Sp Room Vals)
open PySem.Spec PyProof.Rows
section
variable {A : Ad} {P : Pg} {C : CallT} {N : List Str} {sc ss : Scope} {W : XK} {X : Cx}
/-! ### one by one -/
theorem s_var (cx : Ctx A P C N sc ss W X) {i : Nat} {x : Str} {pos : Pos} (hN : N[i]? = some x) (hv : visB sc x = true) (ho : odd x = false) : PE X (.Name x pos) (tE A P C W (.var i)) := by
  obtain ⟨o1, o2, o3⟩ := odd_ok ho
  refine PE_imp (L2.pe_var (i := i) (by rw [cx.eN]; exact hN) (by rw [cx.eS]; exact visB_ok hv) o1 o2) fun σ H Q z => ?_
  obtain ⟨B, m, h, ρ, S, s, z⟩ := z
  unfold wpE at z
  obtain ⟨v, e, k⟩ := z
  obtain ⟨w, e1, r⟩ := s.at_ i v e
  exact ⟨w, e1, k m H w S (Mv.refl _ _ _) r⟩
theorem s_cst {p : PV} {c : Const} {j : Nat} {pos : Pos} (hc : cstB p c = true) : PE X (.Constant c j pos) (tE A P C W (.cst p)) := by
  have fin : ∀ {v : V}, (∀ L H, Rp A L H p v) → PE X (.Constant c j pos) (L2.tC v) → PE X (.Constant c j pos) (tE A P C W (.cst p)) := fun {v} r q => PE_imp q fun σ H Q z => by
    obtain ⟨B, m, h, ρ, S, s, z⟩ := z
    unfold wpE at z
    exact z m H v S (Mv.refl _ _ _) (r _ _)
  unfold cstB at hc
  split at hc
  · exact fin (fun _ _ => .non) L2.pe_non
  · cases eq_of_beq hc
    exact fin (fun _ _ => .bl _) L2.pe_bl
  · cases of_decide_eq_true hc
    exact fin (fun _ _ => .int _) L2.pe_int
  · cases of_decide_eq_true hc
    exact fin (fun _ _ => .str _) L2.pe_str
  · cases hc
theorem s_glo (cx : Ctx A P C N sc ss W X) {g : Nat} {x : Str} {p : PV} {pos : Pos} (hg : P.cons[g]? = some (x, p)) (hv : gloB sc x = true) (ho : odd x = false) : PE X (.Name x pos) (tE A P C W (.glo g)) := by
  obtain ⟨o1, o2, o3⟩ := odd_ok ho
  obtain ⟨u, v, e1, e2, e3⟩ := cx.con g x p hg
  refine PE_imp (L2.pe_glob (v := v) (show X.env.scope.names.lookup x = _ by rw [cx.eS]; exact gloB_ok hv) e1 e2 o1) fun σ H Q z => ?_
  obtain ⟨B, m, h, ρ, S, s, z⟩ := z
  unfold wpE at z
  obtain ⟨y, q, e4, k⟩ := z
  rw [hg] at e4
  cases e4
  exact k m H v S (Mv.refl _ _ _) (e3 _ _)
variable (hC : MonoC C C)
include hC
theorem s_bin (cx : Ctx A P C N sc ss W X) {op : Operator} {a b : E} {a' b' : Expr} {pos : Pos} (ha : PE X a' (tE A P C W a)) (hb : PE X b' (tE A P C W b)) : PE X (.BinOp a' op b' pos) (tE A P C W (.bin op a b)) := by
  refine PE_imp (L2.pe_op (op_bin cx.eK op) ha hb) fun σ H Q z => ?_
  obtain ⟨B, m, h, ρ, S, s, z⟩ := z
  unfold wpE at z
  refine tE_of hC S s z fun v h1 m1 H1 w q S1 M1 r1 => ?_
  refine tE_of hC S1 (s.move S M1) (wpE_next hC M1 q) fun v2 h2 m2 H2 w2 q2 S2 M2 r2 => ?_
  obtain ⟨p, p2, e1, e2, k⟩ := q2
  exact ⟨B, m2, h2, p, p2, S2, (r1.move S1 M2).rw S2 e1, r2.rw S2 e2, wpBin_mono (fun r k => Kp_of (M1.trans M2) k) k⟩
theorem s_neg {a : E} {a' : Expr} {pos : Pos} (ha : PE X a' (tE A P C W a)) : PE X (.UnaryOp .USub a' pos) (tE A P C W (.neg a)) := by
  refine PE_imp (L2.pe_un L2.un_neg ha) fun σ H Q z => ?_
  obtain ⟨B, m, h, ρ, S, s, z⟩ := z
  unfold wpE at z
  refine tE_of hC S s z fun v h1 m1 H1 w q S1 M1 r1 => ?_
  obtain ⟨i, rfl, k⟩ := q
  cases r1
  exact ⟨i, rfl, k m1 H1 _ S1 M1 (.int _)⟩
theorem s_nt {a : E} {a' : Expr} {pos : Pos} (ha : PE X a' (tE A P C W a)) : PE X (.UnaryOp .Not a' pos) (tE A P C W (.nt a)) := by
  refine PE_imp (L2.pe_not ha) fun σ H Q z => ?_
  obtain ⟨B, m, h, ρ, S, s, z⟩ := z
  unfold wpE at z
  refine tE_of hC S s z fun v h1 m1 H1 w q S1 M1 r1 => ?_
  obtain ⟨c, rfl, k⟩ := q
  cases r1
  exact ⟨c, rfl, k m1 H1 _ S1 M1 (.bl _)⟩
theorem i_and {a b : E} : ∀ σ H Q, tE A P C W (.and a b) σ H Q → L2.tAndV (tE A P C W a) (tE A P C W b) σ H Q := fun σ H Q z => by
  obtain ⟨B, m, h, ρ, S, s, z⟩ := z
  unfold wpE at z
  refine tE_of hC S s z fun v h1 m1 H1 w q S1 M1 r1 => ?_
  obtain ⟨c, rfl, k⟩ := q
  cases r1
  refine ⟨c, rfl, ?_⟩
  cases c with
  | true =>
    rw [if_pos rfl] at k ⊢
    exact tE_of hC S1 (s.move S M1) (wpE_next hC M1 k) fun v2 h2 m2 H2 w2 q2 S2 M2 r2 => q2 m2 H2 w2 S2 (M1.trans M2) r2
  | false =>
    rw [if_neg Bool.false_ne_true] at k ⊢
    exact k m1 H1 _ S1 M1 (.bl _)
theorem i_or {a b : E} : ∀ σ H Q, tE A P C W (.or a b) σ H Q → L2.tOrV (tE A P C W a) (tE A P C W b) σ H Q := fun σ H Q z => by
  obtain ⟨B, m, h, ρ, S, s, z⟩ := z
  unfold wpE at z
  refine tE_of hC S s z fun v h1 m1 H1 w q S1 M1 r1 => ?_
  obtain ⟨c, rfl, k⟩ := q
  cases r1
  refine ⟨c, rfl, ?_⟩
  cases c with
  | true =>
    rw [if_pos rfl] at k ⊢
    exact k m1 H1 _ S1 M1 (.bl _)
  | false =>
    rw [if_neg Bool.false_ne_true] at k ⊢
    exact tE_of hC S1 (s.move S M1) (wpE_next hC M1 k) fun v2 h2 m2 H2 w2 q2 S2 M2 r2 => q2 m2 H2 w2 S2 (M1.trans M2) r2
theorem i_cmp {op : CmpOp} {a b : E} : ∀ σ H Q, tE A P C W (.cmp op a b) σ H Q → L2.tOp (rC A op) (tE A P C W a) (tE A P C W b) σ H Q := fun σ H Q z => by
  obtain ⟨B, m, h, ρ, S, s, z⟩ := z
  unfold wpE at z
  refine tE_of hC S s z fun v h1 m1 H1 w q S1 M1 r1 => ?_
  refine tE_of hC S1 (s.move S M1) (wpE_next hC M1 q) fun v2 h2 m2 H2 w2 q2 S2 M2 r2 => ?_
  obtain ⟨p, p2, e1, e2, k⟩ := q2
  exact ⟨B, m2, h2, p, p2, S2, (r1.move S1 M2).rw S2 e1, r2.rw S2 e2, wpCmp_mono (fun r k => k m2 H2 _ S2 (M1.trans M2) (.bl _)) k⟩
theorem s_idx (cx : Ctx A P C N sc ss W X) {a i : E} {a' i' : Expr} {pos : Pos} (hs : noSlice i' = true) (ha : PE X a' (tE A P C W a)) (hb : PE X i' (tE A P C W i)) : PE X (.Subscript a' i' pos) (tE A P C W (.idx a i)) := by
  refine PE_imp (L2.pe_ix (ix_ok cx.eK) ha hb (fun o i => by cases i' <;> first | rfl | cases hs)) fun σ H Q z => ?_
  obtain ⟨B, m, h, ρ, S, s, z⟩ := z
  unfold wpE at z
  refine tE_of hC S s z fun v h1 m1 H1 w q S1 M1 r1 => ?_
  refine tE_of hC S1 (s.move S M1) (wpE_next hC M1 q) fun v2 h2 m2 H2 w2 q2 S2 M2 r2 => ?_
  obtain ⟨p, p2, e1, e2, k⟩ := q2
  subst e2
  exact ⟨B, m2, h2, p, p2, S2, (r1.move S1 M2).rw S2 e1, .p r2, wpIx_mono (fun r k => Kp_of (M1.trans M2) k) k⟩
theorem s_slo (cx : Ctx A P C N sc ss W X) {a lo : E} {a' l' : Expr} {p2 pos : Pos} (ha : PE X a' (tE A P C W a)) (hb : PE X l' (tE A P C W lo)) : PE X (.Subscript a' (.Slice (some l') none none p2) pos) (tE A P C W (.slo a lo)) := by
  refine PE_imp (L2.pe_slice (sl_ok cx.eK) ha (L2.po_some hb) L2.po_none) fun σ H Q z => ?_
  obtain ⟨B, m, h, ρ, S, s, z⟩ := z
  unfold wpE at z
  refine tE_of hC S s z fun v h1 m1 H1 w q S1 M1 r1 => ?_
  refine tE_of hC S1 (s.move S M1) (wpE_next hC M1 q) fun v2 h2 m2 H2 w2 q2 S2 M2 r2 => ?_
  obtain ⟨p, i, e1, e2, k⟩ := q2
  subst e2
  cases r2
  exact ⟨i, rfl, B, m2, h2, p, S2, (r1.move S1 M2).rw S2 e1, wpSl_mono (fun r k => Kp_of (M1.trans M2) k) k⟩
theorem s_shi (cx : Ctx A P C N sc ss W X) {a hi : E} {a' l' : Expr} {p2 pos : Pos} (ha : PE X a' (tE A P C W a)) (hb : PE X l' (tE A P C W hi)) : PE X (.Subscript a' (.Slice none (some l') none p2) pos) (tE A P C W (.shi a hi)) := by
  refine PE_imp (L2.pe_slice (sl_ok cx.eK) ha L2.po_none (L2.po_some hb)) fun σ H Q z => ?_
  obtain ⟨B, m, h, ρ, S, s, z⟩ := z
  unfold wpE at z
  refine tE_of hC S s z fun v h1 m1 H1 w q S1 M1 r1 => ?_
  refine tE_of hC S1 (s.move S M1) (wpE_next hC M1 q) fun v2 h2 m2 H2 w2 q2 S2 M2 r2 => ?_
  obtain ⟨p, i, e1, e2, k⟩ := q2
  subst e2
  cases r2
  exact ⟨i, rfl, B, m2, h2, p, S2, (r1.move S1 M2).rw S2 e1, wpSl_mono (fun r k => Kp_of (M1.trans M2) k) k⟩
theorem s_slh (cx : Ctx A P C N sc ss W X) {a lo hi : E} {a' l' h' : Expr} {p2 pos : Pos} (ha : PE X a' (tE A P C W a)) (hb : PE X l' (tE A P C W lo)) (hc : PE X h' (tE A P C W hi)) :
    PE X (.Subscript a' (.Slice (some l') (some h') none p2) pos) (tE A P C W (.slh a lo hi)) := by
  refine PE_imp (L2.pe_slice (sl_ok cx.eK) ha (L2.po_some hb) (L2.po_some hc)) fun σ H Q z => ?_
  obtain ⟨B, m, h, ρ, S, s, z⟩ := z
  unfold wpE at z
  refine tE_of hC S s z fun v h1 m1 H1 w q S1 M1 r1 => ?_
  refine tE_of hC S1 (s.move S M1) (wpE_next hC M1 q) fun v2 h2 m2 H2 w2 q2 S2 M2 r2 => ?_
  obtain ⟨i, e2, q2⟩ := q2
  subst e2
  cases r2
  refine ⟨i, rfl, ?_⟩
  refine tE_of hC S2 ((s.move S M1).move S1 M2) (wpE_next hC (M1.trans M2) q2) fun v3 h3 m3 H3 w3 q3 S3 M3 r3 => ?_
  obtain ⟨p, l, e1, e3, k⟩ := q3
  subst e3
  cases r3
  exact ⟨l, rfl, B, m3, h3, p, S3, ((r1.move S1 M2).move S2 M3).rw S3 e1, wpSl_mono (fun r k => Kp_of ((M1.trans M2).trans M3) k) k⟩
theorem s_nil : PA X [] (tL A P C W .nil) := PA_imp L2.pa_nil fun σ H Q z => by
  obtain ⟨B, m, h, ρ, S, s, z⟩ := z
  unfold wpL at z
  exact z m H [] S (Mv.refl _ _ _) .nil
theorem s_cons {e : E} {es : EL} {e' : Expr} {es' : List Expr} (hn : noStar e' = true) (h1 : PE X e' (tE A P C W e)) (h2 : PA X es' (tL A P C W es)) : PA X (e' :: es') (tL A P C W (.cons e es)) := by
  refine PA_imp (L2.pa_cons h1 h2 (starEach_no hn _ _)) fun σ H Q z => ?_
  obtain ⟨B, m, h, ρ, S, s, z⟩ := z
  unfold wpL at z
  refine tE_of hC S s z fun v h1 m1 H1 w q S1 M1 r1 => ?_
  refine tL_of hC S1 (s.move S M1) (wpL_next hC M1 q) fun vs h2 m2 H2 ws q2 S2 M2 r2 => ?_
  exact q2 m2 H2 _ S2 (M1.trans M2) (.cons (r1.move S1 M2) r2)
theorem line_of {n : Nat} (h : n ≤ 1000) : n ≤ sizeLine := Nat.le_trans h (by decide)
theorem s_tup {es : EL} {es' : List Expr} {k : Nat} {pos : Pos} (hz : es.len ≤ 1000) (ha : PA X es' (tL A P C W es)) : PE X (.Tuple es' k pos) (tE A P C W (.tup es)) := by
  refine PE_imp (L2.pe_tup ha) fun σ H Q z => ?_
  obtain ⟨B, m, h, ρ, S, s, z⟩ := z
  unfold wpE at z
  refine tL_of hC S s (wpL_len hC hC es z) fun v h1 m1 H1 w q S1 M1 r1 => ?_
  obtain ⟨hl, ps, e, k⟩ := q
  subst e
  exact ⟨by rw [r1.length, hl]; exact line_of hC hz, fun p hp => Kp.tup S1 (Kp_of M1 k) r1.pvs hp⟩
theorem s_lst {es : EL} {es' : List Expr} {pos : Pos} (hz : es.len ≤ 1000) (ha : PA X es' (tL A P C W es)) : PE X (.List es' pos) (tE A P C W (.lst es)) := by
  refine PE_imp (L2.pe_lst ha) fun σ H Q z => ?_
  obtain ⟨B, m, h, ρ, S, s, z⟩ := z
  unfold wpE at z
  refine tL_of hC S s (wpL_len hC hC es z) fun v h1 m1 H1 w q S1 M1 r1 => ?_
  obtain ⟨hl, ps, e, k⟩ := q
  subst e
  exact ⟨by rw [r1.length, hl]; exact line_of hC hz, fun p hp => Kp.lst S1 (Kp_of M1 k) r1.pvs hp⟩
theorem s_mls {es : EL} {es' : List Expr} {pos : Pos} (hz : es.len ≤ 1000) (ha : PA X es' (tL A P C W es)) : PE X (.List es' pos) (tE A P C W (.mls es)) := by
  refine PE_imp (L2.pe_lst ha) fun σ H Q z => ?_
  obtain ⟨B, m, h, ρ, S, s, z⟩ := z
  unfold wpE at z
  refine tL_of hC S s (wpL_len hC hC es z) fun v h1 m1 H1 w q S1 M1 r1 => ?_
  obtain ⟨hl, ps, e, k⟩ := q
  subst e
  refine ⟨by rw [r1.length, hl]; exact line_of hC hz, fun p hp => ?_⟩
  obtain ⟨M2, S2⟩ := S1.cell_new hp r1.pvs
  exact k _ _ _ S2 (M1.trans M2) ⟨p, by rw [← S1.len]; simp, rfl⟩
theorem s_mad {a b : E} {a' b' : Expr} {pos : Pos} (ha : PE X a' (tE A P C W a)) (hb : PE X b' (tE A P C W b)) : PE X (.BinOp a' .Add b' pos) (tE A P C W (.mad a b)) := by
  refine PE_imp (L2.pe_op L2.op_cat ha hb) fun σ H Q z => ?_
  obtain ⟨B, m, h, ρ, S, s, z⟩ := z
  unfold wpE at z
  refine tE_of hC S s z fun v h1 m1 H1 w q S1 M1 r1 => ?_
  refine tE_of hC S1 (s.move S M1) (wpE_next hC M1 q) fun v2 h2 m2 H2 w2 q2 S2 M2 r2 => ?_
  obtain ⟨p, p2, e1, e2, hl, k⟩ := q2
  obtain ⟨l, xs, rfl, g1, t1⟩ := ((r1.move S1 M2).rw S2 e1).lst
  obtain ⟨b, ys, rfl, g2, t2⟩ := (r2.rw S2 e2).lst
  refine ⟨l, b, xs, ys, rfl, rfl, g1, g2, by rw [t1.length, t2.length]; exact hl, fun p hp => ?_⟩
  obtain ⟨M3, S3⟩ := S2.cell_new hp (t1.append t2)
  exact k _ _ _ S3 ((M1.trans M2).trans M3) ⟨p, by rw [← S2.len]; simp, rfl⟩
end
end G43
set_option Elab.async false
set_option linter.all false
set_option maxRecDepth 100000
set_option maxHeartbeats 4000000
namespace G43
open PySem
open L2 (V HO Hp SqL SqT Rd upd upd_same upd_ne Cx OpR R2 VK CallR IxR SlR TE TA TS TT TI PE PA PS PSs PT PI XK Sp Room Vals)
open PySem.Spec PyProof.Rows
/-! ### what is walked -/
def Walks (A : Ad) (B : Addr → Prop) (m : List Addr) (h : Hs) (H : Hp) (J : L2.It) (l : List PV) (gd : Hs → Prop) : Prop :=
  ∀ (B' : Addr → Prop) (m2 : List Addr) (h2 : Hs) (H2 : Hp), (∀ a, B' a → B a ∨ H a = none) → Sim A B' m2 h2 H2 → Mv m h H m2 h2 H2 → gd h2 →
    (∀ (i : Nat) (x : PV), l[i]? = some x → J.go i H2 ∧ ∀ v H3, J.yld i H2 v H3 → Sim A B' m2 h2 H3 ∧ Mv m2 h2 H2 m2 h2 H3 ∧ Rp A (Xc B' m2 h2) H3 x v) ∧ ∀ i : Nat, l.length ≤ i → J.stop i H2
def Ki (A : Ad) (B : Addr → Prop) (m : List Addr) (h : Hs) (H : Hp) (R : L2.It → Hp → Prop) : List PV → (Hs → Prop) → Hs → Prop := fun l gd h' => ∀ m' H' J, Sim A B m' h' H' → Mv m h H m' h' H' → Walks A B m' h' H' J l gd → R J H'
def tI (A : Ad) (P : Pg) (C : CallT) (W : XK) (it : It) : TI := fun σ H R => ∃ B m h ρ, Sim A B m h H ∧ Sl A B m h H ρ σ ∧ wpI P C it ρ h (Ki A B m h H R) (Kx A B m h H W)
section
variable {A : Ad} {B : Addr → Prop} {m : List Addr} {h : Hs} {H : Hp}
theorem walks_list {a : Addr} {l : List PV} {gd : Hs → Prop} (src : ∀ (B' : Addr → Prop) (m2 : List Addr) (h2 : Hs) (H2 : Hp), (∀ a, B' a → B a ∨ H a = none) → Sim A B' m2 h2 H2 → Mv m h H m2 h2 H2 → gd h2 → ∃ xs, SqL A.K H2 a xs ∧ RpL A (Xc B' m2 h2) H2 l xs) :
    Walks A B m h H (L2.Itl A.K a) l gd := fun B' m2 h2 H2 w S M g => by
  obtain ⟨xs, q, r⟩ := src B' m2 h2 H2 w S M g
  refine ⟨fun i x e => ?_, fun i hi => ⟨xs, q, by rw [r.length]; exact hi⟩⟩
  obtain ⟨v, e1, r1⟩ := r.get e
  refine ⟨⟨xs, v, q, e1⟩, fun v' H3 y => ?_⟩
  obtain ⟨rfl, y⟩ := y
  have e2 := y xs q
  rw [e1] at e2
  cases e2
  exact ⟨S, Mv.refl _ _ _, r1⟩
theorem walks_tup {a : Addr} {l : List PV} {gd : Hs → Prop} (src : ∀ (B' : Addr → Prop) (m2 : List Addr) (h2 : Hs) (H2 : Hp), (∀ a, B' a → B a ∨ H a = none) → Sim A B' m2 h2 H2 → Mv m h H m2 h2 H2 → gd h2 → ∃ xs, SqT A.K H2 a xs ∧ RpL A (Xc B' m2 h2) H2 l xs) :
    Walks A B m h H (L2.Itt A.K a) l gd := fun B' m2 h2 H2 w S M g => by
  obtain ⟨xs, q, r⟩ := src B' m2 h2 H2 w S M g
  refine ⟨fun i x e => ?_, fun i hi => ⟨xs, q, by rw [r.length]; exact hi⟩⟩
  obtain ⟨v, e1, r1⟩ := r.get e
  refine ⟨⟨xs, v, q, e1⟩, fun v' H3 y => ?_⟩
  obtain ⟨rfl, y⟩ := y
  have e2 := y xs q
  rw [e1] at e2
  cases e2
  exact ⟨S, Mv.refl _ _ _, r1⟩
theorem rng_at {lo : Int} {n i : Nat} {x : PV} (e : (rngL lo n)[i]? = some x) : i < n ∧ x = .int (lo + i) := by
  unfold rngL at e
  rw [List.getElem?_map] at e
  cases hr : (List.range n)[i]? with
  | none => rw [hr] at e; cases e
  | some k =>
    rw [hr] at e
    obtain ⟨hi, hk⟩ := List.getElem?_eq_some_iff.mp hr
    simp at hi hk
    subst hk
    simp at e
    exact ⟨hi, e.symm⟩
theorem rng_len {lo : Int} {n : Nat} : (rngL lo n).length = n := by simp [rngL]
theorem walks_range {lo : Int} {n : Nat} {gd : Hs → Prop} : Walks A B m h H (L2.Itr lo n) (rngL lo n) gd := fun B' m2 h2 H2 w S M g => by
  refine ⟨fun i x e => ?_, fun i hi => by rw [rng_len] at hi; exact hi⟩
  obtain ⟨hi, rfl⟩ := rng_at e
  refine ⟨hi, fun v H3 y => ?_⟩
  obtain ⟨rfl, rfl⟩ := y
  exact ⟨S, Mv.refl _ _ _, .int _⟩
theorem zip_at {a b : List PV} {i : Nat} {x : PV} (e : (zipL a b)[i]? = some x) : ∃ p q, a[i]? = some p ∧ b[i]? = some q ∧ x = .tup [p, q] := by
  unfold zipL at e
  rw [List.getElem?_map] at e
  cases hz : (a.zip b)[i]? with
  | none => rw [hz] at e; cases e
  | some k =>
    rw [hz] at e
    obtain ⟨h1, h2⟩ := List.getElem?_zip_eq_some.mp hz
    simp at e
    exact ⟨k.1, k.2, h1, h2, e.symm⟩
theorem zip_len {a b : List PV} : (zipL a b).length = min a.length b.length := by simp [zipL]
theorem walks_zipL {a b : Addr} {l r : List PV} {gd : Hs → Prop} (s1 : ∀ (B' : Addr → Prop) (m2 : List Addr) (h2 : Hs) (H2 : Hp), (∀ a, B' a → B a ∨ H a = none) → Sim A B' m2 h2 H2 → Mv m h H m2 h2 H2 → gd h2 → ∃ xs ys, SqL A.K H2 a xs ∧ RpL A (Xc B' m2 h2) H2 l xs ∧ SqL A.K H2 b ys ∧ RpL A (Xc B' m2 h2) H2 r ys) :
    Walks A B m h H (L2.Itz A.K a b) (zipL l r) gd := fun B' m2 h2 H2 w S M g => by
  obtain ⟨xs, ys, q1, r1, q2, r2⟩ := s1 B' m2 h2 H2 w S M g
  refine ⟨fun i x e => ?_, fun i hi => ⟨xs, ys, q1, q2, by rw [zip_len] at hi; rw [r1.length, r2.length]; omega⟩⟩
  obtain ⟨p, q, e1, e2, rfl⟩ := zip_at e
  obtain ⟨v, e3, r3⟩ := r1.get e1
  obtain ⟨u, e4, r4⟩ := r2.get e2
  refine ⟨⟨xs, ys, v, u, q1, q2, e3, e4⟩, fun v' H3 y => ?_⟩
  obtain ⟨T, y1, y2, rfl, hT, rfl, h1, h2⟩ := y
  have e5 := h1 xs q1
  have e6 := h2 ys q2
  rw [e3] at e5; cases e5
  rw [e4] at e6; cases e6
  obtain ⟨M3, S3, r5⟩ := S.tup hT (.cons r3 (.cons r4 .nil))
  exact ⟨S3, M3, r5⟩
theorem walks_zipT {a b : Addr} {l r : List PV} {gd : Hs → Prop} (s1 : ∀ (B' : Addr → Prop) (m2 : List Addr) (h2 : Hs) (H2 : Hp), (∀ a, B' a → B a ∨ H a = none) → Sim A B' m2 h2 H2 → Mv m h H m2 h2 H2 → gd h2 → ∃ xs ys, SqT A.K H2 a xs ∧ RpL A (Xc B' m2 h2) H2 l xs ∧ SqT A.K H2 b ys ∧ RpL A (Xc B' m2 h2) H2 r ys) :
    Walks A B m h H (RZ.ItzT A.K a b) (zipL l r) gd := fun B' m2 h2 H2 w S M g => by
  obtain ⟨xs, ys, q1, r1, q2, r2⟩ := s1 B' m2 h2 H2 w S M g
  refine ⟨fun i x e => ?_, fun i hi => ⟨xs, ys, q1, q2, by rw [zip_len] at hi; rw [r1.length, r2.length]; omega⟩⟩
  obtain ⟨p, q, e1, e2, rfl⟩ := zip_at e
  obtain ⟨v, e3, r3⟩ := r1.get e1
  obtain ⟨u, e4, r4⟩ := r2.get e2
  refine ⟨⟨xs, ys, v, u, q1, q2, e3, e4⟩, fun v' H3 y => ?_⟩
  obtain ⟨T, y1, y2, rfl, hT, rfl, h1, h2⟩ := y
  have e5 := h1 xs q1
  have e6 := h2 ys q2
  rw [e3] at e5; cases e5
  rw [e4] at e6; cases e6
  obtain ⟨M3, S3, r5⟩ := S.tup hT (.cons r3 (.cons r4 .nil))
  exact ⟨S3, M3, r5⟩
/-- a value's list, later on -/
theorem later_lst {l : List PV} {a : Addr} (S : Sim A B m h H) (r : Rp A (Xc B m h) H (.lst l) (.ref a)) {B' : Addr → Prop} {m2 : List Addr} {h2 : Hs} {H2 : Hp} (w : ∀ a, B' a → B a ∨ H a = none) (M : Mv m h H m2 h2 H2) : ∃ xs, SqL A.K H2 a xs ∧ RpL A (Xc B' m2 h2) H2 l xs := by
  have r2 := Rp.moveC S.cl M (r.strong w)
  cases r2 with
  | lst q n r => exact ⟨_, SqL.of q, r⟩
theorem later_tup {l : List PV} {a : Addr} (S : Sim A B m h H) (r : Rp A (Xc B m h) H (.tup l) (.ref a)) {B' : Addr → Prop} {m2 : List Addr} {h2 : Hs} {H2 : Hp} (w : ∀ a, B' a → B a ∨ H a = none) (M : Mv m h H m2 h2 H2) : ∃ xs, SqT A.K H2 a xs ∧ RpL A (Xc B' m2 h2) H2 l xs := by
  have r2 := Rp.moveC S.cl M (r.strong w)
  cases r2 with
  | tup q r => exact ⟨_, q, r⟩
theorem later_scr {l : List PV} {a : Addr} (S : Sim A B m h H) (r : Rp A (Xc B m h) H (.scr l) (.ref a)) {B' : Addr → Prop} {m2 : List Addr} {h2 : Hs} {H2 : Hp} (w : ∀ a, B' a → B a ∨ H a = none) (M : Mv m h H m2 h2 H2) : ∃ xs, SqL A.K H2 a xs ∧ RpL A (Xc B' m2 h2) H2 l xs := by
  have r2 := Rp.moveC S.cl M (r.strong w)
  cases r2 with
  | scr q r => exact ⟨_, q.elim (fun q => .inl (.inr q)) .inr, r⟩
end
/-! ### the walk of a list or a tuple, whichever comes -/
section
variable {X : Cx} {tg : Expr}
def iSeq (K : PySem.W.Frag) (tl : TE) : TI := fun σ H R => tl σ H fun x H1 => ∃ a, x = .ref a ∧ (((∃ xs, SqL K H1 a xs) ∧ R (L2.Itl K a) H1) ∨ ((∃ xs, SqT K H1 a xs) ∧ R (L2.Itt K a) H1))
theorem pi_seq {l : Expr} {tl : TE} (hl : PE X l tl) : PI X tg l (iSeq X.K tl) := by
  refine ⟨fun pins s σ H R I z => L2.thn (hl.run pins s σ H _ I z) ?_⟩
  rintro v s1 ⟨x, H1, I1, r1, a, rfl, q⟩
  cases r1
  have one : ∀ b ∈ [s1.heap.objs.size], L2.FpOk X pins H1 b := by
    intro b hb
    cases List.mem_singleton.mp hb
    exact I1.fpOk (Nat.le_refl _) (I1.hok.fresh (Nat.le_refl _))
  rcases q with ⟨⟨xs, hq⟩, q⟩ | ⟨⟨xs, hq⟩, q⟩
  · obtain ⟨its, rv, p, hz⟩ := I1.list hq
    refine wpAny_pyIter_list p.isList ⟨_, [s1.heap.objs.size], _, _, H1, rfl, ?_, L2.turn_list a _, ⟨_, Heap.get?_push_size _ rfl, rfl, rfl⟩, one, q⟩
    exact I1.kept (t' := s1.toks) fun b o e => Heap.get?_push_of_some _ e
  · obtain ⟨its, rv, p, hz⟩ := I1.tuple hq
    refine wpAny_pyIter_tuple (show s1.heap.IsTuple a its.toArray from p) ⟨_, [s1.heap.objs.size], _, _, H1, rfl, ?_, L2.turn_tuple a _, ⟨_, Heap.get?_push_size _ rfl, rfl, rfl⟩, one, q⟩
    exact I1.kept (t' := s1.toks) fun b o e => Heap.get?_push_of_some _ e
theorem PI_imp {e : Expr} {t t' : TI} (p : PI X tg e t) (i : ∀ σ H Q, t' σ H Q → t σ H Q) : PI X tg e t' := ⟨fun pins s σ H Q I z => p.run pins s σ H Q I (i σ H Q z)⟩
end
section
variable {A : Ad} {P : Pg} {C : CallT} {N : List Str} {sc ss : Scope} {W : XK} {X : Cx} {tg : Expr} (hC : MonoC C C)
include hC
theorem s_seq (cx : Ctx A P C N sc ss W X) {e : E} {e' : Expr} (he : PE X e' (tE A P C W e)) : PI X tg e' (tI A P C W (.seq e)) := by
  refine PI_imp (pi_seq he) fun σ H R z => ?_
  obtain ⟨B, m, h, ρ, S, s, z⟩ := z
  unfold wpI at z
  refine tE_of hC S s z fun v h1 m1 H1 w q S1 M1 r1 => ?_
  rw [cx.eK]
  split at q
  · cases r1 with
    | lst q1 n r =>
      exact ⟨_, rfl, .inl ⟨⟨_, SqL.of q1⟩, q m1 H1 _ S1 M1 (walks_list fun B' m2 h2 H2 w S2 M2 _ => later_lst S1 (.lst q1 n r) w M2)⟩⟩
  · cases r1 with
    | tup q1 r =>
      exact ⟨_, rfl, .inr ⟨⟨_, q1⟩, q m1 H1 _ S1 M1 (walks_tup fun B' m2 h2 H2 w S2 M2 _ => later_tup S1 (.tup q1 r) w M2)⟩⟩
  · cases r1 with
    | scr q1 r =>
      exact ⟨_, rfl, .inl ⟨⟨_, q1.elim (fun q => .inl (.inr q)) .inr⟩, q m1 H1 _ S1 M1 (walks_list fun B' m2 h2 H2 w S2 M2 _ => later_scr S1 (.scr q1 r) w M2)⟩⟩
  · obtain ⟨c, e1, q⟩ := q
    obtain ⟨a, e2, rfl⟩ := r1
    obtain ⟨xs, e3, r3⟩ := S1.cell _ c a e1 e2
    refine ⟨a, rfl, .inl ⟨⟨xs, SqL.of e3⟩, q m1 H1 _ S1 M1 (walks_list fun B' m2 h2 H2 w S2 M2 g => ?_)⟩⟩
    obtain ⟨ys, e4, r4⟩ := S2.cell _ c a g (M2.at e2)
    exact ⟨ys, SqL.of e4, r4⟩
  · exact q.elim
theorem s_rng1 (cx : Ctx A P C N sc ss W X) {e : E} {e' : Expr} {p pos : Pos} (hn : noStar e' = true) (hb : ("range" : Str) ∈ P.blt) (hg : gloB sc "range" = true) (he : PE X e' (tE A P C W e)) : PI X tg (.Call (.Name "range" p) [e'] [] pos) (tI A P C W (.rng1 e)) := by
  refine PI_imp (L2.pi_range1 (show X.env.scope.names.lookup _ = _ by rw [cx.eS]; exact gloB_ok hg) (cx.blt _ hb) (L2.pa_cons he L2.pa_nil (starEach_no hn _ _)) (by rw [starEach_no hn] <;> rfl)) fun σ H R z => ?_
  obtain ⟨B, m, h, ρ, S, s, z⟩ := z
  unfold wpI at z
  refine tE_of hC S s z fun v h1 m1 H1 w q S1 M1 r1 => ?_
  obtain ⟨j, rfl, h2, h3, k⟩ := q
  cases r1
  exact ⟨j, rfl, h2, h3, k m1 H1 _ S1 M1 walks_range⟩
theorem s_zip (cx : Ctx A P C N sc ss W X) {a b : E} {a' b' : Expr} {elts : List Expr} {kk : Nat} {tpos p pos : Pos} (hn : noStar a' = true) (hn2 : noStar b' = true) (hb : ("zip" : Str) ∈ P.blt) (hg : gloB sc "zip" = true) (ha : PE X a' (tE A P C W a)) (hb' : PE X b' (tE A P C W b)) :
    PI X (.Tuple elts kk tpos) (.Call (.Name "zip" p) [a', b'] [] pos) (tI A P C W (.zip a b)) := by
  refine PI_imp (RZ.pi_zipA (show X.env.scope.names.lookup _ = _ by rw [cx.eS]; exact gloB_ok hg) (cx.blt _ hb) (L2.pa_cons ha (L2.pa_cons hb' L2.pa_nil (starEach_no hn2 _ _)) (starEach_no hn _ _)) (starEach_no hn _ _) (back_no _ _ (by rw [List.all_cons, hn2]; rfl))) fun σ H R z => ?_
  obtain ⟨B, m, h, ρ, S, s, z⟩ := z
  unfold wpI at z
  refine tE_of hC S s z fun v h1 m1 H1 w q S1 M1 r1 => ?_
  refine tE_of hC S1 (s.move S M1) (wpE_next hC M1 q) fun v2 h2 m2 H2 w2 q2 S2 M2 r2 => ?_
  have r3 := r1.move S1 M2
  rw [cx.eK]
  split at q2
  · cases r3 with
    | lst q1 n1 t1 =>
      cases r2 with
      | lst q3 n3 t3 =>
        refine ⟨_, _, _, _, rfl, .inl ⟨SqL.of q1, SqL.of q3, q2 m2 H2 _ S2 (M1.trans M2) (walks_zipL fun B' m4 h4 H4 w S4 M4 _ => ?_)⟩⟩
        obtain ⟨xs, z1, z2⟩ := later_lst S2 (.lst q1 n1 t1) w M4
        obtain ⟨ys, z3, z4⟩ := later_lst S2 (.lst q3 n3 t3) w M4
        exact ⟨xs, ys, z1, z2, z3, z4⟩
  · cases r3 with
    | tup q1 t1 =>
      cases r2 with
      | tup q3 t3 =>
        refine ⟨_, _, _, _, rfl, .inr ⟨q1, q3, q2 m2 H2 _ S2 (M1.trans M2) (walks_zipT fun B' m4 h4 H4 w S4 M4 _ => ?_)⟩⟩
        obtain ⟨xs, z1, z2⟩ := later_tup S2 (.tup q1 t1) w M4
        obtain ⟨ys, z3, z4⟩ := later_tup S2 (.tup q3 t3) w M4
        exact ⟨xs, ys, z1, z2, z3, z4⟩
  · exact q2.elim
end
end G43
set_option Elab.async false
set_option linter.all false
set_option maxRecDepth 100000
set_option maxHeartbeats 4000000
namespace G43
open PySem
open L2 (V HO Hp SqL SqT Rd upd upd_same upd_ne Cx OpR R2 VK CallR IxR SlR TE TA TS TT TI TG TGs PE PA PS PSs PT PI PG PGs XK Sp Room Vals)
open PySem.Spec PyProof.Rows
/-! ### defaults -/
theorem samD_eq {a b : PV} (h : samD a b = true) : a = b := by
  unfold samD at h
  split at h
  · rfl
  · rw [of_decide_eq_true h]
  · rw [eq_of_beq h]
  · cases h
theorem samDs_eq : ∀ {a b : List PV}, samDs a b = true → a = b
  | [], [], _ => rfl
  | [], _ :: _, h => by cases h
  | _ :: _, [], h => by cases h
  | x :: xs, y :: ys, h => by
    have h' : (samD x y && samDs xs ys) = true := h
    rw [Bool.and_eq_true] at h'
    rw [samD_eq h'.1, samDs_eq h'.2]
theorem dfs_rep {A : Ad} {B : Addr → Prop} {m : List Addr} {h : Hs} {H : Hp} : ∀ {ps : List PV} {vs : List V}, ps.mapM dfV = some vs → RpRs A B m h H (ps.map RV.pv) vs
  | [], vs, e => by
    simp at e
    subst e
    exact .nil
  | p :: ps, vs, e => by
    rw [List.mapM_cons] at e
    cases e1 : dfV p with
    | none => rw [e1] at e; simp at e
    | some v =>
      cases e2 : ps.mapM dfV with
      | none => rw [e1, e2] at e; simp at e
      | some ws =>
        rw [e1, e2] at e
        simp at e
        subst e
        exact .cons (show RpR A B m h H (.pv p) v from dfV_rep e1) (dfs_rep e2)
section
variable {A : Ad} {P : Pg} {C : CallT} {N : List Str} {sc ss : Scope} {W : XK} {X : Cx} (hC : MonoC C C)
include hC
/-! ### calls -/
theorem s_call0 (cx : Ctx A P C N sc ss W X) {f : Nat} {df : Df} {dv : List PV} {p pos : Pos} (hf : P.defs[f]? = some df) (hn : df.dfl.drop (df.dfl.length - dv.length) = dv) (hg : gloB sc df.name = true) (ho : odd df.name = false) :
    PE X (.Call (.Name df.name p) [] [] pos) (tE A P C W (.call f .nil dv)) := by
  obtain ⟨o1, o2, o3⟩ := odd_ok ho
  obtain ⟨nm, kp, k, fd, ps, F, hr, hp, hd⟩ := cx.cal f df hf
  obtain ⟨dvs, ds, d1, d2, d3⟩ := hd (df.dfl.length - dv.length) (Nat.sub_le _ _)
  rw [hn] at d1
  refine ⟨fun pins s σ H Q I z => wpAny_Call_Name_kw (L2.ld_glob I (show X.env.scope.names.lookup _ = _ by rw [cx.eS]; exact gloB_ok hg) nm ?_ o1)⟩
  obtain ⟨B, m, h, ρ, S, sl, z⟩ := z
  unfold wpE wpL at z
  refine PySem.W.callWith_K0 I.kIn kp (runG (us := []) (vs := []) F cx.gd hr d3 d2 cx.tk I .nil ?_)
  exact ⟨B, m, h, _, S, RpRs.append .nil (dfs_rep d1), z⟩
theorem s_call (cx : Ctx A P C N sc ss W X) {f : Nat} {df : Df} {es : EL} {dv : List PV} {a : Expr} {args : List Expr} {p pos : Pos} (hf : P.defs[f]? = some df) (hn : df.dfl.drop (df.dfl.length - dv.length) = dv) (hg : gloB sc df.name = true) (ho : odd df.name = false)
    (hs : (a :: args).all noStar = true) (ha : PA X (a :: args) (tL A P C W es)) : PE X (.Call (.Name df.name p) (a :: args) [] pos) (tE A P C W (.call f es dv)) := by
  obtain ⟨o1, o2, o3⟩ := odd_ok ho
  obtain ⟨nm, kp, k, fd, ps, F, hr, hp, hd⟩ := cx.cal f df hf
  obtain ⟨dvs, ds, d1, d2, d3⟩ := hd (df.dfl.length - dv.length) (Nat.sub_le _ _)
  rw [hn] at d1
  refine ⟨fun pins s σ H Q I z => wpAny_Call_Name_kw (L2.ld_glob I (show X.env.scope.names.lookup _ = _ by rw [cx.eS]; exact gloB_ok hg) nm ?_ o1)⟩
  obtain ⟨B, m, h, ρ, S, sl, z⟩ := z
  unfold wpE at z
  have z2 : tL A P C W es σ H fun vs H1 => spC A C f (vs ++ dvs) H1 Q W := tL_of hC S sl z fun vs h1 m1 H1 ws q S1 M1 r1 => ⟨B, m1, h1, _, S1, r1.append (dfs_rep d1), hC _ _ _ _ _ _ _ (Kv.move M1) (Kx.move M1) q⟩
  rw [List.all_cons, Bool.and_eq_true] at hs
  refine PySem.W.callWith_K (h₀ := X.base) I.ok.mod.kin kp (L2.thn (ha.run pos pins s σ H _ I z2) fun us s1 ⟨vs, H1, I1, r, q⟩ => ⟨I1.kIn, ?_⟩) (starEach_no hs.1 _ _) (back_no _ _ hs.2)
  exact runG F cx.gd hr d3 d2 cx.tk I1 r q
theorem boot_bi (b : BI) : bootBuiltins (biN b) = some (biV b) := by cases b <;> decide +kernel
theorem bi_odd (b : BI) : biN b ≠ "__name__" ∧ (biN b == ("__debug__" : Str)) = false := by cases b <;> decide +kernel
theorem s_bi (cx : Ctx A P C N sc ss W X) {b : BI} {es : EL} {a : Expr} {args : List Expr} {p pos : Pos} (hb : biN b ∈ P.blt) (hg : gloB sc (biN b) = true) (hs : (a :: args).all noStar = true) (ha : PA X (a :: args) (tL A P C W es)) :
    PE X (.Call (.Name (biN b) p) (a :: args) [] pos) (tE A P C W (.bi b es)) := by
  have g : X.env.scope.names.lookup (biN b) = some .globalImplicit := by rw [cx.eS]; exact gloB_ok hg
  have n := cx.blt _ hb
  obtain ⟨o1, o2⟩ := bi_odd hC b
  rw [List.all_cons, Bool.and_eq_true] at hs
  have pe : PE X (.Call (.Name (biN b) p) (a :: args) [] pos) (L2.tCB (rBi A b) (tL A P C W es)) := by
    have hc := call_bi (A := A) cx.eK cx.calm cx.un cx.gd b
    have hv := boot_bi hC b
    cases hV : biV b with
    | builtin id => rw [hV] at hc hv; exact L2.pe_callB hc g n hv ha o1 o2 (starEach_no hs.1 _ _) (back_no _ _ hs.2)
    | type T => rw [hV] at hc hv; exact L2.pe_callTy hc g n hv ha o1 o2 (starEach_no hs.1 _ _) (back_no _ _ hs.2)
    | _ => cases b <;> cases hV
  refine PE_imp pe fun σ H Q z => ?_
  obtain ⟨B, m, h, ρ, S, sl, z⟩ := z
  unfold wpE at z
  refine tL_of hC S sl z fun vs h1 m1 H1 ws q S1 M1 r1 => ?_
  obtain ⟨ps, e, k⟩ := q
  exact ⟨B, m1, h1, ps, S1, r1.rws S1 e, wpBi_mono (fun r k => Kp_of M1 k) k⟩
theorem boot_ty (t : Ty) : bootBuiltins (Str.ofString (tyN t)) = some (.type (tyN t)) ∧ Str.ofString (tyN t) ≠ "__name__" ∧ (Str.ofString (tyN t) == ("__debug__" : Str)) = false := by cases t <;> decide +kernel
theorem s_isi (cx : Ctx A P C N sc ss W X) {e : E} {t : Ty} {a : Expr} {p p2 pos : Pos} (hb : ("isinstance" : Str) ∈ P.blt) (hb2 : Str.ofString (tyN t) ∈ P.blt) (hg : gloB sc "isinstance" = true) (hg2 : gloB sc (Str.ofString (tyN t)) = true) (hs : noStar a = true)
    (ha : PE X a (tE A P C W e)) : PE X (.Call (.Name "isinstance" p) [a, .Name (Str.ofString (tyN t)) p2] [] pos) (tE A P C W (.isi e t)) := by
  have g : X.env.scope.names.lookup ("isinstance" : Str) = some .globalImplicit := by rw [cx.eS]; exact gloB_ok hg
  have g2 : X.env.scope.names.lookup (Str.ofString (tyN t)) = some .globalImplicit := by rw [cx.eS]; exact gloB_ok hg2
  obtain ⟨b1, b2, b3⟩ := boot_ty hC t
  refine PE_imp (L2.pe_callB L2.call_isi g (cx.blt _ hb) (by decide +kernel) (L2.pa_cons ha (L2.pa_cons (L2.pe_bltn (v := .ty (tyN t)) g2 (cx.blt _ hb2) b1 rfl b2 b3) L2.pa_nil) (starEach_no hs _ _)) (by decide +kernel) (by decide +kernel) (starEach_no hs _ _)) fun σ H Q z => ?_
  obtain ⟨B, m, h, ρ, S, sl, z⟩ := z
  unfold wpE at z
  refine tE_of hC S sl z fun v h1 m1 H1 w q S1 M1 r1 => ?_
  obtain ⟨q1, b, e1, e2, k⟩ := q
  exact rIs_isi cx.eK ⟨B, m1, h1, q1, b, S1, r1.rw S1 e1, e2, k m1 H1 _ S1 M1 (.bl _)⟩
/-! ### tests -/
theorem q_val {e : E} {e' : Expr} (he : PE X e' (tE A P C W e)) (hp : ∀ whole, isTrue e' X.env whole = (do let v ← whole; standAt e'.pos; holding [v] (truthy v))) : PT X e' (tQ A P C W e) := L2.pt_val he hp
theorem q_nt {e : E} {e' : Expr} {pos : Pos} (he : PT X e' (tQ A P C W e)) : PT X (.UnaryOp .Not e' pos) (tQ A P C W (.nt e)) := by
  refine PT_imp (L2.pt_not he) fun σ H Q z => ?_
  obtain ⟨B, m, h, ρ, S, s, z⟩ := z
  unfold wpE at z
  refine tE_of hC S s z fun v h1 m1 H1 w q S1 M1 r1 => ?_
  obtain ⟨c, rfl, k⟩ := q
  cases r1
  obtain ⟨c', e2, k⟩ := k m1 H1 _ S1 M1 (.bl _)
  cases e2
  exact ⟨c, rfl, k⟩
theorem i_qand {a b : E} : ∀ σ H Q, tQ A P C W (.and a b) σ H Q → L2.tAnd (tQ A P C W a) (tQ A P C W b) σ H Q := fun σ H Q z => by
  obtain ⟨B, m, h, ρ, S, s, z⟩ := z
  unfold wpE at z
  refine tE_of hC S s z fun v h1 m1 H1 w q S1 M1 r1 => ?_
  obtain ⟨c, rfl, k⟩ := q
  cases r1
  refine ⟨c, rfl, ?_⟩
  cases c with
  | true =>
    rw [if_pos rfl] at k ⊢
    exact tE_of hC S1 (s.move S M1) (wpE_next hC M1 k) fun v2 h2 m2 H2 w2 q2 S2 M2 r2 => q2 m2 H2 w2 S2 (M1.trans M2) r2
  | false =>
    rw [if_neg Bool.false_ne_true] at k ⊢
    obtain ⟨c', e2, k⟩ := k m1 H1 _ S1 M1 (.bl _)
    cases e2
    exact k
theorem i_qor {a b : E} : ∀ σ H Q, tQ A P C W (.or a b) σ H Q → L2.tOr (tQ A P C W a) (tQ A P C W b) σ H Q := fun σ H Q z => by
  obtain ⟨B, m, h, ρ, S, s, z⟩ := z
  unfold wpE at z
  refine tE_of hC S s z fun v h1 m1 H1 w q S1 M1 r1 => ?_
  obtain ⟨c, rfl, k⟩ := q
  cases r1
  refine ⟨c, rfl, ?_⟩
  cases c with
  | true =>
    rw [if_pos rfl] at k ⊢
    obtain ⟨c', e2, k⟩ := k m1 H1 _ S1 M1 (.bl _)
    cases e2
    exact k
  | false =>
    rw [if_neg Bool.false_ne_true] at k ⊢
    exact tE_of hC S1 (s.move S M1) (wpE_next hC M1 k) fun v2 h2 m2 H2 w2 q2 S2 M2 r2 => q2 m2 H2 w2 S2 (M1.trans M2) r2
theorem pw_of {op : BoolOp} {vs : List Expr} {pos : Pos} {t : TT} (h : PT X (.BoolOp op vs pos) t) : L2.PW X (.BoolOp op vs pos) t := ⟨fun _ pins s σ H Q I z => h.run pins s σ H Q I z⟩
end
end G43
set_option Elab.async false
set_option linter.all false
set_option maxRecDepth 100000
set_option maxHeartbeats 4000000
namespace G43
open PySem
open L2 (V HO Hp SqL SqT Rd upd upd_same upd_ne Cx OpR R2 VK CallR IxR SlR TE TA TS TT TI TG TGs PE PA PS PSs PT PI PG PGs XK Sp Room Vals)
open PySem.Spec PyProof.Rows
/-! ### targets -/
theorem Off.refl (vs : List Nat) (σ : L2.St) : Off vs σ σ := ⟨rfl, fun _ _ => rfl⟩
theorem Off.trans {vs ws : List Nat} {a b c : L2.St} (x : Off vs a b) (y : Off ws b c) : Off (vs ++ ws) a c :=
  ⟨y.1.trans x.1, fun i hi => (y.2 i fun z => hi (List.mem_append_right _ z)).trans (x.2 i fun z => hi (List.mem_append_left _ z))⟩
theorem wipe_in {σ : L2.St} {i : Nat} : ∀ {vs : List Nat}, i ∈ vs → i < σ.length → (L2.wipe σ vs)[i]? = some none
  | [], h, _ => by cases h
  | v :: vs, h, hl => by
    unfold L2.wipe
    by_cases e : v = i
    · subst e
      rw [List.getElem?_set_self (by rw [L2.wipe_length]; exact hl)]
    · rw [List.getElem?_set_ne e]
      exact wipe_in ((List.mem_cons.mp h).resolve_left fun z => e z.symm) hl
theorem Off.wipe {vs : List Nat} {σ σ' : L2.St} (o : Off vs σ σ') : L2.wipe σ' vs = L2.wipe σ vs := by
  apply List.ext_getElem?
  intro i
  by_cases hi : i ∈ vs
  · by_cases hl : i < σ.length
    · rw [wipe_in hi hl, wipe_in hi (by rw [o.1]; exact hl)]
    · rw [List.getElem?_eq_none (by rw [L2.wipe_length, o.1]; omega), List.getElem?_eq_none (by rw [L2.wipe_length]; omega)]
  · rw [L2.wipe_out hi, L2.wipe_out hi]
    exact o.2 i hi
def tG (A : Ad) (tg : Tg) : TG := fun v σ H Q => ∃ (B : Addr → Prop) (m : List Addr) (h : Hs) (p : PV) (ρ : Env) (k : Env → Prop), Sim A B m h H ∧ Sl A B m h H ρ σ ∧ Rp A (Xc B m h) H p v ∧ bindT tg p ρ k ∧ ∀ ρ' σ', k ρ' → Sl A B m h H ρ' σ' → Off tg.slots σ σ' → Q σ' H
def tGs (A : Ad) (tg : Tg) : TGs := fun vs σ H Q => ∃ (B : Addr → Prop) (m : List Addr) (h : Hs) (l : List PV) (ρ : Env) (k : Env → Prop), Sim A B m h H ∧ Sl A B m h H ρ σ ∧ RpL A (Xc B m h) H l vs ∧ bindL tg l ρ k ∧ ∀ ρ' σ', k ρ' → Sl A B m h H ρ' σ' → Off tg.slots σ σ' → Q σ' H
theorem PG_imp {X : Cx} {e : Expr} {t t' : TG} (p : PG X e t) (i : ∀ v σ H Q, t' v σ H Q → t v σ H Q) : PG X e t' := ⟨fun pins s σ H v u Q I r z => p.run pins s σ H v u Q I r (i v σ H Q z)⟩
theorem PGs_imp {X : Cx} {e : List Expr} {t t' : TGs} (p : PGs X e t) (i : ∀ v σ H Q, t' v σ H Q → t v σ H Q) : PGs X e t' := ⟨fun pins s σ H v u Q I r z => p.run pins s σ H v u Q I r (i v σ H Q z)⟩
theorem assign_no {e : Expr} (h : noStar e = true) (es : List Expr) (env : PySem.Env) : assignEach (e :: es) env = (false, assign e env) :: assignEach es env := by
  cases e <;> first | rfl | cases h
theorem assign_len (env : PySem.Env) : ∀ {es : List Expr}, es.all noStar = true → (assignEach es env).length = es.length ∧ (assignEach es env).findIdx? (·.1) = none
  | [], _ => ⟨rfl, rfl⟩
  | e :: es, h => by
    rw [List.all_cons, Bool.and_eq_true] at h
    rw [assign_no h.1]
    obtain ⟨h1, h2⟩ := assign_len env h.2
    refine ⟨by simp [h1], ?_⟩
    rw [List.findIdx?_cons]
    simp [h2]
theorem mGL_star {N : List Str} {ss : Scope} : ∀ {t : Tg} {es : List Expr}, mGL N ss t es = true → es.all noStar = true
  | .nil, [], _ => rfl
  | .nil, _ :: _, h => by simp [mGL] at h
  | .nm _, _, h => by simp [mGL] at h
  | .cons _ _, [], h => by simp [mGL] at h
  | .cons a r, e :: es, h => by
    simp only [mGL, Bool.and_eq_true] at h
    rw [List.all_cons, h.1.2, mGL_star h.2]
    rfl
theorem mGL_len {N : List Str} {ss : Scope} : ∀ {t : Tg} {es : List Expr} {l : List PV} {ρ : Env} {k : Env → Prop}, mGL N ss t es = true → bindL t l ρ k → es.length = l.length
  | .nil, [], l, ρ, k, _, z => by
    simp only [bindL] at z
    rw [z.1]
    rfl
  | .nil, _ :: _, _, _, _, h, _ => by simp [mGL] at h
  | .nm _, _, _, _, _, h, _ => by simp [mGL] at h
  | .cons _ _, [], _, _, _, h, _ => by simp [mGL] at h
  | .cons a r, e :: es, l, ρ, k, h, z => by
    simp only [mGL, Bool.and_eq_true] at h
    simp only [bindL] at z
    obtain ⟨x, xs, rfl, z⟩ := z
    have : ∃ ρ' , bindL r xs ρ' k := by
      have q := bindT_mono (k' := fun ρ' => bindL r xs ρ' k) a (fun _ q => q) z
      exact bindT_some a q
    obtain ⟨ρ', q⟩ := this
    rw [List.length_cons, List.length_cons, mGL_len h.2 q]
section
variable {A : Ad} {P : Pg} {C : CallT} {N : List Str} {sc ss : Scope} {W : XK} {X : Cx}
mutual
theorem sG (cx : Ctx A P C N sc ss W X) : ∀ (t : Tg) {e : Expr}, mG N ss t e = true → PG X e (tG A t)
  | .nm i, e, h => by
    cases e with
    | Name x pos =>
      simp only [mG, Bool.and_eq_true, decide_eq_true_eq] at h
      obtain ⟨s1, s2⟩ := cx.st x h.2
      refine PG_imp (L2.pg_name (i := i) (by rw [cx.eN]; exact cx.nd) (by rw [cx.eN]; exact h.1) (by rw [cx.eS]; exact s1) (by rw [cx.eS]; exact s2)) fun v σ H Q z => ?_
      obtain ⟨B, m, h, p, ρ, k, S, sl, r, b, z⟩ := z
      simp only [bindT] at b
      exact z _ _ b (sl.set i (show RpR A B m h H (.pv p) v from r)) (Off.set σ i _)
    | _ => simp [mG] at h
  | .nil, e, h => by
    cases e with
    | Tuple es k pos =>
      cases es with
      | nil =>
        refine PG_imp (L2.pg_tup cx.calm L2.pgs_nil) fun v σ H Q z => ?_
        obtain ⟨B, m, h, p, ρ, k, S, sl, r, b, z⟩ := z
        simp only [bindT] at b
        obtain ⟨rfl, b⟩ := b
        cases r with
        | tup q r =>
          cases r
          exact ⟨_, [], rfl, by rw [cx.eK]; exact q, rfl, rfl, z _ _ b sl (Off.refl _ _)⟩
      | cons a as => simp [mG] at h
    | _ => simp [mG] at h
  | .cons a r, e, h => by
    cases e with
    | Tuple es k pos =>
      cases es with
      | nil => simp [mG] at h
      | cons e es =>
        simp only [mG, Bool.and_eq_true] at h
        have g1 := sG cx a h.1.1
        have g2 := sGs cx r h.2
        have st := mGL_star h.2
        have st2 : (e :: es).all noStar = true := by rw [List.all_cons, h.1.2, st]; rfl
        obtain ⟨l1, l2⟩ := assign_len X.env st2
        refine PG_imp (L2.pg_tup (n := (e :: es).length) cx.calm (L2.pgs_cons g1 g2 (by rw [assign_no h.1.2] <;> rfl)) l1 l2) fun v σ H Q z => ?_
        obtain ⟨B, m, hh, p, ρ, k, S, sl, rp, b, z⟩ := z
        simp only [bindT] at b
        obtain ⟨y, ys, rfl, b⟩ := b
        cases rp with
        | tup q rr =>
          cases rr with
          | cons r1 r2 =>
            obtain ⟨ρ', b'⟩ := bindT_some a b
            refine ⟨_, _, rfl, by rw [cx.eK]; exact q, ?_, _, _, rfl, ?_⟩
            · rw [List.length_cons, List.length_cons, r2.length, mGL_len h.2 b']
            · exact ⟨B, m, hh, y, ρ, _, S, sl, r1, b, fun ρ1 σ1 b1 sl1 o1 => ⟨B, m, hh, ys, ρ1, k, S, sl1, r2, b1, fun ρ2 σ2 b2 sl2 o2 => z ρ2 σ2 b2 sl2 (o1.trans o2)⟩⟩
    | _ => simp [mG] at h
theorem sGs (cx : Ctx A P C N sc ss W X) : ∀ (t : Tg) {es : List Expr}, mGL N ss t es = true → PGs X es (tGs A t)
  | .nm _, _, h => by simp [mGL] at h
  | .nil, es, h => by
    cases es with
    | nil =>
      refine PGs_imp L2.pgs_nil fun v σ H Q z => ?_
      obtain ⟨B, m, h, p, ρ, k, S, sl, r, b, z⟩ := z
      simp only [bindL] at b
      obtain ⟨rfl, b⟩ := b
      cases r
      exact ⟨rfl, z _ _ b sl (Off.refl _ _)⟩
    | cons a as => simp [mGL] at h
  | .cons a r, es, h => by
    cases es with
    | nil => simp [mGL] at h
    | cons e es =>
      simp only [mGL, Bool.and_eq_true] at h
      have g1 := sG cx a h.1.1
      have g2 := sGs cx r h.2
      refine PGs_imp (L2.pgs_cons g1 g2 (by rw [assign_no h.1.2] <;> rfl)) fun v σ H Q z => ?_
      obtain ⟨B, m, hh, l, ρ, k, S, sl, rp, b, z⟩ := z
      simp only [bindL] at b
      obtain ⟨y, ys, rfl, b⟩ := b
      cases rp with
      | cons r1 r2 => exact ⟨_, _, rfl, B, m, hh, y, ρ, _, S, sl, r1, b, fun ρ1 σ1 b1 sl1 o1 => ⟨B, m, hh, ys, ρ1, k, S, sl1, r2, b1, fun ρ2 σ2 b2 sl2 o2 => z ρ2 σ2 b2 sl2 (o1.trans o2)⟩⟩
end
end
end G43
set_option Elab.async false
set_option linter.all false
set_option maxRecDepth 100000
set_option maxHeartbeats 4000000
namespace G43
open PySem
open L2 (V HO Hp SqL SqT Rd upd upd_same upd_ne Cx OpR R2 VK CallR IxR SlR TE TA TS TT TI TG TGs PE PA PS PSs PT PI PG PGs XK Sp Room Vals)
open PySem.Spec PyProof.Rows
section
variable {A : Ad} {B : Addr → Prop} {m : List Addr} {h : Hs} {H : Hp}
/-! ### a list that is being made -/
mutual
theorem Rp.blocked {D : Addr} {ys zs : List V} (b : B D) (e : H D = some (.lst ys)) : ∀ {p : PV} {v : V}, Rp A (Xc B m h) H p v → Rp A (Xc B m h) (upd H D (.lst zs)) p v
  | _, _, .non => .non
  | _, _, .bl b => .bl b
  | _, _, .int i => .int i
  | _, _, .str x => .str x
  | _, _, .fn f => .fn f
  | _, _, .tup q r => .tup (by
      rcases q with (q | ⟨o, q⟩) | q
      · exact .inl (.inl (by rw [upd_ne (L2.ne_of q e (fun z => nomatch z))]; exact q))
      · exact .inl (.inr ⟨o, by rw [upd_ne (L2.ne_of q e (fun z => nomatch z))]; exact q⟩)
      · exact .inr q) (RpL.blocked b e r)
  | _, _, .lst q n r => .lst (by rw [upd_ne (fun z => n (.inl (by rw [z]; exact b)))]; exact q) n (RpL.blocked b e r)
  | _, _, .scr q r => .scr (by
      rcases q with ⟨o, q⟩ | q
      · exact .inl ⟨o, by rw [upd_ne (L2.ne_of q e (fun z => nomatch z))]; exact q⟩
      · exact .inr q) (RpL.blocked b e r)
theorem RpL.blocked {D : Addr} {ys zs : List V} (b : B D) (e : H D = some (.lst ys)) : ∀ {l : List PV} {xs : List V}, RpL A (Xc B m h) H l xs → RpL A (Xc B m h) (upd H D (.lst zs)) l xs
  | _, _, .nil => .nil
  | _, _, .cons q r => .cons (Rp.blocked b e q) (RpL.blocked b e r)
end
theorem Sim.blocked (S : Sim A B m h H) {D : Addr} {ys zs : List V} (b : B D) (e : H D = some (.lst ys)) : Sim A B m h (upd H D (.lst zs)) := by
  refine ⟨S.len, fun i c a h1 h2 => ?_, S.inj, S.bn, fun a q z => ?_⟩
  · obtain ⟨xs, h3, h4⟩ := S.cell i c a h1 h2
    have ne : a ≠ D := fun z => S.bn D b (by rw [← z]; exact ⟨i, c, h1, h2⟩)
    exact ⟨xs, by rw [upd_ne ne]; exact h3, h4.blocked b e⟩
  · unfold upd at z
    split at z
    · cases z
    · exact S.bt a q z
def Bx (B : Addr → Prop) (D : Addr) : Addr → Prop := fun a => B a ∨ a = D
theorem Sim.block (S : Sim A B m h H) {D : Addr} {o : HO} (e : H D = none) : Sim A (Bx B D) m h (upd H D o) := by
  have w : ∀ a, Bx B D a → B a ∨ H a = none := fun a z => z.imp id fun z => by rw [z]; exact e
  obtain ⟨M, S'⟩ := S.news (o := o) e
  refine ⟨S.len, fun i c a h1 h2 => ?_, S.inj, fun a z => ?_, fun a z => ?_⟩
  · obtain ⟨xs, h3, h4⟩ := S.cell i c a h1 h2
    exact ⟨xs, by rw [upd_ne (L2.ne_of_none h3 e)]; exact h3, RpL.moveC S.cl M (h4.strong w)⟩
  · rcases z with z | z
    · exact S.bn a z
    · subst z
      exact fun z => S.fresh e (.inr z)
  · rcases z with z | z
    · exact S'.bt a z
    · subst z
      rw [upd_same]
      exact fun z => nomatch z
theorem Sim.unblock {D : Addr} (S : Sim A (Bx B D) m h H) : Sim A B m h H :=
  ⟨S.len, fun i c a h1 h2 => let ⟨xs, h3, h4⟩ := S.cell i c a h1 h2; ⟨xs, h3, h4.weak fun _ z => z.imp .inl id⟩, S.inj, fun a z => S.bn a (.inl z), fun a z => S.bt a (.inl z)⟩
end
/-! ### a comprehension -/
abbrev WF : XK := fun _ _ _ => False
def tTs (A : Ad) (P : Pg) (C : CallT) : EL → TT
  | .nil => L2.tYes
  | .cons e _ => tQ A P C WF e
section
variable {A : Ad} {P : Pg} {C : CallT} {N : List Str} {sc ss : Scope} {W : XK} {X : Cx} (hC : MonoC C C)
include hC
theorem tI_of {B : Addr → Prop} {m : List Addr} {h : Hs} {H : Hp} {ρ : Env} {σ : L2.St} {it : It} {R : List PV → (Hs → Prop) → Hs → Prop} {T : L2.It → Hp → Prop} (S : Sim A B m h H) (s : Sl A B m h H ρ σ) (z : wpI P C it ρ h R (Kx A B m h H W))
    (k : ∀ l gd h1 m1 H1 J, R l gd h1 → Sim A B m1 h1 H1 → Mv m h H m1 h1 H1 → Walks A B m1 h1 H1 J l gd → T J H1) : tI A P C W it σ H T :=
  ⟨B, m, h, ρ, S, s, wpI_mono hC it (fun l gd h1 r m1 H1 J S1 M1 q => k l gd h1 m1 H1 J r S1 M1 q) (fun _ _ z => z) z⟩
theorem i_comp {elt : E} {tg : Tg} {it : It} {ifs : EL} : ∀ σ H Q, tE A P C W (.comp elt tg it ifs) σ H Q → L2.tLc (tI A P C W it) (tG A tg) (tTs A P C ifs) (tE A P C WF elt) tg.slots σ H Q := fun σ H Q z => by
  obtain ⟨B, m, h, ρ, S, s, z⟩ := z
  unfold wpE at z
  refine tI_of hC S s z fun l gd h1 m1 H1 J q S1 M1 wk D hD => ?_
  obtain ⟨hz, q⟩ := q
  have wB : ∀ a, Bx B D a → B a ∨ H1 a = none := fun a z => z.imp id fun z => by rw [z]; exact hD
  have s1 := s.move S M1
  generalize hst : (fun (x : PV) (h2 : Hs) (k : List PV → Hs → Prop) => bindT tg x (kill ρ tg.slots) fun ρ1 => wpTs P C ifs ρ1 h2 (fun b h3 => if b = true then wpE P C elt ρ1 h3 (fun y h4 => ∃ p, y = RV.pv p ∧ k [p] h4) (fun _ _ => False) else k [] h3) (fun _ _ => False)) = st at q
  have hst' : ∀ x h2 k, st x h2 k = bindT tg x (kill ρ tg.slots) fun ρ1 => wpTs P C ifs ρ1 h2 (fun b h3 => if b = true then wpE P C elt ρ1 h3 (fun y h4 => ∃ p, y = RV.pv p ∧ k [p] h4) (fun _ _ => False) else k [] h3) (fun _ _ => False) := fun x h2 k => by rw [← hst]
  refine ⟨fun i n H2 => ∃ m2 h2 acc xs, Sim A (Bx B D) m2 h2 H2 ∧ Mv m1 h1 H1 m2 h2 H2 ∧ H2 D = some (.lst xs) ∧ RpL A (Xc (Bx B D) m2 h2) H2 acc xs ∧ acc.length ≤ i ∧ i ≤ l.length ∧ n = l.length - i ∧
      compT gd st (l.drop i) h2 (fun r h3 => Kv A B m h H Q (.pv (.lst (acc ++ r))) h3), ⟨l.length, m1, h1, [], [], S1.block hD, ?_, upd_same, .nil, Nat.le_refl _, Nat.zero_le _, rfl, q⟩, ?_⟩
  · exact (S1.news (o := .lst []) hD).1
  rintro i n H2 ⟨m2, h2, acc, xs, S2, M2, e2, r2, ha, hi, rfl, q⟩
  by_cases hlt : i < l.length
  · right
    obtain ⟨x, hx⟩ : ∃ x, l[i]? = some x := ⟨l[i], List.getElem?_eq_getElem hlt⟩
    have hdr : l.drop i = x :: l.drop (i + 1) := by
      rw [List.drop_eq_getElem_cons hlt]
      congr 1
      exact (List.getElem?_eq_some_iff.mp hx).2
    rw [hdr] at q
    obtain ⟨g, q⟩ := q
    obtain ⟨go, yl⟩ := (wk (Bx B D) m2 h2 H2 wB S2 M2 g).1 i x hx
    refine ⟨go, _, fun H' w => ⟨l.length - (i + 1), by omega, w⟩, fun v H3 y => ?_⟩
    obtain ⟨S3, M3, r3⟩ := yl v H3 y
    rw [hst' x h2] at q
    refine ⟨Bx B D, m2, h2, x, kill ρ tg.slots, _, S3, (s1.later S1.cl wB (M2.trans M3)).wipe tg.slots, r3, q, fun ρ1 σ1 q sl off => ⟨?_, ?_⟩⟩
    · have e := off.wipe
      rw [e]
      apply List.ext_getElem?
      intro j
      by_cases hj : j ∈ tg.slots
      · by_cases hl : j < σ.length
        · rw [wipe_in hj (by rw [L2.wipe_length]; exact hl), wipe_in hj hl]
        · rw [List.getElem?_eq_none (by rw [L2.wipe_length, L2.wipe_length]; omega), List.getElem?_eq_none (by rw [L2.wipe_length]; omega)]
      · rw [L2.wipe_out hj]
    · -- the tests, then the item
      have item : ∀ (b : Bool) (h3 : Hs) (m4 : List Addr) (H4 : Hp), (if b = true then wpE P C elt ρ1 h3 (fun y h4 => ∃ p, y = RV.pv p ∧ compT gd st (l.drop (i + 1)) h4 fun r h5 => Kv A B m h H Q (.pv (.lst (acc ++ ([p] ++ r)))) h5) (fun _ _ => False)
            else compT gd st (l.drop (i + 1)) h3 fun r h5 => Kv A B m h H Q (.pv (.lst (acc ++ ([] ++ r)))) h5) → Sim A (Bx B D) m4 h3 H4 → Mv m2 h2 H3 m4 h3 H4 →
          if b = true then tE A P C WF elt σ1 H4 (fun y H5 => ∃ acc', H5 D = some (.lst acc') ∧ acc'.length < sizeLine ∧ ∃ m2 h2 acc xs, Sim A (Bx B D) m2 h2 (upd H5 D (.lst (acc' ++ [y]))) ∧ Mv m1 h1 H1 m2 h2 (upd H5 D (.lst (acc' ++ [y]))) ∧ upd H5 D (.lst (acc' ++ [y])) D = some (.lst xs) ∧ RpL A (Xc (Bx B D) m2 h2) (upd H5 D (.lst (acc' ++ [y]))) acc xs ∧ acc.length ≤ i + 1 ∧ i + 1 ≤ l.length ∧ l.length - (i + 1) = l.length - (i + 1) ∧
              compT gd st (l.drop (i + 1)) h2 (fun r h3 => Kv A B m h H Q (.pv (.lst (acc ++ r))) h3)) else
            ∃ m2 h2 acc xs, Sim A (Bx B D) m2 h2 H4 ∧ Mv m1 h1 H1 m2 h2 H4 ∧ H4 D = some (.lst xs) ∧ RpL A (Xc (Bx B D) m2 h2) H4 acc xs ∧ acc.length ≤ i + 1 ∧ i + 1 ≤ l.length ∧ l.length - (i + 1) = l.length - (i + 1) ∧
              compT gd st (l.drop (i + 1)) h2 (fun r h3 => Kv A B m h H Q (.pv (.lst (acc ++ r))) h3) := by
        intro b h3 m4 H4 q S4 M4
        have eD : ∀ {m5 : List Addr} {h5 : Hs} {H5 : Hp}, Mv m2 h2 H2 m5 h5 H5 → H5 D = some (.lst xs) := fun M => (M.keep D _ e2 (fun _ e => nomatch e) (S2.bn D (.inr rfl))).1
        cases b with
        | true =>
          rw [if_pos rfl] at q ⊢
          refine ⟨Bx B D, m4, h3, ρ1, S4, sl.move S3 M4, wpE_mono hC elt (fun y h5 q m5 H5 w S5 M5 r5 => ?_) (fun _ _ z => z.elim) q⟩
          obtain ⟨p, rfl, q⟩ := q
          have M25 := (M3.trans M4).trans M5
          refine ⟨xs, eD M25, by rw [r2.length]; omega, m5, h5, acc ++ [p], xs ++ [w], S5.blocked (.inr rfl) (eD M25), ?_, upd_same, ?_, by simp; omega, hlt, rfl, ?_⟩
          · have M15 := M2.trans M25
            exact ⟨M15.pre, fun b o e t n => ⟨by rw [upd_ne (L2.ne_of_none e hD)]; exact (M15.keep b o e t n).1, (M15.keep b o e t n).2⟩⟩
          · exact (RpL.append (RpL.moveC S2.cl M25 r2) (.cons (show Rp A _ H5 p w from r5) .nil)).blocked (.inr rfl) (eD M25)
          · simpa [List.append_assoc] using q
        | false =>
          rw [if_neg Bool.false_ne_true] at q ⊢
          have M24 := M3.trans M4
          exact ⟨m4, h3, acc, xs, S4, M2.trans M24, eD M24, RpL.moveC S2.cl M24 r2, by omega, hlt, rfl, by simpa using q⟩
      cases ifs with
      | nil =>
        unfold wpTs at q
        exact item true h2 m2 H3 q S3 (Mv.refl _ _ _)
      | cons e r =>
        unfold wpTs at q
        refine ⟨Bx B D, m2, h2, ρ1, S3, sl, wpE_mono hC e (fun y h3 q m4 H4 w S4 M4 r4 => ?_) (fun _ _ z => z.elim) q⟩
        obtain ⟨c, rfl, q⟩ := q
        cases r4
        exact ⟨c, rfl, item c h3 m4 H4 q S4 M4⟩
  · left
    have e : i = l.length := by omega
    subst e
    rw [List.drop_length] at q
    obtain ⟨g, q⟩ := q
    refine ⟨(wk (Bx B D) m2 h2 H2 wB S2 M2 g).2 _ (Nat.le_refl _), ?_⟩
    rw [List.append_nil] at q
    refine q m2 H2 _ S2.unblock (M1.trans M2) (.lst e2 (fun z => ?_) (r2.weak fun _ z => z.imp .inl id))
    rcases z with z | z
    · exact S1.bt D z hD
    · exact S2.bn D (.inr rfl) z
end
end G43
set_option Elab.async false
set_option linter.all false
set_option maxRecDepth 100000
set_option maxHeartbeats 4000000
namespace G43
open PySem
open L2 (V HO Hp SqL SqT Rd upd upd_same upd_ne Cx OpR R2 VK CallR IxR SlR TE TA TS TT TI TG TGs PE PA PS PSs PT PI PG PGs XK Sp Room Vals)
open PySem.Spec PyProof.Rows
section
variable {A : Ad} {P : Pg} {C : CallT} {N : List Str}
theorem Ctx.blk {sc ss : Scope} {W : XK} {X : Cx} (cx : Ctx A P C N sc ss W X) (scope : Scope) (s : Shared) (H : Hp) (c : Addr) (cl : List (Str × Addr)) (fp : List Addr) (hk : scope.kind = .function) :
    Ctx A P C N (L2.relS scope sc) scope WF (X.blk s H scope (compEnvC scope cl c X.env) fp) where
  eK := cx.eK
  eS := by
    have e : (compEnvC scope cl c X.env).scope = L2.relS scope X.env.scope := rfl
    rw [← cx.eS]
    exact e
  eN := cx.eN
  kd := hk
  nd := cx.nd
  calm := cx.calm
  un := cx.un
  gd := cx.gd
  tk := L2.takes0
  po := PassesOwn.never
  st := fun x h => by
    rcases stoB_ok h with k | k
    · have q := L2.lookup_relS_keep (sc := sc) (by decide) k
      exact ⟨.inl q, .inr q⟩
    · have q := L2.lookup_relS_keep (sc := sc) (by decide) k
      refine ⟨.inr q, .inl ?_⟩
      show (scope.names.lookup x == some NameKind.cell) = true
      rw [k]
      rfl
  cal := fun f df e => let d := cx.cal f df e; ⟨d.nm, d.kp, d.fn⟩
  con := cx.con
  blt := cx.blt
theorem mL_all : ∀ {es : EL} {sc : Scope} {args : List Expr}, mL P N es sc args = true → args.all noStar = true ∧ es.len = args.length
  | .nil, sc, [], _ => ⟨rfl, rfl⟩
  | .nil, sc, _ :: _, h => by simp [mL] at h
  | .cons _ _, sc, [], h => by simp [mL] at h
  | .cons e r, sc, a :: as, h => by
    simp only [mL, Bool.and_eq_true] at h
    obtain ⟨h1, h2⟩ := mL_all h.2
    exact ⟨by rw [List.all_cons, h.1.2, h1]; rfl, by show r.len + 1 = as.length + 1; rw [h2]⟩
/-- what a text may be whose test is its value's truth -/
def valE : E → Bool
  | .and _ _ => false
  | .or _ _ => false
  | .nt _ => false
  | .cmp _ _ _ => false
  | _ => true
theorem isT_plain {e : E} {sc : Scope} {x : Expr} {env : PySem.Env} (h : mE P N e sc x = true) (hv : valE e = true) : ∀ whole, isTrue x env whole = (do let v ← whole; standAt x.pos; holding [v] (truthy v)) := by
  cases x with
  | BoolOp op vs pos =>
    exfalso
    cases op <;> rcases vs with _ | ⟨v, _ | ⟨w, _ | ⟨u, vs⟩⟩⟩ <;> cases e <;> first | (simp [mE] at h; done) | (simp [valE] at hv; done)
  | UnaryOp op a pos =>
    cases op <;> cases e <;> first | (intro _; rfl) | (simp [mE] at h; done) | (simp [valE] at hv; done)
  | Compare a ops bs pos =>
    exfalso
    rcases ops with _ | ⟨o1, _ | ⟨o2, _ | ⟨o3, ops⟩⟩⟩ <;> rcases bs with _ | ⟨b1, _ | ⟨b2, _ | ⟨b3, bs⟩⟩⟩ <;> cases e <;> first | (simp [mE] at h; done) | (simp [valE] at hv; done)
  | IfExp t a b pos =>
    exfalso
    cases e <;> first | (simp [mE] at h; done) | (simp [valE] at hv; done)
  | _ => intro _; rfl
variable (hC : MonoC C C)
include hC
mutual
theorem sE : ∀ (e : E) {sc ss : Scope} {W : XK} {X : Cx} {x : Expr}, Ctx A P C N sc ss W X → mE P N e sc x = true → PE X x (tE A P C W e) ∧ PT X x (tQ A P C W e)
  | .var i, sc, ss, W, X, x, cx, h => by
    have pe : PE X x (tE A P C W (.var i)) := by
      cases x with
      | Name y pos =>
        simp only [mE, Bool.and_eq_true, decide_eq_true_eq, Bool.not_eq_true'] at h
        exact s_var cx h.1.1 h.1.2 h.2
      | _ => simp [mE] at h
    exact ⟨pe, q_val hC pe (isT_plain h rfl)⟩
  | .cst p, sc, ss, W, X, x, cx, h => by
    have pe : PE X x (tE A P C W (.cst p)) := by
      cases x with
      | Constant c k pos =>
        simp only [mE] at h
        exact s_cst h
      | _ => simp [mE] at h
    exact ⟨pe, q_val hC pe (isT_plain h rfl)⟩
  | .glo g, sc, ss, W, X, x, cx, h => by
    have pe : PE X x (tE A P C W (.glo g)) := by
      cases x with
      | Name y pos =>
        simp only [mE, Bool.and_eq_true, Bool.not_eq_true'] at h
        obtain ⟨⟨h1, h2⟩, h3⟩ := h
        cases hg : P.cons[g]? with
        | none => rw [hg] at h1; cases h1
        | some q =>
          rw [hg] at h1
          have e := of_decide_eq_true h1
          subst e
          exact s_glo (p := q.2) cx hg h2 h3
      | _ => simp [mE] at h
    exact ⟨pe, q_val hC pe (isT_plain h rfl)⟩
  | .bin op a b, sc, ss, W, X, x, cx, h => by
    have pe : PE X x (tE A P C W (.bin op a b)) := by
      cases x with
      | BinOp a' op' b' pos =>
        simp only [mE, Bool.and_eq_true, decide_eq_true_eq] at h
        obtain ⟨⟨rfl, h1⟩, h2⟩ := h
        exact s_bin hC cx (sE a cx h1).1 (sE b cx h2).1
      | _ => simp [mE] at h
    exact ⟨pe, q_val hC pe (isT_plain h rfl)⟩
  | .neg a, sc, ss, W, X, x, cx, h => by
    have pe : PE X x (tE A P C W (.neg a)) := by
      cases x with
      | UnaryOp op a' pos =>
        cases op <;> simp only [mE] at h <;> first | exact s_neg hC (sE a cx h).1 | cases h
      | _ => simp [mE] at h
    exact ⟨pe, q_val hC pe (isT_plain h rfl)⟩
  | .nt a, sc, ss, W, X, x, cx, h => by
    refine ⟨?_, ?_⟩
    · cases x with
      | UnaryOp op a' pos =>
        cases op <;> simp only [mE] at h <;> first | exact s_nt hC (sE a cx h).1 | cases h
      | _ => simp [mE] at h
    · cases x with
      | UnaryOp op a' pos =>
        cases op <;> simp only [mE] at h <;> first | exact q_nt hC (sE a cx h).2 | cases h
      | _ => simp [mE] at h
  | .and a b, sc, ss, W, X, x, cx, h => by
    refine ⟨?_, ?_⟩
    · cases x with
      | BoolOp op vs pos =>
        cases op with
        | Or => cases vs with
          | nil => simp [mE] at h
          | cons v vs => cases vs with
            | nil => simp [mE] at h
            | cons w vs => cases vs <;> simp [mE] at h
        | And => cases vs with
          | nil => simp [mE] at h
          | cons v vs => cases vs with
            | nil => simp [mE] at h
            | cons w vs => cases vs with
              | nil =>
                simp only [mE, Bool.and_eq_true] at h
                exact PE_imp (L2.pe_and (sE a cx h.1).1 (L2.pe_one (sE b cx h.2).1)) (i_and hC)
              | cons u vs =>
                simp only [mE, Bool.and_eq_true] at h
                exact PE_imp (L2.pe_and (sE a cx h.1).1 (sE b cx h.2).1) (i_and hC)
      | _ => simp [mE] at h
    · cases x with
      | BoolOp op vs pos =>
        cases op with
        | Or => cases vs with
          | nil => simp [mE] at h
          | cons v vs => cases vs with
            | nil => simp [mE] at h
            | cons w vs => cases vs <;> simp [mE] at h
        | And => cases vs with
          | nil => simp [mE] at h
          | cons v vs => cases vs with
            | nil => simp [mE] at h
            | cons w vs => cases vs with
              | nil =>
                simp only [mE, Bool.and_eq_true] at h
                exact PT_imp (L2.pw_and (sE a cx h.1).2 (L2.pw_and1 (sE b cx h.2).2)).pt (i_qand hC)
              | cons u vs =>
                simp only [mE, Bool.and_eq_true] at h
                exact PT_imp (L2.pw_and (sE a cx h.1).2 (pw_of hC (sE b cx h.2).2)).pt (i_qand hC)
      | _ => simp [mE] at h
  | .or a b, sc, ss, W, X, x, cx, h => by
    refine ⟨?_, ?_⟩
    · cases x with
      | BoolOp op vs pos =>
        cases op with
        | And => cases vs with
          | nil => simp [mE] at h
          | cons v vs => cases vs with
            | nil => simp [mE] at h
            | cons w vs => cases vs <;> simp [mE] at h
        | Or => cases vs with
          | nil => simp [mE] at h
          | cons v vs => cases vs with
            | nil => simp [mE] at h
            | cons w vs => cases vs with
              | nil =>
                simp only [mE, Bool.and_eq_true] at h
                exact PE_imp (L2.pe_or (sE a cx h.1).1 (L2.pe_one (sE b cx h.2).1)) (i_or hC)
              | cons u vs =>
                simp only [mE, Bool.and_eq_true] at h
                exact PE_imp (L2.pe_or (sE a cx h.1).1 (sE b cx h.2).1) (i_or hC)
      | _ => simp [mE] at h
    · cases x with
      | BoolOp op vs pos =>
        cases op with
        | And => cases vs with
          | nil => simp [mE] at h
          | cons v vs => cases vs with
            | nil => simp [mE] at h
            | cons w vs => cases vs <;> simp [mE] at h
        | Or => cases vs with
          | nil => simp [mE] at h
          | cons v vs => cases vs with
            | nil => simp [mE] at h
            | cons w vs => cases vs with
              | nil =>
                simp only [mE, Bool.and_eq_true] at h
                exact PT_imp (L2.pw_or (sE a cx h.1).2 (L2.pw_or1 (sE b cx h.2).2)).pt (i_qor hC)
              | cons u vs =>
                simp only [mE, Bool.and_eq_true] at h
                exact PT_imp (L2.pw_or (sE a cx h.1).2 (pw_of hC (sE b cx h.2).2)).pt (i_qor hC)
      | _ => simp [mE] at h
  | .cmp op a b, sc, ss, W, X, x, cx, h => by
    refine ⟨?_, ?_⟩
    · cases x with
      | Compare a' ops bs pos =>
        rcases ops with _ | ⟨o1, _ | ⟨o2, ops⟩⟩ <;> rcases bs with _ | ⟨b1, _ | ⟨b2, bs⟩⟩ <;> simp only [mE, Bool.and_eq_true, decide_eq_true_eq, Bool.not_eq_true', Bool.false_eq_true] at h
        obtain ⟨⟨⟨rfl, h1⟩, h2⟩, h3⟩ := h
        exact PE_imp (L2.pe_cmpR (op_cmp cx.eK cx.un op) (sE a cx h2).1 (sE b cx h3).1 h1) (i_cmp hC)
      | _ => simp [mE] at h
    · cases x with
      | Compare a' ops bs pos =>
        rcases ops with _ | ⟨o1, _ | ⟨o2, ops⟩⟩ <;> rcases bs with _ | ⟨b1, _ | ⟨b2, bs⟩⟩ <;> simp only [mE, Bool.and_eq_true, decide_eq_true_eq, Bool.not_eq_true', Bool.false_eq_true] at h
        obtain ⟨⟨⟨rfl, h1⟩, h2⟩, h3⟩ := h
        exact PT_imp (L2.pt_cmpR (op_cmp cx.eK cx.un op) (sE a cx h2).1 (sE b cx h3).1 h1) fun σ H Q z => i_cmp hC σ H _ z
      | _ => simp [mE] at h
  | .call f es dv, sc, ss, W, X, x, cx, h => by
    have pe : PE X x (tE A P C W (.call f es dv)) := by
      cases x with
      | Call fe args kws pos =>
        cases fe with
        | Name y p =>
          cases kws with
          | nil =>
            simp only [mE, Bool.and_eq_true, Bool.not_eq_true'] at h
            obtain ⟨⟨⟨h1, h2⟩, h3⟩, h4⟩ := h
            cases hg : P.defs[f]? with
            | none => rw [hg] at h1; cases h1
            | some df =>
              rw [hg] at h1
              simp only [Bool.and_eq_true, decide_eq_true_eq] at h1
              obtain ⟨⟨⟨rfl, h5⟩, h6⟩, h7⟩ := h1
              have e := samDs_eq h7
              have pa := sL es cx h4
              cases args with
              | nil =>
                cases es with
                | nil => exact s_call0 hC cx hg e h2 h3
                | cons _ _ => simp [mL] at h4
              | cons a args => exact s_call hC cx hg e h2 h3 (mL_all h4).1 pa
          | cons _ _ => simp [mE] at h
        | _ => simp [mE] at h
      | _ => simp [mE] at h
    exact ⟨pe, q_val hC pe (isT_plain h rfl)⟩
  | .bi b es, sc, ss, W, X, x, cx, h => by
    have pe : PE X x (tE A P C W (.bi b es)) := by
      cases x with
      | Call fe args kws pos =>
        cases fe with
        | Name y p =>
          cases kws with
          | nil =>
            simp only [mE, Bool.and_eq_true, decide_eq_true_eq] at h
            obtain ⟨⟨⟨⟨rfl, h1⟩, h2⟩, h3⟩, h4⟩ := h
            have pa := sL es cx h3
            cases args with
            | nil => simp at h4
            | cons a args => exact s_bi hC cx h1 h2 (mL_all h3).1 pa
          | cons _ _ => simp [mE] at h
        | _ => simp [mE] at h
      | _ => simp [mE] at h
    exact ⟨pe, q_val hC pe (isT_plain h rfl)⟩
  | .isi a t, sc, ss, W, X, x, cx, h => by
    have pe : PE X x (tE A P C W (.isi a t)) := by
      cases x with
      | Call fe args kws pos =>
        cases fe with
        | Name y p =>
          rcases kws with _ | ⟨k, kws⟩ <;> rcases args with _ | ⟨a1, _ | ⟨a2, _ | ⟨a3, args⟩⟩⟩ <;> try (simp [mE] at h; done)
          cases a2 with
          | Name z p2 =>
            simp only [mE, Bool.and_eq_true, decide_eq_true_eq] at h
            obtain ⟨⟨⟨⟨⟨⟨⟨rfl, rfl⟩, h1⟩, h2⟩, h3⟩, h4⟩, h5⟩, h6⟩ := h
            exact s_isi hC cx h1 h2 h3 h4 h6 (sE a cx h5).1
          | _ => simp [mE] at h
        | _ => simp [mE] at h
      | _ => simp [mE] at h
    exact ⟨pe, q_val hC pe (isT_plain h rfl)⟩
  | .idx a i, sc, ss, W, X, x, cx, h => by
    have pe : PE X x (tE A P C W (.idx a i)) := by
      cases x with
      | Subscript a' i' pos =>
        simp only [mE, Bool.and_eq_true] at h
        exact s_idx hC cx h.1.1 (sE a cx h.1.2).1 (sE i cx h.2).1
      | _ => simp [mE] at h
    exact ⟨pe, q_val hC pe (isT_plain h rfl)⟩
  | .slo a lo, sc, ss, W, X, x, cx, h => by
    have pe : PE X x (tE A P C W (.slo a lo)) := by
      cases x with
      | Subscript a' i' pos =>
        cases i' with
        | Slice l u st p2 =>
          rcases l with _ | l <;> rcases u with _ | u <;> rcases st with _ | st <;> simp only [mE, Bool.and_eq_true, Bool.false_eq_true] at h
          exact s_slo hC cx (sE a cx h.1).1 (sE lo cx h.2).1
        | _ => simp [mE] at h
      | _ => simp [mE] at h
    exact ⟨pe, q_val hC pe (isT_plain h rfl)⟩
  | .shi a hi, sc, ss, W, X, x, cx, h => by
    have pe : PE X x (tE A P C W (.shi a hi)) := by
      cases x with
      | Subscript a' i' pos =>
        cases i' with
        | Slice l u st p2 =>
          rcases l with _ | l <;> rcases u with _ | u <;> rcases st with _ | st <;> simp only [mE, Bool.and_eq_true, Bool.false_eq_true] at h
          exact s_shi hC cx (sE a cx h.1).1 (sE hi cx h.2).1
        | _ => simp [mE] at h
      | _ => simp [mE] at h
    exact ⟨pe, q_val hC pe (isT_plain h rfl)⟩
  | .slh a lo hi, sc, ss, W, X, x, cx, h => by
    have pe : PE X x (tE A P C W (.slh a lo hi)) := by
      cases x with
      | Subscript a' i' pos =>
        cases i' with
        | Slice l u st p2 =>
          rcases l with _ | l <;> rcases u with _ | u <;> rcases st with _ | st <;> simp only [mE, Bool.and_eq_true, Bool.false_eq_true] at h
          exact s_slh hC cx (sE a cx h.1.1).1 (sE lo cx h.1.2).1 (sE hi cx h.2).1
        | _ => simp [mE] at h
      | _ => simp [mE] at h
    exact ⟨pe, q_val hC pe (isT_plain h rfl)⟩
  | .tup es, sc, ss, W, X, x, cx, h => by
    have pe : PE X x (tE A P C W (.tup es)) := by
      cases x with
      | Tuple es' k pos =>
        simp only [mE, Bool.and_eq_true, decide_eq_true_eq] at h
        exact s_tup hC (by rw [(mL_all h.1).2]; exact h.2) (sL es cx h.1)
      | _ => simp [mE] at h
    exact ⟨pe, q_val hC pe (isT_plain h rfl)⟩
  | .lst es, sc, ss, W, X, x, cx, h => by
    have pe : PE X x (tE A P C W (.lst es)) := by
      cases x with
      | List es' pos =>
        simp only [mE, Bool.and_eq_true, decide_eq_true_eq] at h
        exact s_lst hC (by rw [(mL_all h.1).2]; exact h.2) (sL es cx h.1)
      | _ => simp [mE] at h
    exact ⟨pe, q_val hC pe (isT_plain h rfl)⟩
  | .mad a b, sc, ss, W, X, x, cx, h => by
    have pe : PE X x (tE A P C W (.mad a b)) := by
      cases x with
      | BinOp a' op' b' pos =>
        simp only [mE, Bool.and_eq_true, decide_eq_true_eq] at h
        obtain ⟨⟨rfl, h1⟩, h2⟩ := h
        exact s_mad hC (sE a cx h1).1 (sE b cx h2).1
      | _ => simp [mE] at h
    exact ⟨pe, q_val hC pe (isT_plain h rfl)⟩
  | .mls es, sc, ss, W, X, x, cx, h => by
    have pe : PE X x (tE A P C W (.mls es)) := by
      cases x with
      | List es' pos =>
        simp only [mE, Bool.and_eq_true, decide_eq_true_eq] at h
        exact s_mls hC (by rw [(mL_all h.1).2]; exact h.2) (sL es cx h.1)
      | _ => simp [mE] at h
    exact ⟨pe, q_val hC pe (isT_plain h rfl)⟩
  | .comp elt tg it ifs, sc, ss, W, X, x, cx, h => by
    have pe : PE X x (tE A P C W (.comp elt tg it ifs)) := by
      cases x with
      | ListComp elt' gens scope pos =>
        rcases gens with _ | ⟨⟨tg', it', ifs', as⟩, _ | ⟨g2, gens⟩⟩ <;> simp only [mE, Bool.and_eq_true, decide_eq_true_eq, Bool.false_eq_true] at h
        obtain ⟨⟨⟨⟨⟨⟨⟨rfl, h1⟩, h2⟩, h3⟩, h4⟩, h5⟩, h6⟩, h7⟩ := h
        have ok := L2.blkOk_by h1
        have pe := L2.pe_lc (X := X) (elt := elt') (tg := tg') (iter := it') (ifs := ifs') (scope := scope) (own := ownOf N tg) (pos := pos) (wi := tI A P C W it) (g := tG A tg) (tt := tTs A P C ifs) (te := tE A P C WF elt) cx.calm (by rw [cx.eN]; exact cx.nd) (sI it cx h3 h5) (by rw [cx.eN, cx.eS]; exact ok)
          (fun s H c cl fp => sG (cx.blk scope s H c cl fp ok.kind) tg h2) (fun s H c cl fp => sTs ifs (cx.blk scope s H c cl fp ok.kind) h6) (fun s H c cl fp => (sE elt (cx.blk scope s H c cl fp ok.kind) h7).1) (fun x => by cases it' <;> first | rfl | cases h4)
        rw [ownOf_slots] at pe
        exact PE_imp pe (i_comp hC)
      | _ => simp [mE] at h
    exact ⟨pe, q_val hC pe (isT_plain h rfl)⟩
theorem sL : ∀ (es : EL) {sc ss : Scope} {W : XK} {X : Cx} {xs : List Expr}, Ctx A P C N sc ss W X → mL P N es sc xs = true → PA X xs (tL A P C W es)
  | .nil, sc, ss, W, X, xs, cx, h => by
    cases xs with
    | nil => exact s_nil hC
    | cons _ _ => simp [mL] at h
  | .cons e r, sc, ss, W, X, xs, cx, h => by
    cases xs with
    | nil => simp [mL] at h
    | cons x xs =>
      simp only [mL, Bool.and_eq_true] at h
      exact s_cons hC h.1.2 (sE e cx h.1.1).1 (sL r cx h.2)
theorem sI : ∀ (it : It) {sc ss : Scope} {W : XK} {X : Cx} {tg x : Expr}, Ctx A P C N sc ss W X → itT it tg = true → mI P N it sc x = true → PI X tg x (tI A P C W it)
  | .seq e, sc, ss, W, X, tg, x, cx, ht, h => by
    have h' : mE P N e sc x = true := by unfold mI at h; exact h
    exact s_seq hC cx (sE e cx h').1
  | .rng1 e, sc, ss, W, X, tg, x, cx, ht, h => by
    cases x with
    | Call fe args kws pos =>
      cases fe with
      | Name y p =>
        rcases kws with _ | ⟨k, kws⟩ <;> rcases args with _ | ⟨a1, _ | ⟨a2, args⟩⟩ <;> simp only [mI, Bool.and_eq_true, decide_eq_true_eq, Bool.false_eq_true] at h
        obtain ⟨⟨⟨⟨rfl, h1⟩, h2⟩, h3⟩, h4⟩ := h
        exact s_rng1 hC cx h3 h1 h2 (sE e cx h4).1
      | _ => simp [mI] at h
    | _ => simp [mI] at h
  | .zip a b, sc, ss, W, X, tg, x, cx, ht, h => by
    cases tg with
    | Tuple elts kk tpos =>
      cases x with
      | Call fe args kws pos =>
        cases fe with
        | Name y p =>
          rcases kws with _ | ⟨k, kws⟩ <;> rcases args with _ | ⟨a1, _ | ⟨a2, _ | ⟨a3, args⟩⟩⟩ <;> simp only [mI, Bool.and_eq_true, decide_eq_true_eq, Bool.false_eq_true] at h
          obtain ⟨⟨⟨⟨⟨⟨rfl, h1⟩, h2⟩, h3⟩, h4⟩, h5⟩, h6⟩ := h
          exact s_zip hC cx h3 h4 h1 h2 (sE a cx h5).1 (sE b cx h6).1
        | _ => simp [mI] at h
      | _ => simp [mI] at h
    | _ => simp [itT] at ht
theorem sTs : ∀ (es : EL) {sc ss : Scope} {X : Cx} {xs : List Expr}, Ctx A P C N sc ss WF X → mTs P N es sc xs = true → L2.PTs X xs (tTs A P C es)
  | .nil, sc, ss, X, xs, cx, h => by
    cases xs with
    | nil => exact L2.pts_nil
    | cons _ _ => simp [mTs] at h
  | .cons e r, sc, ss, X, xs, cx, h => by
    cases r with
    | nil =>
      rcases xs with _ | ⟨x, _ | ⟨y, xs⟩⟩ <;> simp only [mTs, Bool.false_eq_true] at h
      exact L2.pts_one (sE e cx h).2
    | cons _ _ => simp [mTs] at h
end
end
end G43
set_option Elab.async false
set_option linter.all false
set_option maxRecDepth 100000
set_option maxHeartbeats 4000000
namespace G43
open PySem
open L2 (V HO Hp SqL SqT Rd upd upd_same upd_ne Cx OpR R2 VK CallR IxR SlR TE TA TS TT TI TG TGs PE PA PS PSs PT PI PG PGs XK Sp Room Vals)
open PySem.Spec PyProof.Rows
/-! ### the order of the stores -/
theorem blk_fn {env : PySem.Env} (hk : env.scope.kind = .function) : env.blockKind = .function := by
  unfold PySem.Env.blockKind
  rw [hk]
  rfl
def isStar : Expr → Bool
  | .Starred .. => true
  | _ => false
theorem sw_two {x y : Str} {px py pt pt2 : Pos} {kt k2 : Nat} {a b : Expr} {env : PySem.Env} (hk : env.scope.kind = .function) (hx : env.scope.names.lookup x = some .local) (hy : env.scope.names.lookup y = some .local) (hl : py.line = px.line) (hne : x ≠ y)
    (ha : noStar a = true) (hb : noStar b = true) (hf : (foldedForSure 8 a && foldedForSure 8 b) = false) (hc : (constantsAlone 8 a && constantsAlone 8 b) = false) :
    swappedStores [.Tuple [.Name x px, .Name y py] kt pt] (.Tuple [a, b] k2 pt2) env = pure (some [x, y]) := by
  have kx : env.kindOf x = some .local := hx
  have ky : env.kindOf y = some .local := hy
  have d : ([x, y].eraseDups).length = 2 := by
    have : (y == x) = false := by simp [Ne.symm hne]
    simp [List.eraseDups, List.eraseDupsBy, List.eraseDupsBy.loop, this, hne]
  unfold swappedStores
  simp [blk_fn hk, kx, ky, hl, Expr.pos, d, hf, hc]
  rintro (h | h)
  · cases a <;> first | (cases ha; done) | (cases h; done)
  · cases b <;> first | (cases hb; done) | (cases h; done)
theorem sw_three {x y z : Str} {px py pz pt pt2 : Pos} {kt k2 : Nat} {a b c : Expr} {env : PySem.Env} (hk : env.scope.kind = .function) (hx : env.scope.names.lookup x = some .local) (hy : env.scope.names.lookup y = some .local) (hz : env.scope.names.lookup z = some .local)
    (hl : py.line = px.line) (hl2 : pz.line = px.line) (hxy : x ≠ y) (hxz : x ≠ z) (hyz : y ≠ z)
    (ha : noStar a = true) (hb : noStar b = true) (hcc : noStar c = true) (hf : (foldedForSure 8 a && (foldedForSure 8 b && foldedForSure 8 c)) = false) (hc : (constantsAlone 8 a && (constantsAlone 8 b && constantsAlone 8 c)) = false) :
    swappedStores [.Tuple [.Name x px, .Name y py, .Name z pz] kt pt] (.Tuple [a, b, c] k2 pt2) env = pure (some [x, y, z]) := by
  have kx : env.kindOf x = some .local := hx
  have ky : env.kindOf y = some .local := hy
  have kz : env.kindOf z = some .local := hz
  have d : ([x, y, z].eraseDups).length = 3 := by
    have e1 : (y == x) = false := by simp [Ne.symm hxy]
    have e2 : (z == x) = false := by simp [Ne.symm hxz]
    have e3 : (z == y) = false := by simp [Ne.symm hyz]
    simp [List.eraseDups, List.eraseDupsBy, List.eraseDupsBy.loop, e1, e2, e3]
  unfold swappedStores
  simp [blk_fn hk, kx, ky, kz, hl, hl2, Expr.pos, d, hf, hc]
  rintro (h | h | h)
  · cases a <;> first | (cases ha; done) | (cases h; done)
  · cases b <;> first | (cases hb; done) | (cases h; done)
  · cases c <;> first | (cases hcc; done) | (cases h; done)
theorem sw_folded {ts vs : List Expr} {kt k2 : Nat} {pt pt2 : Pos} {env : PySem.Env} (hf : vs.all (foldedForSure 8) = true) : swappedStores [.Tuple ts kt pt] (.Tuple vs k2 pt2) env = pure none := by
  unfold swappedStores
  simp only [hf]
  simp
def cellT (sc : Scope) : Expr → Bool
  | .Name x _ => !decide (sc.names.lookup x = some .local)
  | _ => true
theorem sw_cell {ts vs : List Expr} {kt k2 : Nat} {pt pt2 : Pos} {env : PySem.Env} (hf : ts.any (cellT env.scope) = true) : swappedStores [.Tuple ts kt pt] (.Tuple vs k2 pt2) env = pure none := by
  unfold swappedStores
  simp
  intro _ _ _ _ h
  exfalso
  obtain ⟨a, h1, h2⟩ := List.any_eq_true.mp hf
  apply h a h1
  cases a with
  | Name x pos =>
    simp only [cellT, Bool.not_eq_true', decide_eq_false_iff_not] at h2
    have h3 : ¬ env.kindOf x = some NameKind.local := h2
    simp [h3]
  | _ => rfl
/-! ### the matcher for statements -/
def swC (sc : Scope) (x : Str) (px : Pos) : Expr → Bool
  | .ListComp _ _ scope pos => decide (sc.names.lookup x = some .local) && (px.line == pos.line) && !(scope.names.any fun (n, k) => n == x && (k == .local || k == .cell))
  | _ => false
def noCompr : Expr → Bool
  | .ListComp .. => false
  | .SetComp .. => false
  | .DictComp .. => false
  | _ => true
def noTup : Expr → Bool
  | .Tuple _ _ _ => false
  | _ => true
def isLC : Expr → Bool
  | .ListComp .. => true
  | _ => false
def isCo : E → Bool
  | .comp .. => true
  | _ => false
def nmB (N : List Str) (ss : Scope) : List Nat → List Expr → Bool
  | [], [] => true
  | i :: is, .Name x _ :: es => decide (N[i]? = some x) && stoB ss x && nmB N ss is es
  | _, _ => false
def par2B (sc : Scope) : List Expr → List Expr → Bool
  | [.Name x px, .Name y py], [a, b] => decide (sc.names.lookup x = some .local) && decide (sc.names.lookup y = some .local) && decide (py.line = px.line) && decide (x ≠ y) && !(foldedForSure 8 a && foldedForSure 8 b) && !(constantsAlone 8 a && constantsAlone 8 b)
  | [.Name x px, .Name y py, .Name z pz], [a, b, c] => decide (sc.names.lookup x = some .local) && decide (sc.names.lookup y = some .local) && decide (sc.names.lookup z = some .local) && decide (py.line = px.line) && decide (pz.line = px.line) && decide (x ≠ y) && decide (x ≠ z) && decide (y ≠ z) &&
      !(foldedForSure 8 a && (foldedForSure 8 b && foldedForSure 8 c)) && !(constantsAlone 8 a && (constantsAlone 8 b && constantsAlone 8 c))
  | _, _ => false
section
variable (P : Pg) (N : List Str) (sc ss : Scope)
mutual
def mS : S → Stmt → Bool
  | .set i e, .Assign [.Name x px] v _ => decide (N[i]? = some x) && stoB ss x && mE P N e sc v && (noCompr v || (isLC v && (!swC sc x px v || isCo e)))
  | .par is es, .Assign [.Tuple ts _ _] (.Tuple vs _ _) _ => mL P N es sc vs && decide (vs.length ≤ 1000) && nmB N ss is ts && (par2B sc ts vs || vs.all (foldedForSure 8) || ts.any (cellT sc))
  | .sub o i v, .Assign [.Subscript o' i' _] v' _ => mE P N o sc o' && mE P N i sc i' && mE P N v sc v' && noSlice i' && noCompr v'
  | .app o v, .Expr (.Call (.Attribute o' a ap) [v'] [] cp) _ => decide (a = "append") && (ap.endLine == cp.line) && (match o' with | .Name _ _ => true | _ => false) && mE P N o sc o' && mE P N v sc v' && noStar v'
  | .exp e, .Expr e' _ => mE P N e sc e' && noCompr e'
  | .iff t a b, .If t' a' b' _ => mE P N t sc t' && mSL a a' && mSL b b'
  | .for _ tg it body, .For tg' it' body' [] _ => mG N ss tg tg' && itT it tg' && noSet it' && mI P N it sc it' && mSL body body'
  | .whl _ t body, .While t' body' [] _ => mE P N t sc t' && mSL body body'
  | .ret e, .Return (some e') _ => mE P N e sc e'
  | .retN, .Return none _ => true
  | .rse, _ => true
  | .pass, .Pass _ => true
  | _, _ => false
def mSL : SL → List Stmt → Bool
  | .nil, [] => true
  | .cons s r, s' :: r' => mS s s' && mSL r r'
  | _, _ => false
end
end
end G43
set_option Elab.async false
set_option linter.all false
set_option maxRecDepth 100000
set_option maxHeartbeats 4000000
namespace G43
open PySem
open L2 (V HO Hp SqL SqT Rd upd upd_same upd_ne Cx OpR R2 VK CallR IxR SlR TE TA TS TT TI TG TGs PE PA PS PSs PT PI PG PGs XK Sp Room Vals Ends)
open PySem.Spec PyProof.Rows
/-! ### statements -/
def Kn (A : Ad) (B : Addr → Prop) (m : List Addr) (h : Hs) (H : Hp) (nx : L2.St → Hp → Prop) : Env → Hs → Prop := fun ρ' h' => ∀ m' H' σ', Sim A B m' h' H' → Mv m h H m' h' H' → Sl A B m' h' H' ρ' σ' → nx σ' H'
def tS (A : Ad) (P : Pg) (C : CallT) (W : XK) (s : S) : TS := fun D σ H => ∃ B m h ρ, Sim A B m h H ∧ Sl A B m h H ρ σ ∧ wpS P C s ρ h (Kn A B m h H D.nx) (Kv A B m h H D.rt) (Kx A B m h H W)
def tSL (A : Ad) (P : Pg) (C : CallT) (W : XK) (s : SL) : TS := fun D σ H => ∃ B m h ρ, Sim A B m h H ∧ Sl A B m h H ρ σ ∧ wpSL P C s ρ h (Kn A B m h H D.nx) (Kv A B m h H D.rt) (Kx A B m h H W)
theorem Kn.move {A : Ad} {B : Addr → Prop} {m m1 : List Addr} {h h1 : Hs} {H H1 : Hp} {nx : L2.St → Hp → Prop} (M : Mv m h H m1 h1 H1) : ∀ ρ h', Kn A B m h H nx ρ h' → Kn A B m1 h1 H1 nx ρ h' := fun ρ h' k m' H' σ' S M' sl => k m' H' σ' S (M.trans M') sl
theorem PS_imp {X : Cx} {e : Stmt} {t t' : TS} (p : PS X e t) (i : ∀ D σ H, t' D σ H → t D σ H) : PS X e t' := ⟨fun pins s σ H D I z => p.run pins s σ H D I (i D σ H z)⟩
theorem PSs_imp {X : Cx} {e : List Stmt} {t t' : TS} (p : PSs X e t) (i : ∀ D σ H, t' D σ H → t D σ H) : PSs X e t' := ⟨fun pins s σ H D I z => p.run pins s σ H D I (i D σ H z)⟩
def setV (σ : L2.St) : List Nat → List V → L2.St
  | i :: is, v :: vs => setV (σ.set i (some v)) is vs
  | _, _ => σ
theorem Sl.setAll {A : Ad} {B : Addr → Prop} {m : List Addr} {h : Hs} {H : Hp} : ∀ {is : List Nat} {vs : List RV} {ws : List V} {ρ : Env} {σ : L2.St}, Sl A B m h H ρ σ → RpRs A B m h H vs ws → Sl A B m h H (setAll ρ is vs) (setV σ is ws)
  | [], _, _, _, _, s, r => by cases r <;> exact s
  | i :: is, _, _, _, _, s, .nil => s
  | i :: is, _, _, _, _, s, .cons q r => by
    unfold G43.setAll setV
    exact Sl.setAll (s.set i q) r
def gNs (is : List Nat) : TGs := fun vs σ H Q => vs.length = is.length ∧ Q (setV σ is vs) H
section
variable {A : Ad} {P : Pg} {C : CallT} {N : List Str} {sc ss : Scope} {W : XK} {X : Cx}
theorem nm_star {ss : Scope} : ∀ {is : List Nat} {es : List Expr}, nmB N ss is es = true → es.all noStar = true ∧ es.length = is.length
  | [], [], _ => ⟨rfl, rfl⟩
  | [], _ :: _, h => by simp [nmB] at h
  | _ :: _, [], h => by simp [nmB] at h
  | i :: is, e :: es, h => by
    cases e with
    | Name x pos =>
      simp only [nmB, Bool.and_eq_true] at h
      obtain ⟨h1, h2⟩ := nm_star h.2
      exact ⟨by rw [List.all_cons, h1]; rfl, by simp [h2]⟩
    | _ => simp [nmB] at h
theorem sNs (cx : Ctx A P C N sc ss W X) : ∀ {is : List Nat} {es : List Expr}, nmB N ss is es = true → PGs X es (gNs is)
  | [], [], _ => PGs_imp L2.pgs_nil fun v σ H Q z => by
    obtain ⟨h1, h2⟩ := z
    cases v with
    | nil => exact ⟨rfl, h2⟩
    | cons _ _ => cases h1
  | [], _ :: _, h => by simp [nmB] at h
  | _ :: _, [], h => by simp [nmB] at h
  | i :: is, e :: es, h => by
    cases e with
    | Name x pos =>
      simp only [nmB, Bool.and_eq_true, decide_eq_true_eq] at h
      obtain ⟨s1, s2⟩ := cx.st x h.1.2
      have g := L2.pg_name (X := X) (i := i) (x := x) (pos := pos) (by rw [cx.eN]; exact cx.nd) (by rw [cx.eN]; exact h.1.1) (by rw [cx.eS]; exact s1) (by rw [cx.eS]; exact s2)
      refine PGs_imp (L2.pgs_cons g (sNs cx h.2) rfl) fun v σ H Q z => ?_
      obtain ⟨h1, h2⟩ := z
      cases v with
      | nil => cases h1
      | cons w ws => exact ⟨w, ws, rfl, by simpa using h1, h2⟩
    | _ => simp [nmB] at h
variable (hC : MonoC C C)
include hC
/-- target = value by a value -/
theorem i_set {i : Nat} {e : E} : ∀ D σ H, tS A P C W (.set i e) D σ H → L2.tAsg (tE A P C W e) (L2.gName i) D σ H := fun D σ H z => by
  obtain ⟨B, m, h, ρ, S, s, z⟩ := z
  unfold wpS at z
  exact tE_of hC S s z fun v h1 m1 H1 w q S1 M1 r1 => q m1 H1 _ S1 M1 ((s.move S M1).set i r1)
theorem swaps_no {v : Expr} {t : Option Expr} {l : Nat} {env : PySem.Env} (h : noCompr v = true) : swapsWith v t l env = pure false := by
  cases v <;> first | rfl | cases h
theorem sole_no {v t : Expr} {l : Nat} {env : PySem.Env} (h : noCompr v = true) : swapsWithSole [t] v l env = pure false := swaps_no hC (t := some t) h
theorem swaps_comp {elt : Expr} {gs : List Comprehension} {scope : Scope} {pos px : Pos} {x : Str} {l : Nat} {env : PySem.Env} (hk : env.scope.kind = .function) (h : swC env.scope x px (.ListComp elt gs scope pos) = false) : swapsWith (.ListComp elt gs scope pos) (some (.Name x px)) l env = pure false := by
  have e : swapsWith (.ListComp elt gs scope pos) (some (.Name x px)) l env = pure (env.blockKind == .function && env.kindOf x == some .local && px.line == pos.line && !(scope.names.any fun (n, k) => n == x && (k == .local || k == .cell))) := rfl
  rw [e, blk_fn hk]
  simp only [swC] at h
  have e2 : (env.kindOf x == some NameKind.local) = decide (env.scope.names.lookup x = some NameKind.local) := by
    show (env.scope.names.lookup x == some NameKind.local) = _
    by_cases q : env.scope.names.lookup x = some NameKind.local
    · simp [q]
    · simp [q]
  rw [e2]
  simp only [beq_self_eq_true, Bool.true_and]
  rw [h]
theorem s_set (cx : Ctx A P C N sc ss W X) {i : Nat} {e : E} {x : Str} {v : Expr} {px pos : Pos} (hN : N[i]? = some x) (hs : stoB ss x = true) (hm : mE P N e sc v = true) (hw : (noCompr v || (isLC v && (!swC sc x px v || isCo e))) = true) :
    PS X (.Assign [.Name x px] v pos) (tS A P C W (.set i e)) := by
  obtain ⟨s1, s2⟩ := cx.st x hs
  have nd : X.N.Nodup := by rw [cx.eN]; exact cx.nd
  have hi : X.N[i]? = some x := by rw [cx.eN]; exact hN
  have plain : swapsWith v (some (.Name x px)) pos.line X.env = pure false → PS X (.Assign [.Name x px] v pos) (tS A P C W (.set i e)) := fun sw =>
    PS_imp (L2.ps_set (i := i) nd hi (by rw [cx.eS]; exact s1) (sE hC e cx hm).1 sw (by rw [cx.eS]; exact s2)) (i_set hC)
  by_cases hn : noCompr v = true
  · exact plain (swaps_no hC hn)
  · cases v with
    | ListComp elt' gens scope p =>
      by_cases hsw : swC sc x px (.ListComp elt' gens scope p) = true
      · cases e with
        | comp elt tg it ifs =>
          rcases gens with _ | ⟨⟨tg', it', ifs', as⟩, _ | ⟨g2, gens⟩⟩ <;> simp only [mE, Bool.and_eq_true, decide_eq_true_eq, Bool.false_eq_true] at hm
          obtain ⟨⟨⟨⟨⟨⟨⟨rfl, h1⟩, h2⟩, h3⟩, h4⟩, h5⟩, h6⟩, h7⟩ := hm
          have ok := L2.blkOk_by h1
          simp only [swC, Bool.and_eq_true, decide_eq_true_eq, Bool.not_eq_true'] at hsw
          have hyl : X.env.scope.names.lookup x = some .local := by rw [cx.eS]; exact hsw.1.1
          have pe := L2.ps_setLc (X := X) (i := i) (y := x) (py := px) (elt := elt') (tg := tg') (iter := it') (ifs := ifs') (scope := scope) (own := ownOf N tg) (pos := p) (spos := pos) (wi := tI A P C W it) (g := tG A tg) (tt := tTs A P C ifs) (te := tE A P C WF elt) cx.calm nd hi hyl
            (L2.sw_true (by rw [cx.eS]; exact cx.kd) hyl hsw.1.2 hsw.2) (sI hC it cx h3 h5) (by rw [cx.eN, cx.eS]; exact ok)
            (fun s H c cl fp => sG (cx.blk scope s H c cl fp ok.kind) tg h2) (fun s H c cl fp => sTs hC ifs (cx.blk scope s H c cl fp ok.kind) h6) (fun s H c cl fp => (sE hC elt (cx.blk scope s H c cl fp ok.kind) h7).1) (fun x => by cases it' <;> first | rfl | cases h4)
          rw [ownOf_slots] at pe
          exact PS_imp pe fun D σ H z => i_comp hC σ H _ (i_set hC D σ H z)
        | _ => simp [hn, hsw, isCo] at hw
      · refine plain (swaps_comp hC (by rw [cx.eS]; exact cx.kd) ?_)
        rw [cx.eS]
        simpa using hsw
    | SetComp a b c d => simp [hn, isLC] at hw
    | DictComp a b c d f => simp [hn, isLC] at hw
    | _ => exact absurd rfl hn
theorem i_par2 {i j : Nat} {es : EL} : ∀ D σ H, tS A P C W (.par [i, j] es) D σ H → L2.tPar i j (tL A P C W es) D σ H := fun D σ H z => by
  obtain ⟨B, m, h, ρ, S, s, z⟩ := z
  unfold wpS at z
  refine tL_of hC S s z fun vs h1 m1 H1 ws q S1 M1 r1 => ?_
  obtain ⟨hl, q⟩ := q
  rw [← r1.length] at hl
  have sl := (s.move S M1).setAll (is := [i, j]) r1
  rcases ws with _ | ⟨a, _ | ⟨b, _ | ⟨c, ws⟩⟩⟩ <;> simp at hl
  exact ⟨a, b, rfl, q m1 H1 _ S1 M1 sl⟩
theorem i_par3 {i j k : Nat} {es : EL} : ∀ D σ H, tS A P C W (.par [i, j, k] es) D σ H → L2.tPar3 i j k (tL A P C W es) D σ H := fun D σ H z => by
  obtain ⟨B, m, h, ρ, S, s, z⟩ := z
  unfold wpS at z
  refine tL_of hC S s z fun vs h1 m1 H1 ws q S1 M1 r1 => ?_
  obtain ⟨hl, q⟩ := q
  rw [← r1.length] at hl
  have sl := (s.move S M1).setAll (is := [i, j, k]) r1
  rcases ws with _ | ⟨a, _ | ⟨b, _ | ⟨c, _ | ⟨d, ws⟩⟩⟩⟩ <;> simp at hl
  exact ⟨a, b, c, rfl, q m1 H1 _ S1 M1 sl⟩
theorem i_parN {is : List Nat} {es : EL} (hz : es.len ≤ 1000) : ∀ D σ H, tS A P C W (.par is es) D σ H → L2.tAsg (L2.tTup (tL A P C W es)) (L2.gTup A.K is.length (gNs is)) D σ H := fun D σ H z => by
  obtain ⟨B, m, h, ρ, S, s, z⟩ := z
  unfold wpS at z
  refine tL_of hC S s (wpL_len hC hC es z) fun vs h1 m1 H1 ws q S1 M1 r1 => ?_
  obtain ⟨h0, hl, q⟩ := q
  refine ⟨by rw [r1.length, h0]; exact line_of hC hz, fun p hp => ?_⟩
  obtain ⟨M2, S2⟩ := S1.news (o := .tup ws) hp
  have hl2 : ws.length = is.length := by rw [r1.length]; exact hl
  exact ⟨p, ws, rfl, SqT.of upd_same, hl2, hl2, q m1 _ _ S2 (M1.trans M2) (((s.move S M1).setAll r1).move S1 M2)⟩
theorem ne_ix {i j : Nat} {x y : Str} (hi : N[i]? = some x) (hj : N[j]? = some y) (h : x ≠ y) : i ≠ j := fun e => by
  subst e
  rw [hi] at hj
  exact h (Option.some.inj hj)
theorem s_par (cx : Ctx A P C N sc ss W X) {is : List Nat} {es : EL} {ts vs : List Expr} {kt k2 : Nat} {pt pt2 pos : Pos} (hm : mL P N es sc vs = true) (hz : vs.length ≤ 1000) (hn : nmB N ss is ts = true)
    (hw : (par2B sc ts vs || vs.all (foldedForSure 8) || ts.any (cellT sc)) = true) : PS X (.Assign [.Tuple ts kt pt] (.Tuple vs k2 pt2) pos) (tS A P C W (.par is es)) := by
  have nd : X.N.Nodup := by rw [cx.eN]; exact cx.nd
  have pa := sL hC es cx hm
  obtain ⟨st, len⟩ := mL_all hm
  have kd : X.env.scope.kind = .function := by rw [cx.eS]; exact cx.kd
  have unsw : swappedStores [.Tuple ts kt pt] (.Tuple vs k2 pt2) X.env = pure none → PS X (.Assign [.Tuple ts kt pt] (.Tuple vs k2 pt2) pos) (tS A P C W (.par is es)) := fun sw => by
    obtain ⟨t1, t2⟩ := nm_star hn
    obtain ⟨a1, a2⟩ := assign_len X.env t1
    have g := L2.pg_tup (X := X) (k := kt) (pos := pt) (n := is.length) cx.calm (sNs cx hn) (by rw [a1, t2]) a2
    rw [cx.eK] at g
    exact PS_imp (L2.ps_asg (L2.pe_tup pa) g rfl sw rfl) (i_parN hC (by rw [len]; exact hz))
  simp only [Bool.or_eq_true] at hw
  rcases hw with (hw | hw) | hw
  · unfold par2B at hw
    split at hw
    · rename_i x px y py a b
      simp only [Bool.and_eq_true, decide_eq_true_eq, Bool.not_eq_true'] at hw
      obtain ⟨⟨⟨⟨⟨w1, w2⟩, w3⟩, w4⟩, w5⟩, w6⟩ := hw
      rcases is with _ | ⟨i, _ | ⟨j, _ | ⟨k, is⟩⟩⟩ <;> simp only [nmB, Bool.and_eq_true, decide_eq_true_eq, Bool.false_eq_true, and_false] at hn
      simp only [List.all_cons, Bool.and_eq_true] at st
      have e1 : X.env.scope.names.lookup x = some .local := by rw [cx.eS]; exact w1
      have e2 : X.env.scope.names.lookup y = some .local := by rw [cx.eS]; exact w2
      exact PS_imp (L2.ps_par cx.calm nd (by rw [cx.eN]; exact hn.1.1) (by rw [cx.eN]; exact hn.2.1.1) (ne_ix hC hn.1.1 hn.2.1.1 w4) e1 e2 pa (sw_two kd e1 e2 w3 w4 st.1 st.2.1 w5 w6)) (i_par2 hC)
    · rename_i x px y py z pz a b c
      simp only [Bool.and_eq_true, decide_eq_true_eq, Bool.not_eq_true'] at hw
      obtain ⟨⟨⟨⟨⟨⟨⟨⟨⟨w1, w2⟩, w3⟩, w4⟩, w5⟩, w6⟩, w7⟩, w8⟩, w9⟩, w10⟩ := hw
      rcases is with _ | ⟨i, _ | ⟨j, _ | ⟨k, _ | ⟨l, is⟩⟩⟩⟩ <;> simp only [nmB, Bool.and_eq_true, decide_eq_true_eq, Bool.false_eq_true, and_false] at hn
      simp only [List.all_cons, Bool.and_eq_true] at st
      have e1 : X.env.scope.names.lookup x = some .local := by rw [cx.eS]; exact w1
      have e2 : X.env.scope.names.lookup y = some .local := by rw [cx.eS]; exact w2
      have e3 : X.env.scope.names.lookup z = some .local := by rw [cx.eS]; exact w3
      exact PS_imp (L2.ps_par3 cx.calm nd (by rw [cx.eN]; exact hn.1.1) (by rw [cx.eN]; exact hn.2.1.1) (by rw [cx.eN]; exact hn.2.2.1.1) (ne_ix hC hn.1.1 hn.2.1.1 w6) (ne_ix hC hn.1.1 hn.2.2.1.1 w7) (ne_ix hC hn.2.1.1 hn.2.2.1.1 w8) e1 e2 e3 pa
        (sw_three kd e1 e2 e3 w4 w5 w6 w7 w8 st.1 st.2.1 st.2.2.1 w9 w10)) (i_par3 hC)
    · cases hw
  · exact unsw (sw_folded hw)
  · exact unsw (sw_cell (by rw [cx.eS]; exact hw))
theorem s_sub (cx : Ctx A P C N sc ss W X) {o i v : E} {o' i' v' : Expr} {p pos : Pos} (ho : mE P N o sc o' = true) (hi : mE P N i sc i' = true) (hv : mE P N v sc v' = true) (hs : noSlice i' = true) (hn : noCompr v' = true) :
    PS X (.Assign [.Subscript o' i' p] v' pos) (tS A P C W (.sub o i v)) := by
  refine PS_imp (L2.ps_asg (sE hC v cx hv).1 (L2.pg_sub (sE hC o cx ho).1 (sE hC i cx hi).1 L2.set_list (by intro _; cases i' <;> first | rfl | cases hs)) (sole_no hC hn) rfl rfl) fun D σ H z => ?_
  obtain ⟨B, m, h, ρ, S, s, z⟩ := z
  unfold wpS at z
  refine tE_of hC S s z fun y h1 m1 H1 w q S1 M1 r1 => ?_
  refine tE_of hC S1 (s.move S M1) (wpE_next hC M1 q) fun x h2 m2 H2 w2 q2 S2 M2 r2 => ?_
  refine tE_of hC S2 ((s.move S M1).move S1 M2) (wpE_next hC (M1.trans M2) q2) fun u h3 m3 H3 w3 q3 S3 M3 r3 => ?_
  obtain ⟨k, c, n, j, q0, rfl, e1, rfl, e2, rfl, kf⟩ := q3
  obtain ⟨a, e3, rfl⟩ := r2.move S2 M3
  cases r3
  obtain ⟨xs, e4, r4⟩ := S3.cell k c a e1 e3
  have r5 : Rp A (Xc B m3 h3) H3 q0 w := (Rp.move S1 M2 r1).move S2 M3
  obtain ⟨M4, S4⟩ := S3.write e1 e3 (r4.set r5 j)
  refine ⟨a, xs, n, j, rfl, rfl, e4, by rw [r4.length]; exact e2, ?_⟩
  have M := ((M1.trans M2).trans M3).trans M4
  exact kf m3 _ σ S4 M (s.move S M)
theorem s_app (cx : Ctx A P C N sc ss W X) {o v : E} {x : Str} {v' : Expr} {px ap cp pos : Pos} (hl : (ap.endLine == cp.line) = true) (ho : mE P N o sc (.Name x px) = true) (hv : mE P N v sc v' = true) (hs : noStar v' = true) :
    PS X (.Expr (.Call (.Attribute (.Name x px) "append" ap) [v'] [] cp) pos) (tS A P C W (.app o v)) := by
  have se := starEach_no hs [] X.env
  refine PS_imp (L2.ps_expr (L2.pe_bm PySem.F.plainAttrs_list PySem.F.slot_list_append PySem.F.type_list_append L2.mt_append (sE hC o cx ho).1 (L2.pa_cons (sE hC v cx hv).1 L2.pa_nil se) rfl (by rw [se] <;> rfl) hl se rfl) rfl) fun D σ H z => ?_
  obtain ⟨B, m, h, ρ, S, s, z⟩ := z
  unfold wpS at z
  refine tE_of hC S s z fun y h1 m1 H1 w q S1 M1 r1 => ?_
  obtain ⟨k, c0, rfl, e0, q⟩ := q
  obtain ⟨a, e3, rfl⟩ := r1
  obtain ⟨xs0, e5, _⟩ := S1.cell k c0 a e0 e3
  refine ⟨.inl ⟨rfl, xs0, SqL.of e5⟩, ?_⟩
  refine tE_of hC S1 (s.move S M1) (wpE_next hC M1 q) fun x h2 m2 H2 w2 q2 S2 M2 r2 => ?_
  obtain ⟨c, q0, e1, rfl, e2, q⟩ := q2
  obtain ⟨xs, e4, r4⟩ := S2.cell k c a e1 (M2.at e3)
  obtain ⟨M4, S4⟩ := S2.write e1 (M2.at e3) (r4.append (.cons (show Rp A _ H2 q0 w2 from r2) .nil))
  have M := (M1.trans M2).trans M4
  exact ⟨a, xs, w2, rfl, rfl, e4, by rw [r4.length]; exact e2, q m2 _ σ S4 M (s.move S M)⟩
theorem i_iff {t : E} {a b : SL} : ∀ D σ H, tS A P C W (.iff t a b) D σ H → L2.tIfS (tQ A P C W t) (tSL A P C W a) (tSL A P C W b) D σ H := fun D σ H z => by
  obtain ⟨B, m, h, ρ, S, s, z⟩ := z
  unfold wpS wpB at z
  refine tE_of hC S s z fun v h1 m1 H1 w q S1 M1 r1 => ?_
  obtain ⟨c, rfl, k⟩ := q
  cases r1
  refine ⟨c, rfl, ?_⟩
  cases c with
  | true =>
    rw [if_pos rfl] at k ⊢
    exact ⟨B, m1, h1, ρ, S1, s.move S M1, wpSL_mono hC a (Kn.move M1) (Kv.move M1) (Kx.move M1) k⟩
  | false =>
    rw [if_neg Bool.false_ne_true] at k ⊢
    exact ⟨B, m1, h1, ρ, S1, s.move S M1, wpSL_mono hC b (Kn.move M1) (Kv.move M1) (Kx.move M1) k⟩
theorem i_cons {a : S} {r : SL} : ∀ D σ H, tSL A P C W (.cons a r) D σ H → L2.tSeq (tS A P C W a) (tSL A P C W r) D σ H := fun D σ H z => by
  obtain ⟨B, m, h, ρ, S, s, z⟩ := z
  unfold wpSL at z
  exact ⟨B, m, h, ρ, S, s, wpS_mono hC a (fun ρ1 h1 k m1 H1 σ1 S1 M1 s1 => ⟨B, m1, h1, ρ1, S1, s1, wpSL_mono hC r (Kn.move M1) (Kv.move M1) (Kx.move M1) k⟩) (fun _ _ k => k) (fun _ _ k => k) z⟩
theorem i_whl {kl : List Nat} {t : E} {b : SL} : ∀ D σ H, tS A P C W (.whl kl t b) D σ H → L2.tWhile (tQ A P C W t) (tSL A P C W b) D σ H := fun D σ H z => by
  obtain ⟨B, m, h, ρ, S, s, z⟩ := z
  unfold wpS at z
  obtain ⟨Wl, ⟨n0, w0⟩, hs⟩ := z
  refine ⟨fun n σ1 H1 => ∃ m1 h1 ρ1, Sim A B m1 h1 H1 ∧ Mv m h H m1 h1 H1 ∧ Sl A B m1 h1 H1 ρ1 σ1 ∧ Wl n ρ1 h1, ⟨n0, m, h, _, S, Mv.refl _ _ _, s.kill kl, w0⟩, ?_⟩
  rintro n σ1 H1 ⟨m1, h1, ρ1, S1, M1, s1, w1⟩
  have z := hs n ρ1 h1 w1
  unfold wpB at z
  refine tE_of hC S1 s1 (wpE_next hC M1 z) fun v h2 m2 H2 w q S2 M2 r2 => ?_
  obtain ⟨c, rfl, k⟩ := q
  cases r2
  refine ⟨c, rfl, ?_⟩
  have M12 := M1.trans M2
  cases c with
  | true =>
    rw [if_pos rfl] at k
    refine (if_pos rfl).mpr ?_
    refine ⟨fun σ' H' => ∃ n', n' < n ∧ ∃ m1 h1 ρ1, Sim A B m1 h1 H' ∧ Mv m h H m1 h1 H' ∧ Sl A B m1 h1 H' ρ1 σ' ∧ Wl n' ρ1 h1, fun σ' H' z => z, B, m2, h2, ρ1, S2, s1.move S1 M2, ?_⟩
    refine wpSL_mono hC b (fun ρ3 h3 k m3 H3 σ3 S3 M3 s3 => ?_) (Kv.move M12) (Kx.move M12) k
    obtain ⟨n', hn, w3⟩ := k
    exact ⟨n', hn, m3, h3, _, S3, M12.trans M3, s3.kill kl, w3⟩
  | false =>
    rw [if_neg Bool.false_ne_true] at k
    refine (if_neg Bool.false_ne_true).mpr ?_
    exact k m2 H2 σ1 S2 M12 (s1.move S1 M2)
theorem i_for {kl : List Nat} {tg : Tg} {it : It} {b : SL} : ∀ D σ H, tS A P C W (.for kl tg it b) D σ H → L2.tFor (tI A P C W it) (tG A tg) (tSL A P C W b) D σ H := fun D σ H z => by
  obtain ⟨B, m, h, ρ, S, s, z⟩ := z
  unfold wpS at z
  refine tI_of hC S s z fun l gd h1 m1 H1 J q S1 M1 wk => ?_
  have wB : ∀ a, B a → B a ∨ H1 a = none := fun a z => .inl z
  generalize hst : (fun (x : PV) (ρ1 : Env) (h2 : Hs) (k : Env → Hs → Prop) => bindT tg x ρ1 fun ρ2 => wpSL P C b ρ2 h2 (fun ρ3 h3 => k (kill ρ3 kl) h3) (Kv A B m h H D.rt) (Kx A B m h H W)) = st at q
  have hst' : ∀ x ρ1 h2 k, st x ρ1 h2 k = bindT tg x ρ1 fun ρ2 => wpSL P C b ρ2 h2 (fun ρ3 h3 => k (kill ρ3 kl) h3) (Kv A B m h H D.rt) (Kx A B m h H W) := fun x ρ1 h2 k => by rw [← hst]
  refine ⟨fun i n σ2 H2 => ∃ m2 h2 ρ2, Sim A B m2 h2 H2 ∧ Mv m1 h1 H1 m2 h2 H2 ∧ Sl A B m2 h2 H2 ρ2 σ2 ∧ i ≤ l.length ∧ n = l.length - i ∧ loopT gd st (l.drop i) ρ2 h2 (Kn A B m h H D.nx), ⟨l.length, m1, h1, _, S1, Mv.refl _ _ _, (s.move S M1).kill kl, Nat.zero_le _, rfl, q⟩, ?_⟩
  rintro i n σ2 H2 ⟨m2, h2, ρ2, S2, M2, s2, hi, rfl, q⟩
  by_cases hlt : i < l.length
  · right
    obtain ⟨x, hx⟩ : ∃ x, l[i]? = some x := ⟨l[i], List.getElem?_eq_getElem hlt⟩
    have hdr : l.drop i = x :: l.drop (i + 1) := by
      rw [List.drop_eq_getElem_cons hlt]
      congr 1
      exact (List.getElem?_eq_some_iff.mp hx).2
    rw [hdr] at q
    obtain ⟨g, q⟩ := q
    obtain ⟨go, yl⟩ := (wk B m2 h2 H2 wB S2 M2 g).1 i x hx
    refine ⟨go, fun σ' H' => ∃ m2 h2 ρ2, Sim A B m2 h2 H' ∧ Mv m1 h1 H1 m2 h2 H' ∧ Sl A B m2 h2 H' ρ2 σ' ∧ i + 1 ≤ l.length ∧ loopT gd st (l.drop (i + 1)) ρ2 h2 (Kn A B m h H D.nx), fun σ' H' z => ?_, fun v H3 y => ?_⟩
    · obtain ⟨m3, h3, ρ3, a1, a2, a3, a4, a5⟩ := z
      exact ⟨l.length - (i + 1), by omega, m3, h3, ρ3, a1, a2, a3, a4, rfl, a5⟩
    obtain ⟨S3, M3, r3⟩ := yl v H3 y
    rw [hst' x ρ2 h2] at q
    refine ⟨B, m2, h2, x, ρ2, _, S3, s2.move S2 M3, r3, q, fun ρ1 σ1 q sl off => ?_⟩
    have M13 := M2.trans M3
    have M03 := M1.trans M13
    refine ⟨B, m2, h2, ρ1, S3, sl, wpSL_mono hC b (fun ρ4 h4 k m4 H4 σ4 S4 M4 s4 => ?_) (Kv.move M03) (Kx.move M03) q⟩
    exact ⟨m4, h4, _, S4, M13.trans M4, s4.kill kl, hlt, k⟩
  · left
    have e : i = l.length := by omega
    subst e
    rw [List.drop_length] at q
    obtain ⟨g, q⟩ := q
    exact ⟨(wk B m2 h2 H2 wB S2 M2 g).2 _ (Nat.le_refl _), q m2 H2 σ2 S2 (M1.trans M2) s2⟩
theorem v_set {i : Nat} {e : E} {x : Stmt} (h : mS P N sc ss (.set i e) x = true) : ∃ y px v pos, x = .Assign [.Name y px] v pos ∧ N[i]? = some y ∧ stoB ss y = true ∧ mE P N e sc v = true ∧ (noCompr v || (isLC v && (!swC sc y px v || isCo e))) = true := by
  unfold mS at h
  split at h <;> first
    | (rename_i e1; cases e1
       simp only [Bool.and_eq_true, decide_eq_true_eq] at h
       exact ⟨_, _, _, _, rfl, h.1.1.1, h.1.1.2, h.1.2, h.2⟩)
    | (rename_i e1 e2; cases e1; done)
    | (rename_i e1; cases e1; done)
    | cases h
theorem v_par {is : List Nat} {es : EL} {x : Stmt} (h : mS P N sc ss (.par is es) x = true) : ∃ ts kt pt vs k2 pt2 pos, x = .Assign [.Tuple ts kt pt] (.Tuple vs k2 pt2) pos ∧ mL P N es sc vs = true ∧ vs.length ≤ 1000 ∧ nmB N ss is ts = true ∧ (par2B sc ts vs || vs.all (foldedForSure 8) || ts.any (cellT sc)) = true := by
  unfold mS at h
  split at h <;> first
    | (rename_i e1; cases e1
       simp only [Bool.and_eq_true, decide_eq_true_eq] at h
       exact ⟨_, _, _, _, _, _, _, rfl, h.1.1.1, h.1.1.2, h.1.2, h.2⟩)
    | (rename_i e1 e2; cases e1; done)
    | (rename_i e1; cases e1; done)
    | cases h
theorem v_sub {o i v : E} {x : Stmt} (h : mS P N sc ss (.sub o i v) x = true) : ∃ o' i' p v' pos, x = .Assign [.Subscript o' i' p] v' pos ∧ mE P N o sc o' = true ∧ mE P N i sc i' = true ∧ mE P N v sc v' = true ∧ noSlice i' = true ∧ noCompr v' = true := by
  unfold mS at h
  split at h <;> first
    | (rename_i e1; cases e1
       simp only [Bool.and_eq_true] at h
       exact ⟨_, _, _, _, _, rfl, h.1.1.1.1, h.1.1.1.2, h.1.1.2, h.1.2, h.2⟩)
    | (rename_i e1 e2; cases e1; done)
    | (rename_i e1; cases e1; done)
    | cases h
theorem v_app {o v : E} {x : Stmt} (h : mS P N sc ss (.app o v) x = true) : ∃ y px ap v' cp pos, x = .Expr (.Call (.Attribute (.Name y px) "append" ap) [v'] [] cp) pos ∧ (ap.endLine == cp.line) = true ∧ mE P N o sc (.Name y px) = true ∧ mE P N v sc v' = true ∧ noStar v' = true := by
  unfold mS at h
  split at h <;> first
    | (rename_i o' a ap v' cp pos e1; cases e1
       simp only [Bool.and_eq_true, decide_eq_true_eq] at h
       obtain ⟨⟨⟨⟨⟨rfl, h1⟩, h0⟩, h2⟩, h3⟩, h4⟩ := h
       cases o' with
       | Name y px => exact ⟨_, _, _, _, _, _, rfl, h1, h2, h3, h4⟩
       | _ => cases h0)
    | (rename_i e1 e2; cases e1; done)
    | (rename_i e1; cases e1; done)
    | cases h
theorem v_exp {e : E} {x : Stmt} (h : mS P N sc ss (.exp e) x = true) : ∃ e' pos, x = .Expr e' pos ∧ mE P N e sc e' = true ∧ noCompr e' = true := by
  unfold mS at h
  split at h <;> first
    | (rename_i e1; cases e1
       simp only [Bool.and_eq_true] at h
       exact ⟨_, _, rfl, h.1, h.2⟩)
    | (rename_i e1 e2; cases e1; done)
    | (rename_i e1; cases e1; done)
    | cases h
theorem v_iff {t : E} {a b : SL} {x : Stmt} (h : mS P N sc ss (.iff t a b) x = true) : ∃ t' a' b' pos, x = .If t' a' b' pos ∧ mE P N t sc t' = true ∧ mSL P N sc ss a a' = true ∧ mSL P N sc ss b b' = true := by
  unfold mS at h
  split at h <;> first
    | (rename_i e1; cases e1
       simp only [Bool.and_eq_true] at h
       exact ⟨_, _, _, _, rfl, h.1.1, h.1.2, h.2⟩)
    | (rename_i e1 e2; cases e1; done)
    | (rename_i e1; cases e1; done)
    | cases h
theorem v_for {kl : List Nat} {tg : Tg} {it : It} {b : SL} {x : Stmt} (h : mS P N sc ss (.for kl tg it b) x = true) : ∃ tg' it' b' pos, x = .For tg' it' b' [] pos ∧ mG N ss tg tg' = true ∧ itT it tg' = true ∧ noSet it' = true ∧ mI P N it sc it' = true ∧ mSL P N sc ss b b' = true := by
  unfold mS at h
  split at h <;> first
    | (rename_i e1; cases e1
       simp only [Bool.and_eq_true] at h
       exact ⟨_, _, _, _, rfl, h.1.1.1.1, h.1.1.1.2, h.1.1.2, h.1.2, h.2⟩)
    | (rename_i e1 e2; cases e1; done)
    | (rename_i e1; cases e1; done)
    | cases h
theorem v_whl {kl : List Nat} {t : E} {b : SL} {x : Stmt} (h : mS P N sc ss (.whl kl t b) x = true) : ∃ t' b' pos, x = .While t' b' [] pos ∧ mE P N t sc t' = true ∧ mSL P N sc ss b b' = true := by
  unfold mS at h
  split at h <;> first
    | (rename_i e1; cases e1
       simp only [Bool.and_eq_true] at h
       exact ⟨_, _, _, rfl, h.1, h.2⟩)
    | (rename_i e1 e2; cases e1; done)
    | (rename_i e1; cases e1; done)
    | cases h
theorem v_ret {e : E} {x : Stmt} (h : mS P N sc ss (.ret e) x = true) : ∃ e' pos, x = .Return (some e') pos ∧ mE P N e sc e' = true := by
  unfold mS at h
  split at h <;> first
    | (rename_i e1; cases e1
       exact ⟨_, _, rfl, h⟩)
    | (rename_i e1 e2; cases e1; done)
    | (rename_i e1; cases e1; done)
    | cases h
theorem v_retN {x : Stmt} (h : mS P N sc ss .retN x = true) : ∃ pos, x = .Return none pos := by
  unfold mS at h
  split at h <;> first
    | exact ⟨_, rfl⟩
    | (rename_i e1; cases e1; done)
    | cases h
theorem v_pass {x : Stmt} (h : mS P N sc ss .pass x = true) : ∃ pos, x = .Pass pos := by
  unfold mS at h
  split at h <;> first
    | exact ⟨_, rfl⟩
    | (rename_i e1; cases e1; done)
    | cases h
mutual
theorem sS (cx : Ctx A P C N sc ss W X) : ∀ (s : S) (x : Stmt), mS P N sc ss s x = true → PS X x (tS A P C W s)
  | .set i e, x, h => by
    obtain ⟨y, px, v, pos, rfl, h1, h2, h3, h4⟩ := v_set hC h
    exact s_set hC cx h1 h2 h3 h4
  | .par is es, x, h => by
    obtain ⟨ts, kt, pt, vs, k2, pt2, pos, rfl, h1, h2, h3, h4⟩ := v_par hC h
    exact s_par hC cx h1 h2 h3 h4
  | .sub o i v, x, h => by
    obtain ⟨o', i', p, v', pos, rfl, h1, h2, h3, h4, h5⟩ := v_sub hC h
    exact s_sub hC cx h1 h2 h3 h4 h5
  | .app o v, x, h => by
    obtain ⟨y, px, ap, v', cp, pos, rfl, h1, h2, h3, h4⟩ := v_app hC h
    exact s_app hC cx h1 h2 h3 h4
  | .exp e, x, h => by
    obtain ⟨e', pos, rfl, h1, h2⟩ := v_exp hC h
    refine PS_imp (L2.ps_expr (sE hC e cx h1).1 (swaps_no hC h2)) fun D σ H z => ?_
    obtain ⟨B, m, h, ρ, S, s, z⟩ := z
    unfold wpS at z
    exact tE_of hC S s z fun v h1 m1 H1 w q S1 M1 r1 => q m1 H1 σ S1 M1 (s.move S M1)
  | .iff t a b, x, h => by
    obtain ⟨t', a', b', pos, rfl, h1, h2, h3⟩ := v_iff hC h
    exact PS_imp (L2.ps_if (sE hC t cx h1).2 (sSL cx a a' h2) (sSL cx b b' h3)) (i_iff hC)
  | .for kl tg it b, x, h => by
    obtain ⟨tg', it', b', pos, rfl, h1, h2, h3, h4, h5⟩ := v_for hC h
    exact PS_imp (L2.ps_for cx.po cx.calm (sI hC it cx h2 h4) (sG cx tg h1) (sSL cx b b' h5) (fun x => by cases it' <;> first | rfl | cases h3)) (i_for hC)
  | .whl kl t b, x, h => by
    obtain ⟨t', b', pos, rfl, h1, h2⟩ := v_whl hC h
    exact PS_imp (L2.ps_while cx.po (sE hC t cx h1).2 (sSL cx b b' h2)) (i_whl hC)
  | .ret e, x, h => by
    obtain ⟨e', pos, rfl, h1⟩ := v_ret hC h
    refine PS_imp (L2.ps_ret (sE hC e cx h1).1) fun D σ H z => ?_
    obtain ⟨B, m, h, ρ, S, s, z⟩ := z
    unfold wpS at z
    exact ⟨B, m, h, ρ, S, s, z⟩
  | .retN, x, h => by
    obtain ⟨pos, rfl⟩ := v_retN hC h
    refine PS_imp L2.ps_retN fun D σ H z => ?_
    obtain ⟨B, m, h, ρ, S, s, z⟩ := z
    unfold wpS at z
    exact z m H _ S (Mv.refl _ _ _) .non
  | .rse, x, h => PS_imp L2.ps_never fun D σ H z => by
    obtain ⟨B, m, h, ρ, S, s, z⟩ := z
    unfold wpS at z
    exact z
  | .pass, x, h => by
    obtain ⟨pos, rfl⟩ := v_pass hC h
    refine PS_imp L2.ps_pass fun D σ H z => ?_
    obtain ⟨B, m, h, ρ, S, s, z⟩ := z
    unfold wpS at z
    exact z m H σ S (Mv.refl _ _ _) s
theorem sSL (cx : Ctx A P C N sc ss W X) : ∀ (s : SL) (x : List Stmt), mSL P N sc ss s x = true → PSs X x (tSL A P C W s)
  | .nil, [], h => PSs_imp L2.pss_nil fun D σ H z => by
    obtain ⟨B, m, h, ρ, S, s, z⟩ := z
    unfold wpSL at z
    exact z m H σ S (Mv.refl _ _ _) s
  | .nil, _ :: _, h => by simp [mSL] at h
  | .cons _ _, [], h => by simp [mSL] at h
  | .cons s r, a :: as, h => by
    simp only [mSL, Bool.and_eq_true] at h
    exact PSs_imp (L2.pss_cons (sS cx s a h.1) (sSL cx r as h.2)) (i_cons hC)
end
end
end G43
set_option Elab.async false
set_option linter.all false
set_option maxRecDepth 100000
set_option maxHeartbeats 4000000
namespace G43
open PySem
open L2 (V HO Hp SqL SqT Rd upd upd_same upd_ne Cx OpR R2 VK CallR IxR SlR TE TA TS TT TI TG TGs PE PA PS PSs PT PI PG PGs XK Sp Room Vals Ends)
open PySem.Spec PyProof.Rows
/-! ### behind a call: the cells that were made there are let go -/
section
variable {A : Ad} {B : Addr → Prop} {m m' : List Addr} {h h' : Hs} {H H' : Hp}
theorem cut_back (S : Sim A B m h H) (M : Mv m h H m' h' H') (S' : Sim A B m' h' H') : Sim A B m (h'.take h.length) H' ∧ Mv m h H m (h'.take h.length) H' ∧ ∀ a, Lv m (h'.take h.length) a → Lv m' h' a := by
  obtain ⟨t, rfl⟩ := M.pre
  have hl := S.len
  have hl' := S'.len
  rw [List.length_append] at hl'
  have at_ : ∀ {i : Nat} {c : List PV}, (h'.take h.length)[i]? = some (some c) → h'[i]? = some (some c) := fun {i c} e => by
    rw [List.getElem?_take] at e
    split at e
    · exact e
    · cases e
  have am : ∀ {i : Nat} {a : Addr}, m[i]? = some a → (m ++ t)[i]? = some a := fun {i a} e => M.at e
  obtain ⟨S2, lv⟩ := S'.less (m' := m) (h' := h'.take h.length) (by rw [List.length_take]; omega) (fun i c a e1 e2 => ⟨i, at_ e1, am e2⟩) (fun i j c d a e1 e2 e3 e4 => S'.inj i j c d a (at_ e1) (at_ e2) (am e3) (am e4))
  exact ⟨S2, ⟨⟨[], by simp⟩, fun b o e u n => ⟨(M.keep b o e u n).1, fun z => (M.keep b o e u n).2 (lv b z)⟩⟩, lv⟩
theorem fin_out (S : Sim A B m h H) {Q : VK} {v : RV} (z : fin h.length (Kv A B m h H Q) v h') : Kv A B m h H Q v h' := fun m' H' w S' M r => by
  obtain ⟨S2, M2, lv⟩ := cut_back S M S'
  cases v with
  | pv p =>
    have z1 : Kv A B m h H Q (.pv p) (h'.take h.length) := z
    exact z1 m H' w S2 M2 (Rp.weak (fun a q => q.imp id (lv a)) r)
  | ref i =>
    obtain ⟨a, e, rfl⟩ := r
    simp only [fin] at z
    split at z
    · rename_i hi
      have e2 : m[i]? = some a := by
        obtain ⟨t, rfl⟩ := M.pre
        rw [List.getElem?_append_left (by rw [S.len]; exact hi)] at e
        exact e
      exact z m H' _ S2 M2 ⟨a, e2, rfl⟩
    · rename_i hi
      obtain ⟨c, hc, z⟩ := z
      have hl : (h'.take h.length).length = h.length := by
        rw [List.length_take]
        have := S'.len
        obtain ⟨t, rfl⟩ := M.pre
        rw [List.length_append, S.len] at this
        omega
      have inv : ∀ {j : Nat} {d : List PV} {b : Addr}, (h'.take h.length ++ [some c])[j]? = some (some d) → (m ++ [a])[j]? = some b → ((h'.take h.length)[j]? = some (some d) ∧ m[j]? = some b ∧ j < h.length) ∨ (j = h.length ∧ d = c ∧ b = a) := fun {j d b} h1 h2 => by
        by_cases hj : j < h.length
        · rw [List.getElem?_append_left (by omega)] at h1
          rw [List.getElem?_append_left (by rw [S.len]; exact hj)] at h2
          exact .inl ⟨h1, h2, hj⟩
        · rw [List.getElem?_append_right (by omega), hl] at h1
          rw [List.getElem?_append_right (by rw [S.len]; omega), S.len] at h2
          have hz : j - h.length = 0 := by
            by_cases hz : j - h.length = 0
            · exact hz
            · rw [List.getElem?_eq_none (by simp; omega)] at h1; cases h1
          rw [hz] at h1 h2
          simp at h1 h2
          exact .inr ⟨by omega, h1.symm, h2.symm⟩
      have at_ : ∀ {j : Nat} {d : List PV}, (h'.take h.length)[j]? = some (some d) → h'[j]? = some (some d) := fun {j d} e => by
        rw [List.getElem?_take] at e
        split at e
        · exact e
        · cases e
      obtain ⟨S3, lv3⟩ := S'.less (m' := m ++ [a]) (h' := h'.take h.length ++ [some c]) (by simp [hl, S.len]) (fun j d b e1 e2 => by
          rcases inv e1 e2 with ⟨z1, z2, _⟩ | ⟨_, rfl, rfl⟩
          · exact ⟨j, at_ z1, M.at z2⟩
          · exact ⟨i, hc, e⟩) (fun j k d1 d2 b e1 e2 e3 e4 => by
          rcases inv e1 e3 with ⟨z1, z2, z3⟩ | ⟨z1, z2, z3⟩ <;> rcases inv e2 e4 with ⟨y1, y2, y3⟩ | ⟨y1, y2, y3⟩
          · exact S'.inj j k d1 d2 b (at_ z1) (at_ y1) (M.at z2) (M.at y2)
          · subst y3
            have := S'.inj j i d1 c b (at_ z1) hc (M.at z2) e
            omega
          · subst z3
            have := S'.inj k i d2 c b (at_ y1) hc (M.at y2) e
            omega
          · omega)
      refine z (m ++ [a]) H' _ S3 ⟨⟨[a], rfl⟩, fun b o q u n => ⟨(M.keep b o q u n).1, fun y => (M.keep b o q u n).2 (lv3 b y)⟩⟩ ⟨a, by rw [← S.len]; simp, rfl⟩
theorem x_out (S : Sim A B m h H) {E : XK} {x : XV} (z : Kx A B m h H E x (h'.take h.length)) : Kx A B m h H E x h' := fun m' H' cls d S' M r => by
  obtain ⟨S2, M2, lv⟩ := cut_back S M S'
  exact z m H' cls d S2 M2 r
end
/-! ### the defs of a text -/
structure Txt (A : Ad) (P : Pg) (mg : Str → Option Value) (f : Nat) (df : Df) (params : Arguments) (body : List Stmt) (scope : Scope) (dvs : List V) (fd : FuncData) (ps : List Str) : Prop where
  fun_ : L2.FunD A.K df.name df.name params body scope dvs [] (A.F f) fd
  sc : L2.FnScope df.N ps scope
  np : ps.length = df.npar
  mt : mSL P df.N scope scope df.body body = true
  nm : mg df.name = some (.ref (A.F f))
  bd : ∀ n, n ≤ df.dfl.length → ∃ dvs ds, (df.dfl.drop n).mapM dfV = some dvs ∧ Vals dvs ds ∧ L2.Binds A.K fd ps ds
structure Prog (A : Ad) (P : Pg) (mg : Str → Option Value) : Prop where
  defs : ∀ (f : Nat) (df : Df), P.defs[f]? = some df → ∃ params body scope dvs fd ps, Txt A P mg f df params body scope dvs fd ps
  con : ∀ (g : Nat) (x : Str) (p : PV), P.cons[g]? = some (x, p) → ∃ u v, mg x = some u ∧ L2.RelV v u ∧ ∀ L H, Rp A L H p v
  blt : ∀ x ∈ P.blt, mg x = none
theorem start_sl {A : Ad} {B : Addr → Prop} {m : List Addr} {h : Hs} {H : Hp} {args : List RV} {vs : List V} (r : RpRs A B m h H args vs) (N : List Str) : Sl A B m h H (args.map some ++ List.replicate (N.length - args.length) none) (L2.start N vs) := by
  refine ⟨by unfold L2.start; simp [r.length], fun i v e => ?_⟩
  unfold L2.start
  by_cases hi : i < args.length
  · rw [List.getElem?_append_left (by simpa using hi), List.getElem?_map] at e
    cases ha : args[i]? with
    | none => rw [ha] at e; cases e
    | some a =>
      rw [ha] at e
      cases e
      obtain ⟨w, e1, e2⟩ := r.get ha
      refine ⟨w, ?_, e2⟩
      rw [List.getElem?_append_left (by rw [List.length_map, r.length]; exact hi), List.getElem?_map, e1]
      rfl
  · rw [List.getElem?_append_right (by simpa using hi), List.getElem?_replicate] at e
    split at e <;> cases e
theorem defs_ok {A : Ad} {P : Pg} {mg : Str → Option Value} (T : Prog A P mg) {Pr : Program} {w : World} {base : Heap} : ∀ (d : Nat) (f : Nat) (df : Df), P.defs[f]? = some df → ∀ {params body scope dvs fd ps}, Txt A P mg f df params body scope dvs fd ps →
    FnG Pr w A.K mg base d (A.F f) fd ps (spC A (wpC P d) f)
  | 0, f, df, hf, params, body, scope, dvs, fd, ps, t => by
    refine ⟨fun vs H Q E z => ?_, fun Ar outer s H args us vs Q E hg hr e0 hb r z => ?_⟩
    all_goals
      obtain ⟨B, m, h, as, S, rr, z⟩ := z
      unfold wpC at z
      exact z.elim
  | d + 1, f, df, hf, params, body, scope, dvs, fd, ps, t => by
    have mono := wpC_mono P d d (Nat.le_refl _)
    refine fng_of t.fun_ t.sc (fun vs H Q E z => ?_) (fun cdv Ar outer s H vs Q E hg hr z => ?_)
    · obtain ⟨B, m, h, as, S, rr, z⟩ := z
      unfold wpC at z
      obtain ⟨df', e1, e2, _⟩ := z
      rw [hf] at e1
      cases e1
      rw [rr.length, e2, t.np]
    · refine ⟨tSL A P (wpC P d) E df.body, ?_, ?_⟩
      · refine sSL mono (N := df.N) (sc := scope) (ss := scope) ?_ df.body body t.mt
        refine { eK := rfl, eS := rfl, eN := rfl, kd := t.sc.kind, nd := t.sc.nd, calm := rfl, un := ?_, gd := ?_, tk := ?_, po := ?_, st := ?_, cal := ?_, con := T.con, blt := T.blt }
        · have := hr.un
          show (Ar.deeper _).units + 65 < cLine
          omega
        · show (Ar.deeper _).guards = some []
          rw [guards_deeper]
          exact hg
        · exact L2.takes_of rfl rfl rfl rfl
        · exact L2.passes_of rfl
        · intro x hx
          exact ⟨stoB_ok hx, .inl rfl⟩
        · intro g dg hg'
          obtain ⟨params', body', scope', dvs', fd', ps', t'⟩ := T.defs g dg hg'
          exact ⟨t'.nm, t'.fun_.kp, d, fd', ps', defs_ok T d g dg hg' t', hr, t'.np, t'.bd⟩
      · obtain ⟨B, m, h, as, S, rr, z⟩ := z
        unfold wpC at z
        obtain ⟨df', e1, e2, z⟩ := z
        rw [hf] at e1
        cases e1
        refine ⟨B, m, h, _, S, start_sl rr df.N, wpSL_mono mono df.body (fun ρ' h' k m' H' σ' S' M' _ => ?_) (fun v h' k => fin_out S k) (fun x h' k => x_out S k) z⟩
        exact fin_out S k m' H' _ S' M' .non
end G43
set_option Elab.async false
set_option linter.all false
set_option maxRecDepth 100000
set_option maxHeartbeats 4000000
namespace G43
open PySem
open L2 (V HO Hp SqL SqT Rd upd upd_same upd_ne Cx OpR R2 VK CallR IxR SlR TE TA TS TT TI TG TGs PE PA PS PSs PT PI PG PGs XK Sp Room Vals Ends)
open PySem.Spec PyProof.Rows
/-! ### the law's call -/
/-- the script alone is tracked, or nothing is -/
structure Bare (K : PySem.W.Frag) (H : Hp) (a : Addr) (xs : List V) : Prop where
  only : ∀ b, H b ≠ none → b = a ∧ ∃ o, H b = some (.frz o (.lst xs))
  there : (∃ o, H a = some (.frz o (.lst xs))) ∨ KL K a xs
  apart : H a ≠ none → K.lookup a = none
theorem lawG {Pr : Program} {w : World} {K : PySem.W.Frag} {mg mb : Str → Option Value} {k : Nat} {fa a : Addr} {fd : FuncData} {x : Str} {sp : Sp} {s1 : Shared} {vs : List Value} {ns : List Int}
    (KX : K.In s1.heap) (hns : s1.heap.Ns mainGlobals mg) (hb : s1.heap.Ns builtinsNs mb) (hbb : ∀ x : Str, x ≠ "__name__" → mb x = bootBuiltins x) (hlim : s1.heap.NoLimit) (hg : s1.gens = #[])
    (ha : s1.heap.get? a = some { cls := .type "list", data := .seq vs.toArray }) (hi : IntsAre vs ns) (hl : ns.length ≤ sizeLine) (hr : Room k callerA)
    (F : ∀ base : Heap, FnG Pr w K mg base k fa fd [x] sp) (hbind : ∀ (s : Shared) (u : Value), K.In s.heap → BindsTo s fd ⟨[u], []⟩ [(x, u)])
    (hsp : ∀ H : Hp, Bare K H a (ns.map V.int) → sp [.ref a] H (fun v _ => v = .bl true) fun _ _ _ => False) :
    codeAny (model Pr w) callerA (.call (.ref fa) ⟨[.ref a], []⟩) (fun r s' => r = .ok (.ret (.bool true)) ∧ OldK s1.heap s'.heap ∧ s'.os = s1.os ∧ AllBare s'.gens) s1 := by
  have rv : Vals (ns.map V.int) vs := L2.vals_ints hi
  -- any abstract heap that tracks the script alone will do
  have main : ∀ H : Hp, Bare K H a (ns.map V.int) → L2.HOk Pr w H s1.heap →
      codeAny (model Pr w) callerA (.call (.ref fa) ⟨[.ref a], []⟩) (fun r s' => r = .ok (.ret (.bool true)) ∧ OldK s1.heap s'.heap ∧ s'.os = s1.os ∧ AllBare s'.gens) s1 := by
    intro H hB hok
    have free : ∀ {b : Addr} {o : Obj} {es : Array DictEntry} {ep : Nat}, s1.heap.get? b = some o → o.data = .dict es ep → H b = none := by
      intro b o es ep e d
      cases q : H b with
      | none => rfl
      | some u =>
        obtain ⟨rfl, -⟩ := hB.only b (by rw [q]; exact fun z => nomatch z)
        rw [ha] at e
        cases e
        cases d
    have nsB : ∀ {b : Addr} {mm : Str → Option Value}, s1.heap.Ns b mm → (L2.hidT s1.heap H).Ns b mm := by
      rintro b mm ⟨o, es, ep, e, d, r⟩
      exact ⟨o, es, ep, L2.hidT_get e (free e d), d, r⟩
    have KB : K.In (L2.hidT s1.heap H) := by
      intro b o e
      refine L2.hidT_get (KX b o e) ?_
      cases q : H b with
      | none => rfl
      | some u =>
        have n : H b ≠ none := by rw [q]; exact fun z => nomatch z
        obtain ⟨rfl, -⟩ := hB.only b n
        rw [hB.apart n] at e
        cases e
    have md : L2.Mod K mg (L2.hidT s1.heap H) := by
      refine ⟨KB, nsB hns, ⟨mb, nsB hb, hbb⟩, ?_⟩
      obtain ⟨mc, h1, h2⟩ := hlim
      exact ⟨mc, nsB h1, h2⟩
    have e0 : L2.Env0 Pr w K mg (L2.hidT s1.heap H) callerA [] s1 H :=
      { frames := rfl, mod := md, bs := fun b o e => L2.of_hidT e, bsz := Nat.le_of_eq (L2.hidT_size _ _), funs := trivial, frf := fun b hb => (by simp [L2.frs] at hb), hok := hok, bare := .of_eq hg }
    refine codeAny_mono ((F _).run callerA [] s1 H ⟨[.ref a], []⟩ [.ref a] [.ref a] _ _ rfl hr e0 (hbind s1 (.ref a) KX) (.cons rfl .nil) (hsp H hB)) ?_
    rintro (e | fl) s' q
    · have q : L2.CX Pr w [] H s1 (fun _ _ _ => False) e s' := q
      obtain ⟨_, _, _, _, _, _, _, _, _, _, _, _, z⟩ := q
      exact False.elim z
    · rcases fl with _ | _ | _ | u
      · exact q.elim
      · exact q.elim
      · exact q.elim
      · obtain ⟨v, H', os, bare, un, hok', r', q⟩ := q
        obtain rfl : v = .bl true := q
        obtain rfl : u = Value.bool true := r'
        refine ⟨rfl, OldK.of_keep fun b o e => ?_, os, bare⟩
        cases qb : H b with
        | none => exact un.keep b o e qb (by simp [L2.frs]) (by simp)
        | some u =>
          obtain ⟨rfl, ob, z⟩ := hB.only b (by rw [qb]; exact fun z => nomatch z)
          have z2 := un.frzs _ ob _ z
          obtain ⟨e1, _⟩ := hok _ _ z
          obtain ⟨e2, _⟩ := hok' _ _ z2
          rw [e] at e1
          cases e1
          exact e2
  by_cases hk : K.lookup a = none
  · refine main (fun b => if b = a then some (.frz { cls := .type "list", data := .seq vs.toArray } (.lst (ns.map V.int))) else none) ⟨fun b n => ?_, .inl ⟨_, if_pos rfl⟩, fun _ => hk⟩ fun b u z => ?_
    · by_cases e : b = a
      · exact ⟨e, _, if_pos e⟩
      · exact absurd (if_neg e) n
    · by_cases e : b = a
      · have z' := (if_pos e).symm.trans z
        cases z'
        subst e
        exact ⟨ha, by rw [List.length_map]; exact hl, vs, _, rv, ha⟩
      · have z' := (if_neg e).symm.trans z
        cases z'
  · obtain ⟨o, ho⟩ := Option.ne_none_iff_exists'.mp hk
    have e := KX a o ho
    rw [ha] at e
    cases e
    refine main (fun _ => none) ⟨fun b n => absurd rfl n, .inr ⟨_, vs.toArray, _, ho, rfl, rfl, rfl, ?_, by simpa using rv⟩, fun n => absurd rfl n⟩ fun b u z => nomatch (show (none : Option HO) = some u from z)
    rw [List.size_toArray, hi.length]
    exact hl
/-- the end of a law's row -/
theorem walkG {l : PySem.W.OpenLaw} {n k : Nat} {q : Program} {loose : List Str} {XP : (Str → Option Value) → Heap → Prop} {YP : World → Heap → Prop} {d : DefRec}
    (hn : l.most = some n) (hn2 : n ≤ sizeLine) (hdf : d.params.defaults = []) (hr : Room k callerA)
    (F : ∀ (w : World) (mg : Str → Option Value) (fa : Addr) (h : Heap), YP w h → h.Ns mainGlobals mg → mg d.name = some (.ref fa) →
      ∃ (A : Ad) (P : Pg) (f : Nat) (df : Df), A.K.In h ∧ Prog A P mg ∧ P.defs[f]? = some df ∧ A.F f = fa ∧
        df.npar = 1 ∧ df.dfl = [] ∧
        ∀ ns : List Int, ns.length ≤ n → wpC P k f [.pv (.scr (ns.map PV.int))] [] (fun v _ => v = .pv (.bl true)) (fun _ _ => False)) :
    PySem.W.WalkO q loose XP YP l.row.toRowW d [] (fun f vs => PySem.call f vs) := by
  refine Att.attach_call hn hdf ?_
  intro w s0 s1 mg mb fa o pm cd doc a vs ns G Y ho hd hcd hmg hobj hints hlen hg
  obtain ⟨A, P, f, df, KX, T, hf, rfl, hp1, hp2, hw⟩ := F w mg fa _ Y G.T.g hmg
  obtain ⟨params, body, scope, dvs, fd, ps, t⟩ := T.defs f df hf
  have hl1 : ps.length = 1 := t.np.trans hp1
  obtain ⟨x, rfl⟩ : ∃ x, ps = [x] := by
    cases ps with
    | nil => cases hl1
    | cons x r => cases r with
      | nil => exact ⟨x, rfl⟩
      | cons y r => simp at hl1
  have hb : ∀ (s : Shared) (u : Value), A.K.In s.heap → BindsTo s fd ⟨[u], []⟩ [(x, u)] := fun s u hk => by
    obtain ⟨dvs, ds, e1, e2, e3⟩ := t.bd 0 (Nat.zero_le _)
    rw [hp2] at e1
    cases e1
    cases e2
    exact e3 s [u] hk rfl
  refine lawG KX G.T.g G.T.b G.T.builtins G.T.nolimit hg hobj hints (Nat.le_trans hlen hn2) hr (fun base => defs_ok T k f df hf t) hb ?_
  intro H hB
  have rl : ∀ (L : Addr → Prop) (ms : List Int), RpL A L H (ms.map PV.int) (ms.map V.int) := fun L ms => by
    induction ms with
    | nil => exact .nil
    | cons i ms ih => exact .cons (.int i) ih
  refine ⟨fun _ => False, [], [], [.pv (.scr (ns.map PV.int))], ⟨rfl, fun i c a e => by simp at e, fun i j c d a e => by simp at e, fun _ z => False.elim z, fun _ z => False.elim z⟩, .cons ?_ .nil, wpC_mono P k k (Nat.le_refl _) _ _ _ _ _ _ _ (fun v h e => ?_) (fun _ _ z => False.elim z) (hw ns hlen)⟩
  · exact Rp.scr hB.there (rl _ ns)
  · subst e
    intro m' H' w' S' M' r
    cases r
    rfl
end G43
set_option Elab.async false
set_option linter.all false
set_option maxRecDepth 100000
set_option maxHeartbeats 4000000
namespace G43
open PySem
open L2 (V HO Hp SqL SqT Vals)
/-! ### the top's constants -/
mutual
theorem repB_ok {A : Ad} : ∀ {p : PV} {u : Value}, repB A.K p u = true → ∃ v, L2.RelV v u ∧ ∀ L H, Rp A L H p v
  | .non, u, h => by
    cases u <;> simp [repB] at h
    exact ⟨.non, rfl, fun _ _ => .non⟩
  | .bl a, u, h => by
    cases u <;> simp [repB] at h
    subst h
    exact ⟨.bl a, rfl, fun _ _ => .bl a⟩
  | .int i, u, h => by
    cases u <;> simp [repB] at h
    subst h
    exact ⟨.int i, ⟨_, rfl⟩, fun _ _ => .int i⟩
  | .str x, u, h => by
    cases u <;> simp [repB] at h
    subst h
    exact ⟨.str x, ⟨_, rfl⟩, fun _ _ => .str x⟩
  | .tup l, u, h => by
    cases u with
    | ref a =>
      simp only [repB] at h
      split at h
      · rename_i c od its n sl e
        simp only [Bool.and_eq_true, decide_eq_true_eq] at h
        obtain ⟨⟨rfl, h1⟩, h2⟩ := h
        obtain ⟨vs, r1, r2⟩ := repBs_ok h2
        exact ⟨.ref a, rfl, fun L H => .tup (.inr ⟨_, its, n, e, rfl, rfl, Nat.le_trans h1 (by decide), r1⟩) (r2 L H)⟩
      · cases h
    | _ => simp [repB] at h
  | .lst l, u, h => by cases u <;> simp [repB] at h
  | .fn l, u, h => by cases u <;> simp [repB] at h
  | .obj l, u, h => by cases u <;> simp [repB] at h
  | .scr l, u, h => by cases u <;> simp [repB] at h
theorem repBs_ok {A : Ad} : ∀ {ps : List PV} {us : List Value}, repBs A.K ps us = true → ∃ vs, Vals vs us ∧ ∀ L H, RpL A L H ps vs
  | [], [], _ => ⟨[], .nil, fun _ _ => .nil⟩
  | [], _ :: _, h => by simp [repBs] at h
  | _ :: _, [], h => by simp [repBs] at h
  | p :: ps, u :: us, h => by
    simp only [repBs, Bool.and_eq_true] at h
    obtain ⟨v, r1, r2⟩ := repB_ok h.1
    obtain ⟨vs, r3, r4⟩ := repBs_ok h.2
    exact ⟨v :: vs, .cons r1 r3, fun L H => .cons (r2 L H) (r4 L H)⟩
end
theorem conB_ok {A : Ad} {h : Heap} {mg : Str → Option Value} (X : A.K.In h) (G : h.Ns mainGlobals mg) {q : Str × PV} (e : conB A.K q = true) : ∃ u v, mg q.1 = some u ∧ L2.RelV v u ∧ ∀ L H, Rp A L H q.2 v := by
  unfold conB at e
  split at e
  · rename_i u hu
    obtain ⟨v, r1, r2⟩ := repB_ok e
    exact ⟨u, v, PySem.W.mg_of X G hu, r1, r2⟩
  · cases e
/-! ### what the head tells -/
theorem seeP_eq {n : Nat} {P : Pg} {fn : List He.DefD} {g : Addr → Option Obj} {s : Shared} (h : ∀ a, g a = s.heap.get? a) : seeP n P fn g = (hookP n P fn).obs s := by
  have e : g = s.heap.get? := funext h
  subst e
  rfl
/-- a def of the row is what the small language says -/
structure DefS (P : Pg) (df : Df) (dd : He.DefD) : Prop where
  a1 : dd.at_ = (df.name, none)
  a2 : dd.name = df.name
  a3 : dd.qual = df.name
  a4 : dd.kwd = []
  ex : ∃ ps : List Str, L2.FnScope df.N ps dd.scope ∧ ps.length = df.npar ∧
    ∀ (K : PySem.W.Frag) (f : Addr) (fd : FuncData), L2.FunD K df.name df.name dd.params dd.body dd.scope (dd.dvs K) [] f fd → ∀ n, n ≤ df.dfl.length → ∃ dvs ds, (df.dfl.drop n).mapM dfV = some dvs ∧ Vals dvs ds ∧ L2.Binds K fd ps ds
  mt : mSL P df.N dd.scope dd.scope df.body dd.body = true
inductive DefsS (P : Pg) : List Df → List He.DefD → Prop
  | nil : DefsS P [] []
  | cons {d : Df} {e : He.DefD} {ds : List Df} {es : List He.DefD} : DefS P d e → DefsS P ds es → DefsS P (d :: ds) (e :: es)
theorem DefsS.get {P : Pg} : ∀ {ds : List Df} {es : List He.DefD} {i : Nat} {d : Df}, DefsS P ds es → ds[i]? = some d → ∃ e, es[i]? = some e ∧ DefS P d e
  | _, _, _, _, .nil, h => by simp at h
  | _, _, 0, _, .cons q _, h => by simp at h; subst h; exact ⟨_, rfl, q⟩
  | _, _, i + 1, d, .cons _ r, h => by
    obtain ⟨e, h1, h2⟩ := DefsS.get (i := i) (d := d) r (by simpa using h)
    exact ⟨e, by simpa using h1, h2⟩
def adOf (P : Pg) (K : PySem.W.Frag) : Ad := ⟨K, fun f => match P.defs[f]? with | some d => He.ga K d.name | none => 0, fun _ => 0⟩
theorem prog_of {P : Pg} {fn : List He.DefD} {K : PySem.W.Frag} {h : Heap} {mg : Str → Option Value} (X : K.In h) (G : h.Ns mainGlobals mg) (c : obsP P fn K = valP fn) (D : DefsS P P.defs fn) : Prog (adOf P K) P mg := by
  have c1 : facB K P fn = true := congrArg (fun z : Bool × List He.FnW => z.1) c
  have c2 : fn.map (fun d => He.fnW K d.at_) = fn.map He.DefD.val := congrArg (fun z : Bool × List He.FnW => z.2) c
  unfold facB at c1
  simp only [Bool.and_eq_true, List.all_eq_true] at c1
  obtain ⟨⟨⟨g1, g2⟩, g3⟩, g4⟩ := c1
  refine ⟨fun f df hf => ?_, fun g x p hg => ?_, fun x hx => He.free_ok X G (g2 x hx)⟩
  · obtain ⟨dd, hd, s⟩ := D.get hf
    have e2 : He.fnW K dd.at_ = dd.val := by
      have e3 : (fn.map fun d => He.fnW K d.at_)[f]? = (fn.map He.DefD.val)[f]? := by rw [c2]
      rw [List.getElem?_map, List.getElem?_map, hd] at e3
      exact Option.some.inj e3
    obtain ⟨fd, F⟩ := He.DefD.funD e2 (g4 dd (List.mem_of_getElem? hd))
    have ef : (adOf P K).F f = He.ga K df.name := by
      show (match P.defs[f]? with | some d => He.ga K d.name | none => 0) = _
      rw [hf]
    have eA : He.fAd K dd.at_ = (adOf P K).F f := by
      rw [ef, s.a1]
      rfl
    have ek : dd.kws K = [] := by
      unfold He.DefD.kws
      rw [s.a4]
      rfl
    rw [eA, s.a2, s.a3, ek] at F
    obtain ⟨ps, h1, h2, h3⟩ := s.ex
    refine ⟨dd.params, dd.body, dd.scope, dd.dvs K, fd, ps, F, h1, h2, s.mt, ?_, fun n hn => h3 K _ fd F n hn⟩
    rw [ef]
    exact He.glo_ok X G (g1 df (List.mem_of_getElem? hf))
  · exact conB_ok (A := adOf P K) X G (g3 (x, p) (List.mem_of_getElem? hg))
end G43
set_option Elab.async false
set_option linter.all false
set_option maxRecDepth 100000
set_option maxHeartbeats 4000000
namespace G43
open PySem
/-! ### the evaluator's rules, as rewriting reads them -/
def kBin (op : Operator) (x y : RV) (h : Hs) (k : PV → Prop) : Prop := ∃ p q, val h x = some p ∧ val h y = some q ∧ wpBin op p q k
def kCmp (op : CmpOp) (x y : RV) (h : Hs) (k : Bool → Prop) : Prop := ∃ p q, val h x = some p ∧ val h y = some q ∧ wpCmp op p q k
def kIf (x : RV) (k : Bool → Prop) : Prop := ∃ c, x = .pv (.bl c) ∧ k c
def kNeg (x : RV) (k : Int → Prop) : Prop := ∃ i, x = .pv (.int i) ∧ k i
def kBi (b : BI) (vs : List RV) (h : Hs) (k : PV → Prop) : Prop := ∃ ps, vs.mapM (val h) = some ps ∧ wpBi b ps k
def kIs (x : RV) (t : Ty) (h : Hs) (k : Bool → Prop) : Prop := ∃ p b, val h x = some p ∧ isB p t = some b ∧ k b
def kIx (x y : RV) (h : Hs) (k : PV → Prop) : Prop := ∃ p q, val h x = some p ∧ y = .pv q ∧ wpIx p q k
def kS1 (x y : RV) (h : Hs) (k : PV → Prop) : Prop := ∃ p i, val h x = some p ∧ y = .pv (.int i) ∧ wpSl p (some i) none k
def kS2 (x y : RV) (h : Hs) (k : PV → Prop) : Prop := ∃ p i, val h x = some p ∧ y = .pv (.int i) ∧ wpSl p none (some i) k
def kS3 (x : RV) (i : Int) (z : RV) (h : Hs) (k : PV → Prop) : Prop := ∃ p j, val h x = some p ∧ z = .pv (.int j) ∧ wpSl p (some i) (some j) k
def kPs (vs : List RV) (k : List PV → Prop) : Prop := ∃ ps, vs = ps.map RV.pv ∧ k ps
def kPv (v : RV) (k : PV → Prop) : Prop := ∃ p, v = .pv p ∧ k p
def kFr (x : RV) (h : Hs) (k : List PV → Hs → Prop) : Prop := ∃ i c, x = .ref i ∧ h[i]? = some (some c) ∧ k c (h.set i none)
def kSq (x : RV) (h1 : Hs) (Q : List PV → (Hs → Prop) → Hs → Prop) : Prop := match x with
      | .pv (.lst l) => Q l (fun _ => True) h1
      | .pv (.tup l) => Q l (fun _ => True) h1
      | .pv (.scr l) => Q l (fun _ => True) h1
      | .ref i => ∃ c, h1[i]? = some (some c) ∧ Q c (fun h => h[i]? = some (some c)) h1
      | _ => False
def kZip (x y : RV) (k : List PV → Prop) : Prop := match x, y with
      | .pv (.lst l), .pv (.lst r) => k (zipL l r)
      | .pv (.tup l), .pv (.tup r) => k (zipL l r)
      | _, _ => False
def kSub (x z y : RV) (h3 : Hs) (nx : Hs → Prop) : Prop := ∃ k c n j q, x = .ref k ∧ h3[k]? = some (some c) ∧ z = .pv (.int n) ∧ L2.ixN c.length n = some j ∧ y = .pv q ∧ nx (h3.set k (some (c.set j q)))
def kAp1 (x : RV) (h1 : Hs) (g : Nat → Prop) : Prop := ∃ k c0, x = .ref k ∧ h1[k]? = some (some c0) ∧ g k
def kAp2 (k : Nat) (y : RV) (h2 : Hs) (nx : Hs → Prop) : Prop := ∃ c q, h2[k]? = some (some c) ∧ y = .pv q ∧ c.length < sizeLine ∧ nx (h2.set k (some (c ++ [q])))
def kSet (ρ : Env) (i : Nat) (v : Option RV) (k : Env → Prop) : Prop := k (ρ.set i v)
def kKill (ρ : Env) (is : List Nat) (k : Env → Prop) : Prop := k (kill ρ is)
def kSetA (ρ : Env) (is : List Nat) (vs : List RV) (k : Env → Prop) : Prop := k (setAll ρ is vs)
section
variable {P : Pg} {C : CallT} {ρ : Env} {h : Hs} {Q : QV} {X : QX}
theorem n_set0 {o v k} : kSet (o :: ρ) 0 v k = k (v :: ρ) := rfl
theorem n_setS {o n v k} : kSet (o :: ρ) (n + 1) v k = kSet ρ n v fun ρ' => k (o :: ρ') := rfl
theorem n_kil0 {k} : kKill ρ [] k = k ρ := rfl
theorem n_kilS {v vs k} : kKill ρ (v :: vs) k = kKill ρ vs fun ρ' => kSet ρ' v none k := rfl
theorem n_sa0 {vs k} : kSetA ρ [] vs k = k ρ := rfl
theorem n_saS {i is v vs k} : kSetA ρ (i :: is) (v :: vs) k = kSet ρ i (some v) fun ρ' => kSetA ρ' is vs k := rfl
theorem n_slot0 {i} : (Tg.nm i).slots = [i] := rfl
theorem n_slot1 : (Tg.nil).slots = [] := rfl
theorem n_slotS {i r} : (Tg.cons (.nm i) r).slots = i :: r.slots := rfl
/-! expressions -/
theorem e_var0 {v} : wpE P C (.var 0) (some v :: ρ) h Q X = Q v h := by
  show (∃ w, some (some v) = some (some w) ∧ Q w h) = _
  simp
theorem e_varS {n o} : wpE P C (.var (n + 1)) (o :: ρ) h Q X = wpE P C (.var n) ρ h Q X := rfl
theorem e_cst {p} : wpE P C (.cst p) ρ h Q X = Q (.pv p) h := rfl
theorem e_glo {g x p} (e : P.cons[g]? = some (x, p)) : wpE P C (.glo g) ρ h Q X = Q (.pv p) h := by
  show (∃ x p, P.cons[g]? = some (x, p) ∧ Q (.pv p) h) = _
  rw [e]
  apply propext
  constructor
  · rintro ⟨_, _, e, z⟩; cases e; exact z
  · intro z; exact ⟨_, _, rfl, z⟩
theorem e_bin {op a b} : wpE P C (.bin op a b) ρ h Q X = wpE P C a ρ h (fun x h1 => wpE P C b ρ h1 (fun y h2 => kBin op x y h2 fun r => Q (.pv r) h2) X) X := rfl
theorem e_neg {a} : wpE P C (.neg a) ρ h Q X = wpE P C a ρ h (fun x h1 => kNeg x fun i => Q (.pv (.int (-i))) h1) X := rfl
theorem e_nt {a} : wpE P C (.nt a) ρ h Q X = wpE P C a ρ h (fun x h1 => kIf x fun c => Q (.pv (.bl (!c))) h1) X := rfl
theorem e_and {a b} : wpE P C (.and a b) ρ h Q X = wpE P C a ρ h (fun x h1 => kIf x fun c => if c = true then wpE P C b ρ h1 Q X else Q (.pv (.bl false)) h1) X := rfl
theorem e_or {a b} : wpE P C (.or a b) ρ h Q X = wpE P C a ρ h (fun x h1 => kIf x fun c => if c = true then Q (.pv (.bl true)) h1 else wpE P C b ρ h1 Q X) X := rfl
theorem e_cmp {op a b} : wpE P C (.cmp op a b) ρ h Q X = wpE P C a ρ h (fun x h1 => wpE P C b ρ h1 (fun y h2 => kCmp op x y h2 fun r => Q (.pv (.bl r)) h2) X) X := rfl
theorem e_call {f es dv} : wpE P C (.call f es dv) ρ h Q X = wpL P C es ρ h (fun vs h1 => C f (vs ++ dv.map .pv) h1 Q X) X := rfl
theorem e_bi {b es} : wpE P C (.bi b es) ρ h Q X = wpL P C es ρ h (fun vs h1 => kBi b vs h1 fun r => Q (.pv r) h1) X := rfl
theorem e_isi {a t} : wpE P C (.isi a t) ρ h Q X = wpE P C a ρ h (fun x h1 => kIs x t h1 fun b => Q (.pv (.bl b)) h1) X := rfl
theorem e_idx {a i} : wpE P C (.idx a i) ρ h Q X = wpE P C a ρ h (fun x h1 => wpE P C i ρ h1 (fun y h2 => kIx x y h2 fun r => Q (.pv r) h2) X) X := rfl
theorem e_slo {a i} : wpE P C (.slo a i) ρ h Q X = wpE P C a ρ h (fun x h1 => wpE P C i ρ h1 (fun y h2 => kS1 x y h2 fun r => Q (.pv r) h2) X) X := rfl
theorem e_shi {a i} : wpE P C (.shi a i) ρ h Q X = wpE P C a ρ h (fun x h1 => wpE P C i ρ h1 (fun y h2 => kS2 x y h2 fun r => Q (.pv r) h2) X) X := rfl
theorem e_slh {a lo hi} : wpE P C (.slh a lo hi) ρ h Q X = wpE P C a ρ h (fun x h1 => wpE P C lo ρ h1 (fun y h2 => kNeg y fun i => wpE P C hi ρ h2 (fun z h3 => kS3 x i z h3 fun r => Q (.pv r) h3) X) X) X := rfl
theorem e_tup {es} : wpE P C (.tup es) ρ h Q X = wpL P C es ρ h (fun vs h1 => kPs vs fun ps => Q (.pv (.tup ps)) h1) X := rfl
theorem e_lst {es} : wpE P C (.lst es) ρ h Q X = wpL P C es ρ h (fun vs h1 => kPs vs fun ps => Q (.pv (.lst ps)) h1) X := rfl
theorem e_mls {es} : wpE P C (.mls es) ρ h Q X = wpL P C es ρ h (fun vs h1 => kPs vs fun ps => Q (.ref h1.length) (h1 ++ [some ps])) X := rfl
def kMad (x y : RV) (h : Hs) (Q : RV → Hs → Prop) : Prop := ∃ p q, val h x = some (.lst p) ∧ val h y = some (.lst q) ∧ p.length + q.length ≤ sizeLine ∧ Q (.ref h.length) (h ++ [some (p ++ q)])
def kMrp (x y : RV) (h : Hs) (Q : RV → Hs → Prop) : Prop := ∃ p k, val h x = some (.lst p) ∧ y = .pv (.int k) ∧ -(2 ^ 63) ≤ k ∧ k < 2 ^ 63 ∧ p.length * k.toNat ≤ sizeLine ∧ Q (.ref h.length) (h ++ [some (List.replicate k.toNat p).flatten])
theorem e_mad {a b} : wpE P C (.mad a b) ρ h Q X = wpE P C a ρ h (fun x h1 => wpE P C b ρ h1 (fun y h2 => kMad x y h2 Q) X) X := rfl
theorem e_comp {elt tg it ifs} : wpE P C (.comp elt tg it ifs) ρ h Q X = wpI P C it ρ h (fun l gd h1 => l.length ≤ sizeLine ∧
      compT gd (fun x h2 k => kKill ρ tg.slots fun ρ0 => bindT tg x ρ0 fun ρ1 => wpTs P C ifs ρ1 h2 (fun b h3 => if b = true then wpE P C elt ρ1 h3 (fun y h4 => kPv y fun p => k [p] h4) (fun _ _ => False) else k [] h3) (fun _ _ => False)) l h1 fun r h2 => Q (.pv (.lst r)) h2) X := rfl
theorem l_nil {Q : List RV → Hs → Prop} : wpL P C .nil ρ h Q X = Q [] h := rfl
theorem l_cons {e r} {Q : List RV → Hs → Prop} : wpL P C (.cons e r) ρ h Q X = wpE P C e ρ h (fun v h1 => wpL P C r ρ h1 (fun vs h2 => Q (v :: vs) h2) X) X := rfl
theorem i_seq {e} {Q : List PV → (Hs → Prop) → Hs → Prop} : wpI P C (.seq e) ρ h Q X = wpE P C e ρ h (fun x h1 => kSq x h1 Q) X := rfl
theorem i_rng1 {e} {Q : List PV → (Hs → Prop) → Hs → Prop} : wpI P C (.rng1 e) ρ h Q X = wpE P C e ρ h (fun x h1 => kNeg x fun j => -(2 ^ 62) ≤ j ∧ j < 2 ^ 62 ∧ Q (rngL 0 j.toNat) (fun _ => True) h1) X := rfl
theorem i_zip {a b} {Q : List PV → (Hs → Prop) → Hs → Prop} : wpI P C (.zip a b) ρ h Q X = wpE P C a ρ h (fun x h1 => wpE P C b ρ h1 (fun y h2 => kZip x y fun l => Q l (fun _ => True) h2) X) X := rfl
theorem ts_nil {Q : Bool → Hs → Prop} : wpTs P C .nil ρ h Q X = Q true h := rfl
theorem ts_cons {e r} {Q : Bool → Hs → Prop} : wpTs P C (.cons e r) ρ h Q X = wpE P C e ρ h (fun x h1 => kIf x fun c => Q c h1) X := rfl
theorem b_def {e} {Q : Bool → Hs → Prop} : wpB P C e ρ h Q X = wpE P C e ρ h (fun x h1 => kIf x fun c => Q c h1) X := rfl
/-! statements -/
variable {nx : Env → Hs → Prop} {rt : QV}
theorem st_set {i e} : wpS P C (.set i e) ρ h nx rt X = wpE P C e ρ h (fun v h1 => kSet ρ i (some v) fun ρ' => nx ρ' h1) X := rfl
theorem st_par {is es} : wpS P C (.par is es) ρ h nx rt X = wpL P C es ρ h (fun vs h1 => vs.length = is.length ∧ kSetA ρ is vs fun ρ' => nx ρ' h1) X := rfl
theorem st_sub {o i v} : wpS P C (.sub o i v) ρ h nx rt X = wpE P C v ρ h (fun y h1 => wpE P C o ρ h1 (fun x h2 => wpE P C i ρ h2 (fun z h3 => kSub x z y h3 fun h4 => nx ρ h4) X) X) X := rfl
theorem st_app {o v} : wpS P C (.app o v) ρ h nx rt X = wpE P C o ρ h (fun x h1 => kAp1 x h1 fun k => wpE P C v ρ h1 (fun y h2 => kAp2 k y h2 fun h3 => nx ρ h3) X) X := rfl
theorem s_exp {e} : wpS P C (.exp e) ρ h nx rt X = wpE P C e ρ h (fun _ h1 => nx ρ h1) X := rfl
theorem s_iff {t a b} : wpS P C (.iff t a b) ρ h nx rt X = wpE P C t ρ h (fun x h1 => kIf x fun c => if c = true then wpSL P C a ρ h1 nx rt X else wpSL P C b ρ h1 nx rt X) X := rfl
theorem s_for {kl tg it body} : wpS P C (.for kl tg it body) ρ h nx rt X = wpI P C it ρ h (fun l gd h1 => kKill ρ kl fun ρ0 => loopT gd (fun x ρ1 h2 k => bindT tg x ρ1 fun ρ2 => wpSL P C body ρ2 h2 (fun ρ3 h3 => kKill ρ3 kl fun ρ4 => k ρ4 h3) rt X) l ρ0 h1 nx) X := rfl
theorem s_whl {kl t body} : wpS P C (.whl kl t body) ρ h nx rt X = ∃ W : Nat → Env → Hs → Prop, (∃ m, W m (kill ρ kl) h) ∧ ∀ m ρ1 h1, W m ρ1 h1 → wpB P C t ρ1 h1 (fun c h2 => if c = true then
      wpSL P C body ρ1 h2 (fun ρ3 h3 => ∃ m', m' < m ∧ W m' (kill ρ3 kl) h3) rt X else nx ρ1 h2) X := rfl
theorem s_ret {e} : wpS P C (.ret e) ρ h nx rt X = wpE P C e ρ h rt X := rfl
theorem s_retN : wpS P C .retN ρ h nx rt X = rt (.pv .non) h := rfl
theorem s_pass : wpS P C .pass ρ h nx rt X = nx ρ h := rfl
theorem sl_nil : wpSL P C .nil ρ h nx rt X = nx ρ h := rfl
theorem sl_cons {s r} : wpSL P C (.cons s r) ρ h nx rt X = wpS P C s ρ h (fun ρ1 h1 => wpSL P C r ρ1 h1 nx rt X) rt X := rfl
end
/-! continuations -/
section
variable {h : Hs}
theorem k_if {c : Bool} {k : Bool → Prop} : kIf (.pv (.bl c)) k = k c := by unfold kIf; simp
theorem k_neg {i : Int} {k : Int → Prop} : kNeg (.pv (.int i)) k = k i := by unfold kNeg; simp
theorem k_bin {op p q k} : kBin op (.pv p) (.pv q) h k = wpBin op p q k := by unfold kBin; simp [val]
theorem k_cmp {op p q k} : kCmp op (.pv p) (.pv q) h k = wpCmp op p q k := by unfold kCmp; simp [val]
theorem k_bi0 {b k} : kBi b [] h k = wpBi b [] k := by unfold kBi; simp [val]
theorem k_bi1 {b p k} : kBi b [.pv p] h k = wpBi b [p] k := by unfold kBi; simp [val]
theorem k_bi2 {b p q k} : kBi b [.pv p, .pv q] h k = wpBi b [p, q] k := by unfold kBi; simp [val]
theorem k_bir {b i c k} (e : h[i]? = some (some c)) : kBi b [.ref i] h k = wpBi b [.lst c] k := by unfold kBi; simp [val, e]
theorem k_is {p t k} : kIs (.pv p) t h k = ∃ b, isB p t = some b ∧ k b := by unfold kIs; simp [val]
theorem is_tup {l} {k : Bool → Prop} : kIs (.pv (.tup l)) .tuple h k = k true := by rw [k_is]; simp [isB, tyOf]
theorem is_int {i} {k : Bool → Prop} : kIs (.pv (.int i)) .int h k = k true := by rw [k_is]; simp [isB, tyOf]
theorem is_intb {i} {k : Bool → Prop} : kIs (.pv (.int i)) .bool h k = k false := by rw [k_is]; simp [isB, tyOf]
theorem k_ixt {l i k} : kIx (.pv (.tup l)) (.pv (.int i)) h k = ∃ v, atI l i = some v ∧ k v := by unfold kIx; simp [val, wpIx]
theorem k_ixl {l i k} : kIx (.pv (.lst l)) (.pv (.int i)) h k = ∃ v, atI l i = some v ∧ k v := by unfold kIx; simp [val, wpIx]
theorem k_ixs {l i k} : kIx (.pv (.scr l)) (.pv (.int i)) h k = ∃ v, atI l i = some v ∧ k v := by unfold kIx; simp [val, wpIx]
theorem k_ixr {j c i k} (e : h[j]? = some (some c)) : kIx (.ref j) (.pv (.int i)) h k = ∃ v, atI c i = some v ∧ k v := by unfold kIx; simp [val, wpIx, e]
theorem k_ixt0 {a l k} : kIx (.pv (.tup (a :: l))) (.pv (.int 0)) h k = k a := by rw [k_ixt]; simp [atI, L2.atI, L2.ixN]
theorem k_ixt1 {a b l k} : kIx (.pv (.tup (a :: b :: l))) (.pv (.int 1)) h k = k b := by
  rw [k_ixt]
  have : atI (a :: b :: l) 1 = some b := by
    unfold atI L2.atI L2.ixN
    rw [if_pos (by omega), if_pos (by simp; omega)]
    rfl
  rw [this]; simp
theorem k_ixt2 {a b c l k} : kIx (.pv (.tup (a :: b :: c :: l))) (.pv (.int 2)) h k = k c := by
  rw [k_ixt]
  have : atI (a :: b :: c :: l) 2 = some c := by
    unfold atI L2.atI L2.ixN
    rw [if_pos (by omega), if_pos (by simp; omega)]
    rfl
  rw [this]; simp
theorem k_s1t {l i k} : kS1 (.pv (.tup l)) (.pv (.int i)) h k = k (.tup (cut l (some i) none)) := by unfold kS1; simp [val, wpSl]
theorem k_s1l {l i k} : kS1 (.pv (.lst l)) (.pv (.int i)) h k = k (.lst (cut l (some i) none)) := by unfold kS1; simp [val, wpSl]
theorem k_s1s {l i k} : kS1 (.pv (.scr l)) (.pv (.int i)) h k = k (.lst (cut l (some i) none)) := by unfold kS1; simp [val, wpSl]
theorem k_s2t {l i k} : kS2 (.pv (.tup l)) (.pv (.int i)) h k = k (.tup (cut l none (some i))) := by unfold kS2; simp [val, wpSl]
theorem k_s2l {l i k} : kS2 (.pv (.lst l)) (.pv (.int i)) h k = k (.lst (cut l none (some i))) := by unfold kS2; simp [val, wpSl]
theorem k_s3t {l i j k} : kS3 (.pv (.tup l)) i (.pv (.int j)) h k = k (.tup (cut l (some i) (some j))) := by unfold kS3; simp [val, wpSl]
theorem k_s3l {l i j k} : kS3 (.pv (.lst l)) i (.pv (.int j)) h k = k (.lst (cut l (some i) (some j))) := by unfold kS3; simp [val, wpSl]
theorem k_s3s {l i j k} : kS3 (.pv (.scr l)) i (.pv (.int j)) h k = k (.lst (cut l (some i) (some j))) := by unfold kS3; simp [val, wpSl]
theorem k_ps0 {k} : kPs [] k = k [] := by unfold kPs; simp
theorem k_psS {p vs k} : kPs (.pv p :: vs) k = kPs vs fun ps => k (p :: ps) := by
  unfold kPs
  apply propext
  constructor
  · rintro ⟨ps, e, z⟩
    cases ps with
    | nil => cases e
    | cons q qs => simp at e; obtain ⟨rfl, rfl⟩ := e; exact ⟨_, rfl, z⟩
  · rintro ⟨ps, rfl, z⟩
    exact ⟨p :: ps, rfl, z⟩
theorem k_pv {p k} : kPv (.pv p) k = k p := by unfold kPv; simp
theorem k_fr {i c k} (e : h[i]? = some (some c)) : kFr (.ref i) h k = k c (h.set i none) := by unfold kFr; simp [e]
theorem k_mad {i c l Q} (e : h[i]? = some (some c)) : kMad (.ref i) (.pv (.lst l)) h Q = (c.length + l.length ≤ sizeLine ∧ Q (.ref h.length) (h ++ [some (c ++ l)])) := by unfold kMad; simp [val, e]
theorem k_madp {l2 l Q} : kMad (.pv (.lst l2)) (.pv (.lst l)) h Q = (l2.length + l.length ≤ sizeLine ∧ Q (.ref h.length) (h ++ [some (l2 ++ l)])) := by unfold kMad; simp [val]
theorem k_mrpp {l n Q} : kMrp (.pv (.lst l)) (.pv (.int n)) h Q = (-(2 ^ 63) ≤ n ∧ n < 2 ^ 63 ∧ l.length * n.toNat ≤ sizeLine ∧ Q (.ref h.length) (h ++ [some (List.replicate n.toNat l).flatten])) := by unfold kMrp; simp [val]
theorem k_frT {c k} : kFr (.ref h.length) (h ++ [some c]) k = k c (h ++ [none]) := by rw [k_fr (c := c) (by simp)]; simp
theorem k_sql {l Q} : kSq (.pv (.lst l)) h Q = Q l (fun _ => True) h := rfl
theorem k_sqt {l Q} : kSq (.pv (.tup l)) h Q = Q l (fun _ => True) h := rfl
theorem k_sqs {l Q} : kSq (.pv (.scr l)) h Q = Q l (fun _ => True) h := rfl
theorem k_zipl {l r k} : kZip (.pv (.lst l)) (.pv (.lst r)) k = k (zipL l r) := rfl
theorem k_zipt {l r k} : kZip (.pv (.tup l)) (.pv (.tup r)) k = k (zipL l r) := rfl
theorem k_ap1 {i c k} (e : h[i]? = some (some c)) : kAp1 (.ref i) h k = k i := by unfold kAp1; simp [e]
theorem k_ap1T {c k} : kAp1 (.ref h.length) (h ++ [some c]) k = k h.length := k_ap1 (c := c) (by simp)
theorem k_ap2 {i c p k} (e : h[i]? = some (some c)) : kAp2 i (.pv p) h k = (c.length < sizeLine ∧ k (h.set i (some (c ++ [p])))) := by unfold kAp2; simp [e]
theorem k_ap2T {c p k} : kAp2 h.length (.pv p) (h ++ [some c]) k = (c.length < sizeLine ∧ k (h ++ [some (c ++ [p])])) := by rw [k_ap2 (c := c) (by simp)]; simp
theorem k_sub {i c n p j k} (e : h[i]? = some (some c)) (e2 : L2.ixN c.length n = some j) : kSub (.ref i) (.pv (.int n)) (.pv p) h k = k (h.set i (some (c.set j p))) := by
  unfold kSub
  apply propext
  constructor
  · rintro ⟨i', c', n', j', q, e3, e4, e5, e6, e7, z⟩
    cases e3; cases e5; cases e7
    rw [e] at e4; cases e4
    rw [e2] at e6; cases e6
    exact z
  · intro z
    exact ⟨i, c, n, j, p, rfl, e, rfl, e2, rfl, z⟩
theorem take_selfS {h : Hs} {i c} : (h.set i c).take h.length = h.set i c := List.take_of_length_le (by simp)
theorem take_topS {h : Hs} {i c d} : (h.set i c ++ [d]).take h.length = h.set i c := List.take_left' (by simp)
theorem fin_pv {n Q p} : fin n Q (.pv p) h = Q (.pv p) (h.take n) := rfl
theorem take_self {h : Hs} : h.take h.length = h := List.take_length
theorem take_top {h : Hs} {c : Option (List PV)} : (h ++ [c]).take h.length = h := List.take_left
end
/-! operations -/
section
variable {k : PV → Prop} {kb : Bool → Prop}
theorem o_addi {i j} : wpBin .Add (.int i) (.int j) k = k (.int (i + j)) := rfl
theorem o_addl {i j} : wpBin .Add (.lst i) (.lst j) k = (i.length + j.length ≤ sizeLine ∧ k (.lst (i ++ j))) := rfl
theorem o_addt {i j} : wpBin .Add (.tup i) (.tup j) k = (i.length + j.length ≤ sizeLine ∧ k (.tup (i ++ j))) := rfl
theorem o_adds {i j} : wpBin .Add (.str i) (.str j) k = (i.length + j.length ≤ sizeLine ∧ k (.str (i ++ j))) := rfl
theorem o_subi {i j} : wpBin .Sub (.int i) (.int j) k = k (.int (i - j)) := rfl
theorem o_muli {i j} : wpBin .Mult (.int i) (.int j) k = (L2.CMulW i j ∧ k (.int (i * j))) := rfl
theorem o_divi {i j} : wpBin .FloorDiv (.int i) (.int j) k = (L2.CDivW i j ∧ k (.int (i / j))) := rfl
theorem o_modi {i j} : wpBin .Mod (.int i) (.int j) k = (0 < j ∧ k (.int (i % j))) := rfl
theorem o_powi {i j} : wpBin .Pow (.int i) (.int j) k = (L2.CPow i j ∧ k (.int (i ^ j.toNat))) := rfl
theorem c_eqi {i j} : wpCmp .Eq (.int i) (.int j) kb = kb (decide (i = j)) := by
  show (True ∧ True ∧ kb (i == j)) = _
  rw [show (i == j) = decide (i = j) from rfl]
  simp
theorem c_nei {i j} : wpCmp .NotEq (.int i) (.int j) kb = kb (decide (i ≠ j)) := by
  show (True ∧ True ∧ kb (!(i == j))) = _
  rw [show (i == j) = decide (i = j) from rfl]
  simp
theorem c_lti {i j} : wpCmp .Lt (.int i) (.int j) kb = kb (decide (i < j)) := rfl
theorem c_lei {i j} : wpCmp .LtE (.int i) (.int j) kb = kb (decide (i ≤ j)) := rfl
theorem c_gti {i j} : wpCmp .Gt (.int i) (.int j) kb = kb (decide (j < i)) := rfl
theorem c_gei {i j} : wpCmp .GtE (.int i) (.int j) kb = kb (decide (j ≤ i)) := rfl
theorem c_isn {a} : wpCmp .Is a .non kb = kb (isNon a) := by cases a <;> rfl
theorem c_isnn {a} : wpCmp .IsNot a .non kb = kb (!isNon a) := by cases a <;> rfl
theorem isn_non : isNon .non = true := rfl
theorem isn_tup {l} : isNon (.tup l) = false := rfl
theorem isn_int {l} : isNon (.int l) = false := rfl
theorem isn_lst {l} : isNon (.lst l) = false := rfl
theorem isn_str {l} : isNon (.str l) = false := rfl
theorem f_lent {l} : wpBi .len [.tup l] k = k (.int l.length) := rfl
theorem f_lenl {l} : wpBi .len [.lst l] k = k (.int l.length) := rfl
theorem f_lens {l} : wpBi .len [.scr l] k = k (.int l.length) := rfl
theorem f_abs {i} : wpBi .abs [.int i] k = k (.int (if i < 0 then -i else i)) := rfl
theorem f_max {i j} : wpBi .max [.int i, .int j] k = k (.int (if j > i then j else i)) := rfl
theorem f_int {i} : wpBi .int [.int i] k = k (.int i) := rfl
theorem f_intb {b} : wpBi .int [.bl b] k = k (.int (if b then 1 else 0)) := rfl
theorem f_tupl {l} : wpBi .tuple [.lst l] k = k (.tup l) := rfl
theorem f_tupt {l} : wpBi .tuple [.tup l] k = k (.tup l) := rfl
theorem f_lstl {l} : wpBi .list [.lst l] k = k (.lst l) := rfl
theorem f_lstt {l} : wpBi .list [.tup l] k = k (.lst l) := rfl
theorem f_all {α} {f : α → Bool} {l : List α} : wpBi .all [.lst (l.map fun x => .bl (f x))] k = k (.bl (l.all f)) := by
  have : ∀ l : List α, bools (l.map fun x => PV.bl (f x)) = some (l.map f) := fun l => by
    induction l with
    | nil => rfl
    | cons a l ih => simp [bools, ih]
  show (∃ bs, bools _ = some bs ∧ k (.bl (bs.all id))) = _
  rw [this]
  simp [List.all_map]
theorem f_any {α} {f : α → Bool} {l : List α} : wpBi .any [.lst (l.map fun x => .bl (f x))] k = k (.bl (l.any f)) := by
  have : ∀ l : List α, bools (l.map fun x => PV.bl (f x)) = some (l.map f) := fun l => by
    induction l with
    | nil => rfl
    | cons a l ih => simp [bools, ih]
  show (∃ bs, bools _ = some bs ∧ k (.bl (bs.any id))) = _
  rw [this]
  simp [List.any_map]
end
/-! targets -/
section
variable {x : PV} {ρ : Env} {k : Env → Prop}
theorem t_nm {i} : bindT (.nm i) x ρ k = kSet ρ i (some (.pv x)) k := rfl
theorem t_tup {a r y ys} : bindT (.cons a r) (.tup (y :: ys)) ρ k = bindT a y ρ fun ρ' => bindL r ys ρ' k := by
  show (∃ y' ys', PV.tup (y :: ys) = .tup (y' :: ys') ∧ _) = _
  apply propext
  constructor
  · rintro ⟨_, _, e, z⟩; cases e; exact z
  · intro z; exact ⟨_, _, rfl, z⟩
theorem t_lnil : bindL .nil [] ρ k = k ρ := by show (([] : List PV) = [] ∧ k ρ) = _; simp
theorem t_lcons {a r y ys} : bindL (.cons a r) (y :: ys) ρ k = bindT a y ρ fun ρ' => bindL r ys ρ' k := by
  show (∃ y' ys', y :: ys = y' :: ys' ∧ _) = _
  apply propext
  constructor
  · rintro ⟨_, _, e, z⟩; cases e; exact z
  · intro z; exact ⟨_, _, rfl, z⟩
end
/-! ### calls -/
theorem wpC_in {P : Pg} {d f : Nat} {df : Df} {vs : List RV} {h : Hs} {Q : QV} {X : QX} (e : P.defs[f]? = some df) (n : vs.length = df.npar)
    (b : wpSL P (wpC P d) df.body (vs.map some ++ List.replicate (df.N.length - vs.length) none) h (fun _ h' => fin h.length Q (.pv .non) h') (fin h.length Q) (fun x h' => X x (h'.take h.length))) : wpC P (d + 1) f vs h Q X := ⟨df, e, n, b⟩
/-- a call that gives r and leaves the cells -/
def Ret (P : Pg) (k f : Nat) (args : List PV) (r : PV) : Prop := ∀ d, k ≤ d → ∀ (h : Hs) (Q : QV) (X : QX), Q (.pv r) h → wpC P d f (args.map .pv) h Q X
theorem Ret.in {P : Pg} {k f : Nat} {df : Df} {args : List PV} {r : PV} (e : P.defs[f]? = some df) (n : args.length = df.npar)
    (b : ∀ d, k ≤ d → ∀ (h : Hs) (Q : QV) (X : QX), Q (.pv r) h → wpSL P (wpC P d) df.body ((args.map .pv).map some ++ List.replicate (df.N.length - (args.map RV.pv).length) none) h (fun _ h' => fin h.length Q (.pv .non) h') (fin h.length Q) (fun x h' => X x (h'.take h.length))) : Ret P (k + 1) f args r := fun d hd h Q X z => by
  obtain ⟨d, rfl⟩ : ∃ d', d = d' + 1 := ⟨d - 1, by omega⟩
  exact wpC_in e (by simpa using n) (b d (by omega) h Q X z)
theorem Ret.up {P : Pg} {k k' f : Nat} {args : List PV} {r : PV} (q : Ret P k f args r) (l : k ≤ k') : Ret P k' f args r := fun d hd => q d (Nat.le_trans l hd)
/-! ### loops -/
theorem compT_map {α : Type} {gd : Hs → Prop} {step : PV → Hs → (List PV → Hs → Prop) → Prop} {h : Hs} (enc : α → PV) (f : α → List PV) (g : gd h) :
    ∀ (l : List α) {Q : List PV → Hs → Prop}, (∀ a ∈ l, ∀ k : List PV → Hs → Prop, k (f a) h → step (enc a) h k) → Q (l.flatMap f) h → compT gd step (l.map enc) h Q
  | [], _, _, q => ⟨g, q⟩
  | x :: r, Q, hs, q => ⟨g, hs x (.head _) _ (compT_map enc f g r (fun a ha => hs a (.tail _ ha)) (by simpa using q))⟩
theorem compT_map1 {α : Type} {gd : Hs → Prop} {step : PV → Hs → (List PV → Hs → Prop) → Prop} {h : Hs} (enc : α → PV) (f : α → PV) (g : gd h)
    (l : List α) {Q : List PV → Hs → Prop} (hs : ∀ a ∈ l, ∀ k : List PV → Hs → Prop, k [f a] h → step (enc a) h k) (q : Q (l.map f) h) : compT gd step (l.map enc) h Q :=
  compT_map enc (fun a => [f a]) g l hs (by rw [← List.map_eq_flatMap]; exact q)
end G43
set_option Elab.async false
set_option linter.all false
set_option maxRecDepth 100000
set_option maxHeartbeats 4000000
namespace G43
open PySem
/-! ### parts -/
/-- a part: top and bottom -/
def pt (q : Rat) : PV := .tup [.int q.num, .int q.den]
theorem Sz.up {a b : Nat} {q : Rat} (s : Sz a q) (l : a ≤ b) : Sz b q := ⟨Nat.lt_of_lt_of_le s.1 (Nat.pow_le_pow_right (by decide) l), Nat.lt_of_lt_of_le s.2 (Nat.pow_le_pow_right (by decide) l)⟩
theorem Sz.mul {a b : Nat} {p q : Rat} (s : Sz a p) (t : Sz b q) (h : 1 ≤ a + b) : Sz (a + b) (p * q) := by
  rw [Rat.mul_def']
  refine sz_mk ?_ ?_ h
  · rw [Int.natAbs_mul, Nat.pow_add]
    exact Nat.mul_lt_mul'' s.1 t.1
  · rw [Nat.pow_add]
    exact Nat.mul_lt_mul'' s.2 t.2
theorem Sz.pos {a : Nat} {p : Rat} (s : Sz a p) : 1 ≤ a := by
  rcases Nat.eq_zero_or_pos a with rfl | h
  · have := s.2
    have := p.den_pos
    simp at *
    omega
  · exact h
theorem sz_divInt {b : Nat} {n d : Int} (hn : n.natAbs < 2 ^ b) (hd : d.natAbs < 2 ^ b) (h1 : 1 ≤ b) : Sz b (Rat.divInt n d) := by
  have h2 : 1 < 2 ^ b := Nat.one_lt_pow (by omega) (by decide)
  refine ⟨?_, ?_⟩
  · rw [Rat.num_divInt]
    refine Nat.lt_of_le_of_lt (natAbs_div_le _ _) ?_
    rw [Int.natAbs_mul]
    have : d.sign.natAbs ≤ 1 := by
      rw [Int.natAbs_sign]
      split <;> omega
    have := Nat.mul_le_mul_right n.natAbs this
    omega
  · rw [Rat.den_divInt]
    split
    · exact h2
    · exact Nat.lt_of_le_of_lt (Nat.div_le_self _ _) hd
theorem log2_le {n b : Nat} (h : n < 2 ^ b) : n.log2 ≤ b := by
  by_cases z : n = 0
  · subst z; simp
  · exact Nat.le_of_lt ((Nat.log2_lt z).mpr h)
theorem mulW {a b : Nat} {i j : Int} (h1 : i.natAbs < 2 ^ a) (h2 : j.natAbs < 2 ^ b) (h : a + b < 1000000) : L2.CMulW i j := by
  have := log2_le h1
  have := log2_le h2
  unfold L2.CMulW
  omega
theorem divW {i j : Int} {a : Nat} (h1 : 0 < j) (h2 : j.natAbs < 2 ^ a) (ha : a ≤ 9000) : L2.CDivW i j := by
  refine ⟨h1, ?_⟩
  exact (Nat.log2_lt (by omega)).mpr (Nat.lt_of_lt_of_le h2 (Nat.pow_le_pow_right (by decide) ha))
theorem den_nat (q : Rat) : ((q.den : Int)).natAbs = q.den := Int.natAbs_natCast _
theorem Sz.nn {a b : Nat} {p q : Rat} (s : Sz a p) (t : Sz b q) (h : a + b < 1000000) : L2.CMulW p.num q.num := mulW s.1 t.1 h
theorem Sz.nd {a b : Nat} {p q : Rat} (s : Sz a p) (t : Sz b q) (h : a + b < 1000000) : L2.CMulW p.num q.den := mulW s.1 (b := b) (by rw [den_nat]; exact t.2) h
theorem Sz.dd {a b : Nat} {p q : Rat} (s : Sz a p) (t : Sz b q) (h : a + b < 1000000) : L2.CMulW p.den q.den := mulW (a := a) (b := b) (by rw [den_nat]; exact s.2) (by rw [den_nat]; exact t.2) h
/-! sums as the program makes them -/
theorem divInt_cast (n : Int) (d : Nat) : Rat.divInt n (d : Int) = mkRat n d := Rat.divInt_ofNat n d
theorem add_made (p q : Rat) : Rat.divInt (p.num * q.den + q.num * p.den) (p.den * q.den) = p + q := by
  rw [← Int.natCast_mul, divInt_cast, Rat.add_def']
theorem sub_made (p q : Rat) : Rat.divInt (p.num * q.den - q.num * p.den) (p.den * q.den) = p - q := by
  rw [← Int.natCast_mul, divInt_cast, Rat.sub_def']
theorem mul_made (p q : Rat) : Rat.divInt (p.num * q.num) (p.den * q.den) = p * q := by
  rw [← Int.natCast_mul, divInt_cast, Rat.mul_def']
theorem lt_made (p q : Rat) : decide (p.num * q.den < q.num * p.den) = decide (p < q) := decide_eq_decide.mpr (Rat.lt_iff p q).symm
theorem den_pos' (q : Rat) : (0 : Int) < q.den := by have := q.den_pos; omega
/-- lowest terms -/
theorem low_pos {n d : Int} (h : 0 < d) : PV.tup [.int (n / (Int.gcd n d : Int)), .int (d / (Int.gcd n d : Int))] = pt (Rat.divInt n d) := by
  unfold pt
  rw [Rat.num_divInt, Rat.den_divInt, if_neg (by omega), Int.gcd_comm d n, Int.sign_eq_one_of_pos h, Int.one_mul]
  congr 4
  rw [Int.natCast_ediv, Int.natAbs_of_nonneg (by omega)]
theorem gcd_pos {n d : Int} (h : 0 < d) : (0 : Int) < (Int.gcd n d : Int) := by
  have : 0 < Int.gcd n d := Int.gcd_pos_of_ne_zero_right _ (by omega)
  omega
theorem gcd_lt {n d : Int} {b : Nat} (h : 0 < d) (hb : d.natAbs < 2 ^ b) : ((Int.gcd n d : Int)).natAbs < 2 ^ b := by
  rw [Int.natAbs_natCast]
  exact Nat.lt_of_le_of_lt (Int.gcd_le_natAbs_right _ (by omega)) hb
theorem gcd_step (a b : Int) (h : 0 ≤ a) (hb : 0 ≤ b) : Int.gcd (b % a) a = Int.gcd a b := by
  unfold Int.gcd
  obtain ⟨b, rfl⟩ := Int.eq_ofNat_of_zero_le hb
  obtain ⟨a, rfl⟩ := Int.eq_ofNat_of_zero_le h
  rw [← Int.natCast_emod]
  simp only [Int.natAbs_natCast]
  rw [Nat.gcd_rec a b]
theorem pt_inj {p q : Rat} : peq (pt p) (pt q) = decide (p = q) := by
  unfold pt
  simp only [peq, peqL, Bool.and_true]
  rw [show (p.num == q.num) = decide (p.num = q.num) from rfl, show ((p.den : Int) == (q.den : Int)) = decide ((p.den : Int) = (q.den : Int)) from rfl, ← Bool.decide_and]
  apply decide_eq_decide.mpr
  constructor
  · rintro ⟨a, b⟩; exact Rat.ext a (by omega)
  · rintro rfl; exact ⟨rfl, rfl⟩
theorem dt_pt {n : Nat} (p : Rat) : Dt (n + 1) (pt p) := by
  intro x hx
  simp at hx
  rcases hx with rfl | rfl <;> cases n <;> trivial
section
variable {h : Hs} {k : PV → Prop} {kb : Bool → Prop}
theorem p_ix0 {q : Rat} : kIx (.pv (pt q)) (.pv (.int 0)) h k = k (.int q.num) := k_ixt0
theorem p_ix1 {q : Rat} : kIx (.pv (pt q)) (.pv (.int 1)) h k = k (.int q.den) := k_ixt1
theorem p_len {q : Rat} : wpBi .len [pt q] k = k (.int 2) := rfl
theorem p_is {q : Rat} : kIs (.pv (pt q)) .tuple h kb = kb true := is_tup
theorem p_isn {q : Rat} : isNon (pt q) = false := rfl
theorem p_eq {p q : Rat} : wpCmp .Eq (pt p) (pt q) kb = kb (decide (p = q)) := by
  show (Dt 60 _ ∧ Dt 60 _ ∧ kb (peq (pt p) (pt q))) = _
  rw [pt_inj]
  simp [dt_pt]
theorem p_ne {p q : Rat} : wpCmp .NotEq (pt p) (pt q) kb = kb (!decide (p = q)) := by
  show (Dt 60 _ ∧ Dt 60 _ ∧ kb (!peq (pt p) (pt q))) = _
  rw [pt_inj]
  simp [dt_pt]
theorem p_01 : PV.tup [.int 0, .int 1] = pt 0 := rfl
end
end G43
set_option Elab.async false
set_option linter.all false
set_option maxRecDepth 100000
set_option maxHeartbeats 4000000
namespace G43
open PySem
/-! ### pens -/
theorem PenH.new {h : Hs} {p : Pen} : PenH h.length (h ++ [some (penL p)]) := ⟨p, by simp⟩
theorem set_app {i : Nat} {h t : Hs} {c} (P : i < h.length) : (h ++ t).set i c = h.set i c ++ t := by
  rw [List.set_append_left _ _ P]
theorem set_appS {i : Nat} {h t : Hs} {b c} (P : i < h.length) : (h.set i b ++ t).set i c = h.set i c ++ t := by
  rw [List.set_append_left _ _ (by simpa using P), List.set_set]
theorem PenH.setapp {i : Nat} {h t : Hs} (P : PenH i h) (p : Pen) : PenH i (h.set i (some (penL p)) ++ t) := (P.set p).app t
/-- a pick of a written list -/
theorem pickL {l : List PV} {v : Int} {h : Hs} {k : PV → Prop} (h0 : 0 ≤ v) (h1 : v < l.length) (z : ∀ x ∈ l, k x) : kIx (.pv (.lst l)) (.pv (.int v)) h k := by
  rw [k_ixl]
  obtain ⟨n, rfl⟩ := Int.eq_ofNat_of_zero_le h0
  have h2 : n < l.length := by omega
  refine ⟨l[n], ?_, z _ (List.getElem_mem h2)⟩
  unfold atI L2.atI L2.ixN
  rw [if_pos h0, if_pos (by omega)]
  simp [h2]
/-- folds -/
theorem loopT_fold {α σ : Type} {gd : Hs → Prop} {step : PV → Env → Hs → (Env → Hs → Prop) → Prop} {nx : Env → Hs → Prop} {h : Hs} (enc : α → PV) (st : σ → Env) (f : σ → α → σ) (g : gd h) (l : List α) (s0 : σ)
    (hs : ∀ pre a post, l = pre ++ a :: post → ∀ k : Env → Hs → Prop, k (st (f (pre.foldl f s0) a)) h → step (enc a) (st (pre.foldl f s0)) h k) (e : nx (st (l.foldl f s0)) h) : loopT gd step (l.map enc) (st s0) h nx := by
  have main : ∀ (post pre : List α), l = pre ++ post → loopT gd step (post.map enc) (st (pre.foldl f s0)) h nx := by
    intro post
    induction post with
    | nil =>
      intro pre hp
      rw [List.append_nil] at hp
      subst hp
      exact ⟨g, e⟩
    | cons a post ih =>
      intro pre hp
      refine ⟨g, hs pre a post hp _ ?_⟩
      have := ih (pre ++ [a]) (by rw [hp]; simp)
      rw [List.foldl_append] at this
      exact this
  exact main l [] rfl
/-- a loop where every turn goes on, whatever is drawn -/
theorem loopT_any {gd : Hs → Prop} {step : PV → Env → Hs → (Env → Hs → Prop) → Prop} {nx : Env → Hs → Prop} (I : Nat → Env → Hs → Prop) (g : ∀ n ρ h, I n ρ h → gd h)
    (l : List PV) (hs : ∀ n x ρ h (k : Env → Hs → Prop), l[n]? = some x → I n ρ h → (∀ ρ' h', I (n + 1) ρ' h' → k ρ' h') → step x ρ h k) (e : ∀ ρ h, I l.length ρ h → nx ρ h) {ρ : Env} {h : Hs} (i : I 0 ρ h) : loopT gd step l ρ h nx := by
  have main : ∀ (post : List PV) (n : Nat) ρ h, (∀ j, l[n + j]? = post[j]?) → I n ρ h → n + post.length = l.length → loopT gd step post ρ h nx := by
    intro post
    induction post with
    | nil =>
      intro n ρ h hj i hl
      refine ⟨g _ _ _ i, e _ _ ?_⟩
      rw [← hl]
      exact i
    | cons a post ih =>
      intro n ρ h hj i hl
      refine ⟨g _ _ _ i, hs n a ρ h _ (by have := hj 0; simpa using this) i fun ρ' h' i' => ih (n + 1) ρ' h' (fun j => ?_) i' (by simp at hl; omega)⟩
      have := hj (j + 1)
      simp at this
      rw [← this]
      congr 1
      omega
  exact main l 0 ρ h (fun j => by simp) i (by simp)
theorem compT_any {gd : Hs → Prop} {step : PV → Hs → (List PV → Hs → Prop) → Prop} (I : Nat → List PV → Hs → Prop) (g : ∀ n r h, I n r h → gd h) (l : List PV)
    (hs : ∀ n x r h (k : List PV → Hs → Prop), l[n]? = some x → I n r h → (∀ y h', I (n + 1) (r ++ y) h' → k y h') → step x h k) {Q : List PV → Hs → Prop} {h : Hs} (i : I 0 [] h) (e : ∀ r h, I l.length r h → Q r h) : compT gd step l h Q := by
  have main : ∀ (post : List PV) (n : Nat) (r : List PV) (h : Hs) (Q' : List PV → Hs → Prop), (∀ j, l[n + j]? = post[j]?) → I n r h → n + post.length = l.length → (∀ y h', I l.length (r ++ y) h' → Q' y h') → compT gd step post h Q' := by
    intro post
    induction post with
    | nil =>
      intro n r h Q' hj i hl q
      refine ⟨g _ _ _ i, q _ _ ?_⟩
      rw [← hl, List.append_nil]
      exact i
    | cons a post ih =>
      intro n r h Q' hj i hl q
      refine ⟨g _ _ _ i, hs n a r h _ (by have := hj 0; simpa using this) i fun y h' i' => ih (n + 1) (r ++ y) h' _ (fun j => ?_) i' (by simp at hl; omega) fun y' h'' i'' => q _ _ (by rw [← List.append_assoc]; exact i'')⟩
      have := hj (j + 1)
      simp at this
      rw [← this]
      congr 1
      omega
  exact main l 0 [] h Q (fun j => by simp) i (by simp) (fun y h' z => e _ _ (by simpa using z))
theorem sz0 : Sz 1 (0 : Rat) := ⟨by decide, by decide⟩
end G43
namespace G43
open PySem
section
variable {h : Hs} {i : Nat} {x : Option (List PV)}
theorem k_ap1S {c k} : kAp1 (.ref h.length) (h.set i x ++ [some c]) k = k h.length := k_ap1 (c := c) (by simp)
theorem k_ap2S {c p k} : kAp2 h.length (.pv p) (h.set i x ++ [some c]) k = (c.length < sizeLine ∧ k (h.set i x ++ [some (c ++ [p])])) := by
  rw [k_ap2 (c := c) (by simp), List.set_append_right _ _ (by simp)]
  simp
theorem k_frS {c k} : kFr (.ref h.length) (h.set i x ++ [some c]) k = k c (h.set i x ++ [none]) := by
  rw [k_fr (c := c) (by simp), List.set_append_right _ _ (by simp)]
  simp
theorem k_birT {b c k} : kBi b [.ref h.length] (h ++ [some c]) k = wpBi b [.lst c] k := k_bir (by simp)
theorem k_birS {b c k} : kBi b [.ref h.length] (h.set i x ++ [some c]) k = wpBi b [.lst c] k := k_bir (by simp)
theorem length_setH : (h.set i x).length = h.length := by simp
theorem set_setH {y} : (h.set i x).set i y = h.set i y := List.set_set ..
end
/-- a call that draws: its value is of G, the pen at place i another one -/
def Dr {α : Type} (P : Pg) (k f : Nat) (args : List RV) (i : Nat) (enc : α → PV) (G : α → Prop) : Prop :=
  ∀ d, k ≤ d → ∀ (h : Hs), PenH i h → ∀ (Q : QV) (X : QX), (∀ a p, G a → Q (.pv (enc a)) (h.set i (some (penL p)))) → wpC P d f args h Q X
theorem natAbs_lt {n : Int} {b : Nat} (h0 : 0 ≤ n) (h : n < 2 ^ b) : n.natAbs < 2 ^ b := by
  have : ((n.natAbs : Nat) : Int) < ((2 ^ b : Nat) : Int) := by rw [Int.natAbs_of_nonneg h0]; simpa using h
  omega
end G43
namespace G43
theorem x_mapnil {α β : Type} {f : α → β} : List.map f [] = [] := List.map_nil
theorem x_mapcons {α β : Type} {f : α → β} {a : α} {l : List α} : List.map f (a :: l) = f a :: List.map f l := List.map_cons
theorem x_appnil {α : Type} {l : List α} : l ++ [] = l := List.append_nil l
theorem x_consapp {α : Type} {a : α} {l m : List α} : (a :: l) ++ m = a :: (l ++ m) := rfl
theorem x_nilapp {α : Type} {l : List α} : [] ++ l = l := rfl
theorem x_lennil {α : Type} : ([] : List α).length = 0 := rfl
theorem x_lencons {α : Type} {a : α} {l : List α} : (a :: l).length = l.length + 1 := rfl
theorem x_decT {p : Prop} [Decidable p] : (decide p = true) = p := decide_eq_true_eq
theorem x_notT {b : Bool} : ((!b) = true) = (b = false) := by simp
theorem x_decF {p : Prop} [Decidable p] : (decide p = false) = ¬ p := by simp
theorem x_nt : (!true) = false := rfl
theorem x_nf : (!false) = true := rfl
theorem x_ft : (false = true) = False := by simp
theorem x_tt : (true = true) = True := by simp
theorem x_ff : (false = false) = True := by simp
theorem x_tf : (true = false) = False := by simp
theorem x_iteT {α : Sort _} {a b : α} : (if True then a else b) = a := by simp
theorem x_iteF {α : Sort _} {a b : α} : (if False then a else b) = b := by simp
theorem x_iteN {α : Sort _} {p : Prop} [Decidable p] {a b : α} : (if ¬ p then a else b) = (if p then b else a) := by by_cases h : p <;> simp [h]
theorem x_ta {p : Prop} : (True ∧ p) = p := by simp
theorem x_at {p : Prop} : (p ∧ True) = p := by simp
end G43
namespace G43
theorem Sz.mulp {a b : Nat} {p q : Rat} (s : Sz a p) (t : Sz b q) : Sz (a + b) (p * q) := s.mul t (by have := s.pos; omega)
end G43
set_option Elab.async false
set_option linter.all false
set_option maxRecDepth 100000
set_option maxHeartbeats 4000000
namespace G43
open PySem
/-! ### clocks -/
def encS (a : Rat × Rat) : PV := .tup [pt a.1, pt a.2]
def ck (g : Rat) (s : List (Rat × Rat)) : PV := .tup [pt g, .tup (s.map encS)]
structure OkC (b : Nat) (g : Rat) (s : List (Rat × Rat)) : Prop where
  g1 : -12 ≤ g
  g2 : g ≤ 12
  l : s.length ≤ 6
  p : ∀ x ∈ s, 0 ≤ x.1 ∧ x.2 ≠ 0
  o : s.Pairwise (fun a b => a.1 < b.1)
  z : ∀ x ∈ s, Sz b x.1 ∧ Sz b x.2
  zg : Sz b g
theorem sz_fold {α : Type} {b : Nat} {f : Rat → α → Rat} : ∀ (s : List α) (hf : ∀ a c, ∀ x ∈ s, Sz c a → Sz (c + (b + 1)) (f a x)) {c : Nat} {a : Rat}, Sz c a → Sz (c + s.length * (b + 1)) (s.foldl f a)
  | [], _, _, _, z => by simpa using z
  | x :: s, hf, c, a, z => by
    have := sz_fold s (fun a c y hy => hf a c y (by simp [hy])) (hf a c x (by simp) z)
    rw [List.foldl_cons]
    refine this.up ?_
    rw [List.length_cons, Nat.succ_mul]
    omega
theorem sz_foldn {α : Type} {b : Nat} {f : Rat → α → Rat} (n : Nat) (s : List α) (l : s.length ≤ n) (hf : ∀ a c, ∀ x ∈ s, Sz c a → Sz (c + (b + 1)) (f a x)) {c : Nat} {a : Rat} (z : Sz c a) : Sz (c + n * (b + 1)) (s.foldl f a) :=
  (sz_fold s hf z).up (by have := Nat.mul_le_mul_right (b + 1) l; omega)
/-- the jumps till a moment -/
def jf (m : Rat) (a : Rat) (x : Rat × Rat) : Rat := if m < x.1 then a else a + x.2
def jt (s : List (Rat × Rat)) (m : Rat) : Rat := s.foldl (jf m) 0
theorem jf_sz {b c : Nat} {m a : Rat} {x : Rat × Rat} (z : Sz b x.2) (s : Sz c a) : Sz (c + (b + 1)) (jf m a x) := by
  unfold jf
  split
  · exact s.up (by omega)
  · exact (s.add z).up (by omega)
theorem sz_jt {b n : Nat} {s : List (Rat × Rat)} {m : Rat} (z : ∀ x ∈ s, Sz b x.1 ∧ Sz b x.2) (l : s.length ≤ n) : Sz (1 + n * (b + 1)) (jt s m) :=
  sz_foldn n s l (fun a c x hx y => jf_sz (z x hx).2 y) sz0
def drf (g : Rat) (s : List (Rat × Rat)) (m : Rat) : Rat := m * g + jt s m
def shw (g : Rat) (s : List (Rat × Rat)) (m e : Rat) : Rat := 24 * m + e + drf g s m
/-- stretches -/
def enO : Option Rat → PV
  | none => .non
  | some q => pt q
def enSt (x : Rat × Option Rat × Rat) : PV := .tup [pt x.1, enO x.2.1, pt x.2.2]
def stf (a : Rat × Rat × List (Rat × Option Rat × Rat)) (x : Rat × Rat) : Rat × Rat × List (Rat × Option Rat × Rat) := (x.1, a.2.1 + x.2, a.2.2 ++ [(a.1, some x.1, a.2.1)])
def stAll (s : List (Rat × Rat)) : Rat × Rat × List (Rat × Option Rat × Rat) := s.foldl stf (0, 0, [])
def sts (s : List (Rat × Rat)) : List (Rat × Option Rat × Rat) := (stAll s).2.2 ++ [((stAll s).1, none, (stAll s).2.1)]
def momOf (g hour own : Rat) (x : Rat × Option Rat × Rat) : Rat := (hour - (own + x.2.2)) / (24 + g)
def momIn (g hour own : Rat) (x : Rat × Option Rat × Rat) : Bool := !decide (momOf g hour own x < x.1) && (match x.2.1 with | none => true | some e => decide (momOf g hour own x < e))
def moms (g : Rat) (s : List (Rat × Rat)) (hour own : Rat) : List Rat := (sts s).foldl (fun l x => if momIn g hour own x = true then l ++ [momOf g hour own x] else l) []
/-- changes -/
def chf (g e : Rat) (a : Rat × List (Rat × Rat)) (x : Rat × Rat) : Rat × List (Rat × Rat) := (a.1 + x.2, a.2 ++ [((24 + g) * x.1 + e + a.1, (24 + g) * x.1 + e + a.1 + x.2)])
def chs (g e : Rat) (s : List (Rat × Rat)) : List (Rat × Rat) := (s.foldl (chf g e) (0, [])).2
def tbk (g : Rat) (s : List (Rat × Rat)) (e : Rat) : List (Rat × Rat) := ((chs g e s).filter fun x => decide (x.2 < x.1)).map fun x => (x.2, x.1)
def skp (g : Rat) (s : List (Rat × Rat)) (e : Rat) : List (Rat × Rat) := (chs g e s).filter fun x => decide (x.1 < x.2)
theorem cut1 (l : List PV) : cut l (some 1) none = l.tail := by
  unfold cut HT.sIx
  cases l with
  | nil => rfl
  | cons a l =>
    have : min (1 : Int).toNat (a :: l).length = 1 := by simp
    simp only [show ¬ ((1 : Int) < 0) by decide, if_false, this, List.length_cons, Nat.add_sub_cancel]
    simp
theorem zip_map {α : Type} (f : α → PV) (a b : List α) : zipL (a.map f) (b.map f) = (a.zip b).map fun p => PV.tup [f p.1, f p.2] := by
  unfold zipL
  rw [List.zip_map, List.map_map]
  rfl
theorem zip_tail {s : List (Rat × Rat)} (o : s.Pairwise (fun a b => a.1 < b.1)) : ∀ p ∈ s.zip s.tail, p.1.1 < p.2.1 := by
  induction s with
  | nil => simp
  | cons a s ih =>
    cases s with
    | nil => simp
    | cons b s =>
      intro p hp
      rw [List.tail_cons, List.zip_cons_cons] at hp
      rcases List.mem_cons.mp hp with rfl | hp
      · exact (List.pairwise_cons.mp o).1 b (by simp)
      · exact ih (List.pairwise_cons.mp o).2 p hp
theorem zip_mem {α : Type} {s t : List α} {p : α × α} (h : p ∈ s.zip t) : p.1 ∈ s ∧ p.2 ∈ t := ⟨(List.of_mem_zip h).1, (List.of_mem_zip h).2⟩
end G43
namespace G43
open PySem
/-! ### stretches: sizes -/
def okSt (b : Nat) (y : Rat × Option Rat × Rat) : Prop := Sz b y.1 ∧ (∀ e, y.2.1 = some e → Sz b e) ∧ Sz (7 * b + 7) y.2.2
/-! ### changes: sizes -/
end G43
namespace G43
end G43
namespace G43
open PySem
section
variable {h : Hs} {i : Nat} {a b c : Int} {k : PV → Prop}
theorem pn_ix0 (e : h[i]? = some (some [.int a, .int b, .int c])) : kIx (.ref i) (.pv (.int 0)) h k = k (.int a) := by
  rw [k_ixr e]
  simp [atI, L2.atI, L2.ixN]
theorem pn_ix1 (e : h[i]? = some (some [.int a, .int b, .int c])) : kIx (.ref i) (.pv (.int 1)) h k = k (.int b) := by
  rw [k_ixr e]
  have : atI [PV.int a, .int b, .int c] 1 = some (.int b) := by
    unfold atI L2.atI L2.ixN
    rw [if_pos (by omega), if_pos (by simp)]
    rfl
  rw [this]; simp
theorem pn_ix2 (e : h[i]? = some (some [.int a, .int b, .int c])) : kIx (.ref i) (.pv (.int 2)) h k = k (.int c) := by
  rw [k_ixr e]
  have : atI [PV.int a, .int b, .int c] 2 = some (.int c) := by
    unfold atI L2.atI L2.ixN
    rw [if_pos (by omega), if_pos (by simp)]
    rfl
  rw [this]; simp
variable {kh : Hs → Prop} {v : PV}
theorem pn_sub0 (e : h[i]? = some (some [.int a, .int b, .int c])) : kSub (.ref i) (.pv (.int 0)) (.pv v) h kh = kh (h.set i (some [v, .int b, .int c])) := by
  rw [k_sub (j := 0) e (by unfold L2.ixN; rw [if_pos (by omega), if_pos (by simp)]; rfl)]
  rfl
theorem pn_sub2 (e : h[i]? = some (some [.int a, .int b, .int c])) : kSub (.ref i) (.pv (.int 2)) (.pv v) h kh = kh (h.set i (some [.int a, .int b, v])) := by
  rw [k_sub (j := 2) e (by unfold L2.ixN; rw [if_pos (by omega), if_pos (by simp)]; rfl)]
  rfl
end
end G43
namespace G43
theorem fin_new {h : Hs} {Q : QV} {c : List PV} : fin h.length Q (.ref h.length) (h ++ [some c]) = Q (.ref h.length) (h ++ [some c]) := by
  unfold fin
  simp
end G43
namespace G43
open PySem
/-- a pick of ints -/
theorem pickN {l : List PV} {v : Int} {h : Hs} {k : PV → Prop} (G : Int → Prop) (h0 : 0 ≤ v) (h1 : v < l.length) (hl : ∀ x ∈ l, ∃ n, x = .int n ∧ G n) (z : ∀ n, G n → k (.int n)) : kIx (.pv (.lst l)) (.pv (.int v)) h k := by
  refine pickL h0 h1 fun x hx => ?_
  obtain ⟨n, rfl, g⟩ := hl x hx
  exact z n g
/-- a pick of parts -/
theorem pickQ {l : List PV} {v : Int} {h : Hs} {k : PV → Prop} (G : Rat → Prop) (h0 : 0 ≤ v) (h1 : v < l.length) (hl : ∀ x ∈ l, ∃ n, x = pt n ∧ G n) (z : ∀ n, G n → k (pt n)) : kIx (.pv (.lst l)) (.pv (.int v)) h k := by
  refine pickL h0 h1 fun x hx => ?_
  obtain ⟨n, rfl, g⟩ := hl x hx
  exact z n g
/-- a written list's items, one by one -/
theorem all1 {α : Type} {G : α → Prop} : ∀ x ∈ ([] : List α), G x := by simp
theorem allC {α : Type} {G : α → Prop} {a : α} {l : List α} (h : G a) (hl : ∀ x ∈ l, G x) : ∀ x ∈ a :: l, G x := by
  intro x hx
  rcases List.mem_cons.mp hx with rfl | hx
  · exact h
  · exact hl x hx
theorem pt_neg (q : Rat) : PV.tup [.int (0 - q.num), .int q.den] = pt (-q) := by
  unfold pt
  rw [Rat.neg_num, Rat.neg_den, Int.zero_sub]
theorem divInt_nonneg {n d : Int} (hn : 0 ≤ n) (hd : 0 < d) : 0 ≤ Rat.divInt n d := by
  rw [Rat.divInt_nonneg_iff_of_pos_right hd]
  exact hn
end G43
namespace G43
open PySem
theorem rng_get {lo : Int} {m n : Nat} {x : PV} (e : (rngL lo m)[n]? = some x) : x = .int (lo + n) ∧ n < m := by
  have h : n < m := by
    have := (List.getElem?_eq_some_iff.mp e).1
    simpa [rngL] using this
  unfold rngL at e
  rw [List.getElem?_map, List.getElem?_range h] at e
  simp at e
  exact ⟨e.symm, h⟩
theorem rngL_len {lo : Int} {m : Nat} : (rngL lo m).length = m := by simp [rngL]
theorem DrS.ok {b : Nat} {g : Rat} {s : List (Rat × Rat)} (d : DrS b 6 s) (g1 : -12 ≤ g) (g2 : g ≤ 12) (zg : Sz b g) : OkC b g s := ⟨g1, g2, d.l, d.p, d.o, d.z, zg⟩
theorem divInt_pos {n d : Int} (hn : 0 < n) (hd : 0 < d) : 0 < Rat.divInt n d := by
  rw [Rat.divInt_eq_div, Rat.div_def]
  exact Rat.mul_pos (Rat.intCast_pos.mpr hn) (Rat.inv_pos.mpr (Rat.intCast_pos.mpr hd))
theorem DrS.snoc {b n : Nat} {s : List (Rat × Rat)} {w j : Rat} (d : DrS b n s) (hw : 0 ≤ w) (hj : j ≠ 0) (zw : Sz b w) (zj : Sz b j) (lt : ∀ x ∈ s, x.1 < w) : DrS b (n + 1) (s ++ [(w, j)]) := by
  refine ⟨by simp; exact d.l, ?_, ?_, ?_⟩
  · intro x hx
    rcases List.mem_append.mp hx with hx | hx
    · exact d.p x hx
    · rw [List.mem_singleton] at hx; subst hx; exact ⟨hw, hj⟩
  · rw [List.pairwise_append]
    exact ⟨d.o, by simp, fun x hx y hy => by rw [List.mem_singleton] at hy; subst hy; exact lt x hx⟩
  · intro x hx
    rcases List.mem_append.mp hx with hx | hx
    · exact d.z x hx
    · rw [List.mem_singleton] at hx; subst hx; exact ⟨zw, zj⟩
theorem DrS.up {b n m : Nat} {s : List (Rat × Rat)} (d : DrS b n s) (h : n ≤ m) : DrS b m s := ⟨Nat.le_trans d.l h, d.p, d.o, d.z⟩
end G43
namespace G43
open PySem
theorem szl {n : Nat} (h : n ≤ 1000) : n ≤ sizeLine := Nat.le_trans h (by decide)
theorem szlt {n : Nat} (h : n ≤ 1000) : n < sizeLine := Nat.lt_of_le_of_lt h (by decide)
end G43
set_option Elab.async false
set_option linter.all false
set_option maxRecDepth 100000
set_option maxHeartbeats 4000000
namespace G43
open PySem
theorem divInt_mul_self (n : Int) {d : Int} (hd : 0 < d) : Rat.divInt n d * (d : Rat) = (n : Rat) := by
  have hd' : (0 : Rat) < (d : Rat) := Rat.intCast_pos.mpr hd
  rw [Rat.divInt_eq_div]
  exact Rat.div_mul_cancel (by grind)
theorem divInt_le {n d M : Int} (hd : 0 < d) (h : n ≤ M * d) : Rat.divInt n d ≤ (M : Rat) := by
  have hd' : (0 : Rat) < (d : Rat) := Rat.intCast_pos.mpr hd
  have h2 : (n : Rat) ≤ ((M * d : Int) : Rat) := Rat.intCast_le_intCast.mpr h
  rw [Rat.intCast_mul] at h2
  rw [← Rat.not_lt]
  intro hlt
  have := Rat.mul_lt_mul_of_pos_right hlt hd'
  rw [divInt_mul_self n hd] at this
  grind
theorem le_divInt {n d M : Int} (hd : 0 < d) (h : M * d ≤ n) : (M : Rat) ≤ Rat.divInt n d := by
  have hd' : (0 : Rat) < (d : Rat) := Rat.intCast_pos.mpr hd
  have h2 : ((M * d : Int) : Rat) ≤ (n : Rat) := Rat.intCast_le_intCast.mpr h
  rw [Rat.intCast_mul] at h2
  rw [← Rat.not_lt]
  intro hlt
  have := Rat.mul_lt_mul_of_pos_right hlt hd'
  rw [divInt_mul_self n hd] at this
  grind
theorem jf_add (m : Rat) : ∀ (s : List (Rat × Rat)) (a b : Rat), s.foldl (jf m) (a + b) = a + s.foldl (jf m) b
  | [], a, b => rfl
  | x :: s, a, b => by
    rw [List.foldl_cons, List.foldl_cons]
    unfold jf
    split
    · exact jf_add m s a b
    · rw [Rat.add_assoc]
      exact jf_add m s a (b + x.2)
def upb (e : Rat) (x : Rat × Rat) : Rat × Rat := (x.1 + e, x.2 + e)
/-! equality of what is the same -/
mutual
theorem peq_refl : ∀ {n : Nat} {p : PV}, Dt n p → peq p p = true
  | _, .non, _ => rfl
  | _, .bl b, _ => by simp [peq]
  | _, .int i, _ => by simp [peq]
  | _, .str s, _ => by simp [peq]
  | 0, .tup l, h => by simp [Dt] at h
  | 0, .lst l, h => by simp [Dt] at h
  | n + 1, .tup l, h => by simp only [peq]; exact peqL_refl (n := n) h
  | n + 1, .lst l, h => by simp only [peq]; exact peqL_refl (n := n) h
  | 0, .fn _, h => by simp [Dt] at h
  | 0, .obj _, h => by simp [Dt] at h
  | 0, .scr _, h => by simp [Dt] at h
  | n + 1, .fn _, h => by simp [Dt] at h
  | n + 1, .obj _, h => by simp [Dt] at h
  | n + 1, .scr _, h => by simp [Dt] at h
theorem peqL_refl : ∀ {n : Nat} {l : List PV}, (∀ x ∈ l, Dt n x) → peqL l l = true
  | _, [], _ => rfl
  | n, x :: l, h => by
    simp only [peqL, Bool.and_eq_true]
    exact ⟨peq_refl (h x (by simp)), peqL_refl (fun y hy => h y (by simp [hy]))⟩
end
end G43
namespace G43
open PySem
end G43
namespace G43
open PySem
theorem cut_mem {l : List PV} {a b : Option Int} {x : PV} (h : x ∈ cut l a b) : x ∈ l := by
  unfold cut at h
  exact List.mem_of_mem_drop (List.mem_of_mem_take h)
theorem cut_len {l : List PV} {a b : Option Int} : (cut l a b).length ≤ l.length := by
  unfold cut
  simp
  omega
theorem cells_int {ns : List Int} {c0 : Int} {a b : Option Int} {n : Nat} {x : PV} (h : (PV.int c0 :: cut (ns.map PV.int) a b)[n]? = some x) : ∃ i, x = .int i := by
  rcases List.mem_cons.mp (List.mem_of_getElem? h) with rfl | h
  · exact ⟨_, rfl⟩
  · obtain ⟨i, _, rfl⟩ := List.mem_map.mp (cut_mem h)
    exact ⟨i, rfl⟩
end G43
set_option Elab.async false
set_option linter.all false
set_option maxRecDepth 100000
set_option maxHeartbeats 4000000
namespace G43
open PySem
/-! ### stretch by stretch -/
def stR : Rat → Rat → List (Rat × Rat) → List (Rat × Option Rat × Rat)
  | b, J, [] => [(b, none, J)]
  | b, J, x :: s => (b, some x.1, J) :: stR x.1 (J + x.2) s
def chR (g e : Rat) : Rat → List (Rat × Rat) → List (Rat × Rat)
  | _, [] => []
  | J, x :: s => ((24 + g) * x.1 + e + J, (24 + g) * x.1 + e + J + x.2) :: chR g e (J + x.2) s
/-- 1 where it is so -/
def ind (p : Prop) [Decidable p] : Int := if p then 1 else 0
/-- an hour lies in a pair -/
def inP (hour : Rat) (x : Rat × Rat) : Bool := !decide (hour < x.1) && decide (hour < x.2)
end G43
set_option Elab.async false
set_option linter.all false
set_option maxRecDepth 100000
set_option maxHeartbeats 4000000
namespace G43
open PySem
/-! ### what is shown by repr -/
def Shw (n w : Nat) (p : PV) : Prop := Dt n p ∧ (dat p).showable = true ∧ (dat p).shown.length ≤ w
theorem Dt.up : ∀ {n m : Nat} {p : PV}, Dt n p → n ≤ m → Dt m p := by
  intro n
  induction n with
  | zero =>
    intro m p h _
    cases p <;> first | (cases m <;> trivial) | (simp [Dt] at h; done) | (cases m <;> simpa [Dt] using h)
  | succ n ih =>
    intro m p h z
    obtain ⟨m, rfl⟩ : ∃ k, m = k + 1 := ⟨m - 1, by omega⟩
    cases p with
    | tup l =>
      have h' : ∀ x ∈ l, Dt n x := h
      exact fun x hx => ih (h' x hx) (by omega)
    | lst l =>
      have h' : ∀ x ∈ l, Dt n x := h
      exact fun x hx => ih (h' x hx) (by omega)
    | non => trivial
    | bl b => trivial
    | int i => trivial
    | str s => simpa [Dt] using h
    | fn f => simp [Dt] at h
    | obj f => simp [Dt] at h
    | scr f => simp [Dt] at h
theorem Shw.up {n m w v : Nat} {p : PV} (h : Shw n w p) (hn : n ≤ m) (hw : w ≤ v) : Shw m v p := ⟨h.1.up hn, h.2.1, Nat.le_trans h.2.2 hw⟩
theorem shwAll {n w : Nat} : ∀ {l : List PV}, (∀ x ∈ l, Shw n w x) → PyData.showableAll (datL l) = true ∧ ((PyData.shownAll (datL l)).map (·.length)).sum ≤ l.length * w ∧ (datL l).length = l.length
  | [], _ => ⟨by simp [datL, PyData.showableAll], by simp [datL, PyData.shownAll], rfl⟩
  | x :: l, h => by
    obtain ⟨h1, h2, h3⟩ := shwAll (n := n) (w := w) (l := l) fun y hy => h y (by simp [hy])
    obtain ⟨q1, q2, q3⟩ := h x (by simp)
    refine ⟨by simp [datL, PyData.showableAll, q2, h1], ?_, by simp [datL, h3]⟩
    simp only [datL, PyData.shownAll, List.map_cons, List.sum_cons, List.length_cons, Nat.succ_mul]
    omega
theorem shw_tup {n w : Nat} {l : List PV} (h : ∀ x ∈ l, Shw n w x) : Shw (n + 1) (l.length * (w + 2) + 3) (.tup l) := by
  obtain ⟨h1, h2, h3⟩ := shwAll h
  refine ⟨fun x hx => (h x hx).1, by simp only [dat, PyData.showable]; exact h1, ?_⟩
  have h4 := tupleText_len_le (PyData.shownAll (datL l))
  have h5 := PyData.shownAll_length (datL l)
  simp only [dat, PyData.shown]
  rw [Nat.mul_add]
  omega
theorem shw_lst {n w : Nat} {l : List PV} (h : ∀ x ∈ l, Shw n w x) : Shw (n + 1) (l.length * (w + 2) + 3) (.lst l) := by
  obtain ⟨h1, h2, h3⟩ := shwAll h
  refine ⟨fun x hx => (h x hx).1, by simp only [dat, PyData.showable]; exact h1, ?_⟩
  have h4 := listText_len_le (PyData.shownAll (datL l))
  have h5 := PyData.shownAll_length (datL l)
  simp only [dat, PyData.shown]
  rw [Nat.mul_add]
  omega
theorem shw_int {n : Nat} {i : Int} (h : i.natAbs < 2 ^ 1900) : Shw n 1925 (.int i) := by
  have h0 : i.natAbs.log2 < 1910 := by
    by_cases z : i.natAbs = 0
    · rw [z]; decide
    · exact (Nat.log2_lt z).mpr (Nat.lt_of_lt_of_le h (Nat.pow_le_pow_right (by decide) (by decide)))
  clear h
  refine ⟨by cases n <;> trivial, ?_, ?_⟩
  · simp only [dat, PyData.showable, decide_eq_true_eq]
    omega
  · simp only [dat]
    rw [PyData.shown_int, ofString_length]
    have := int_text_length_le (k := 1910) (by decide) h0
    omega
theorem shw_pt {n : Nat} {q : Rat} (s : Sz 1900 q) : Shw (n + 1) 4000 (pt q) := by
  refine (shw_tup (n := n) (w := 1925) (allC (shw_int s.1) (allC (shw_int ?_) all1))).up (Nat.le_refl _) (by simp)
  rw [den_nat]
  exact s.2
theorem f_repr {n w : Nat} {p : PV} {k : PV → Prop} (h : Shw n w p) (hn : n ≤ 60) (hw : w ≤ 16777216) : wpBi .repr [p] k = k (.str (dat p).shown) := by
  show (Dt 60 p ∧ (dat p).showable = true ∧ (dat p).shown.length ≤ sizeLine ∧ k (.str (dat p).shown)) = _
  have : (dat p).shown.length ≤ sizeLine := Nat.le_trans h.2.2 (by rw [sizeLine_eq]; exact hw)
  simp [h.1.up hn, h.2.1, this]
theorem ns_same {s : Str} {k : Bool → Prop} : wpCmp .NotEq (.str s) (.str s) k = k false := by
  show k (!(s == s)) = _
  simp
end G43
namespace G43
open PySem
theorem k_sqr {h : Hs} {i : Nat} {c : List PV} {Q} (e : h[i]? = some (some c)) (z : Q c (fun h => h[i]? = some (some c)) h) : kSq (.ref i) h Q := ⟨c, e, z⟩
theorem get_set_ne {h : Hs} {i j : Nat} {c : Option (List PV)} {v} (n : i ≠ j) (e : h[j]? = some v) : (h.set i c)[j]? = some v := by rw [List.getElem?_set_ne n]; exact e
end G43
namespace G43
open PySem
theorem k_ixl2 {h : Hs} {a b c : PV} {l : List PV} {k : PV → Prop} : kIx (.pv (.lst (a :: b :: c :: l))) (.pv (.int 2)) h k = k c := by
  rw [k_ixl, ← k_ixt (h := h)]; exact k_ixt2
end G43
set_option Elab.async false
set_option linter.all false
set_option maxRecDepth 100000
set_option maxHeartbeats 0
namespace Law
open PySem G43
/-! ### the same in the small language -/
abbrev i_is_whole : Nat := 0
abbrev i_shared : Nat := 1
abbrev i_lowest : Nat := 2
abbrev i_is_part : Nat := 3
abbrev i_need_part : Nat := 4
abbrev i_plus : Nat := 5
abbrev i_product : Nat := 6
abbrev i_below : Nat := 7
abbrev i_is_gain : Nat := 8
abbrev i_is_moment : Nat := 9
abbrev i_is_set : Nat := 10
abbrev i_is_clock : Nat := 11
abbrev i_need_clock : Nat := 12
abbrev i_need_moment : Nat := 13
abbrev i_own_error : Nat := 14
abbrev i_jumps_till : Nat := 15
abbrev i_drift_by : Nat := 16
abbrev i_drift : Nat := 17
abbrev i_shown_by : Nat := 18
abbrev i_shown_at : Nat := 19
abbrev i__law_cell_at : Nat := 20
abbrev i__law_next : Nat := 21
abbrev i__law_pen_of : Nat := 22
abbrev i__law_draw : Nat := 23
abbrev i__law_made : Nat := 24
abbrev i__law_sum : Nat := 25
abbrev i__law_rest : Nat := 26
abbrev i__law_prod : Nat := 27
abbrev i__law_under : Nat := 28
abbrev i__law_some : Nat := 29
abbrev i__law_up : Nat := 30
abbrev i__law_gain : Nat := 31
abbrev i__law_sets : Nat := 32
abbrev i__law_drift : Nat := 33
abbrev i__law_shown : Nat := 34
abbrev i_law : Nat := 35
section
variable {C : CallT} {ρ : G43.Env} {d : Nat} {h : Hs} {Q : QV} {X : QX}
theorem g_NOUGHT : wpE pg C (.glo 0) ρ h Q X = Q (.pv (pt 0)) h := e_glo rfl
theorem g_MOST_GAIN : wpE pg C (.glo 1) ρ h Q X = Q (.pv (pt 12)) h := e_glo rfl
theorem g_LEAST_GAIN : wpE pg C (.glo 2) ρ h Q X = Q (.pv (pt (-12))) h := e_glo rfl
theorem g_HOURS : wpE pg C (.glo 3) ρ h Q X = Q (.pv (pt 24)) h := e_glo rfl
theorem g_MOST_SETS : wpE pg C (.glo 4) ρ h Q X = Q (.pv (.int 6)) h := e_glo rfl
theorem in_is_whole {a0 : RV} (b : wpSL pg (wpC pg d) b_is_whole [some a0] h (fun _ h' => fin h.length Q (.pv .non) h') (fin h.length Q) (fun x h' => X x (h'.take h.length))) : wpC pg (d + 1) i_is_whole [a0] h Q X := wpC_in rfl rfl b
theorem in_shared {a0 a1 : RV} (b : wpSL pg (wpC pg d) b_shared [some a0, some a1] h (fun _ h' => fin h.length Q (.pv .non) h') (fin h.length Q) (fun x h' => X x (h'.take h.length))) : wpC pg (d + 1) i_shared [a0, a1] h Q X := wpC_in rfl rfl b
theorem in_lowest {a0 a1 : RV} (b : wpSL pg (wpC pg d) b_lowest [some a0, some a1, none] h (fun _ h' => fin h.length Q (.pv .non) h') (fin h.length Q) (fun x h' => X x (h'.take h.length))) : wpC pg (d + 1) i_lowest [a0, a1] h Q X := wpC_in rfl rfl b
theorem in_is_part {a0 : RV} (b : wpSL pg (wpC pg d) b_is_part [some a0] h (fun _ h' => fin h.length Q (.pv .non) h') (fin h.length Q) (fun x h' => X x (h'.take h.length))) : wpC pg (d + 1) i_is_part [a0] h Q X := wpC_in rfl rfl b
theorem in_need_part {a0 : RV} (b : wpSL pg (wpC pg d) b_need_part [some a0] h (fun _ h' => fin h.length Q (.pv .non) h') (fin h.length Q) (fun x h' => X x (h'.take h.length))) : wpC pg (d + 1) i_need_part [a0] h Q X := wpC_in rfl rfl b
theorem in_plus {a0 a1 : RV} (b : wpSL pg (wpC pg d) b_plus [some a0, some a1] h (fun _ h' => fin h.length Q (.pv .non) h') (fin h.length Q) (fun x h' => X x (h'.take h.length))) : wpC pg (d + 1) i_plus [a0, a1] h Q X := wpC_in rfl rfl b
theorem in_product {a0 a1 : RV} (b : wpSL pg (wpC pg d) b_product [some a0, some a1] h (fun _ h' => fin h.length Q (.pv .non) h') (fin h.length Q) (fun x h' => X x (h'.take h.length))) : wpC pg (d + 1) i_product [a0, a1] h Q X := wpC_in rfl rfl b
theorem in_below {a0 a1 : RV} (b : wpSL pg (wpC pg d) b_below [some a0, some a1] h (fun _ h' => fin h.length Q (.pv .non) h') (fin h.length Q) (fun x h' => X x (h'.take h.length))) : wpC pg (d + 1) i_below [a0, a1] h Q X := wpC_in rfl rfl b
theorem in_is_gain {a0 : RV} (b : wpSL pg (wpC pg d) b_is_gain [some a0] h (fun _ h' => fin h.length Q (.pv .non) h') (fin h.length Q) (fun x h' => X x (h'.take h.length))) : wpC pg (d + 1) i_is_gain [a0] h Q X := wpC_in rfl rfl b
theorem in_is_moment {a0 : RV} (b : wpSL pg (wpC pg d) b_is_moment [some a0] h (fun _ h' => fin h.length Q (.pv .non) h') (fin h.length Q) (fun x h' => X x (h'.take h.length))) : wpC pg (d + 1) i_is_moment [a0] h Q X := wpC_in rfl rfl b
theorem in_is_set {a0 : RV} (b : wpSL pg (wpC pg d) b_is_set [some a0] h (fun _ h' => fin h.length Q (.pv .non) h') (fin h.length Q) (fun x h' => X x (h'.take h.length))) : wpC pg (d + 1) i_is_set [a0] h Q X := wpC_in rfl rfl b
theorem in_is_clock {a0 : RV} (b : wpSL pg (wpC pg d) b_is_clock [some a0, none, none] h (fun _ h' => fin h.length Q (.pv .non) h') (fin h.length Q) (fun x h' => X x (h'.take h.length))) : wpC pg (d + 1) i_is_clock [a0] h Q X := wpC_in rfl rfl b
theorem in_need_clock {a0 : RV} (b : wpSL pg (wpC pg d) b_need_clock [some a0] h (fun _ h' => fin h.length Q (.pv .non) h') (fin h.length Q) (fun x h' => X x (h'.take h.length))) : wpC pg (d + 1) i_need_clock [a0] h Q X := wpC_in rfl rfl b
theorem in_need_moment {a0 : RV} (b : wpSL pg (wpC pg d) b_need_moment [some a0] h (fun _ h' => fin h.length Q (.pv .non) h') (fin h.length Q) (fun x h' => X x (h'.take h.length))) : wpC pg (d + 1) i_need_moment [a0] h Q X := wpC_in rfl rfl b
theorem in_own_error {a0 : RV} (b : wpSL pg (wpC pg d) b_own_error [some a0] h (fun _ h' => fin h.length Q (.pv .non) h') (fin h.length Q) (fun x h' => X x (h'.take h.length))) : wpC pg (d + 1) i_own_error [a0] h Q X := wpC_in rfl rfl b
theorem in_jumps_till {a0 a1 : RV} (b : wpSL pg (wpC pg d) b_jumps_till [some a0, some a1, none, none, none] h (fun _ h' => fin h.length Q (.pv .non) h') (fin h.length Q) (fun x h' => X x (h'.take h.length))) : wpC pg (d + 1) i_jumps_till [a0, a1] h Q X := wpC_in rfl rfl b
theorem in_drift_by {a0 a1 : RV} (b : wpSL pg (wpC pg d) b_drift_by [some a0, some a1] h (fun _ h' => fin h.length Q (.pv .non) h') (fin h.length Q) (fun x h' => X x (h'.take h.length))) : wpC pg (d + 1) i_drift_by [a0, a1] h Q X := wpC_in rfl rfl b
theorem in_drift {a0 a1 : RV} (b : wpSL pg (wpC pg d) b_drift [some a0, some a1] h (fun _ h' => fin h.length Q (.pv .non) h') (fin h.length Q) (fun x h' => X x (h'.take h.length))) : wpC pg (d + 1) i_drift [a0, a1] h Q X := wpC_in rfl rfl b
theorem in_shown_by {a0 a1 a2 : RV} (b : wpSL pg (wpC pg d) b_shown_by [some a0, some a1, some a2] h (fun _ h' => fin h.length Q (.pv .non) h') (fin h.length Q) (fun x h' => X x (h'.take h.length))) : wpC pg (d + 1) i_shown_by [a0, a1, a2] h Q X := wpC_in rfl rfl b
theorem in_shown_at {a0 a1 a2 : RV} (b : wpSL pg (wpC pg d) b_shown_at [some a0, some a1, some a2] h (fun _ h' => fin h.length Q (.pv .non) h') (fin h.length Q) (fun x h' => X x (h'.take h.length))) : wpC pg (d + 1) i_shown_at [a0, a1, a2] h Q X := wpC_in rfl rfl b
theorem in__law_cell_at {a0 a1 : RV} (b : wpSL pg (wpC pg d) b__law_cell_at [some a0, some a1] h (fun _ h' => fin h.length Q (.pv .non) h') (fin h.length Q) (fun x h' => X x (h'.take h.length))) : wpC pg (d + 1) i__law_cell_at [a0, a1] h Q X := wpC_in rfl rfl b
theorem in__law_next {a0 : RV} (b : wpSL pg (wpC pg d) b__law_next [some a0] h (fun _ h' => fin h.length Q (.pv .non) h') (fin h.length Q) (fun x h' => X x (h'.take h.length))) : wpC pg (d + 1) i__law_next [a0] h Q X := wpC_in rfl rfl b
theorem in__law_pen_of {a0 : RV} (b : wpSL pg (wpC pg d) b__law_pen_of [some a0, none] h (fun _ h' => fin h.length Q (.pv .non) h') (fin h.length Q) (fun x h' => X x (h'.take h.length))) : wpC pg (d + 1) i__law_pen_of [a0] h Q X := wpC_in rfl rfl b
theorem in__law_draw {a0 a1 : RV} (b : wpSL pg (wpC pg d) b__law_draw [some a0, some a1, none] h (fun _ h' => fin h.length Q (.pv .non) h') (fin h.length Q) (fun x h' => X x (h'.take h.length))) : wpC pg (d + 1) i__law_draw [a0, a1] h Q X := wpC_in rfl rfl b
theorem in__law_made {a0 a1 : RV} (b : wpSL pg (wpC pg d) b__law_made [some a0, some a1, none, none] h (fun _ h' => fin h.length Q (.pv .non) h') (fin h.length Q) (fun x h' => X x (h'.take h.length))) : wpC pg (d + 1) i__law_made [a0, a1] h Q X := wpC_in rfl rfl b
theorem in__law_sum {a0 a1 : RV} (b : wpSL pg (wpC pg d) b__law_sum [some a0, some a1] h (fun _ h' => fin h.length Q (.pv .non) h') (fin h.length Q) (fun x h' => X x (h'.take h.length))) : wpC pg (d + 1) i__law_sum [a0, a1] h Q X := wpC_in rfl rfl b
theorem in__law_rest {a0 a1 : RV} (b : wpSL pg (wpC pg d) b__law_rest [some a0, some a1] h (fun _ h' => fin h.length Q (.pv .non) h') (fin h.length Q) (fun x h' => X x (h'.take h.length))) : wpC pg (d + 1) i__law_rest [a0, a1] h Q X := wpC_in rfl rfl b
theorem in__law_prod {a0 a1 : RV} (b : wpSL pg (wpC pg d) b__law_prod [some a0, some a1] h (fun _ h' => fin h.length Q (.pv .non) h') (fin h.length Q) (fun x h' => X x (h'.take h.length))) : wpC pg (d + 1) i__law_prod [a0, a1] h Q X := wpC_in rfl rfl b
theorem in__law_under {a0 a1 : RV} (b : wpSL pg (wpC pg d) b__law_under [some a0, some a1] h (fun _ h' => fin h.length Q (.pv .non) h') (fin h.length Q) (fun x h' => X x (h'.take h.length))) : wpC pg (d + 1) i__law_under [a0, a1] h Q X := wpC_in rfl rfl b
theorem in__law_some {a0 : RV} (b : wpSL pg (wpC pg d) b__law_some [some a0, none, none] h (fun _ h' => fin h.length Q (.pv .non) h') (fin h.length Q) (fun x h' => X x (h'.take h.length))) : wpC pg (d + 1) i__law_some [a0] h Q X := wpC_in rfl rfl b
theorem in__law_up {a0 : RV} (b : wpSL pg (wpC pg d) b__law_up [some a0] h (fun _ h' => fin h.length Q (.pv .non) h') (fin h.length Q) (fun x h' => X x (h'.take h.length))) : wpC pg (d + 1) i__law_up [a0] h Q X := wpC_in rfl rfl b
theorem in__law_gain {a0 : RV} (b : wpSL pg (wpC pg d) b__law_gain [some a0, none, none] h (fun _ h' => fin h.length Q (.pv .non) h') (fin h.length Q) (fun x h' => X x (h'.take h.length))) : wpC pg (d + 1) i__law_gain [a0] h Q X := wpC_in rfl rfl b
theorem in__law_sets {a0 a1 : RV} (b : wpSL pg (wpC pg d) b__law_sets [some a0, some a1, none, none, none, none] h (fun _ h' => fin h.length Q (.pv .non) h') (fin h.length Q) (fun x h' => X x (h'.take h.length))) : wpC pg (d + 1) i__law_sets [a0, a1] h Q X := wpC_in rfl rfl b
theorem in__law_drift {a0 a1 : RV} (b : wpSL pg (wpC pg d) b__law_drift [some a0, some a1, none, none, none] h (fun _ h' => fin h.length Q (.pv .non) h') (fin h.length Q) (fun x h' => X x (h'.take h.length))) : wpC pg (d + 1) i__law_drift [a0, a1] h Q X := wpC_in rfl rfl b
theorem in__law_shown {a0 a1 a2 : RV} (b : wpSL pg (wpC pg d) b__law_shown [some a0, some a1, some a2] h (fun _ h' => fin h.length Q (.pv .non) h') (fin h.length Q) (fun x h' => X x (h'.take h.length))) : wpC pg (d + 1) i__law_shown [a0, a1, a2] h Q X := wpC_in rfl rfl b
theorem in_law {a0 : RV} (b : wpSL pg (wpC pg d) b_law [some a0, none, none, none, none, none, none, none, none, none, none, none, none] h (fun _ h' => fin h.length Q (.pv .non) h') (fin h.length Q) (fun x h' => X x (h'.take h.length))) : wpC pg (d + 1) i_law [a0] h Q X := wpC_in rfl rfl b
end
end Law
set_option Elab.async false
set_option linter.all false
set_option maxRecDepth 100000
set_option maxHeartbeats 0
namespace Law
open PySem G43
/-! ### the text -/
/-! ### the same in the small language -/
/-! ### they say the same -/
theorem s_is_whole : DefS pg d_is_whole t_is_whole := by
  refine ⟨rfl, rfl, rfl, rfl, ⟨["thing"], ⟨rfl, rfl, rfl, by decide +kernel, rfl, by decide +kernel, by decide +kernel⟩, rfl, fun K f fd F n hn => ?_⟩, by decide +kernel⟩
  obtain rfl : n = 0 := Nat.le_zero.mp hn
  exact ⟨[], [], rfl, .nil, L2.FunD.bindsN (ps := ["thing"]) F fun _ _ _ _ _ _ us hl => match us, hl with | [_], _ => rfl⟩
theorem s_shared : DefS pg d_shared t_shared := by
  refine ⟨rfl, rfl, rfl, rfl, ⟨["one", "other"], ⟨rfl, rfl, rfl, by decide +kernel, rfl, by decide +kernel, by decide +kernel⟩, rfl, fun K f fd F n hn => ?_⟩, by decide +kernel⟩
  obtain rfl : n = 0 := Nat.le_zero.mp hn
  exact ⟨[], [], rfl, .nil, L2.FunD.bindsN (ps := ["one", "other"]) F fun _ _ _ _ _ _ us hl => match us, hl with | [_, _], _ => rfl⟩
theorem s_lowest : DefS pg d_lowest t_lowest := by
  refine ⟨rfl, rfl, rfl, rfl, ⟨["top", "bottom"], ⟨rfl, rfl, rfl, by decide +kernel, rfl, by decide +kernel, by decide +kernel⟩, rfl, fun K f fd F n hn => ?_⟩, by decide +kernel⟩
  obtain rfl : n = 0 := Nat.le_zero.mp hn
  exact ⟨[], [], rfl, .nil, L2.FunD.bindsN (ps := ["top", "bottom"]) F fun _ _ _ _ _ _ us hl => match us, hl with | [_, _], _ => rfl⟩
theorem s_is_part : DefS pg d_is_part t_is_part := by
  refine ⟨rfl, rfl, rfl, rfl, ⟨["thing"], ⟨rfl, rfl, rfl, by decide +kernel, rfl, by decide +kernel, by decide +kernel⟩, rfl, fun K f fd F n hn => ?_⟩, by decide +kernel⟩
  obtain rfl : n = 0 := Nat.le_zero.mp hn
  exact ⟨[], [], rfl, .nil, L2.FunD.bindsN (ps := ["thing"]) F fun _ _ _ _ _ _ us hl => match us, hl with | [_], _ => rfl⟩
theorem s_need_part : DefS pg d_need_part t_need_part := by
  refine ⟨rfl, rfl, rfl, rfl, ⟨["thing"], ⟨rfl, rfl, rfl, by decide +kernel, rfl, by decide +kernel, by decide +kernel⟩, rfl, fun K f fd F n hn => ?_⟩, by decide +kernel⟩
  obtain rfl : n = 0 := Nat.le_zero.mp hn
  exact ⟨[], [], rfl, .nil, L2.FunD.bindsN (ps := ["thing"]) F fun _ _ _ _ _ _ us hl => match us, hl with | [_], _ => rfl⟩
theorem s_plus : DefS pg d_plus t_plus := by
  refine ⟨rfl, rfl, rfl, rfl, ⟨["one", "other"], ⟨rfl, rfl, rfl, by decide +kernel, rfl, by decide +kernel, by decide +kernel⟩, rfl, fun K f fd F n hn => ?_⟩, by decide +kernel⟩
  obtain rfl : n = 0 := Nat.le_zero.mp hn
  exact ⟨[], [], rfl, .nil, L2.FunD.bindsN (ps := ["one", "other"]) F fun _ _ _ _ _ _ us hl => match us, hl with | [_, _], _ => rfl⟩
theorem s_product : DefS pg d_product t_product := by
  refine ⟨rfl, rfl, rfl, rfl, ⟨["one", "other"], ⟨rfl, rfl, rfl, by decide +kernel, rfl, by decide +kernel, by decide +kernel⟩, rfl, fun K f fd F n hn => ?_⟩, by decide +kernel⟩
  obtain rfl : n = 0 := Nat.le_zero.mp hn
  exact ⟨[], [], rfl, .nil, L2.FunD.bindsN (ps := ["one", "other"]) F fun _ _ _ _ _ _ us hl => match us, hl with | [_, _], _ => rfl⟩
theorem s_below : DefS pg d_below t_below := by
  refine ⟨rfl, rfl, rfl, rfl, ⟨["one", "other"], ⟨rfl, rfl, rfl, by decide +kernel, rfl, by decide +kernel, by decide +kernel⟩, rfl, fun K f fd F n hn => ?_⟩, by decide +kernel⟩
  obtain rfl : n = 0 := Nat.le_zero.mp hn
  exact ⟨[], [], rfl, .nil, L2.FunD.bindsN (ps := ["one", "other"]) F fun _ _ _ _ _ _ us hl => match us, hl with | [_, _], _ => rfl⟩
theorem s_is_gain : DefS pg d_is_gain t_is_gain := by
  refine ⟨rfl, rfl, rfl, rfl, ⟨["thing"], ⟨rfl, rfl, rfl, by decide +kernel, rfl, by decide +kernel, by decide +kernel⟩, rfl, fun K f fd F n hn => ?_⟩, by decide +kernel⟩
  obtain rfl : n = 0 := Nat.le_zero.mp hn
  exact ⟨[], [], rfl, .nil, L2.FunD.bindsN (ps := ["thing"]) F fun _ _ _ _ _ _ us hl => match us, hl with | [_], _ => rfl⟩
theorem s_is_moment : DefS pg d_is_moment t_is_moment := by
  refine ⟨rfl, rfl, rfl, rfl, ⟨["thing"], ⟨rfl, rfl, rfl, by decide +kernel, rfl, by decide +kernel, by decide +kernel⟩, rfl, fun K f fd F n hn => ?_⟩, by decide +kernel⟩
  obtain rfl : n = 0 := Nat.le_zero.mp hn
  exact ⟨[], [], rfl, .nil, L2.FunD.bindsN (ps := ["thing"]) F fun _ _ _ _ _ _ us hl => match us, hl with | [_], _ => rfl⟩
theorem s_is_set : DefS pg d_is_set t_is_set := by
  refine ⟨rfl, rfl, rfl, rfl, ⟨["thing"], ⟨rfl, rfl, rfl, by decide +kernel, rfl, by decide +kernel, by decide +kernel⟩, rfl, fun K f fd F n hn => ?_⟩, by decide +kernel⟩
  obtain rfl : n = 0 := Nat.le_zero.mp hn
  exact ⟨[], [], rfl, .nil, L2.FunD.bindsN (ps := ["thing"]) F fun _ _ _ _ _ _ us hl => match us, hl with | [_], _ => rfl⟩
theorem s_is_clock : DefS pg d_is_clock t_is_clock := by
  refine ⟨rfl, rfl, rfl, rfl, ⟨["thing"], ⟨rfl, rfl, rfl, by decide +kernel, rfl, by decide +kernel, by decide +kernel⟩, rfl, fun K f fd F n hn => ?_⟩, by decide +kernel⟩
  obtain rfl : n = 0 := Nat.le_zero.mp hn
  exact ⟨[], [], rfl, .nil, L2.FunD.bindsN (ps := ["thing"]) F fun _ _ _ _ _ _ us hl => match us, hl with | [_], _ => rfl⟩
theorem s_need_clock : DefS pg d_need_clock t_need_clock := by
  refine ⟨rfl, rfl, rfl, rfl, ⟨["clock"], ⟨rfl, rfl, rfl, by decide +kernel, rfl, by decide +kernel, by decide +kernel⟩, rfl, fun K f fd F n hn => ?_⟩, by decide +kernel⟩
  obtain rfl : n = 0 := Nat.le_zero.mp hn
  exact ⟨[], [], rfl, .nil, L2.FunD.bindsN (ps := ["clock"]) F fun _ _ _ _ _ _ us hl => match us, hl with | [_], _ => rfl⟩
theorem s_need_moment : DefS pg d_need_moment t_need_moment := by
  refine ⟨rfl, rfl, rfl, rfl, ⟨["moment"], ⟨rfl, rfl, rfl, by decide +kernel, rfl, by decide +kernel, by decide +kernel⟩, rfl, fun K f fd F n hn => ?_⟩, by decide +kernel⟩
  obtain rfl : n = 0 := Nat.le_zero.mp hn
  exact ⟨[], [], rfl, .nil, L2.FunD.bindsN (ps := ["moment"]) F fun _ _ _ _ _ _ us hl => match us, hl with | [_], _ => rfl⟩
theorem s_own_error : DefS pg d_own_error t_own_error := by
  refine ⟨rfl, rfl, rfl, rfl, ⟨["error"], ⟨rfl, rfl, rfl, by decide +kernel, rfl, by decide +kernel, by decide +kernel⟩, rfl, fun K f fd F n hn => ?_⟩, by decide +kernel⟩
  obtain rfl : n = 0 := Nat.le_zero.mp hn
  exact ⟨[], [], rfl, .nil, L2.FunD.bindsN (ps := ["error"]) F fun _ _ _ _ _ _ us hl => match us, hl with | [_], _ => rfl⟩
theorem s_jumps_till : DefS pg d_jumps_till t_jumps_till := by
  refine ⟨rfl, rfl, rfl, rfl, ⟨["clock", "moment"], ⟨rfl, rfl, rfl, by decide +kernel, rfl, by decide +kernel, by decide +kernel⟩, rfl, fun K f fd F n hn => ?_⟩, by decide +kernel⟩
  obtain rfl : n = 0 := Nat.le_zero.mp hn
  exact ⟨[], [], rfl, .nil, L2.FunD.bindsN (ps := ["clock", "moment"]) F fun _ _ _ _ _ _ us hl => match us, hl with | [_, _], _ => rfl⟩
theorem s_drift_by : DefS pg d_drift_by t_drift_by := by
  refine ⟨rfl, rfl, rfl, rfl, ⟨["clock", "moment"], ⟨rfl, rfl, rfl, by decide +kernel, rfl, by decide +kernel, by decide +kernel⟩, rfl, fun K f fd F n hn => ?_⟩, by decide +kernel⟩
  obtain rfl : n = 0 := Nat.le_zero.mp hn
  exact ⟨[], [], rfl, .nil, L2.FunD.bindsN (ps := ["clock", "moment"]) F fun _ _ _ _ _ _ us hl => match us, hl with | [_, _], _ => rfl⟩
theorem s_drift : DefS pg d_drift t_drift := by
  refine ⟨rfl, rfl, rfl, rfl, ⟨["clock", "moment"], ⟨rfl, rfl, rfl, by decide +kernel, rfl, by decide +kernel, by decide +kernel⟩, rfl, fun K f fd F n hn => ?_⟩, by decide +kernel⟩
  obtain rfl : n = 0 := Nat.le_zero.mp hn
  exact ⟨[], [], rfl, .nil, L2.FunD.bindsN (ps := ["clock", "moment"]) F fun _ _ _ _ _ _ us hl => match us, hl with | [_, _], _ => rfl⟩
theorem s_shown_by : DefS pg d_shown_by t_shown_by := by
  refine ⟨rfl, rfl, rfl, rfl, ⟨["clock", "moment", "error"], ⟨rfl, rfl, rfl, by decide +kernel, rfl, by decide +kernel, by decide +kernel⟩, rfl, fun K f fd F n hn => ?_⟩, by decide +kernel⟩
  obtain rfl : n = 0 := Nat.le_zero.mp hn
  exact ⟨[], [], rfl, .nil, L2.FunD.bindsN (ps := ["clock", "moment", "error"]) F fun _ _ _ _ _ _ us hl => match us, hl with | [_, _, _], _ => rfl⟩
theorem s_shown_at : DefS pg d_shown_at t_shown_at := by
  refine ⟨rfl, rfl, rfl, rfl, ⟨["clock", "moment", "error"], ⟨rfl, rfl, rfl, by decide +kernel, rfl, by decide +kernel, by decide +kernel⟩, rfl, fun K f fd F n hn => ?_⟩, by decide +kernel⟩
  have hn : n ≤ 1 := hn
  have hc : n = 0 ∨ n = 1 := by omega
  rcases hc with rfl | rfl
  · obtain ⟨ds, q1, q2⟩ := L2.FunD.binds1 (ps := ["clock", "moment", "error"]) F 2 0 (by intro z; cases z) rfl (fun _ _ _ _ _ _ _ us its hu hi => match us, its, hu, hi with | [_, _], [_], _, _ => ⟨_, rfl, rfl⟩)
    exact ⟨_, ds, rfl, q1, q2⟩
  · obtain ⟨ds, q1, q2⟩ := L2.FunD.binds1 (ps := ["clock", "moment", "error"]) F 3 1 (by intro z; cases z) rfl (fun _ _ _ _ _ _ _ us its hu hi => match us, its, hu, hi with | [_, _, _], [_], _, _ => ⟨_, rfl, rfl⟩)
    exact ⟨_, ds, rfl, q1, q2⟩
theorem s__law_cell_at : DefS pg d__law_cell_at t__law_cell_at := by
  refine ⟨rfl, rfl, rfl, rfl, ⟨["_law_script", "_law_k"], ⟨rfl, rfl, rfl, by decide +kernel, rfl, by decide +kernel, by decide +kernel⟩, rfl, fun K f fd F n hn => ?_⟩, by decide +kernel⟩
  obtain rfl : n = 0 := Nat.le_zero.mp hn
  exact ⟨[], [], rfl, .nil, L2.FunD.bindsN (ps := ["_law_script", "_law_k"]) F fun _ _ _ _ _ _ us hl => match us, hl with | [_, _], _ => rfl⟩
theorem s__law_next : DefS pg d__law_next t__law_next := by
  refine ⟨rfl, rfl, rfl, rfl, ⟨["_law_seed"], ⟨rfl, rfl, rfl, by decide +kernel, rfl, by decide +kernel, by decide +kernel⟩, rfl, fun K f fd F n hn => ?_⟩, by decide +kernel⟩
  obtain rfl : n = 0 := Nat.le_zero.mp hn
  exact ⟨[], [], rfl, .nil, L2.FunD.bindsN (ps := ["_law_seed"]) F fun _ _ _ _ _ _ us hl => match us, hl with | [_], _ => rfl⟩
theorem s__law_pen_of : DefS pg d__law_pen_of t__law_pen_of := by
  refine ⟨rfl, rfl, rfl, rfl, ⟨["_law_cell"], ⟨rfl, rfl, rfl, by decide +kernel, rfl, by decide +kernel, by decide +kernel⟩, rfl, fun K f fd F n hn => ?_⟩, by decide +kernel⟩
  obtain rfl : n = 0 := Nat.le_zero.mp hn
  exact ⟨[], [], rfl, .nil, L2.FunD.bindsN (ps := ["_law_cell"]) F fun _ _ _ _ _ _ us hl => match us, hl with | [_], _ => rfl⟩
theorem s__law_draw : DefS pg d__law_draw t__law_draw := by
  refine ⟨rfl, rfl, rfl, rfl, ⟨["_law_pen", "_law_many"], ⟨rfl, rfl, rfl, by decide +kernel, rfl, by decide +kernel, by decide +kernel⟩, rfl, fun K f fd F n hn => ?_⟩, by decide +kernel⟩
  obtain rfl : n = 0 := Nat.le_zero.mp hn
  exact ⟨[], [], rfl, .nil, L2.FunD.bindsN (ps := ["_law_pen", "_law_many"]) F fun _ _ _ _ _ _ us hl => match us, hl with | [_, _], _ => rfl⟩
theorem s__law_made : DefS pg d__law_made t__law_made := by
  refine ⟨rfl, rfl, rfl, rfl, ⟨["_law_top", "_law_bottom"], ⟨rfl, rfl, rfl, by decide +kernel, rfl, by decide +kernel, by decide +kernel⟩, rfl, fun K f fd F n hn => ?_⟩, by decide +kernel⟩
  obtain rfl : n = 0 := Nat.le_zero.mp hn
  exact ⟨[], [], rfl, .nil, L2.FunD.bindsN (ps := ["_law_top", "_law_bottom"]) F fun _ _ _ _ _ _ us hl => match us, hl with | [_, _], _ => rfl⟩
theorem s__law_sum : DefS pg d__law_sum t__law_sum := by
  refine ⟨rfl, rfl, rfl, rfl, ⟨["_law_one", "_law_other"], ⟨rfl, rfl, rfl, by decide +kernel, rfl, by decide +kernel, by decide +kernel⟩, rfl, fun K f fd F n hn => ?_⟩, by decide +kernel⟩
  obtain rfl : n = 0 := Nat.le_zero.mp hn
  exact ⟨[], [], rfl, .nil, L2.FunD.bindsN (ps := ["_law_one", "_law_other"]) F fun _ _ _ _ _ _ us hl => match us, hl with | [_, _], _ => rfl⟩
theorem s__law_rest : DefS pg d__law_rest t__law_rest := by
  refine ⟨rfl, rfl, rfl, rfl, ⟨["_law_one", "_law_other"], ⟨rfl, rfl, rfl, by decide +kernel, rfl, by decide +kernel, by decide +kernel⟩, rfl, fun K f fd F n hn => ?_⟩, by decide +kernel⟩
  obtain rfl : n = 0 := Nat.le_zero.mp hn
  exact ⟨[], [], rfl, .nil, L2.FunD.bindsN (ps := ["_law_one", "_law_other"]) F fun _ _ _ _ _ _ us hl => match us, hl with | [_, _], _ => rfl⟩
theorem s__law_prod : DefS pg d__law_prod t__law_prod := by
  refine ⟨rfl, rfl, rfl, rfl, ⟨["_law_one", "_law_other"], ⟨rfl, rfl, rfl, by decide +kernel, rfl, by decide +kernel, by decide +kernel⟩, rfl, fun K f fd F n hn => ?_⟩, by decide +kernel⟩
  obtain rfl : n = 0 := Nat.le_zero.mp hn
  exact ⟨[], [], rfl, .nil, L2.FunD.bindsN (ps := ["_law_one", "_law_other"]) F fun _ _ _ _ _ _ us hl => match us, hl with | [_, _], _ => rfl⟩
theorem s__law_under : DefS pg d__law_under t__law_under := by
  refine ⟨rfl, rfl, rfl, rfl, ⟨["_law_one", "_law_other"], ⟨rfl, rfl, rfl, by decide +kernel, rfl, by decide +kernel, by decide +kernel⟩, rfl, fun K f fd F n hn => ?_⟩, by decide +kernel⟩
  obtain rfl : n = 0 := Nat.le_zero.mp hn
  exact ⟨[], [], rfl, .nil, L2.FunD.bindsN (ps := ["_law_one", "_law_other"]) F fun _ _ _ _ _ _ us hl => match us, hl with | [_, _], _ => rfl⟩
theorem s__law_some : DefS pg d__law_some t__law_some := by
  refine ⟨rfl, rfl, rfl, rfl, ⟨["_law_pen"], ⟨rfl, rfl, rfl, by decide +kernel, rfl, by decide +kernel, by decide +kernel⟩, rfl, fun K f fd F n hn => ?_⟩, by decide +kernel⟩
  obtain rfl : n = 0 := Nat.le_zero.mp hn
  exact ⟨[], [], rfl, .nil, L2.FunD.bindsN (ps := ["_law_pen"]) F fun _ _ _ _ _ _ us hl => match us, hl with | [_], _ => rfl⟩
theorem s__law_up : DefS pg d__law_up t__law_up := by
  refine ⟨rfl, rfl, rfl, rfl, ⟨["_law_pen"], ⟨rfl, rfl, rfl, by decide +kernel, rfl, by decide +kernel, by decide +kernel⟩, rfl, fun K f fd F n hn => ?_⟩, by decide +kernel⟩
  obtain rfl : n = 0 := Nat.le_zero.mp hn
  exact ⟨[], [], rfl, .nil, L2.FunD.bindsN (ps := ["_law_pen"]) F fun _ _ _ _ _ _ us hl => match us, hl with | [_], _ => rfl⟩
theorem s__law_gain : DefS pg d__law_gain t__law_gain := by
  refine ⟨rfl, rfl, rfl, rfl, ⟨["_law_pen"], ⟨rfl, rfl, rfl, by decide +kernel, rfl, by decide +kernel, by decide +kernel⟩, rfl, fun K f fd F n hn => ?_⟩, by decide +kernel⟩
  obtain rfl : n = 0 := Nat.le_zero.mp hn
  exact ⟨[], [], rfl, .nil, L2.FunD.bindsN (ps := ["_law_pen"]) F fun _ _ _ _ _ _ us hl => match us, hl with | [_], _ => rfl⟩
theorem s__law_sets : DefS pg d__law_sets t__law_sets := by
  refine ⟨rfl, rfl, rfl, rfl, ⟨["_law_pen", "_law_most"], ⟨rfl, rfl, rfl, by decide +kernel, rfl, by decide +kernel, by decide +kernel⟩, rfl, fun K f fd F n hn => ?_⟩, by decide +kernel⟩
  obtain rfl : n = 0 := Nat.le_zero.mp hn
  exact ⟨[], [], rfl, .nil, L2.FunD.bindsN (ps := ["_law_pen", "_law_most"]) F fun _ _ _ _ _ _ us hl => match us, hl with | [_, _], _ => rfl⟩
theorem s__law_drift : DefS pg d__law_drift t__law_drift := by
  refine ⟨rfl, rfl, rfl, rfl, ⟨["_law_clock", "_law_moment"], ⟨rfl, rfl, rfl, by decide +kernel, rfl, by decide +kernel, by decide +kernel⟩, rfl, fun K f fd F n hn => ?_⟩, by decide +kernel⟩
  obtain rfl : n = 0 := Nat.le_zero.mp hn
  exact ⟨[], [], rfl, .nil, L2.FunD.bindsN (ps := ["_law_clock", "_law_moment"]) F fun _ _ _ _ _ _ us hl => match us, hl with | [_, _], _ => rfl⟩
theorem s__law_shown : DefS pg d__law_shown t__law_shown := by
  refine ⟨rfl, rfl, rfl, rfl, ⟨["_law_clock", "_law_moment", "_law_error"], ⟨rfl, rfl, rfl, by decide +kernel, rfl, by decide +kernel, by decide +kernel⟩, rfl, fun K f fd F n hn => ?_⟩, by decide +kernel⟩
  obtain rfl : n = 0 := Nat.le_zero.mp hn
  exact ⟨[], [], rfl, .nil, L2.FunD.bindsN (ps := ["_law_clock", "_law_moment", "_law_error"]) F fun _ _ _ _ _ _ us hl => match us, hl with | [_, _, _], _ => rfl⟩
theorem s_law : DefS pg d_law t_law := by
  refine ⟨rfl, rfl, rfl, rfl, ⟨["_law_script"], ⟨rfl, rfl, rfl, by decide +kernel, rfl, by decide +kernel, by decide +kernel⟩, rfl, fun K f fd F n hn => ?_⟩, by decide +kernel⟩
  obtain rfl : n = 0 := Nat.le_zero.mp hn
  exact ⟨[], [], rfl, .nil, L2.FunD.bindsN (ps := ["_law_script"]) F fun _ _ _ _ _ _ us hl => match us, hl with | [_], _ => rfl⟩
theorem all_s : DefsS pg pg.defs fn := .cons s_is_whole (.cons s_shared (.cons s_lowest (.cons s_is_part (.cons s_need_part (.cons s_plus (.cons s_product (.cons s_below (.cons s_is_gain (.cons s_is_moment (.cons s_is_set (.cons s_is_clock (.cons s_need_clock (.cons s_need_moment (.cons s_own_error (.cons s_jumps_till (.cons s_drift_by (.cons s_drift (.cons s_shown_by (.cons s_shown_at (.cons s__law_cell_at (.cons s__law_next (.cons s__law_pen_of (.cons s__law_draw (.cons s__law_made (.cons s__law_sum (.cons s__law_rest (.cons s__law_prod (.cons s__law_under (.cons s__law_some (.cons s__law_up (.cons s__law_gain (.cons s__law_sets (.cons s__law_drift (.cons s__law_shown (.cons s_law (.nil))))))))))))))))))))))))))))))))))))
/-! ### the head -/
theorem ob_eq (s : PySem.W.SharedT) : ob s = hk.obs s.abs := seeP_eq (HandSHeadRun.getT_eq s)
end Law
set_option Elab.async false
set_option linter.all false
set_option maxRecDepth 100000
set_option maxHeartbeats 0
namespace Law
open PySem G43
local macro_rules
  | `(tactic| exists $es,*) => `(tactic| simp only [↓e_var0, ↓e_varS, ↓e_cst, ↓e_bin, ↓e_neg, ↓e_nt, ↓e_and, ↓e_or, ↓e_cmp, ↓e_call, ↓e_bi, ↓e_isi, ↓e_idx, ↓e_slo, ↓e_shi, ↓e_slh, ↓e_tup, ↓e_lst, ↓e_mls, ↓e_comp, ↓l_nil, ↓l_cons, ↓i_seq, ↓i_rng1, ↓i_zip, ↓ts_nil, ↓ts_cons, ↓b_def, ↓st_set, ↓st_par, ↓st_sub, ↓st_app, ↓s_exp, ↓s_iff, ↓s_for, ↓s_whl, ↓s_ret, ↓s_retN, ↓s_pass, ↓sl_nil, ↓sl_cons, ↓n_set0, ↓n_setS, ↓n_kil0, ↓n_kilS, ↓n_sa0, ↓n_saS, ↓t_nm, ↓t_tup, ↓t_lnil, ↓t_lcons, ↓k_if, ↓k_neg, ↓k_bin, ↓k_cmp, ↓k_bi0, ↓k_bi1, ↓k_bi2, ↓is_tup, ↓is_int, ↓is_intb, ↓p_ix0, ↓p_ix1, ↓p_is, ↓k_ixt0, ↓k_ixt1, ↓k_ixt2, ↓k_s1t, ↓k_s1l, ↓k_s1s, ↓k_s2t, ↓k_s2l, ↓k_s3t, ↓k_s3l, ↓k_s3s, ↓k_ps0, ↓k_psS, ↓k_pv, ↓k_frT, ↓k_sql, ↓k_sqt, ↓k_sqs, ↓k_zipl, ↓k_zipt, ↓k_ap1T, ↓k_ap2T, ↓fin_pv, ↓o_addi, ↓o_addl, ↓o_addt, ↓o_adds, ↓o_subi, ↓o_muli, ↓o_divi, ↓o_modi, ↓o_powi, ↓c_eqi, ↓c_nei, ↓c_lti, ↓c_lei, ↓c_gti, ↓c_gei, ↓c_isn, ↓c_isnn, ↓f_lent, ↓f_lenl, ↓f_lens, ↓f_abs, ↓f_max, ↓f_int, ↓f_intb, ↓f_tupl, ↓f_tupt, ↓f_lstl, ↓f_lstt, ↓p_len, ↓p_eq, ↓p_ne, ↓k_ap1S, ↓k_ap2S, ↓k_frS, ↓k_birT, ↓k_birS, ↓e_mad, ↓k_madp, ↓k_mrpp, ↓g_NOUGHT, ↓g_MOST_GAIN, ↓g_LEAST_GAIN, ↓g_HOURS, ↓g_MOST_SETS, n_slot0, n_slot1, n_slotS, take_self, take_top, take_selfS, take_topS, isn_non, isn_tup, isn_int, isn_lst, isn_str, p_isn, p_01, length_setH, set_setH, f_all, f_any, x_mapnil, x_mapcons, x_appnil, x_consapp, x_nilapp, x_lennil, x_lencons, x_decT, x_notT, x_decF, x_nt, x_nf, x_ft, x_tt, x_ff, x_tf, x_iteT, x_iteF, x_iteN, x_ta, x_at, $[$es:term],*])
theorem is_whole_ok (i : Int) : Ret pg 1 i_is_whole [.int i] (.bl true) := by
  intro d hd h Q X z
  obtain ⟨d, rfl⟩ : ∃ e, d = e + 1 := ⟨d - 1, by omega⟩
  refine in_is_whole ?_
  (try exists x_ta, b_is_whole)
  exact z
theorem shared_ok (a b : Int) (hb : 0 ≤ b) : Ret pg 1 i_shared [.int a, .int b] (.int (Int.gcd a b)) := by
  intro d hd h Q X z
  obtain ⟨d, rfl⟩ : ∃ e, d = e + 1 := ⟨d - 1, by omega⟩
  refine in_shared ?_
  (try exists x_ta, b_shared)
  refine ⟨fun m ρ h' => ∃ x y : Int, ρ = [some (.pv (.int x)), some (.pv (.int y))] ∧ h' = h ∧ 0 ≤ x ∧ 0 ≤ y ∧ Int.gcd x y = Int.gcd a b ∧ m = x.toNat, ⟨_, _, _, rfl, rfl, ?_, hb, ?_, rfl⟩, ?_⟩
  · split <;> omega
  · split
    · rw [Int.neg_gcd]
    · rfl
  · rintro m ρ h' ⟨x, y, rfl, rfl, hx, hy, hg, rfl⟩
    (try exists x_ta)
    split
    · rename_i hx0
      have h1 := Int.emod_lt_of_pos y hx0
      have h2 := Int.emod_nonneg y (show x ≠ 0 by omega)
      exact ⟨hx0, (y % x).toNat, by omega, y % x, x, rfl, h2, hx, by rw [gcd_step _ _ hx hy, hg], rfl⟩
    · obtain rfl : x = 0 := by omega
      rw [Int.zero_gcd] at hg
      have e : y = (Int.gcd a b : Int) := by omega
      rw [e]
      exact z
theorem lowest_ok (n m : Int) {b : Nat} (hm : m ≠ 0) (hb : m.natAbs < 2 ^ b) (h9 : b ≤ 9000) : Ret pg 2 i_lowest [.int n, .int m] (pt (Rat.divInt n m)) := by
  intro d hd h Q X z
  obtain ⟨d, rfl⟩ : ∃ e, d = e + 1 := ⟨d - 1, by omega⟩
  refine in_lowest ?_
  (try exists x_ta, b_lowest)
  split
  · rename_i h0
    refine shared_ok _ _ (by omega) d (by omega) _ _ _ ?_
    have hp : 0 < 0 - m := by omega
    have hc : ∀ x, L2.CDivW x ((Int.gcd (0 - n) (0 - m) : Int)) := fun x => divW (gcd_pos hp) (gcd_lt hp (by rw [Int.zero_sub, Int.natAbs_neg]; exact hb)) h9
    (try exists x_ta)
    refine ⟨hc _, hc _, ?_⟩
    rw [low_pos hp, Int.zero_sub, Int.zero_sub, Rat.neg_divInt_neg]
    exact z
  · rename_i h0
    refine shared_ok _ _ (by omega) d (by omega) _ _ _ ?_
    have hp : 0 < m := by omega
    have hc : ∀ x, L2.CDivW x ((Int.gcd n m : Int)) := fun x => divW (gcd_pos hp) (gcd_lt hp hb) h9
    (try exists x_ta)
    refine ⟨hc _, hc _, ?_⟩
    rw [low_pos hp]
    exact z
theorem is_part_ok (q : Rat) : Ret pg 2 i_is_part [pt q] (.bl true) := by
  intro d hd h Q X z
  obtain ⟨d, rfl⟩ : ∃ e, d = e + 1 := ⟨d - 1, by omega⟩
  refine in_is_part ?_
  (try exists x_ta, b_is_part)
  refine is_whole_ok _ d (by omega) _ _ _ ?_
  (try exists x_ta)
  refine is_whole_ok _ d (by omega) _ _ _ ?_
  (try exists x_ta)
  rw [if_pos (den_pos' q)]
  refine shared_ok _ _ (by omega) d (by omega) _ _ _ ?_
  (try exists x_ta)
  have e : Int.gcd q.num q.den = 1 := by
    unfold Int.gcd
    rw [den_nat]
    exact q.reduced
  rw [e]
  exact z
theorem need_part_ok (q : Rat) : Ret pg 3 i_need_part [pt q] .non := by
  intro d hd h Q X z
  obtain ⟨d, rfl⟩ : ∃ e, d = e + 1 := ⟨d - 1, by omega⟩
  refine in_need_part ?_
  (try exists x_ta, b_need_part)
  (repeat ((first | refine is_whole_ok _ _ (by omega) _ _ _ ?_ | refine is_part_ok _ _ (by omega) _ _ _ ?_); (try exists x_ta)))
  exact z
theorem plus_ok {p q : Rat} {a b : Nat} (sp : Sz a p) (sq : Sz b q) (h9 : a + b ≤ 9000) : Ret pg 3 i_plus [pt p, pt q] (pt (p + q)) := by
  intro d hd h Q X z
  obtain ⟨d, rfl⟩ : ∃ e, d = e + 1 := ⟨d - 1, by omega⟩
  refine in_plus ?_
  (try exists x_ta, b_plus)
  refine ⟨sp.nd sq (by omega), sq.nd sp (by omega), sp.dd sq (by omega), ?_⟩
  refine lowest_ok _ _ (b := a + b) (Int.ne_of_gt (Int.mul_pos (den_pos' p) (den_pos' q))) ?_ h9 d (by omega) _ _ _ ?_
  · rw [Int.natAbs_mul, den_nat, den_nat, Nat.pow_add]
    exact Nat.mul_lt_mul'' sp.2 sq.2
  · (try exists x_ta, add_made)
    exact z
theorem product_ok {p q : Rat} {a b : Nat} (sp : Sz a p) (sq : Sz b q) (h9 : a + b ≤ 9000) : Ret pg 3 i_product [pt p, pt q] (pt (p * q)) := by
  intro d hd h Q X z
  obtain ⟨d, rfl⟩ : ∃ e, d = e + 1 := ⟨d - 1, by omega⟩
  refine in_product ?_
  (try exists x_ta, b_product)
  refine ⟨sp.nn sq (by omega), sp.dd sq (by omega), ?_⟩
  refine lowest_ok _ _ (b := a + b) (Int.ne_of_gt (Int.mul_pos (den_pos' p) (den_pos' q))) ?_ h9 d (by omega) _ _ _ ?_
  · rw [Int.natAbs_mul, den_nat, den_nat, Nat.pow_add]
    exact Nat.mul_lt_mul'' sp.2 sq.2
  · (try exists x_ta, mul_made)
    exact z
theorem below_ok {p q : Rat} {a b : Nat} (sp : Sz a p) (sq : Sz b q) (h9 : a + b ≤ 9000) : Ret pg 1 i_below [pt p, pt q] (.bl (decide (p < q))) := by
  intro d hd h Q X z
  obtain ⟨d, rfl⟩ : ∃ e, d = e + 1 := ⟨d - 1, by omega⟩
  refine in_below ?_
  (try exists x_ta, b_below, lt_made)
  exact ⟨sp.nd sq (by omega), sq.nd sp (by omega), z⟩
theorem is_gain_ok {q : Rat} {a : Nat} (s : Sz a q) (h9 : a ≤ 8000) (h1 : -12 ≤ q) (h2 : q ≤ 12) : Ret pg 3 i_is_gain [pt q] (.bl true) := by
  have s1 : Sz 4 (-12 : Rat) := ⟨by decide, by decide⟩
  have s2 : Sz 4 (12 : Rat) := ⟨by decide, by decide⟩
  intro d hd h Q X z
  obtain ⟨d, rfl⟩ : ∃ e, d = e + 1 := ⟨d - 1, by omega⟩
  refine in_is_gain ?_
  (try exists x_ta, b_is_gain)
  (repeat ((first | refine is_whole_ok _ _ (by omega) _ _ _ ?_ | refine is_part_ok _ _ (by omega) _ _ _ ?_ | refine need_part_ok _ _ (by omega) _ _ _ ?_ | refine plus_ok (by repeat' (first | assumption | exact sz0 | apply Sz.add | apply Sz.sub | apply Sz.mulp | apply Sz.neg)) (by repeat' (first | assumption | exact sz0 | apply Sz.add | apply Sz.sub | apply Sz.mulp | apply Sz.neg)) (by omega) _ (by omega) _ _ _ ?_ | refine product_ok (by repeat' (first | assumption | exact sz0 | apply Sz.add | apply Sz.sub | apply Sz.mulp | apply Sz.neg)) (by repeat' (first | assumption | exact sz0 | apply Sz.add | apply Sz.sub | apply Sz.mulp | apply Sz.neg)) (by omega) _ (by omega) _ _ _ ?_ | refine below_ok (by repeat' (first | assumption | exact sz0 | apply Sz.add | apply Sz.sub | apply Sz.mulp | apply Sz.neg)) (by repeat' (first | assumption | exact sz0 | apply Sz.add | apply Sz.sub | apply Sz.mulp | apply Sz.neg)) (by omega) _ (by omega) _ _ _ ?_); (try exists x_ta)))
  rw [if_neg (Rat.not_lt.mpr h1)]
  (repeat ((first | refine is_whole_ok _ _ (by omega) _ _ _ ?_ | refine is_part_ok _ _ (by omega) _ _ _ ?_ | refine need_part_ok _ _ (by omega) _ _ _ ?_ | refine plus_ok (by repeat' (first | assumption | exact sz0 | apply Sz.add | apply Sz.sub | apply Sz.mulp | apply Sz.neg)) (by repeat' (first | assumption | exact sz0 | apply Sz.add | apply Sz.sub | apply Sz.mulp | apply Sz.neg)) (by omega) _ (by omega) _ _ _ ?_ | refine product_ok (by repeat' (first | assumption | exact sz0 | apply Sz.add | apply Sz.sub | apply Sz.mulp | apply Sz.neg)) (by repeat' (first | assumption | exact sz0 | apply Sz.add | apply Sz.sub | apply Sz.mulp | apply Sz.neg)) (by omega) _ (by omega) _ _ _ ?_ | refine below_ok (by repeat' (first | assumption | exact sz0 | apply Sz.add | apply Sz.sub | apply Sz.mulp | apply Sz.neg)) (by repeat' (first | assumption | exact sz0 | apply Sz.add | apply Sz.sub | apply Sz.mulp | apply Sz.neg)) (by omega) _ (by omega) _ _ _ ?_); (try exists x_ta)))
  rw [decide_eq_false (Rat.not_lt.mpr h2)]
  exact z
theorem is_moment_ok {q : Rat} (h1 : 0 ≤ q) : Ret pg 3 i_is_moment [pt q] (.bl true) := by
  intro d hd h Q X z
  obtain ⟨d, rfl⟩ : ∃ e, d = e + 1 := ⟨d - 1, by omega⟩
  refine in_is_moment ?_
  (try exists x_ta, b_is_moment)
  (repeat ((first | refine is_whole_ok _ _ (by omega) _ _ _ ?_ | refine is_part_ok _ _ (by omega) _ _ _ ?_ | refine need_part_ok _ _ (by omega) _ _ _ ?_ | refine plus_ok (by repeat' (first | assumption | exact sz0 | apply Sz.add | apply Sz.sub | apply Sz.mulp | apply Sz.neg)) (by repeat' (first | assumption | exact sz0 | apply Sz.add | apply Sz.sub | apply Sz.mulp | apply Sz.neg)) (by omega) _ (by omega) _ _ _ ?_ | refine product_ok (by repeat' (first | assumption | exact sz0 | apply Sz.add | apply Sz.sub | apply Sz.mulp | apply Sz.neg)) (by repeat' (first | assumption | exact sz0 | apply Sz.add | apply Sz.sub | apply Sz.mulp | apply Sz.neg)) (by omega) _ (by omega) _ _ _ ?_ | refine below_ok (by repeat' (first | assumption | exact sz0 | apply Sz.add | apply Sz.sub | apply Sz.mulp | apply Sz.neg)) (by repeat' (first | assumption | exact sz0 | apply Sz.add | apply Sz.sub | apply Sz.mulp | apply Sz.neg)) (by omega) _ (by omega) _ _ _ ?_ | refine is_gain_ok (by repeat' (first | assumption | exact sz0 | apply Sz.add | apply Sz.sub | apply Sz.mulp | apply Sz.neg)) (by omega) (by assumption) (by assumption) _ (by omega) _ _ _ ?_); (try exists x_ta)))
  rw [decide_eq_true (Rat.num_nonneg.mpr h1)]
  exact z
theorem is_set_ok {p q : Rat} (h1 : 0 ≤ p) (h2 : q ≠ 0) : Ret pg 4 i_is_set [.tup [pt p, pt q]] (.bl true) := by
  intro d hd h Q X z
  obtain ⟨d, rfl⟩ : ∃ e, d = e + 1 := ⟨d - 1, by omega⟩
  refine in_is_set ?_
  (try exists x_ta, b_is_set)
  (repeat ((first | refine is_whole_ok _ _ (by omega) _ _ _ ?_ | refine is_part_ok _ _ (by omega) _ _ _ ?_ | refine need_part_ok _ _ (by omega) _ _ _ ?_ | refine plus_ok (by repeat' (first | assumption | exact sz0 | apply Sz.add | apply Sz.sub | apply Sz.mulp | apply Sz.neg)) (by repeat' (first | assumption | exact sz0 | apply Sz.add | apply Sz.sub | apply Sz.mulp | apply Sz.neg)) (by omega) _ (by omega) _ _ _ ?_ | refine product_ok (by repeat' (first | assumption | exact sz0 | apply Sz.add | apply Sz.sub | apply Sz.mulp | apply Sz.neg)) (by repeat' (first | assumption | exact sz0 | apply Sz.add | apply Sz.sub | apply Sz.mulp | apply Sz.neg)) (by omega) _ (by omega) _ _ _ ?_ | refine below_ok (by repeat' (first | assumption | exact sz0 | apply Sz.add | apply Sz.sub | apply Sz.mulp | apply Sz.neg)) (by repeat' (first | assumption | exact sz0 | apply Sz.add | apply Sz.sub | apply Sz.mulp | apply Sz.neg)) (by omega) _ (by omega) _ _ _ ?_ | refine is_gain_ok (by repeat' (first | assumption | exact sz0 | apply Sz.add | apply Sz.sub | apply Sz.mulp | apply Sz.neg)) (by omega) (by assumption) (by assumption) _ (by omega) _ _ _ ?_ | refine is_moment_ok (by assumption) _ (by omega) _ _ _ ?_); (try exists x_ta)))
  rw [decide_eq_false h2]
  exact z
theorem is_clock_ok {b : Nat} {g : Rat} {s : List (Rat × Rat)} (k : OkC b g s) (h9 : 2 * b ≤ 8000) : Ret pg 5 i_is_clock [ck g s] (.bl true) := by
  have zg := k.zg
  have g1 := k.g1
  have g2 := k.g2
  intro d hd h Q X z
  obtain ⟨d, rfl⟩ : ∃ e, d = e + 1 := ⟨d - 1, by omega⟩
  refine in_is_clock ?_
  (try exists x_ta, b_is_clock, ck)
  (repeat ((first | refine is_whole_ok _ _ (by omega) _ _ _ ?_ | refine is_part_ok _ _ (by omega) _ _ _ ?_ | refine need_part_ok _ _ (by omega) _ _ _ ?_ | refine plus_ok (by repeat' (first | assumption | exact sz0 | apply Sz.add | apply Sz.sub | apply Sz.mulp | apply Sz.neg)) (by repeat' (first | assumption | exact sz0 | apply Sz.add | apply Sz.sub | apply Sz.mulp | apply Sz.neg)) (by omega) _ (by omega) _ _ _ ?_ | refine product_ok (by repeat' (first | assumption | exact sz0 | apply Sz.add | apply Sz.sub | apply Sz.mulp | apply Sz.neg)) (by repeat' (first | assumption | exact sz0 | apply Sz.add | apply Sz.sub | apply Sz.mulp | apply Sz.neg)) (by omega) _ (by omega) _ _ _ ?_ | refine below_ok (by repeat' (first | assumption | exact sz0 | apply Sz.add | apply Sz.sub | apply Sz.mulp | apply Sz.neg)) (by repeat' (first | assumption | exact sz0 | apply Sz.add | apply Sz.sub | apply Sz.mulp | apply Sz.neg)) (by omega) _ (by omega) _ _ _ ?_ | refine is_gain_ok (by repeat' (first | assumption | exact sz0 | apply Sz.add | apply Sz.sub | apply Sz.mulp | apply Sz.neg)) (by omega) (by assumption) (by assumption) _ (by omega) _ _ _ ?_ | refine is_moment_ok (by assumption) _ (by omega) _ _ _ ?_ | refine is_set_ok (by assumption) (by assumption) _ (by omega) _ _ _ ?_); (try exists x_ta)))
  rw [List.length_map, if_neg (by have := k.l; omega)]
  refine ⟨by have := k.l; have : 1000 ≤ sizeLine := by decide
             omega, ?_⟩
  refine compT_map1 encS (fun x => .bl ((fun _ => true) x)) trivial s (fun a ha q hq => ?_) ?_
  · (try exists x_ta, encS)
    obtain ⟨p1, p2⟩ := k.p a ha
    (repeat ((first | refine is_whole_ok _ _ (by omega) _ _ _ ?_ | refine is_part_ok _ _ (by omega) _ _ _ ?_ | refine need_part_ok _ _ (by omega) _ _ _ ?_ | refine plus_ok (by repeat' (first | assumption | exact sz0 | apply Sz.add | apply Sz.sub | apply Sz.mulp | apply Sz.neg)) (by repeat' (first | assumption | exact sz0 | apply Sz.add | apply Sz.sub | apply Sz.mulp | apply Sz.neg)) (by omega) _ (by omega) _ _ _ ?_ | refine product_ok (by repeat' (first | assumption | exact sz0 | apply Sz.add | apply Sz.sub | apply Sz.mulp | apply Sz.neg)) (by repeat' (first | assumption | exact sz0 | apply Sz.add | apply Sz.sub | apply Sz.mulp | apply Sz.neg)) (by omega) _ (by omega) _ _ _ ?_ | refine below_ok (by repeat' (first | assumption | exact sz0 | apply Sz.add | apply Sz.sub | apply Sz.mulp | apply Sz.neg)) (by repeat' (first | assumption | exact sz0 | apply Sz.add | apply Sz.sub | apply Sz.mulp | apply Sz.neg)) (by omega) _ (by omega) _ _ _ ?_ | refine is_gain_ok (by repeat' (first | assumption | exact sz0 | apply Sz.add | apply Sz.sub | apply Sz.mulp | apply Sz.neg)) (by omega) (by assumption) (by assumption) _ (by omega) _ _ _ ?_ | refine is_moment_ok (by assumption) _ (by omega) _ _ _ ?_ | refine is_set_ok (by assumption) (by assumption) _ (by omega) _ _ _ ?_); (try exists x_ta)))
    exact hq
  · (try exists x_ta, cut1)
    rw [show (List.all s fun _ => true) = true by simp]
    (try exists x_ta)
    rw [← List.map_tail, zip_map]
    refine ⟨by rw [List.length_map, List.length_zip]; have := k.l; have : 1000 ≤ sizeLine := by decide
               omega, ?_⟩
    refine compT_map1 (fun p : (Rat × Rat) × (Rat × Rat) => PV.tup [encS p.1, encS p.2]) (fun x => .bl ((fun _ => true) x)) trivial _ (fun a ha q hq => ?_) ?_
    · (try exists x_ta, encS)
      obtain ⟨z1, _⟩ := k.z a.1 (zip_mem ha).1
      obtain ⟨z2, _⟩ := k.z a.2 (List.mem_of_mem_tail (zip_mem ha).2)
      (repeat ((first | refine is_whole_ok _ _ (by omega) _ _ _ ?_ | refine is_part_ok _ _ (by omega) _ _ _ ?_ | refine need_part_ok _ _ (by omega) _ _ _ ?_ | refine plus_ok (by repeat' (first | assumption | exact sz0 | apply Sz.add | apply Sz.sub | apply Sz.mulp | apply Sz.neg)) (by repeat' (first | assumption | exact sz0 | apply Sz.add | apply Sz.sub | apply Sz.mulp | apply Sz.neg)) (by omega) _ (by omega) _ _ _ ?_ | refine product_ok (by repeat' (first | assumption | exact sz0 | apply Sz.add | apply Sz.sub | apply Sz.mulp | apply Sz.neg)) (by repeat' (first | assumption | exact sz0 | apply Sz.add | apply Sz.sub | apply Sz.mulp | apply Sz.neg)) (by omega) _ (by omega) _ _ _ ?_ | refine below_ok (by repeat' (first | assumption | exact sz0 | apply Sz.add | apply Sz.sub | apply Sz.mulp | apply Sz.neg)) (by repeat' (first | assumption | exact sz0 | apply Sz.add | apply Sz.sub | apply Sz.mulp | apply Sz.neg)) (by omega) _ (by omega) _ _ _ ?_ | refine is_gain_ok (by repeat' (first | assumption | exact sz0 | apply Sz.add | apply Sz.sub | apply Sz.mulp | apply Sz.neg)) (by omega) (by assumption) (by assumption) _ (by omega) _ _ _ ?_ | refine is_moment_ok (by assumption) _ (by omega) _ _ _ ?_ | refine is_set_ok (by assumption) (by assumption) _ (by omega) _ _ _ ?_); (try exists x_ta)))
      rw [decide_eq_true (zip_tail k.o a ha)]
      exact hq
    · (try exists x_ta)
      rw [show (List.all (s.zip s.tail) fun _ => true) = true by simp]
      exact z
theorem need_clock_ok {b : Nat} {g : Rat} {s : List (Rat × Rat)} (k : OkC b g s) (h9 : 2 * b ≤ 8000) : Ret pg 6 i_need_clock [ck g s] .non := by
  intro d hd h Q X z
  obtain ⟨d, rfl⟩ : ∃ e, d = e + 1 := ⟨d - 1, by omega⟩
  refine in_need_clock ?_
  (try exists x_ta, b_need_clock)
  (repeat ((first | refine is_whole_ok _ _ (by omega) _ _ _ ?_ | refine is_part_ok _ _ (by omega) _ _ _ ?_ | refine need_part_ok _ _ (by omega) _ _ _ ?_ | refine plus_ok (by repeat' (first | assumption | exact sz0 | apply Sz.add | apply Sz.sub | apply Sz.mulp | apply Sz.neg)) (by repeat' (first | assumption | exact sz0 | apply Sz.add | apply Sz.sub | apply Sz.mulp | apply Sz.neg)) (by omega) _ (by omega) _ _ _ ?_ | refine product_ok (by repeat' (first | assumption | exact sz0 | apply Sz.add | apply Sz.sub | apply Sz.mulp | apply Sz.neg)) (by repeat' (first | assumption | exact sz0 | apply Sz.add | apply Sz.sub | apply Sz.mulp | apply Sz.neg)) (by omega) _ (by omega) _ _ _ ?_ | refine below_ok (by repeat' (first | assumption | exact sz0 | apply Sz.add | apply Sz.sub | apply Sz.mulp | apply Sz.neg)) (by repeat' (first | assumption | exact sz0 | apply Sz.add | apply Sz.sub | apply Sz.mulp | apply Sz.neg)) (by omega) _ (by omega) _ _ _ ?_ | refine is_gain_ok (by repeat' (first | assumption | exact sz0 | apply Sz.add | apply Sz.sub | apply Sz.mulp | apply Sz.neg)) (by omega) (by assumption) (by assumption) _ (by omega) _ _ _ ?_ | refine is_moment_ok (by assumption) _ (by omega) _ _ _ ?_ | refine is_set_ok (by assumption) (by assumption) _ (by omega) _ _ _ ?_ | refine is_clock_ok (by assumption) (by omega) _ (by omega) _ _ _ ?_); (try exists x_ta)))
  exact z
theorem need_moment_ok {q : Rat} (h1 : 0 ≤ q) : Ret pg 4 i_need_moment [pt q] .non := by
  intro d hd h Q X z
  obtain ⟨d, rfl⟩ : ∃ e, d = e + 1 := ⟨d - 1, by omega⟩
  refine in_need_moment ?_
  (try exists x_ta, b_need_moment)
  (repeat ((first | refine is_whole_ok _ _ (by omega) _ _ _ ?_ | refine is_part_ok _ _ (by omega) _ _ _ ?_ | refine need_part_ok _ _ (by omega) _ _ _ ?_ | refine plus_ok (by repeat' (first | assumption | exact sz0 | apply Sz.add | apply Sz.sub | apply Sz.mulp | apply Sz.neg)) (by repeat' (first | assumption | exact sz0 | apply Sz.add | apply Sz.sub | apply Sz.mulp | apply Sz.neg)) (by omega) _ (by omega) _ _ _ ?_ | refine product_ok (by repeat' (first | assumption | exact sz0 | apply Sz.add | apply Sz.sub | apply Sz.mulp | apply Sz.neg)) (by repeat' (first | assumption | exact sz0 | apply Sz.add | apply Sz.sub | apply Sz.mulp | apply Sz.neg)) (by omega) _ (by omega) _ _ _ ?_ | refine below_ok (by repeat' (first | assumption | exact sz0 | apply Sz.add | apply Sz.sub | apply Sz.mulp | apply Sz.neg)) (by repeat' (first | assumption | exact sz0 | apply Sz.add | apply Sz.sub | apply Sz.mulp | apply Sz.neg)) (by omega) _ (by omega) _ _ _ ?_ | refine is_gain_ok (by repeat' (first | assumption | exact sz0 | apply Sz.add | apply Sz.sub | apply Sz.mulp | apply Sz.neg)) (by omega) (by assumption) (by assumption) _ (by omega) _ _ _ ?_ | refine is_moment_ok (by assumption) _ (by omega) _ _ _ ?_ | refine is_set_ok (by assumption) (by assumption) _ (by omega) _ _ _ ?_ | refine is_clock_ok (by assumption) (by omega) _ (by omega) _ _ _ ?_ | refine need_clock_ok (by assumption) (by omega) _ (by omega) _ _ _ ?_); (try exists x_ta)))
  exact z
theorem own_error_ok (q : Rat) : Ret pg 4 i_own_error [pt q] (pt q) := by
  intro d hd h Q X z
  obtain ⟨d, rfl⟩ : ∃ e, d = e + 1 := ⟨d - 1, by omega⟩
  refine in_own_error ?_
  (try exists x_ta, b_own_error)
  (repeat ((first | refine is_whole_ok _ _ (by omega) _ _ _ ?_ | refine is_part_ok _ _ (by omega) _ _ _ ?_ | refine need_part_ok _ _ (by omega) _ _ _ ?_ | refine plus_ok (by repeat' (first | assumption | exact sz0 | apply Sz.add | apply Sz.sub | apply Sz.mulp | apply Sz.neg)) (by repeat' (first | assumption | exact sz0 | apply Sz.add | apply Sz.sub | apply Sz.mulp | apply Sz.neg)) (by omega) _ (by omega) _ _ _ ?_ | refine product_ok (by repeat' (first | assumption | exact sz0 | apply Sz.add | apply Sz.sub | apply Sz.mulp | apply Sz.neg)) (by repeat' (first | assumption | exact sz0 | apply Sz.add | apply Sz.sub | apply Sz.mulp | apply Sz.neg)) (by omega) _ (by omega) _ _ _ ?_ | refine below_ok (by repeat' (first | assumption | exact sz0 | apply Sz.add | apply Sz.sub | apply Sz.mulp | apply Sz.neg)) (by repeat' (first | assumption | exact sz0 | apply Sz.add | apply Sz.sub | apply Sz.mulp | apply Sz.neg)) (by omega) _ (by omega) _ _ _ ?_ | refine is_gain_ok (by repeat' (first | assumption | exact sz0 | apply Sz.add | apply Sz.sub | apply Sz.mulp | apply Sz.neg)) (by omega) (by assumption) (by assumption) _ (by omega) _ _ _ ?_ | refine is_moment_ok (by assumption) _ (by omega) _ _ _ ?_ | refine is_set_ok (by assumption) (by assumption) _ (by omega) _ _ _ ?_ | refine is_clock_ok (by assumption) (by omega) _ (by omega) _ _ _ ?_ | refine need_clock_ok (by assumption) (by omega) _ (by omega) _ _ _ ?_ | refine need_moment_ok (by assumption) _ (by omega) _ _ _ ?_); (try exists x_ta)))
  exact z
theorem own_none_ok : Ret pg 4 i_own_error [.non] (pt 0) := by
  intro d hd h Q X z
  obtain ⟨d, rfl⟩ : ∃ e, d = e + 1 := ⟨d - 1, by omega⟩
  refine in_own_error ?_
  (try exists x_ta, b_own_error)
  exact z
theorem jumps_till_ok {b c : Nat} {g m : Rat} {s : List (Rat × Rat)} (k : OkC b g s) (sm : Sz c m) (h9 : 7 * b + c ≤ 8000) : Ret pg 4 i_jumps_till [ck g s, pt m] (pt (jt s m)) := by
  intro d hd h Q X z
  obtain ⟨d, rfl⟩ : ∃ e, d = e + 1 := ⟨d - 1, by omega⟩
  refine in_jumps_till ?_
  (try exists x_ta, b_jumps_till, ck)
  refine loopT_fold encS (fun a => [some (.pv (ck g s)), some (.pv (pt m)), some (.pv (pt a)), none, none]) (jf m) trivial s 0 (fun pre a post hs q hq => ?_) ?_
  · (try exists x_ta, encS)
    have hz := k.z a (by rw [hs]; simp)
    have z1 := hz.1
    have z2 := hz.2
    have hl := k.l
    have zj : Sz (1 + 5 * (b + 1)) (pre.foldl (jf m) 0) := sz_jt (fun x hx => k.z x (by rw [hs]; simp [hx])) (by rw [hs] at hl; simp at hl; omega)
    (repeat ((first | refine is_whole_ok _ _ (by omega) _ _ _ ?_ | refine is_part_ok _ _ (by omega) _ _ _ ?_ | refine need_part_ok _ _ (by omega) _ _ _ ?_ | refine plus_ok (by repeat' (first | assumption | exact sz0 | apply Sz.add | apply Sz.sub | apply Sz.mulp | apply Sz.neg)) (by repeat' (first | assumption | exact sz0 | apply Sz.add | apply Sz.sub | apply Sz.mulp | apply Sz.neg)) (by omega) _ (by omega) _ _ _ ?_ | refine product_ok (by repeat' (first | assumption | exact sz0 | apply Sz.add | apply Sz.sub | apply Sz.mulp | apply Sz.neg)) (by repeat' (first | assumption | exact sz0 | apply Sz.add | apply Sz.sub | apply Sz.mulp | apply Sz.neg)) (by omega) _ (by omega) _ _ _ ?_ | refine below_ok (by repeat' (first | assumption | exact sz0 | apply Sz.add | apply Sz.sub | apply Sz.mulp | apply Sz.neg)) (by repeat' (first | assumption | exact sz0 | apply Sz.add | apply Sz.sub | apply Sz.mulp | apply Sz.neg)) (by omega) _ (by omega) _ _ _ ?_ | refine is_gain_ok (by repeat' (first | assumption | exact sz0 | apply Sz.add | apply Sz.sub | apply Sz.mulp | apply Sz.neg)) (by omega) (by assumption) (by assumption) _ (by omega) _ _ _ ?_ | refine is_moment_ok (by assumption) _ (by omega) _ _ _ ?_ | refine is_set_ok (by assumption) (by assumption) _ (by omega) _ _ _ ?_ | refine is_clock_ok (by assumption) (by omega) _ (by omega) _ _ _ ?_ | refine need_clock_ok (by assumption) (by omega) _ (by omega) _ _ _ ?_ | refine need_moment_ok (by assumption) _ (by omega) _ _ _ ?_ | refine own_error_ok _ _ (by omega) _ _ _ ?_ | refine own_none_ok _ (by omega) _ _ _ ?_); (try exists x_ta)))
    unfold jf at hq
    split
    · rename_i hm
      rw [if_pos hm] at hq
      exact hq
    · rename_i hm
      rw [if_neg hm] at hq
      (repeat ((first | refine is_whole_ok _ _ (by omega) _ _ _ ?_ | refine is_part_ok _ _ (by omega) _ _ _ ?_ | refine need_part_ok _ _ (by omega) _ _ _ ?_ | refine plus_ok (by repeat' (first | assumption | exact sz0 | apply Sz.add | apply Sz.sub | apply Sz.mulp | apply Sz.neg)) (by repeat' (first | assumption | exact sz0 | apply Sz.add | apply Sz.sub | apply Sz.mulp | apply Sz.neg)) (by omega) _ (by omega) _ _ _ ?_ | refine product_ok (by repeat' (first | assumption | exact sz0 | apply Sz.add | apply Sz.sub | apply Sz.mulp | apply Sz.neg)) (by repeat' (first | assumption | exact sz0 | apply Sz.add | apply Sz.sub | apply Sz.mulp | apply Sz.neg)) (by omega) _ (by omega) _ _ _ ?_ | refine below_ok (by repeat' (first | assumption | exact sz0 | apply Sz.add | apply Sz.sub | apply Sz.mulp | apply Sz.neg)) (by repeat' (first | assumption | exact sz0 | apply Sz.add | apply Sz.sub | apply Sz.mulp | apply Sz.neg)) (by omega) _ (by omega) _ _ _ ?_ | refine is_gain_ok (by repeat' (first | assumption | exact sz0 | apply Sz.add | apply Sz.sub | apply Sz.mulp | apply Sz.neg)) (by omega) (by assumption) (by assumption) _ (by omega) _ _ _ ?_ | refine is_moment_ok (by assumption) _ (by omega) _ _ _ ?_ | refine is_set_ok (by assumption) (by assumption) _ (by omega) _ _ _ ?_ | refine is_clock_ok (by assumption) (by omega) _ (by omega) _ _ _ ?_ | refine need_clock_ok (by assumption) (by omega) _ (by omega) _ _ _ ?_ | refine need_moment_ok (by assumption) _ (by omega) _ _ _ ?_ | refine own_error_ok _ _ (by omega) _ _ _ ?_ | refine own_none_ok _ (by omega) _ _ _ ?_); (try exists x_ta)))
      exact hq
  · (try exists x_ta)
    exact z
theorem drift_by_ok {b c : Nat} {g m : Rat} {s : List (Rat × Rat)} (k : OkC b g s) (sm : Sz c m) (h9 : 8 * b + 2 * c ≤ 8000) : Ret pg 5 i_drift_by [ck g s, pt m] (pt (drf g s m)) := by
  have zg := k.zg
  have b1 := zg.pos
  have zj : Sz (1 + 6 * (b + 1)) (jt s m) := sz_jt k.z k.l
  intro d hd h Q X z
  obtain ⟨d, rfl⟩ : ∃ e, d = e + 1 := ⟨d - 1, by omega⟩
  refine in_drift_by ?_
  (try exists x_ta, b_drift_by)
  simp only [show ck g s = .tup [pt g, .tup (s.map encS)] from rfl]
  (try exists x_ta)
  rw [show PV.tup [pt g, .tup (s.map encS)] = ck g s from rfl]
  (repeat ((first | refine is_whole_ok _ _ (by omega) _ _ _ ?_ | refine is_part_ok _ _ (by omega) _ _ _ ?_ | refine need_part_ok _ _ (by omega) _ _ _ ?_ | refine plus_ok (by repeat' (first | assumption | exact sz0 | apply Sz.add | apply Sz.sub | apply Sz.mulp | apply Sz.neg)) (by repeat' (first | assumption | exact sz0 | apply Sz.add | apply Sz.sub | apply Sz.mulp | apply Sz.neg)) (by omega) _ (by omega) _ _ _ ?_ | refine product_ok (by repeat' (first | assumption | exact sz0 | apply Sz.add | apply Sz.sub | apply Sz.mulp | apply Sz.neg)) (by repeat' (first | assumption | exact sz0 | apply Sz.add | apply Sz.sub | apply Sz.mulp | apply Sz.neg)) (by omega) _ (by omega) _ _ _ ?_ | refine below_ok (by repeat' (first | assumption | exact sz0 | apply Sz.add | apply Sz.sub | apply Sz.mulp | apply Sz.neg)) (by repeat' (first | assumption | exact sz0 | apply Sz.add | apply Sz.sub | apply Sz.mulp | apply Sz.neg)) (by omega) _ (by omega) _ _ _ ?_ | refine is_gain_ok (by repeat' (first | assumption | exact sz0 | apply Sz.add | apply Sz.sub | apply Sz.mulp | apply Sz.neg)) (by omega) (by assumption) (by assumption) _ (by omega) _ _ _ ?_ | refine is_moment_ok (by assumption) _ (by omega) _ _ _ ?_ | refine is_set_ok (by assumption) (by assumption) _ (by omega) _ _ _ ?_ | refine is_clock_ok (by assumption) (by omega) _ (by omega) _ _ _ ?_ | refine need_clock_ok (by assumption) (by omega) _ (by omega) _ _ _ ?_ | refine need_moment_ok (by assumption) _ (by omega) _ _ _ ?_ | refine own_error_ok _ _ (by omega) _ _ _ ?_ | refine own_none_ok _ (by omega) _ _ _ ?_ | refine jumps_till_ok (by assumption) (by repeat' (first | assumption | exact sz0 | apply Sz.add | apply Sz.sub | apply Sz.mulp | apply Sz.neg)) (by omega) _ (by omega) _ _ _ ?_); (try exists x_ta)))
  exact z
theorem sz_drf {b c : Nat} {g m : Rat} {s : List (Rat × Rat)} (k : OkC b g s) (sm : Sz c m) : Sz (c + 7 * b + 8) (drf g s m) := by
  have b1 := k.zg.pos
  exact ((sm.mul k.zg (by omega)).add (sz_jt (n := 6) k.z k.l)).up (by omega)
theorem drift_ok {b c : Nat} {g m : Rat} {s : List (Rat × Rat)} (k : OkC b g s) (sm : Sz c m) (hm : 0 ≤ m) (h9 : 8 * b + 2 * c ≤ 8000) : Ret pg 7 i_drift [ck g s, pt m] (pt (drf g s m)) := by
  intro d hd h Q X z
  obtain ⟨d, rfl⟩ : ∃ e, d = e + 1 := ⟨d - 1, by omega⟩
  refine in_drift ?_
  (try exists x_ta, b_drift)
  (repeat ((first | refine is_whole_ok _ _ (by omega) _ _ _ ?_ | refine is_part_ok _ _ (by omega) _ _ _ ?_ | refine need_part_ok _ _ (by omega) _ _ _ ?_ | refine plus_ok (by repeat' (first | assumption | exact sz0 | apply Sz.add | apply Sz.sub | apply Sz.mulp | apply Sz.neg)) (by repeat' (first | assumption | exact sz0 | apply Sz.add | apply Sz.sub | apply Sz.mulp | apply Sz.neg)) (by omega) _ (by omega) _ _ _ ?_ | refine product_ok (by repeat' (first | assumption | exact sz0 | apply Sz.add | apply Sz.sub | apply Sz.mulp | apply Sz.neg)) (by repeat' (first | assumption | exact sz0 | apply Sz.add | apply Sz.sub | apply Sz.mulp | apply Sz.neg)) (by omega) _ (by omega) _ _ _ ?_ | refine below_ok (by repeat' (first | assumption | exact sz0 | apply Sz.add | apply Sz.sub | apply Sz.mulp | apply Sz.neg)) (by repeat' (first | assumption | exact sz0 | apply Sz.add | apply Sz.sub | apply Sz.mulp | apply Sz.neg)) (by omega) _ (by omega) _ _ _ ?_ | refine is_gain_ok (by repeat' (first | assumption | exact sz0 | apply Sz.add | apply Sz.sub | apply Sz.mulp | apply Sz.neg)) (by omega) (by assumption) (by assumption) _ (by omega) _ _ _ ?_ | refine is_moment_ok (by assumption) _ (by omega) _ _ _ ?_ | refine is_set_ok (by assumption) (by assumption) _ (by omega) _ _ _ ?_ | refine is_clock_ok (by assumption) (by omega) _ (by omega) _ _ _ ?_ | refine need_clock_ok (by assumption) (by omega) _ (by omega) _ _ _ ?_ | refine need_moment_ok (by assumption) _ (by omega) _ _ _ ?_ | refine own_error_ok _ _ (by omega) _ _ _ ?_ | refine own_none_ok _ (by omega) _ _ _ ?_ | refine jumps_till_ok (by assumption) (by repeat' (first | assumption | exact sz0 | apply Sz.add | apply Sz.sub | apply Sz.mulp | apply Sz.neg)) (by omega) _ (by omega) _ _ _ ?_ | refine drift_by_ok (by assumption) (by repeat' (first | assumption | exact sz0 | apply Sz.add | apply Sz.sub | apply Sz.mulp | apply Sz.neg)) (by omega) _ (by omega) _ _ _ ?_); (try exists x_ta)))
  exact z
theorem shown_by_ok {b c e : Nat} {g m er : Rat} {s : List (Rat × Rat)} (k : OkC b g s) (sm : Sz c m) (se : Sz e er) (h9 : 8 * b + 2 * c + e ≤ 7900) : Ret pg 6 i_shown_by [ck g s, pt m, pt er] (pt (shw g s m er)) := by
  have s24 : Sz 5 (24 : Rat) := ⟨by decide, by decide⟩
  have zd := sz_drf k sm
  intro d hd h Q X z
  obtain ⟨d, rfl⟩ : ∃ e, d = e + 1 := ⟨d - 1, by omega⟩
  refine in_shown_by ?_
  (try exists x_ta, b_shown_by)
  (repeat ((first | refine is_whole_ok _ _ (by omega) _ _ _ ?_ | refine is_part_ok _ _ (by omega) _ _ _ ?_ | refine need_part_ok _ _ (by omega) _ _ _ ?_ | refine plus_ok (by repeat' (first | assumption | exact sz0 | apply Sz.add | apply Sz.sub | apply Sz.mulp | apply Sz.neg)) (by repeat' (first | assumption | exact sz0 | apply Sz.add | apply Sz.sub | apply Sz.mulp | apply Sz.neg)) (by omega) _ (by omega) _ _ _ ?_ | refine product_ok (by repeat' (first | assumption | exact sz0 | apply Sz.add | apply Sz.sub | apply Sz.mulp | apply Sz.neg)) (by repeat' (first | assumption | exact sz0 | apply Sz.add | apply Sz.sub | apply Sz.mulp | apply Sz.neg)) (by omega) _ (by omega) _ _ _ ?_ | refine below_ok (by repeat' (first | assumption | exact sz0 | apply Sz.add | apply Sz.sub | apply Sz.mulp | apply Sz.neg)) (by repeat' (first | assumption | exact sz0 | apply Sz.add | apply Sz.sub | apply Sz.mulp | apply Sz.neg)) (by omega) _ (by omega) _ _ _ ?_ | refine is_gain_ok (by repeat' (first | assumption | exact sz0 | apply Sz.add | apply Sz.sub | apply Sz.mulp | apply Sz.neg)) (by omega) (by assumption) (by assumption) _ (by omega) _ _ _ ?_ | refine is_moment_ok (by assumption) _ (by omega) _ _ _ ?_ | refine is_set_ok (by assumption) (by assumption) _ (by omega) _ _ _ ?_ | refine is_clock_ok (by assumption) (by omega) _ (by omega) _ _ _ ?_ | refine need_clock_ok (by assumption) (by omega) _ (by omega) _ _ _ ?_ | refine need_moment_ok (by assumption) _ (by omega) _ _ _ ?_ | refine own_error_ok _ _ (by omega) _ _ _ ?_ | refine own_none_ok _ (by omega) _ _ _ ?_ | refine jumps_till_ok (by assumption) (by repeat' (first | assumption | exact sz0 | apply Sz.add | apply Sz.sub | apply Sz.mulp | apply Sz.neg)) (by omega) _ (by omega) _ _ _ ?_ | refine drift_by_ok (by assumption) (by repeat' (first | assumption | exact sz0 | apply Sz.add | apply Sz.sub | apply Sz.mulp | apply Sz.neg)) (by omega) _ (by omega) _ _ _ ?_ | refine drift_ok (by assumption) (by repeat' (first | assumption | exact sz0 | apply Sz.add | apply Sz.sub | apply Sz.mulp | apply Sz.neg)) (by assumption) (by omega) _ (by omega) _ _ _ ?_); (try exists x_ta)))
  exact z
theorem sz_shw {b c e : Nat} {g m er : Rat} {s : List (Rat × Rat)} (k : OkC b g s) (sm : Sz c m) (se : Sz e er) : Sz (2 * c + 7 * b + e + 15) (shw g s m er) := by
  have s24 : Sz 5 (24 : Rat) := ⟨by decide, by decide⟩
  exact (((s24.mul sm (by omega)).add se).add (sz_drf k sm)).up (by omega)
theorem shown_at_ok {b c e : Nat} {g m er : Rat} {s : List (Rat × Rat)} (k : OkC b g s) (sm : Sz c m) (hm : 0 ≤ m) (se : Sz e er) (h9 : 8 * b + 2 * c + e ≤ 7900) : Ret pg 7 i_shown_at [ck g s, pt m, pt er] (pt (shw g s m er)) := by
  intro d hd h Q X z
  obtain ⟨d, rfl⟩ : ∃ e, d = e + 1 := ⟨d - 1, by omega⟩
  refine in_shown_at ?_
  (try exists x_ta, b_shown_at)
  (repeat ((first | refine is_whole_ok _ _ (by omega) _ _ _ ?_ | refine is_part_ok _ _ (by omega) _ _ _ ?_ | refine need_part_ok _ _ (by omega) _ _ _ ?_ | refine plus_ok (by repeat' (first | assumption | exact sz0 | apply Sz.add | apply Sz.sub | apply Sz.mulp | apply Sz.neg)) (by repeat' (first | assumption | exact sz0 | apply Sz.add | apply Sz.sub | apply Sz.mulp | apply Sz.neg)) (by omega) _ (by omega) _ _ _ ?_ | refine product_ok (by repeat' (first | assumption | exact sz0 | apply Sz.add | apply Sz.sub | apply Sz.mulp | apply Sz.neg)) (by repeat' (first | assumption | exact sz0 | apply Sz.add | apply Sz.sub | apply Sz.mulp | apply Sz.neg)) (by omega) _ (by omega) _ _ _ ?_ | refine below_ok (by repeat' (first | assumption | exact sz0 | apply Sz.add | apply Sz.sub | apply Sz.mulp | apply Sz.neg)) (by repeat' (first | assumption | exact sz0 | apply Sz.add | apply Sz.sub | apply Sz.mulp | apply Sz.neg)) (by omega) _ (by omega) _ _ _ ?_ | refine is_gain_ok (by repeat' (first | assumption | exact sz0 | apply Sz.add | apply Sz.sub | apply Sz.mulp | apply Sz.neg)) (by omega) (by assumption) (by assumption) _ (by omega) _ _ _ ?_ | refine is_moment_ok (by assumption) _ (by omega) _ _ _ ?_ | refine is_set_ok (by assumption) (by assumption) _ (by omega) _ _ _ ?_ | refine is_clock_ok (by assumption) (by omega) _ (by omega) _ _ _ ?_ | refine need_clock_ok (by assumption) (by omega) _ (by omega) _ _ _ ?_ | refine need_moment_ok (by assumption) _ (by omega) _ _ _ ?_ | refine own_error_ok _ _ (by omega) _ _ _ ?_ | refine own_none_ok _ (by omega) _ _ _ ?_ | refine jumps_till_ok (by assumption) (by repeat' (first | assumption | exact sz0 | apply Sz.add | apply Sz.sub | apply Sz.mulp | apply Sz.neg)) (by omega) _ (by omega) _ _ _ ?_ | refine drift_by_ok (by assumption) (by repeat' (first | assumption | exact sz0 | apply Sz.add | apply Sz.sub | apply Sz.mulp | apply Sz.neg)) (by omega) _ (by omega) _ _ _ ?_ | refine drift_ok (by assumption) (by repeat' (first | assumption | exact sz0 | apply Sz.add | apply Sz.sub | apply Sz.mulp | apply Sz.neg)) (by assumption) (by omega) _ (by omega) _ _ _ ?_ | refine shown_by_ok (by assumption) (by repeat' (first | assumption | exact sz0 | apply Sz.add | apply Sz.sub | apply Sz.mulp | apply Sz.neg)) (by repeat' (first | assumption | exact sz0 | apply Sz.add | apply Sz.sub | apply Sz.mulp | apply Sz.neg)) (by omega) _ (by omega) _ _ _ ?_); (try exists x_ta)))
  exact z
theorem shown_none_ok {b c : Nat} {g m : Rat} {s : List (Rat × Rat)} (k : OkC b g s) (sm : Sz c m) (hm : 0 ≤ m) (h9 : 8 * b + 2 * c ≤ 7800) : Ret pg 7 i_shown_at [ck g s, pt m, .non] (pt (shw g s m 0)) := by
  intro d hd h Q X z
  obtain ⟨d, rfl⟩ : ∃ e, d = e + 1 := ⟨d - 1, by omega⟩
  refine in_shown_at ?_
  (try exists x_ta, b_shown_at)
  (repeat ((first | refine is_whole_ok _ _ (by omega) _ _ _ ?_ | refine is_part_ok _ _ (by omega) _ _ _ ?_ | refine need_part_ok _ _ (by omega) _ _ _ ?_ | refine plus_ok (by repeat' (first | assumption | exact sz0 | apply Sz.add | apply Sz.sub | apply Sz.mulp | apply Sz.neg)) (by repeat' (first | assumption | exact sz0 | apply Sz.add | apply Sz.sub | apply Sz.mulp | apply Sz.neg)) (by omega) _ (by omega) _ _ _ ?_ | refine product_ok (by repeat' (first | assumption | exact sz0 | apply Sz.add | apply Sz.sub | apply Sz.mulp | apply Sz.neg)) (by repeat' (first | assumption | exact sz0 | apply Sz.add | apply Sz.sub | apply Sz.mulp | apply Sz.neg)) (by omega) _ (by omega) _ _ _ ?_ | refine below_ok (by repeat' (first | assumption | exact sz0 | apply Sz.add | apply Sz.sub | apply Sz.mulp | apply Sz.neg)) (by repeat' (first | assumption | exact sz0 | apply Sz.add | apply Sz.sub | apply Sz.mulp | apply Sz.neg)) (by omega) _ (by omega) _ _ _ ?_ | refine is_gain_ok (by repeat' (first | assumption | exact sz0 | apply Sz.add | apply Sz.sub | apply Sz.mulp | apply Sz.neg)) (by omega) (by assumption) (by assumption) _ (by omega) _ _ _ ?_ | refine is_moment_ok (by assumption) _ (by omega) _ _ _ ?_ | refine is_set_ok (by assumption) (by assumption) _ (by omega) _ _ _ ?_ | refine is_clock_ok (by assumption) (by omega) _ (by omega) _ _ _ ?_ | refine need_clock_ok (by assumption) (by omega) _ (by omega) _ _ _ ?_ | refine need_moment_ok (by assumption) _ (by omega) _ _ _ ?_ | refine own_error_ok _ _ (by omega) _ _ _ ?_ | refine own_none_ok _ (by omega) _ _ _ ?_ | refine jumps_till_ok (by assumption) (by repeat' (first | assumption | exact sz0 | apply Sz.add | apply Sz.sub | apply Sz.mulp | apply Sz.neg)) (by omega) _ (by omega) _ _ _ ?_ | refine drift_by_ok (by assumption) (by repeat' (first | assumption | exact sz0 | apply Sz.add | apply Sz.sub | apply Sz.mulp | apply Sz.neg)) (by omega) _ (by omega) _ _ _ ?_ | refine drift_ok (by assumption) (by repeat' (first | assumption | exact sz0 | apply Sz.add | apply Sz.sub | apply Sz.mulp | apply Sz.neg)) (by assumption) (by omega) _ (by omega) _ _ _ ?_ | refine shown_by_ok (by assumption) (by repeat' (first | assumption | exact sz0 | apply Sz.add | apply Sz.sub | apply Sz.mulp | apply Sz.neg)) (by repeat' (first | assumption | exact sz0 | apply Sz.add | apply Sz.sub | apply Sz.mulp | apply Sz.neg)) (by omega) _ (by omega) _ _ _ ?_); (try exists x_ta)))
  exact z
theorem cell_at_ok {l : List PV} {k : Int} (hk : 0 ≤ k) (hi : ∀ x ∈ l, ∃ i, x = PV.int i) : ∀ d, 1 ≤ d → ∀ (h : Hs) (Q : QV) (X : QX), (∀ i, Q (.pv (.int i)) h) → wpC pg d i__law_cell_at [.pv (.scr l), .pv (.int k)] h Q X := by
  intro d hd h Q X z
  obtain ⟨d, rfl⟩ : ∃ e, d = e + 1 := ⟨d - 1, by omega⟩
  refine in__law_cell_at ?_
  (try exists x_ta, b__law_cell_at)
  split
  · rename_i hl
    obtain ⟨n, rfl⟩ := Int.eq_ofNat_of_zero_le hk
    have h2 : n < l.length := by omega
    rw [k_ixs]
    refine ⟨l[n], ?_, ?_⟩
    · unfold atI L2.atI L2.ixN
      rw [if_pos hk, if_pos (by omega)]
      simp [h2]
    · obtain ⟨i, e⟩ := hi _ (List.getElem_mem h2)
      rw [e]
      exact z i
  · exact z 0
theorem next_ok (s : Int) : ∃ r : Int, 0 ≤ r ∧ r < 2147483629 ∧ Ret pg 1 i__law_next [.int s] (.int r) := by
  have h1 : 0 ≤ (s + 7919) % 2147483647 := Int.emod_nonneg _ (by decide)
  have h2 : (s + 7919) % 2147483647 < 2147483647 := Int.emod_lt_of_pos _ (by decide)
  generalize hs : (s + 7919) % 2147483647 = t at h1 h2
  have n1 : t.natAbs < 2 ^ 31 := by
    have : (2 : Nat) ^ 31 = 2147483648 := by decide
    omega
  refine ⟨(t * t + 48271 * t + 12345) % 2147483629, Int.emod_nonneg _ (by decide), Int.emod_lt_of_pos _ (by decide), ?_⟩
  intro d hd h Q X z
  obtain ⟨d, rfl⟩ : ∃ e, d = e + 1 := ⟨d - 1, by omega⟩
  refine in__law_next ?_
  (try exists x_ta, b__law_next)
  rw [hs]
  (try exists x_ta)
  refine ⟨by decide, mulW n1 n1 (by decide), mulW (a := 16) (b := 31) (by decide) n1 (by decide), by decide, z⟩
theorem pen_of_ok (c : Int) : ∀ d, 1 ≤ d → ∀ (h : Hs) (Q : QV) (X : QX), (∀ p : Pen, Q (.ref h.length) (h ++ [some (penL p)])) → wpC pg d i__law_pen_of [.pv (.int c)] h Q X := by
  intro d hd h Q X z
  obtain ⟨d, rfl⟩ : ∃ e, d = e + 1 := ⟨d - 1, by omega⟩
  refine in__law_pen_of ?_
  (try exists x_ta, b__law_pen_of)
  refine ⟨⟨by decide, by decide, by decide⟩, by decide, ?_⟩
  rw [fin_new]
  have h1 := Int.emod_nonneg (if 0 - c > c then 0 - c else c) (show (1000003 : Int) ≠ 0 by decide)
  have h2 := Int.emod_lt_of_pos (if 0 - c > c then 0 - c else c) (show (0 : Int) < 1000003 by decide)
  have h0 : 0 ≤ (if 0 - c > c then 0 - c else c) := by split <;> omega
  exact z ⟨_, _, _, h0, h1, by omega⟩
theorem draw_ok {i : Nat} {n : Int} {b : Nat} (h0 : 0 < n) (h1 : n.natAbs < 2 ^ b) (hb : b ≤ 9000) : Dr pg 2 i__law_draw [.ref i, .pv (.int n)] i PV.int (fun v => 0 ≤ v ∧ v < n) := by
  intro d hd h P Q X z
  have hi := P.lt
  obtain ⟨p, e⟩ := P
  obtain ⟨d, rfl⟩ : ∃ e, d = e + 1 := ⟨d - 1, by omega⟩
  refine in__law_draw ?_
  unfold penL at e
  have hc : ∀ x, L2.CDivW x n := fun x => divW h0 h1 hb
  have low : ∀ (X : QX) , kIx (RV.ref i) (RV.pv (PV.int 2)) h fun r =>
        wpC pg d i__law_next [RV.pv r] h
          (fun x h1 =>
            kBin Operator.Add x (RV.pv (PV.int 7)) h1 fun r =>
              wpC pg d i__law_next [RV.pv r] h1
                (fun y h1 =>
                  kSub (RV.ref i) (RV.pv (PV.int 2)) y h1 fun h4 =>
                    kIx (RV.ref i) (RV.pv (PV.int 2)) h4 fun r =>
                      wpBin Operator.FloorDiv r (PV.int 64) fun r =>
                        wpBin Operator.Mod r (PV.int n) fun r => Q (RV.pv r) (List.take (List.length h) h4)) X) X := by
    intro X
    rw [pn_ix2 e]
    obtain ⟨r1, a1, a2, a3⟩ := next_ok p.c
    refine a3 d (by omega) _ _ _ ?_
    (try exists x_ta)
    obtain ⟨r2, b1, b2, b3⟩ := next_ok (r1 + 7)
    refine b3 d (by omega) _ _ _ ?_
    rw [pn_sub2 e, pn_ix2 (List.getElem?_set_self hi)]
    (try exists x_ta)
    refine ⟨⟨by decide, by decide⟩, h0, ?_⟩
    exact z _ ⟨p.a, p.b, r2, p.ha, b1, by omega⟩ ⟨Int.emod_nonneg _ (by omega), Int.emod_lt_of_pos _ h0⟩
  (try exists x_ta, b__law_draw)
  rw [pn_ix1 e]
  (try exists x_ta)
  split
  · rw [pn_ix0 e]
    (try exists x_ta)
    split
    · rename_i hp
      rw [pn_ix0 e]
      (try exists x_ta)
      refine ⟨h0, ?_⟩
      rw [pn_ix0 e]
      (try exists x_ta)
      refine ⟨hc _, ?_⟩
      rw [pn_sub0 e]
      (try exists x_ta)
      exact z _ ⟨p.a / n, p.b, p.c, Int.ediv_nonneg p.ha (by omega), p.hc, p.hc2⟩ ⟨Int.emod_nonneg _ (by omega), Int.emod_lt_of_pos _ h0⟩
    · exact low _
  · exact low _
theorem draw_n {i : Nat} {n : Int} (h0 : 0 < n) (h1 : n < 2 ^ 64) : Dr pg 2 i__law_draw [.ref i, .pv (.int n)] i PV.int (fun v => 0 ≤ v ∧ v < n) := draw_ok (b := 64) h0 (natAbs_lt (by omega) h1) (by decide)
theorem law_made_ok (n m : Int) {b : Nat} (hm : 0 < m) (hb : m.natAbs < 2 ^ b) (h9 : b ≤ 9000) : Ret pg 1 i__law_made [.int n, .int m] (pt (Rat.divInt n m)) := by
  intro d hd h Q X z
  obtain ⟨d, rfl⟩ : ∃ e, d = e + 1 := ⟨d - 1, by omega⟩
  refine in__law_made ?_
  (try exists x_ta, b__law_made)
  refine ⟨fun k ρ h' => ∃ x y : Int, ρ = [some (.pv (.int n)), some (.pv (.int m)), some (.pv (.int x)), some (.pv (.int y))] ∧ h' = h ∧ 0 ≤ x ∧ 0 ≤ y ∧ Int.gcd x y = Int.gcd n m ∧ k = y.toNat, ⟨_, _, _, rfl, rfl, ?_, by omega, ?_, rfl⟩, ?_⟩
  · split <;> omega
  · split
    · rw [Int.neg_gcd]
    · rfl
  · rintro k ρ h' ⟨x, y, rfl, rfl, hx, hy, hg, rfl⟩
    (try exists x_ta)
    split
    · rename_i hy0
      have h1 := Int.emod_lt_of_pos x hy0
      have h2 := Int.emod_nonneg x (show y ≠ 0 by omega)
      exact ⟨hy0, (x % y).toNat, by omega, y, x % y, rfl, hy, h2, by rw [Int.gcd_comm, gcd_step _ _ hy hx, Int.gcd_comm, hg], rfl⟩
    · obtain rfl : y = 0 := by omega
      rw [Int.gcd_zero] at hg
      have e : x = (Int.gcd n m : Int) := by omega
      rw [e]
      have hc : ∀ x, L2.CDivW x ((Int.gcd n m : Int)) := fun x => divW (gcd_pos hm) (gcd_lt hm hb) h9
      refine ⟨hc _, hc _, ?_⟩
      rw [low_pos hm]
      exact z
theorem law_sum_ok {p q : Rat} {a b : Nat} (sp : Sz a p) (sq : Sz b q) (h9 : a + b ≤ 9000) : Ret pg 2 i__law_sum [pt p, pt q] (pt (p + q)) := by
  intro d hd h Q X z
  obtain ⟨d, rfl⟩ : ∃ e, d = e + 1 := ⟨d - 1, by omega⟩
  refine in__law_sum ?_
  (try exists x_ta, b__law_sum)
  refine ⟨sp.nd sq (by omega), sq.nd sp (by omega), sp.dd sq (by omega), ?_⟩
  refine law_made_ok _ _ (b := a + b) (Int.mul_pos (den_pos' p) (den_pos' q)) ?_ h9 d (by omega) _ _ _ ?_
  · rw [Int.natAbs_mul, den_nat, den_nat, Nat.pow_add]
    exact Nat.mul_lt_mul'' sp.2 sq.2
  · (try exists x_ta, add_made)
    exact z
theorem law_rest_ok {p q : Rat} {a b : Nat} (sp : Sz a p) (sq : Sz b q) (h9 : a + b ≤ 9000) : Ret pg 2 i__law_rest [pt p, pt q] (pt (p - q)) := by
  intro d hd h Q X z
  obtain ⟨d, rfl⟩ : ∃ e, d = e + 1 := ⟨d - 1, by omega⟩
  refine in__law_rest ?_
  (try exists x_ta, b__law_rest)
  refine ⟨sp.nd sq (by omega), sq.nd sp (by omega), sp.dd sq (by omega), ?_⟩
  refine law_made_ok _ _ (b := a + b) (Int.mul_pos (den_pos' p) (den_pos' q)) ?_ h9 d (by omega) _ _ _ ?_
  · rw [Int.natAbs_mul, den_nat, den_nat, Nat.pow_add]
    exact Nat.mul_lt_mul'' sp.2 sq.2
  · (try exists x_ta, sub_made)
    exact z
theorem law_prod_ok {p q : Rat} {a b : Nat} (sp : Sz a p) (sq : Sz b q) (h9 : a + b ≤ 9000) : Ret pg 2 i__law_prod [pt p, pt q] (pt (p * q)) := by
  intro d hd h Q X z
  obtain ⟨d, rfl⟩ : ∃ e, d = e + 1 := ⟨d - 1, by omega⟩
  refine in__law_prod ?_
  (try exists x_ta, b__law_prod)
  refine ⟨sp.nn sq (by omega), sp.dd sq (by omega), ?_⟩
  refine law_made_ok _ _ (b := a + b) (Int.mul_pos (den_pos' p) (den_pos' q)) ?_ h9 d (by omega) _ _ _ ?_
  · rw [Int.natAbs_mul, den_nat, den_nat, Nat.pow_add]
    exact Nat.mul_lt_mul'' sp.2 sq.2
  · (try exists x_ta, mul_made)
    exact z
theorem law_under_ok {p q : Rat} {a b : Nat} (sp : Sz a p) (sq : Sz b q) (h9 : a + b ≤ 9000) : Ret pg 1 i__law_under [pt p, pt q] (.bl (decide (p < q))) := by
  intro d hd h Q X z
  obtain ⟨d, rfl⟩ : ∃ e, d = e + 1 := ⟨d - 1, by omega⟩
  refine in__law_under ?_
  (try exists x_ta, b__law_under, lt_made)
  exact ⟨sp.nd sq (by omega), sq.nd sp (by omega), z⟩
theorem law_some_ok {i : Nat} : Dr pg 3 i__law_some [.ref i] i pt (fun q => Sz 6 q) := by
  intro d hd h P Q X z
  have hi := P.lt
  obtain ⟨d, rfl⟩ : ∃ e, d = e + 1 := ⟨d - 1, by omega⟩
  refine in__law_some ?_
  (try exists x_ta, b__law_some)
  refine draw_n (n := 40) (by decide) (by decide) d (by omega) _ (by first | assumption | exact PenH.set (by assumption) _ | exact PenH.setapp (by assumption) _ | exact PenH.new | exact PenH.app (by assumption) _) _ _ ?_
  rintro a p ⟨a1, a2⟩
  (try exists x_ta, set_appS hi, set_app hi)
  refine draw_n (n := 3) (by decide) (by decide) d (by omega) _ (by first | assumption | exact PenH.set (by assumption) _ | exact PenH.setapp (by assumption) _ | exact PenH.new | exact PenH.app (by assumption) _) _ _ ?_
  rintro b p2 ⟨b1, b2⟩
  (try exists x_ta, set_appS hi, set_app hi)
  refine pickN (fun n => 0 < n ∧ n ≤ 12) (by assumption) (by first | assumption | (simp; omega)) (by repeat (first | exact all1 | refine allC (by first | exact ⟨_, rfl, by omega⟩ | exact ⟨_, rfl, by decide⟩ | exact ⟨_, rfl, by grind⟩ | exact ⟨_, rfl, by assumption⟩) ?_)) ?_
  rintro n ⟨n1, n2⟩
  (try exists x_ta, set_appS hi, set_app hi)
  refine draw_n n1 (by omega) d (by omega) _ (by first | assumption | exact PenH.set (by assumption) _ | exact PenH.setapp (by assumption) _ | exact PenH.new | exact PenH.app (by assumption) _) _ _ ?_
  rintro c p3 ⟨c1, c2⟩
  (try exists x_ta, set_appS hi, set_app hi)
  refine draw_n (n := 2) (by decide) (by decide) d (by omega) _ (by first | assumption | exact PenH.set (by assumption) _ | exact PenH.setapp (by assumption) _ | exact PenH.new | exact PenH.app (by assumption) _) _ _ ?_
  rintro e p4 ⟨e1, e2⟩
  (try exists x_ta, set_appS hi, set_app hi)
  refine pickN (fun n => -40 < n ∧ n < 40) (by assumption) (by first | assumption | (simp; omega)) (by repeat (first | exact all1 | refine allC (by first | exact ⟨_, rfl, by omega⟩ | exact ⟨_, rfl, by decide⟩ | exact ⟨_, rfl, by grind⟩ | exact ⟨_, rfl, by assumption⟩) ?_)) ?_
  rintro t ⟨t1, t2⟩
  (try exists x_ta, set_appS hi, set_app hi)
  refine law_made_ok _ _ (b := 6) (by omega) (by omega) (by omega) d (by omega) _ _ _ ?_
  (try exists x_ta)
  exact z _ _ (sz_divInt (by omega) (by omega) (by omega))
theorem law_up_ok {i : Nat} : Dr pg 3 i__law_up [.ref i] i pt (fun q => 0 ≤ q ∧ Sz 5 q) := by
  intro d hd h P Q X z
  have hi := P.lt
  obtain ⟨d, rfl⟩ : ∃ e, d = e + 1 := ⟨d - 1, by omega⟩
  refine in__law_up ?_
  (try exists x_ta, b__law_up)
  refine draw_n (n := 30) (by decide) (by decide) d (by omega) _ (by first | assumption | exact PenH.set (by assumption) _ | exact PenH.setapp (by assumption) _ | exact PenH.new | exact PenH.app (by assumption) _) _ _ ?_
  rintro a p ⟨a1, a2⟩
  (try exists x_ta, set_appS hi, set_app hi)
  refine draw_n (n := 3) (by decide) (by decide) d (by omega) _ (by first | assumption | exact PenH.set (by assumption) _ | exact PenH.setapp (by assumption) _ | exact PenH.new | exact PenH.app (by assumption) _) _ _ ?_
  rintro b p2 ⟨b1, b2⟩
  (try exists x_ta, set_appS hi, set_app hi)
  refine pickN (fun n => 0 ≤ n ∧ n < 30) (by assumption) (by first | assumption | (simp; omega)) (by repeat (first | exact all1 | refine allC (by first | exact ⟨_, rfl, by omega⟩ | exact ⟨_, rfl, by decide⟩ | exact ⟨_, rfl, by grind⟩ | exact ⟨_, rfl, by assumption⟩) ?_)) ?_
  rintro n ⟨n1, n2⟩
  (try exists x_ta, set_appS hi, set_app hi)
  refine draw_n (n := 6) (by decide) (by decide) d (by omega) _ (by first | assumption | exact PenH.set (by assumption) _ | exact PenH.setapp (by assumption) _ | exact PenH.new | exact PenH.app (by assumption) _) _ _ ?_
  rintro c p3 ⟨c1, c2⟩
  (try exists x_ta, set_appS hi, set_app hi)
  refine law_made_ok _ _ (b := 5) (by omega) (by omega) (by omega) d (by omega) _ _ _ ?_
  (try exists x_ta)
  exact z _ _ ⟨divInt_nonneg n1 (by omega), sz_divInt (by omega) (by omega) (by omega)⟩
theorem law_gain_ok {i : Nat} : Dr pg 3 i__law_gain [.ref i] i pt (fun q => (-12 ≤ q ∧ q ≤ 12) ∧ Sz 4 q) := by
  intro d hd h P Q X z
  have hi := P.lt
  obtain ⟨d, rfl⟩ : ∃ e, d = e + 1 := ⟨d - 1, by omega⟩
  refine in__law_gain ?_
  (try exists x_ta, b__law_gain)
  refine draw_n (n := 13) (by decide) (by decide) d (by omega) _ (by first | assumption | exact PenH.set (by assumption) _ | exact PenH.setapp (by assumption) _ | exact PenH.new | exact PenH.app (by assumption) _) _ _ ?_
  rintro a p ⟨a1, a2⟩
  (try exists x_ta, set_appS hi, set_app hi)
  refine draw_n (n := 7) (by decide) (by decide) d (by omega) _ (by first | assumption | exact PenH.set (by assumption) _ | exact PenH.setapp (by assumption) _ | exact PenH.new | exact PenH.app (by assumption) _) _ _ ?_
  rintro b p2 ⟨b1, b2⟩
  (try exists x_ta, set_appS hi, set_app hi)
  refine law_made_ok _ _ (b := 4) (by omega) (by omega) (by omega) d (by omega) _ _ _ ?_
  (try exists x_ta)
  refine law_made_ok _ _ (b := 4) (by omega) (by omega) (by omega) d (by omega) _ _ _ ?_
  (try exists x_ta)
  refine draw_n (n := 5) (by decide) (by decide) d (by omega) _ (by first | assumption | exact PenH.set (by assumption) _ | exact PenH.setapp (by assumption) _ | exact PenH.new | exact PenH.app (by assumption) _) _ _ ?_
  rintro c p3 ⟨c1, c2⟩
  (try exists x_ta, set_appS hi, set_app hi)
  refine pickQ (fun q => (-12 ≤ q ∧ q ≤ 12) ∧ Sz 4 q) c1 c2 (allC ⟨0, rfl, ⟨by decide, by decide⟩, ⟨by decide, by decide⟩⟩ (allC ⟨_, rfl, ⟨le_divInt (M := -12) (by omega) (by omega), divInt_le (M := 12) (by omega) (by omega)⟩, sz_divInt (by omega) (by omega) (by omega)⟩
    (allC ⟨_, rfl, ⟨le_divInt (M := -12) (by omega) (by omega), divInt_le (M := 12) (by omega) (by omega)⟩, sz_divInt (by omega) (by omega) (by omega)⟩ (allC ⟨12, rfl, ⟨by decide, by decide⟩, ⟨by decide, by decide⟩⟩ (allC ⟨-12, rfl, ⟨by decide, by decide⟩, ⟨by decide, by decide⟩⟩ all1))))) ?_
  rintro q hq
  (try exists x_ta)
  exact z _ _ hq
theorem law_sets_ok {i : Nat} {m : Nat} (hm : m ≤ 6) : Dr pg 4 i__law_sets [.ref i, .pv (.int m)] i (fun s => PV.tup (s.map encS)) (fun s => DrS 31 m s) := by
  intro d hd h P Q X z
  have hi := P.lt
  obtain ⟨d, rfl⟩ : ∃ e, d = e + 1 := ⟨d - 1, by omega⟩
  refine in__law_sets ?_
  (try exists x_ta, b__law_sets)
  refine draw_n (n := m + 1) (by omega) (by omega) d (by omega) _ (by first | assumption | exact PenH.set (by assumption) _ | exact PenH.setapp (by assumption) _ | exact PenH.new | exact PenH.app (by assumption) _) _ _ ?_
  rintro a p ⟨a1, a2⟩
  (try exists x_ta, set_appS hi, set_app hi)
  refine ⟨by omega, by omega, ?_⟩
  refine loopT_any (fun n ρ h' => ∃ s w p, ρ = [some (.ref i), some (.pv (.int m)), some (.ref h.length), some (.pv (pt w)), none, none] ∧ h' = h.set i (some (penL p)) ++ [some (s.map encS)] ∧ DrS 31 n s ∧ 0 ≤ w ∧ Sz (1 + 5 * n) w ∧ ∀ x ∈ s, x.1 ≤ w) (fun _ _ _ _ => trivial) _ ?_ ?_ ?_
  · rintro n x ρ h' k hx ⟨s, w, p2, rfl, rfl, hs, hw, zw, hlt⟩ hk
    obtain ⟨rfl, hn⟩ := rng_get hx
    have hn6 : n < 6 := by omega
    (try exists x_ta)
    split
    · skip
      refine draw_n (n := 9) (by decide) (by decide) d (by omega) _ (by first | assumption | exact PenH.set (by assumption) _ | exact PenH.setapp (by assumption) _ | exact PenH.new | exact PenH.app (by assumption) _) _ _ ?_
      rintro u pu ⟨u1, u2⟩
      (try exists x_ta, set_appS hi, set_app hi)
      refine draw_n (n := 6) (by decide) (by decide) d (by omega) _ (by first | assumption | exact PenH.set (by assumption) _ | exact PenH.setapp (by assumption) _ | exact PenH.new | exact PenH.app (by assumption) _) _ _ ?_
      rintro v pv ⟨v1, v2⟩
      (try exists x_ta, set_appS hi, set_app hi)
      refine law_made_ok _ _ (b := 4) (by omega) (by omega) (by omega) d (by omega) _ _ _ ?_
      have zi : Sz 4 (Rat.divInt (1 + u) (1 + v)) := sz_divInt (by omega) (by omega) (by omega)
      have hi0 : 0 < Rat.divInt (1 + u) (1 + v) := divInt_pos (by omega) (by omega)
      (try exists x_ta)
      refine law_sum_ok zw zi (by omega) _ (by omega) _ _ _ ?_
      have zw' : Sz (1 + 5 * (n + 1)) (w + Rat.divInt (1 + u) (1 + v)) := (zw.add zi).up (by omega)
      have hw' : 0 ≤ w + Rat.divInt (1 + u) (1 + v) := by grind
      have hlt' : ∀ x ∈ s, x.1 < w + Rat.divInt (1 + u) (1 + v) := fun x hx => by have := hlt x hx; grind
      generalize w + Rat.divInt (1 + u) (1 + v) = ww at zw' hw' hlt'
      (try exists x_ta)
      refine draw_n (n := 2) (by decide) (by decide) d (by omega) _ (by first | assumption | exact PenH.set (by assumption) _ | exact PenH.setapp (by assumption) _ | exact PenH.new | exact PenH.app (by assumption) _) _ _ ?_
      rintro b p4 ⟨b1, b2⟩
      (try exists x_ta, set_appS hi, set_app hi)
      refine pickN (fun n => 0 < n ∧ n ≤ 99) (by assumption) (by first | assumption | (simp; omega)) (by repeat (first | exact all1 | refine allC (by first | exact ⟨_, rfl, by omega⟩ | exact ⟨_, rfl, by decide⟩ | exact ⟨_, rfl, by grind⟩ | exact ⟨_, rfl, by assumption⟩) ?_)) ?_
      rintro n' ⟨n1, n2⟩
      (try exists x_ta, set_appS hi, set_app hi)
      refine draw_n n1 (by omega) d (by omega) _ (by first | assumption | exact PenH.set (by assumption) _ | exact PenH.setapp (by assumption) _ | exact PenH.new | exact PenH.app (by assumption) _) _ _ ?_
      rintro c p5 ⟨c1, c2⟩
      (try exists x_ta, set_appS hi, set_app hi)
      refine draw_n (n := 4) (by decide) (by decide) d (by omega) _ (by first | assumption | exact PenH.set (by assumption) _ | exact PenH.setapp (by assumption) _ | exact PenH.new | exact PenH.app (by assumption) _) _ _ ?_
      rintro e p6 ⟨e1, e2⟩
      (try exists x_ta, set_appS hi, set_app hi)
      refine law_made_ok _ _ (b := 7) (by omega) (by omega) (by omega) d (by omega) _ _ _ ?_
      have zj : Sz 7 (Rat.divInt (1 + c) (1 + e)) := sz_divInt (by omega) (by omega) (by omega)
      have hj : 0 < Rat.divInt (1 + c) (1 + e) := divInt_pos (by omega) (by omega)
      generalize Rat.divInt (1 + c) (1 + e) = j at zj hj
      (try exists x_ta, pt_neg)
      refine draw_n (n := 2) (by decide) (by decide) d (by omega) _ (by first | assumption | exact PenH.set (by assumption) _ | exact PenH.setapp (by assumption) _ | exact PenH.new | exact PenH.app (by assumption) _) _ _ ?_
      rintro f p7 ⟨f1, f2⟩
      (try exists x_ta, set_appS hi, set_app hi)
      refine pickQ (fun q => q ≠ 0 ∧ Sz 31 q) f1 f2 (allC ⟨_, rfl, by grind, zj.up (by omega)⟩ (allC ⟨_, rfl, by grind, zj.neg.up (by omega)⟩ all1)) ?_
      rintro q ⟨q1, q2⟩
      (try exists x_ta)
      refine ⟨szlt (by rw [List.length_map]; have := hs.l; omega), ?_⟩
      refine hk _ _ ⟨s ++ [(ww, q)], ww, p7, rfl, by simp [encS], hs.snoc hw' q1 (zw'.up (by omega)) q2 hlt', hw', zw', ?_⟩
      intro x hx
      rcases List.mem_append.mp hx with hx | hx
      · exact Rat.le_of_lt (hlt' x hx)
      · rw [List.mem_singleton] at hx; subst hx; exact Rat.le_refl
    · rename_i hn0
      refine draw_n (n := 3) (by decide) (by decide) d (by omega) _ (by first | assumption | exact PenH.set (by assumption) _ | exact PenH.setapp (by assumption) _ | exact PenH.new | exact PenH.app (by assumption) _) _ _ ?_
      rintro y py ⟨y1, y2⟩
      (try exists x_ta, set_appS hi, set_app hi)
      split
      · skip
        refine draw_n (n := 9) (by decide) (by decide) d (by omega) _ (by first | assumption | exact PenH.set (by assumption) _ | exact PenH.setapp (by assumption) _ | exact PenH.new | exact PenH.app (by assumption) _) _ _ ?_
        rintro u pu ⟨u1, u2⟩
        (try exists x_ta, set_appS hi, set_app hi)
        refine draw_n (n := 6) (by decide) (by decide) d (by omega) _ (by first | assumption | exact PenH.set (by assumption) _ | exact PenH.setapp (by assumption) _ | exact PenH.new | exact PenH.app (by assumption) _) _ _ ?_
        rintro v pv ⟨v1, v2⟩
        (try exists x_ta, set_appS hi, set_app hi)
        refine law_made_ok _ _ (b := 4) (by omega) (by omega) (by omega) d (by omega) _ _ _ ?_
        have zi : Sz 4 (Rat.divInt (1 + u) (1 + v)) := sz_divInt (by omega) (by omega) (by omega)
        have hi0 : 0 < Rat.divInt (1 + u) (1 + v) := divInt_pos (by omega) (by omega)
        (try exists x_ta)
        refine law_sum_ok zw zi (by omega) _ (by omega) _ _ _ ?_
        have zw' : Sz (1 + 5 * (n + 1)) (w + Rat.divInt (1 + u) (1 + v)) := (zw.add zi).up (by omega)
        have hw' : 0 ≤ w + Rat.divInt (1 + u) (1 + v) := by grind
        have hlt' : ∀ x ∈ s, x.1 < w + Rat.divInt (1 + u) (1 + v) := fun x hx => by have := hlt x hx; grind
        generalize w + Rat.divInt (1 + u) (1 + v) = ww at zw' hw' hlt'
        (try exists x_ta)
        refine draw_n (n := 2) (by decide) (by decide) d (by omega) _ (by first | assumption | exact PenH.set (by assumption) _ | exact PenH.setapp (by assumption) _ | exact PenH.new | exact PenH.app (by assumption) _) _ _ ?_
        rintro b p4 ⟨b1, b2⟩
        (try exists x_ta, set_appS hi, set_app hi)
        refine pickN (fun n => 0 < n ∧ n ≤ 99) (by assumption) (by first | assumption | (simp; omega)) (by repeat (first | exact all1 | refine allC (by first | exact ⟨_, rfl, by omega⟩ | exact ⟨_, rfl, by decide⟩ | exact ⟨_, rfl, by grind⟩ | exact ⟨_, rfl, by assumption⟩) ?_)) ?_
        rintro n' ⟨n1, n2⟩
        (try exists x_ta, set_appS hi, set_app hi)
        refine draw_n n1 (by omega) d (by omega) _ (by first | assumption | exact PenH.set (by assumption) _ | exact PenH.setapp (by assumption) _ | exact PenH.new | exact PenH.app (by assumption) _) _ _ ?_
        rintro c p5 ⟨c1, c2⟩
        (try exists x_ta, set_appS hi, set_app hi)
        refine draw_n (n := 4) (by decide) (by decide) d (by omega) _ (by first | assumption | exact PenH.set (by assumption) _ | exact PenH.setapp (by assumption) _ | exact PenH.new | exact PenH.app (by assumption) _) _ _ ?_
        rintro e p6 ⟨e1, e2⟩
        (try exists x_ta, set_appS hi, set_app hi)
        refine law_made_ok _ _ (b := 7) (by omega) (by omega) (by omega) d (by omega) _ _ _ ?_
        have zj : Sz 7 (Rat.divInt (1 + c) (1 + e)) := sz_divInt (by omega) (by omega) (by omega)
        have hj : 0 < Rat.divInt (1 + c) (1 + e) := divInt_pos (by omega) (by omega)
        generalize Rat.divInt (1 + c) (1 + e) = j at zj hj
        (try exists x_ta, pt_neg)
        refine draw_n (n := 2) (by decide) (by decide) d (by omega) _ (by first | assumption | exact PenH.set (by assumption) _ | exact PenH.setapp (by assumption) _ | exact PenH.new | exact PenH.app (by assumption) _) _ _ ?_
        rintro f p7 ⟨f1, f2⟩
        (try exists x_ta, set_appS hi, set_app hi)
        refine pickQ (fun q => q ≠ 0 ∧ Sz 31 q) f1 f2 (allC ⟨_, rfl, by grind, zj.up (by omega)⟩ (allC ⟨_, rfl, by grind, zj.neg.up (by omega)⟩ all1)) ?_
        rintro q ⟨q1, q2⟩
        (try exists x_ta)
        refine ⟨szlt (by rw [List.length_map]; have := hs.l; omega), ?_⟩
        refine hk _ _ ⟨s ++ [(ww, q)], ww, p7, rfl, by simp [encS], hs.snoc hw' q1 (zw'.up (by omega)) q2 hlt', hw', zw', ?_⟩
        intro x hx
        rcases List.mem_append.mp hx with hx | hx
        · exact Rat.le_of_lt (hlt' x hx)
        · rw [List.mem_singleton] at hx; subst hx; exact Rat.le_refl
      · have hs0 : s = [] := List.length_eq_zero_iff.mp (by have := hs.l; omega)
        have zw' : Sz (1 + 5 * (n + 1)) w := zw.up (by omega)
        have hw' := hw
        have hlt' : ∀ x ∈ s, x.1 < w := by rw [hs0]; simp
        refine draw_n (n := 2) (by decide) (by decide) d (by omega) _ (by first | assumption | exact PenH.set (by assumption) _ | exact PenH.setapp (by assumption) _ | exact PenH.new | exact PenH.app (by assumption) _) _ _ ?_
        rintro b p4 ⟨b1, b2⟩
        (try exists x_ta, set_appS hi, set_app hi)
        refine pickN (fun n => 0 < n ∧ n ≤ 99) (by assumption) (by first | assumption | (simp; omega)) (by repeat (first | exact all1 | refine allC (by first | exact ⟨_, rfl, by omega⟩ | exact ⟨_, rfl, by decide⟩ | exact ⟨_, rfl, by grind⟩ | exact ⟨_, rfl, by assumption⟩) ?_)) ?_
        rintro n' ⟨n1, n2⟩
        (try exists x_ta, set_appS hi, set_app hi)
        refine draw_n n1 (by omega) d (by omega) _ (by first | assumption | exact PenH.set (by assumption) _ | exact PenH.setapp (by assumption) _ | exact PenH.new | exact PenH.app (by assumption) _) _ _ ?_
        rintro c p5 ⟨c1, c2⟩
        (try exists x_ta, set_appS hi, set_app hi)
        refine draw_n (n := 4) (by decide) (by decide) d (by omega) _ (by first | assumption | exact PenH.set (by assumption) _ | exact PenH.setapp (by assumption) _ | exact PenH.new | exact PenH.app (by assumption) _) _ _ ?_
        rintro e p6 ⟨e1, e2⟩
        (try exists x_ta, set_appS hi, set_app hi)
        refine law_made_ok _ _ (b := 7) (by omega) (by omega) (by omega) d (by omega) _ _ _ ?_
        have zj : Sz 7 (Rat.divInt (1 + c) (1 + e)) := sz_divInt (by omega) (by omega) (by omega)
        have hj : 0 < Rat.divInt (1 + c) (1 + e) := divInt_pos (by omega) (by omega)
        generalize Rat.divInt (1 + c) (1 + e) = j at zj hj
        (try exists x_ta, pt_neg)
        refine draw_n (n := 2) (by decide) (by decide) d (by omega) _ (by first | assumption | exact PenH.set (by assumption) _ | exact PenH.setapp (by assumption) _ | exact PenH.new | exact PenH.app (by assumption) _) _ _ ?_
        rintro f p7 ⟨f1, f2⟩
        (try exists x_ta, set_appS hi, set_app hi)
        refine pickQ (fun q => q ≠ 0 ∧ Sz 31 q) f1 f2 (allC ⟨_, rfl, by grind, zj.up (by omega)⟩ (allC ⟨_, rfl, by grind, zj.neg.up (by omega)⟩ all1)) ?_
        rintro q ⟨q1, q2⟩
        (try exists x_ta)
        refine ⟨szlt (by rw [List.length_map]; have := hs.l; omega), ?_⟩
        refine hk _ _ ⟨s ++ [(w, q)], w, p7, rfl, by simp [encS], hs.snoc hw' q1 (zw'.up (by omega)) q2 hlt', hw', zw', ?_⟩
        intro x hx
        rcases List.mem_append.mp hx with hx | hx
        · exact Rat.le_of_lt (hlt' x hx)
        · rw [List.mem_singleton] at hx; subst hx; exact Rat.le_refl
  · rintro ρ h' ⟨s, w, p2, rfl, rfl, hs, hw, zw, hlt⟩
    (try exists x_ta)
    rw [rngL_len] at hs
    exact z s _ (hs.up (by omega))
  · exact ⟨[], 0, p, rfl, rfl, .nil, by decide, sz0, by simp⟩
theorem law_drift_ok {b c : Nat} {g m : Rat} {s : List (Rat × Rat)} (k : OkC b g s) (sm : Sz c m) (h9 : 8 * b + 2 * c ≤ 8000) : Ret pg 3 i__law_drift [ck g s, pt m] (pt (drf g s m)) := by
  have zg := k.zg
  have hl := k.l
  intro d hd h Q X z
  obtain ⟨d, rfl⟩ : ∃ e, d = e + 1 := ⟨d - 1, by omega⟩
  refine in__law_drift ?_
  (try exists x_ta, b__law_drift, ck)
  refine law_prod_ok (by repeat' (first | assumption | exact sz0 | apply Sz.add | apply Sz.sub | apply Sz.mulp | apply Sz.neg)) (by repeat' (first | assumption | exact sz0 | apply Sz.add | apply Sz.sub | apply Sz.mulp | apply Sz.neg)) (by omega) _ (by omega) _ _ _ ?_
  (try exists x_ta)
  refine loopT_fold encS (fun a => [some (.pv (ck g s)), some (.pv (pt m)), some (.pv (pt a)), none, none]) (jf m) trivial s (g * m) (fun pre a post hs q hq => ?_) ?_
  · (try exists x_ta, encS)
    have hz := k.z a (by rw [hs]; simp)
    have z1 := hz.1
    have z2 := hz.2
    have hl2 := hl
    rw [hs, List.length_append] at hl2
    have zj : Sz (b + c + 6 * (b + 1)) (pre.foldl (jf m) (g * m)) := sz_foldn 6 pre (by omega) (fun a c x hx y => jf_sz (k.z x (by rw [hs]; simp [hx])).2 y) (zg.mulp sm)
    refine law_under_ok sm z1 (by omega) _ (by omega) _ _ _ ?_
    (try exists x_ta)
    unfold jf at hq
    split
    · rename_i hm
      rw [if_pos hm] at hq
      exact hq
    · rename_i hm
      rw [if_neg hm] at hq
      refine law_sum_ok zj z2 (by omega) _ (by omega) _ _ _ ?_
      (try exists x_ta)
      exact hq
  · (try exists x_ta)
    have e : s.foldl (jf m) (g * m) = drf g s m := by
      have := jf_add m s (g * m) 0
      rw [Rat.add_zero] at this
      rw [this]
      unfold drf jt
      rw [Rat.mul_comm]
    rw [e]
    exact z
theorem law_shown_ok {b c e : Nat} {g m er : Rat} {s : List (Rat × Rat)} (k : OkC b g s) (sm : Sz c m) (se : Sz e er) (h9 : 8 * b + 2 * c + e ≤ 7900) : Ret pg 4 i__law_shown [ck g s, pt m, pt er] (pt (shw g s m er)) := by
  have s24 : Sz 5 (24 : Rat) := ⟨by decide, by decide⟩
  have zd : Sz (c + 7 * b + 8) (drf g s m) := ((sm.mul k.zg (by have := sm.pos; omega)).add (sz_jt (n := 6) k.z k.l)).up (by have := sm.pos; omega)
  intro d hd h Q X z
  obtain ⟨d, rfl⟩ : ∃ e, d = e + 1 := ⟨d - 1, by omega⟩
  refine in__law_shown ?_
  (try exists x_ta, b__law_shown)
  simp only [show PV.tup [PV.int 24, PV.int 1] = pt 24 from rfl]
  (repeat ((first | refine is_whole_ok _ _ (by omega) _ _ _ ?_ | refine is_part_ok _ _ (by omega) _ _ _ ?_ | refine need_part_ok _ _ (by omega) _ _ _ ?_ | refine plus_ok (by repeat' (first | assumption | exact sz0 | apply Sz.add | apply Sz.sub | apply Sz.mulp | apply Sz.neg)) (by repeat' (first | assumption | exact sz0 | apply Sz.add | apply Sz.sub | apply Sz.mulp | apply Sz.neg)) (by omega) _ (by omega) _ _ _ ?_ | refine product_ok (by repeat' (first | assumption | exact sz0 | apply Sz.add | apply Sz.sub | apply Sz.mulp | apply Sz.neg)) (by repeat' (first | assumption | exact sz0 | apply Sz.add | apply Sz.sub | apply Sz.mulp | apply Sz.neg)) (by omega) _ (by omega) _ _ _ ?_ | refine below_ok (by repeat' (first | assumption | exact sz0 | apply Sz.add | apply Sz.sub | apply Sz.mulp | apply Sz.neg)) (by repeat' (first | assumption | exact sz0 | apply Sz.add | apply Sz.sub | apply Sz.mulp | apply Sz.neg)) (by omega) _ (by omega) _ _ _ ?_ | refine is_gain_ok (by repeat' (first | assumption | exact sz0 | apply Sz.add | apply Sz.sub | apply Sz.mulp | apply Sz.neg)) (by omega) (by assumption) (by assumption) _ (by omega) _ _ _ ?_ | refine is_moment_ok (by assumption) _ (by omega) _ _ _ ?_ | refine is_set_ok (by assumption) (by assumption) _ (by omega) _ _ _ ?_ | refine is_clock_ok (by assumption) (by omega) _ (by omega) _ _ _ ?_ | refine need_clock_ok (by assumption) (by omega) _ (by omega) _ _ _ ?_ | refine need_moment_ok (by assumption) _ (by omega) _ _ _ ?_ | refine own_error_ok _ _ (by omega) _ _ _ ?_ | refine own_none_ok _ (by omega) _ _ _ ?_ | refine jumps_till_ok (by assumption) (by repeat' (first | assumption | exact sz0 | apply Sz.add | apply Sz.sub | apply Sz.mulp | apply Sz.neg)) (by omega) _ (by omega) _ _ _ ?_ | refine drift_by_ok (by assumption) (by repeat' (first | assumption | exact sz0 | apply Sz.add | apply Sz.sub | apply Sz.mulp | apply Sz.neg)) (by omega) _ (by omega) _ _ _ ?_ | refine drift_ok (by assumption) (by repeat' (first | assumption | exact sz0 | apply Sz.add | apply Sz.sub | apply Sz.mulp | apply Sz.neg)) (by assumption) (by omega) _ (by omega) _ _ _ ?_ | refine shown_by_ok (by assumption) (by repeat' (first | assumption | exact sz0 | apply Sz.add | apply Sz.sub | apply Sz.mulp | apply Sz.neg)) (by repeat' (first | assumption | exact sz0 | apply Sz.add | apply Sz.sub | apply Sz.mulp | apply Sz.neg)) (by omega) _ (by omega) _ _ _ ?_ | refine shown_at_ok (by assumption) (by repeat' (first | assumption | exact sz0 | apply Sz.add | apply Sz.sub | apply Sz.mulp | apply Sz.neg)) (by assumption) (by repeat' (first | assumption | exact sz0 | apply Sz.add | apply Sz.sub | apply Sz.mulp | apply Sz.neg)) (by omega) _ (by omega) _ _ _ ?_ | refine shown_none_ok (by assumption) (by repeat' (first | assumption | exact sz0 | apply Sz.add | apply Sz.sub | apply Sz.mulp | apply Sz.neg)) (by assumption) (by omega) _ (by omega) _ _ _ ?_ | refine law_sum_ok (by repeat' (first | assumption | exact sz0 | apply Sz.add | apply Sz.sub | apply Sz.mulp | apply Sz.neg)) (by repeat' (first | assumption | exact sz0 | apply Sz.add | apply Sz.sub | apply Sz.mulp | apply Sz.neg)) (by omega) _ (by omega) _ _ _ ?_ | refine law_rest_ok (by repeat' (first | assumption | exact sz0 | apply Sz.add | apply Sz.sub | apply Sz.mulp | apply Sz.neg)) (by repeat' (first | assumption | exact sz0 | apply Sz.add | apply Sz.sub | apply Sz.mulp | apply Sz.neg)) (by omega) _ (by omega) _ _ _ ?_ | refine law_prod_ok (by repeat' (first | assumption | exact sz0 | apply Sz.add | apply Sz.sub | apply Sz.mulp | apply Sz.neg)) (by repeat' (first | assumption | exact sz0 | apply Sz.add | apply Sz.sub | apply Sz.mulp | apply Sz.neg)) (by omega) _ (by omega) _ _ _ ?_ | refine law_under_ok (by repeat' (first | assumption | exact sz0 | apply Sz.add | apply Sz.sub | apply Sz.mulp | apply Sz.neg)) (by repeat' (first | assumption | exact sz0 | apply Sz.add | apply Sz.sub | apply Sz.mulp | apply Sz.neg)) (by omega) _ (by omega) _ _ _ ?_ | refine law_drift_ok (by assumption) (by repeat' (first | assumption | exact sz0 | apply Sz.add | apply Sz.sub | apply Sz.mulp | apply Sz.neg)) (by omega) _ (by omega) _ _ _ ?_); (try exists x_ta)))
  exact z
def r1000_7 : Rat := ⟨1000, 7, by decide, by decide⟩
def r_1000 : Rat := ⟨1, 1000, by decide, by decide⟩
theorem law_wp : ∀ ns : List Int, ns.length ≤ 63 → wpC pg 40 i_law [.pv (.scr (ns.map PV.int))] [] (fun v _ => v = .pv (.bl true)) (fun _ _ => False) := by
  intro ns hn
  refine in_law (d := 39) ?_
  (try exists x_ta, b_law)
  refine cell_at_ok (by omega) (by simp) _ (by omega) _ _ _ ?_
  intro c0
  (try exists x_ta)
  refine ⟨szl (by have := cut_len (l := ns.map PV.int) (a := some 1) (b := some 3); rw [List.length_map] at this; omega), ?_⟩
  refine loopT_any (fun n ρ h' => ρ = [some (RV.pv (PV.scr (ns.map PV.int))), none, none, none, none, none, none, none, none, none, none, none, none]) (fun _ _ _ _ => trivial) _ ?_ (fun _ _ _ => trivial) rfl
  rintro n x ρ h' k hx rfl hk
  obtain ⟨i, rfl⟩ := cells_int hx
  (try exists x_ta)
  refine pen_of_ok _ _ (by omega) _ _ _ ?_
  intro p
  (try exists x_ta)
  refine ⟨by decide, by decide, szl (by rw [rngL_len]; decide), ?_⟩
  refine compT_any (fun n r h1 => ∃ (cs : List (Rat × List (Rat × Rat))) (p : Pen), r = cs.map (fun c => ck c.1 c.2) ∧ h1 = h' ++ [some (penL p)] ∧ cs.length = n ∧ ∀ c ∈ cs, OkC 31 c.1 c.2) (fun _ _ _ _ => trivial) _ ?_ ⟨[], p, rfl, rfl, rfl, by simp⟩ ?_
  · rintro n x r h1 k hx ⟨cs, p1, rfl, rfl, hc, hok⟩ hk
    obtain ⟨rfl, hn⟩ := rng_get hx
    (try exists x_ta)
    refine law_gain_ok _ (by omega) _ PenH.new _ _ ?_
    rintro g p2 ⟨⟨g1, g2⟩, zg⟩
    simp only [List.set_append_right _ _ (Nat.le_refl h'.length), Nat.sub_self, List.set_cons_zero]
    (try exists x_ta)
    refine law_sets_ok (m := 6) (by omega) _ (by omega) _ PenH.new _ _ ?_
    rintro s p3 hs
    simp only [List.set_append_right _ _ (Nat.le_refl h'.length), Nat.sub_self, List.set_cons_zero]
    (try exists x_ta)
    refine hk _ _ ⟨cs ++ [(g, s)], p3, by simp [ck], rfl, by simp [hc], ?_⟩
    intro c hc
    rcases List.mem_append.mp hc with hc | hc
    · exact hok c hc
    · rw [List.mem_singleton] at hc
      subst hc
      exact hs.ok g1 g2 (zg.up (by omega))
  · rintro r h1 ⟨cs, p1, rfl, rfl, hc, hok⟩
    rw [rngL_len] at hc
    have hc2 : cs.length = 2 := hc
    (try exists x_ta)
    refine ⟨szl (by have := cut_len (l := cs.map (fun c => ck c.1 c.2)) (a := none) (b := some 1); rw [List.length_map] at *; omega), ?_⟩
    refine loopT_any (fun n ρ h2 => ρ = [some (RV.pv (PV.scr (ns.map PV.int))), some (RV.pv (PV.int i)), some (RV.ref h'.length), some (RV.pv (PV.lst (cs.map fun c => ck c.1 c.2))), none, none, none, none, none, none, none, none, none] ∧ PenH h'.length h2) (fun _ _ _ _ => trivial) _ ?_ ?_ ⟨rfl, PenH.new⟩
    · rintro n x ρ h2 k hx ⟨rfl, P⟩ hk
      obtain ⟨c, hc, rfl⟩ : ∃ c ∈ cs, x = ck c.1 c.2 := by
        rcases List.mem_append.mp (List.mem_of_getElem? hx) with hx | hx
        · obtain ⟨c, h1, h2⟩ := List.mem_map.mp hx
          exact ⟨c, h1, h2.symm⟩
        · obtain ⟨c, h1, h2⟩ := List.mem_map.mp (cut_mem hx)
          exact ⟨c, h1, h2.symm⟩
      obtain ⟨g, s⟩ := c
      have kk := hok _ hc
      have hl := kk.l
      dsimp only at kk hl ⊢
      have b1 : Sz 10 r1000_7 := ⟨by decide, by decide⟩
      have b2 : Sz 10 r_1000 := ⟨by decide, by decide⟩
      (try exists x_ta)
      refine law_up_ok _ (by omega) _ P _ _ ?_
      rintro u p2 ⟨u0, zu⟩
      simp only [show PV.tup [PV.int 1000, PV.int 7] = pt r1000_7 from rfl, show PV.tup [PV.int 1, PV.int 1000] = pt r_1000 from rfl, show ck g s = .tup [pt g, .tup (s.map encS)] from rfl]
      (try exists x_ta)
      simp only [show PV.tup [pt g, PV.tup (s.map encS)] = ck g s from rfl]
      refine loopT_any (fun n ρ h3 => ∃ (j : Nat) (L : List Rat), ρ = [some (RV.pv (PV.scr (ns.map PV.int))), some (RV.pv (PV.int i)), some (RV.ref h'.length), some (RV.pv (PV.lst (cs.map fun c => ck c.1 c.2))), none, some (.pv (ck g s)), some (.ref j), none, none, none, none, none, none] ∧ PenH h'.length h3 ∧ h3[j]? = some (some (L.map pt)) ∧ L.length ≤ 3 + 3 * n ∧ ∀ y ∈ L, 0 ≤ y ∧ Sz 80 y) (fun _ _ _ _ => trivial) _ ?_ ?_ ?_
      · rintro n x ρ h3 k hx ⟨j, L, rfl, P3, hj, hL, zL⟩ hk
        rw [List.getElem?_map, Option.map_eq_some_iff] at hx
        obtain ⟨y, hy, rfl⟩ := hx
        have hm : n < s.length := (List.getElem?_eq_some_iff.mp hy).1
        have hy' := List.mem_of_getElem? hy
        obtain ⟨zy1, zy2⟩ := kk.z y hy'
        have hy0 := (kk.p y hy').1
        (try exists x_ta, encS)
        refine law_sum_ok zy1 b2 (by omega) _ (by omega) _ _ _ ?_
        (try exists x_ta)
        rw [k_mad hj]
        refine ⟨szl (by rw [List.length_map]; simp; omega), ?_⟩
        have q1 : ∀ z ∈ L ++ [y.1, y.1 + r_1000], 0 ≤ z ∧ Sz 80 z := by
          intro z hz
          rcases List.mem_append.mp hz with hz | hz
          · exact zL z hz
          · simp only [List.mem_cons, List.not_mem_nil, or_false] at hz
            rcases hz with rfl | rfl
            · exact ⟨hy0, zy1.up (by omega)⟩
            · have : (0 : Rat) ≤ r_1000 := by decide
              exact ⟨by grind, (zy1.add b2).up (by omega)⟩
        (try exists x_ta)
        split
        · refine law_prod_ok zy1 b2 (by omega) _ (by omega) _ _ _ ?_
          (try exists x_ta)
          refine law_rest_ok zy1 (zy1.mulp b2) (by omega) _ (by omega) _ _ _ ?_
          (try exists x_ta)
          refine ⟨szlt (by simp; omega), hk _ _ ⟨h3.length, L ++ [y.1, y.1 + r_1000] ++ [y.1 - y.1 * r_1000], rfl, P3.app _, by simp, by simp; omega, ?_⟩⟩
          intro z hz
          rcases List.mem_append.mp hz with hz | hz
          · exact q1 z hz
          · rw [List.mem_singleton] at hz
            subst hz
            refine ⟨?_, (zy1.sub (zy1.mulp b2)).up (by omega)⟩
            have h1 : (0 : Rat) ≤ 1 - r_1000 := by decide +kernel
            have h2 := Rat.mul_nonneg hy0 h1
            grind
        · exact hk _ _ ⟨h3.length, L ++ [y.1, y.1 + r_1000], rfl, P3.app _, by simp, by simp; omega, q1⟩
      · rintro ρ h3 ⟨j, L, rfl, P3, hj, hL, zL⟩
        rw [List.length_map] at hL
        (try exists x_ta)
        refine k_sqr hj ?_
        (try exists x_ta)
        have nj : h'.length ≠ j := by
          intro e
          obtain ⟨pp, hp⟩ := P3
          rw [e, hj] at hp
          injection hp with hp
          injection hp with hp
          unfold penL at hp
          cases L with
          | nil => simp at hp
          | cons a L => simp [pt] at hp
        refine loopT_any (fun n ρ h4 => ρ = [some (RV.pv (PV.scr (ns.map PV.int))), some (RV.pv (PV.int i)), some (RV.ref h'.length), some (RV.pv (PV.lst (cs.map fun c => ck c.1 c.2))), none, some (.pv (ck g s)), some (.ref j), none, none, none, none, none, none] ∧ PenH h'.length h4 ∧ h4[j]? = some (some (L.map pt))) (fun _ _ _ h => h.2.2) _ ?_ ?_ ⟨rfl, P3, hj⟩
        · rintro n x ρ h4 k hx ⟨rfl, P4, hj4⟩ hk
          rw [List.getElem?_map, Option.map_eq_some_iff] at hx
          obtain ⟨m, hm, rfl⟩ := hx
          obtain ⟨hm0, zm⟩ := zL m (List.mem_of_getElem? hm)
          (try exists x_ta)
          refine law_some_ok _ (by omega) _ P4 _ _ ?_
          rintro er p5 ze
          have z1 := sz_drf kk zm
          have z2 := sz_shw kk zm ze
          have z3 := sz_shw kk zm sz0
          (try exists x_ta)
          have w1 : Shw 2 12009 (.lst [pt (drf g s m), pt (shw g s m er), pt (shw g s m 0)]) := (shw_lst (n := 1) (w := 4000) (allC (shw_pt (z1.up (by omega))) (allC (shw_pt (z2.up (by omega))) (allC (shw_pt (z3.up (by omega))) all1)))).up (by omega) (by simp)
          have w2 : Shw 1 4000 (pt (shw g s m 0)) := shw_pt (z3.up (by omega))
          (repeat ((first | refine is_whole_ok _ _ (by omega) _ _ _ ?_ | refine is_part_ok _ _ (by omega) _ _ _ ?_ | refine need_part_ok _ _ (by omega) _ _ _ ?_ | refine plus_ok (by repeat' (first | assumption | exact sz0 | apply Sz.add | apply Sz.sub | apply Sz.mulp | apply Sz.neg)) (by repeat' (first | assumption | exact sz0 | apply Sz.add | apply Sz.sub | apply Sz.mulp | apply Sz.neg)) (by omega) _ (by omega) _ _ _ ?_ | refine product_ok (by repeat' (first | assumption | exact sz0 | apply Sz.add | apply Sz.sub | apply Sz.mulp | apply Sz.neg)) (by repeat' (first | assumption | exact sz0 | apply Sz.add | apply Sz.sub | apply Sz.mulp | apply Sz.neg)) (by omega) _ (by omega) _ _ _ ?_ | refine below_ok (by repeat' (first | assumption | exact sz0 | apply Sz.add | apply Sz.sub | apply Sz.mulp | apply Sz.neg)) (by repeat' (first | assumption | exact sz0 | apply Sz.add | apply Sz.sub | apply Sz.mulp | apply Sz.neg)) (by omega) _ (by omega) _ _ _ ?_ | refine is_gain_ok (by repeat' (first | assumption | exact sz0 | apply Sz.add | apply Sz.sub | apply Sz.mulp | apply Sz.neg)) (by omega) (by assumption) (by assumption) _ (by omega) _ _ _ ?_ | refine is_moment_ok (by assumption) _ (by omega) _ _ _ ?_ | refine is_set_ok (by assumption) (by assumption) _ (by omega) _ _ _ ?_ | refine is_clock_ok (by assumption) (by omega) _ (by omega) _ _ _ ?_ | refine need_clock_ok (by assumption) (by omega) _ (by omega) _ _ _ ?_ | refine need_moment_ok (by assumption) _ (by omega) _ _ _ ?_ | refine own_error_ok _ _ (by omega) _ _ _ ?_ | refine own_none_ok _ (by omega) _ _ _ ?_ | refine jumps_till_ok (by assumption) (by repeat' (first | assumption | exact sz0 | apply Sz.add | apply Sz.sub | apply Sz.mulp | apply Sz.neg)) (by omega) _ (by omega) _ _ _ ?_ | refine drift_by_ok (by assumption) (by repeat' (first | assumption | exact sz0 | apply Sz.add | apply Sz.sub | apply Sz.mulp | apply Sz.neg)) (by omega) _ (by omega) _ _ _ ?_ | refine drift_ok (by assumption) (by repeat' (first | assumption | exact sz0 | apply Sz.add | apply Sz.sub | apply Sz.mulp | apply Sz.neg)) (by assumption) (by omega) _ (by omega) _ _ _ ?_ | refine shown_by_ok (by assumption) (by repeat' (first | assumption | exact sz0 | apply Sz.add | apply Sz.sub | apply Sz.mulp | apply Sz.neg)) (by repeat' (first | assumption | exact sz0 | apply Sz.add | apply Sz.sub | apply Sz.mulp | apply Sz.neg)) (by omega) _ (by omega) _ _ _ ?_ | refine shown_at_ok (by assumption) (by repeat' (first | assumption | exact sz0 | apply Sz.add | apply Sz.sub | apply Sz.mulp | apply Sz.neg)) (by assumption) (by repeat' (first | assumption | exact sz0 | apply Sz.add | apply Sz.sub | apply Sz.mulp | apply Sz.neg)) (by omega) _ (by omega) _ _ _ ?_ | refine shown_none_ok (by assumption) (by repeat' (first | assumption | exact sz0 | apply Sz.add | apply Sz.sub | apply Sz.mulp | apply Sz.neg)) (by assumption) (by omega) _ (by omega) _ _ _ ?_ | refine law_sum_ok (by repeat' (first | assumption | exact sz0 | apply Sz.add | apply Sz.sub | apply Sz.mulp | apply Sz.neg)) (by repeat' (first | assumption | exact sz0 | apply Sz.add | apply Sz.sub | apply Sz.mulp | apply Sz.neg)) (by omega) _ (by omega) _ _ _ ?_ | refine law_rest_ok (by repeat' (first | assumption | exact sz0 | apply Sz.add | apply Sz.sub | apply Sz.mulp | apply Sz.neg)) (by repeat' (first | assumption | exact sz0 | apply Sz.add | apply Sz.sub | apply Sz.mulp | apply Sz.neg)) (by omega) _ (by omega) _ _ _ ?_ | refine law_prod_ok (by repeat' (first | assumption | exact sz0 | apply Sz.add | apply Sz.sub | apply Sz.mulp | apply Sz.neg)) (by repeat' (first | assumption | exact sz0 | apply Sz.add | apply Sz.sub | apply Sz.mulp | apply Sz.neg)) (by omega) _ (by omega) _ _ _ ?_ | refine law_under_ok (by repeat' (first | assumption | exact sz0 | apply Sz.add | apply Sz.sub | apply Sz.mulp | apply Sz.neg)) (by repeat' (first | assumption | exact sz0 | apply Sz.add | apply Sz.sub | apply Sz.mulp | apply Sz.neg)) (by omega) _ (by omega) _ _ _ ?_ | refine law_drift_ok (by assumption) (by repeat' (first | assumption | exact sz0 | apply Sz.add | apply Sz.sub | apply Sz.mulp | apply Sz.neg)) (by omega) _ (by omega) _ _ _ ?_ | refine law_shown_ok (by assumption) (by repeat' (first | assumption | exact sz0 | apply Sz.add | apply Sz.sub | apply Sz.mulp | apply Sz.neg)) (by repeat' (first | assumption | exact sz0 | apply Sz.add | apply Sz.sub | apply Sz.mulp | apply Sz.neg)) (by omega) _ (by omega) _ _ _ ?_); (try exists x_ta)))
          rw [f_repr w1 (by omega) (by omega)]
          (try exists x_ta)
          rw [f_repr w1 (by omega) (by omega)]
          (try exists x_ta)
          rw [ns_same]
          (try exists x_ta)
          (repeat ((first | refine is_whole_ok _ _ (by omega) _ _ _ ?_ | refine is_part_ok _ _ (by omega) _ _ _ ?_ | refine need_part_ok _ _ (by omega) _ _ _ ?_ | refine plus_ok (by repeat' (first | assumption | exact sz0 | apply Sz.add | apply Sz.sub | apply Sz.mulp | apply Sz.neg)) (by repeat' (first | assumption | exact sz0 | apply Sz.add | apply Sz.sub | apply Sz.mulp | apply Sz.neg)) (by omega) _ (by omega) _ _ _ ?_ | refine product_ok (by repeat' (first | assumption | exact sz0 | apply Sz.add | apply Sz.sub | apply Sz.mulp | apply Sz.neg)) (by repeat' (first | assumption | exact sz0 | apply Sz.add | apply Sz.sub | apply Sz.mulp | apply Sz.neg)) (by omega) _ (by omega) _ _ _ ?_ | refine below_ok (by repeat' (first | assumption | exact sz0 | apply Sz.add | apply Sz.sub | apply Sz.mulp | apply Sz.neg)) (by repeat' (first | assumption | exact sz0 | apply Sz.add | apply Sz.sub | apply Sz.mulp | apply Sz.neg)) (by omega) _ (by omega) _ _ _ ?_ | refine is_gain_ok (by repeat' (first | assumption | exact sz0 | apply Sz.add | apply Sz.sub | apply Sz.mulp | apply Sz.neg)) (by omega) (by assumption) (by assumption) _ (by omega) _ _ _ ?_ | refine is_moment_ok (by assumption) _ (by omega) _ _ _ ?_ | refine is_set_ok (by assumption) (by assumption) _ (by omega) _ _ _ ?_ | refine is_clock_ok (by assumption) (by omega) _ (by omega) _ _ _ ?_ | refine need_clock_ok (by assumption) (by omega) _ (by omega) _ _ _ ?_ | refine need_moment_ok (by assumption) _ (by omega) _ _ _ ?_ | refine own_error_ok _ _ (by omega) _ _ _ ?_ | refine own_none_ok _ (by omega) _ _ _ ?_ | refine jumps_till_ok (by assumption) (by repeat' (first | assumption | exact sz0 | apply Sz.add | apply Sz.sub | apply Sz.mulp | apply Sz.neg)) (by omega) _ (by omega) _ _ _ ?_ | refine drift_by_ok (by assumption) (by repeat' (first | assumption | exact sz0 | apply Sz.add | apply Sz.sub | apply Sz.mulp | apply Sz.neg)) (by omega) _ (by omega) _ _ _ ?_ | refine drift_ok (by assumption) (by repeat' (first | assumption | exact sz0 | apply Sz.add | apply Sz.sub | apply Sz.mulp | apply Sz.neg)) (by assumption) (by omega) _ (by omega) _ _ _ ?_ | refine shown_by_ok (by assumption) (by repeat' (first | assumption | exact sz0 | apply Sz.add | apply Sz.sub | apply Sz.mulp | apply Sz.neg)) (by repeat' (first | assumption | exact sz0 | apply Sz.add | apply Sz.sub | apply Sz.mulp | apply Sz.neg)) (by omega) _ (by omega) _ _ _ ?_ | refine shown_at_ok (by assumption) (by repeat' (first | assumption | exact sz0 | apply Sz.add | apply Sz.sub | apply Sz.mulp | apply Sz.neg)) (by assumption) (by repeat' (first | assumption | exact sz0 | apply Sz.add | apply Sz.sub | apply Sz.mulp | apply Sz.neg)) (by omega) _ (by omega) _ _ _ ?_ | refine shown_none_ok (by assumption) (by repeat' (first | assumption | exact sz0 | apply Sz.add | apply Sz.sub | apply Sz.mulp | apply Sz.neg)) (by assumption) (by omega) _ (by omega) _ _ _ ?_ | refine law_sum_ok (by repeat' (first | assumption | exact sz0 | apply Sz.add | apply Sz.sub | apply Sz.mulp | apply Sz.neg)) (by repeat' (first | assumption | exact sz0 | apply Sz.add | apply Sz.sub | apply Sz.mulp | apply Sz.neg)) (by omega) _ (by omega) _ _ _ ?_ | refine law_rest_ok (by repeat' (first | assumption | exact sz0 | apply Sz.add | apply Sz.sub | apply Sz.mulp | apply Sz.neg)) (by repeat' (first | assumption | exact sz0 | apply Sz.add | apply Sz.sub | apply Sz.mulp | apply Sz.neg)) (by omega) _ (by omega) _ _ _ ?_ | refine law_prod_ok (by repeat' (first | assumption | exact sz0 | apply Sz.add | apply Sz.sub | apply Sz.mulp | apply Sz.neg)) (by repeat' (first | assumption | exact sz0 | apply Sz.add | apply Sz.sub | apply Sz.mulp | apply Sz.neg)) (by omega) _ (by omega) _ _ _ ?_ | refine law_under_ok (by repeat' (first | assumption | exact sz0 | apply Sz.add | apply Sz.sub | apply Sz.mulp | apply Sz.neg)) (by repeat' (first | assumption | exact sz0 | apply Sz.add | apply Sz.sub | apply Sz.mulp | apply Sz.neg)) (by omega) _ (by omega) _ _ _ ?_ | refine law_drift_ok (by assumption) (by repeat' (first | assumption | exact sz0 | apply Sz.add | apply Sz.sub | apply Sz.mulp | apply Sz.neg)) (by omega) _ (by omega) _ _ _ ?_ | refine law_shown_ok (by assumption) (by repeat' (first | assumption | exact sz0 | apply Sz.add | apply Sz.sub | apply Sz.mulp | apply Sz.neg)) (by repeat' (first | assumption | exact sz0 | apply Sz.add | apply Sz.sub | apply Sz.mulp | apply Sz.neg)) (by omega) _ (by omega) _ _ _ ?_); (try exists x_ta)))
          rw [f_repr w2 (by omega) (by omega), k_ixl2, f_repr w2 (by omega) (by omega), ns_same]
          (try exists x_ta)
          exact hk _ _ ⟨rfl, P4.set p5, get_set_ne nj hj4⟩
        · rintro ρ h4 ⟨rfl, P4, hj4⟩
          (try exists x_ta)
          exact hk _ _ ⟨rfl, P4⟩
      · exact ⟨_, [0, u, r1000_7], rfl, (P.set p2).app _, by simp, by simp, allC ⟨by decide, sz0.up (by omega)⟩ (allC ⟨u0, zu.up (by omega)⟩ (allC ⟨by decide, b1.up (by omega)⟩ all1))⟩
    · rintro ρ h2 ⟨rfl, P⟩
      (try exists x_ta)
      exact hk _ _ rfl
end Law
set_option Elab.async false
set_option linter.all false
set_option maxRecDepth 100000
set_option maxHeartbeats 0
open PySem PySem.W PySem.Calls PyProof.Rows
set_option Elab.async false
set_option linter.all false
set_option maxRecDepth 100000
set_option maxHeartbeats 0
namespace Law
open PySem PySem.W PySem.Calls PyProof.Rows
theorem f_e : opening R.prog = plainProg R.prog.main.scope.names := by kernel_rfl
theorem f_f : ∀ s, fenceModules? R.prog s = some s := fun s => by kernel_rfl
theorem f_def : defOf (view R.prog [48]) R.name = some (HandSHeadRun.topDef R.prog 48, []) := by kernel_rfl
theorem f_hp : R.prog.theDef R.name = some ((HandSHeadRun.topDef R.prog 48).params, (HandSHeadRun.topDef R.prog 48).body, (HandSHeadRun.topDef R.prog 48).scope) := by kernel_rfl
theorem f_hk : kwWritten? (HandSHeadRun.topDef R.prog 48).params.kwonlyargs (HandSHeadRun.topDef R.prog 48).params.kw_defaults = some [] := by kernel_rfl
theorem f_hwr : (!R.writes || R.records.isEmpty) = true := by rfl
theorem f_ok : (chainsOk (view R.prog [48]) && opensWell R.prog && (frees R.toRowW && R.within.isEmpty)) = true := by decide +kernel
theorem f_nm : (HandSHeadRun.topDef R.prog 48).name = ("law" : PySem.Str) := by kernel_rfl
theorem f_df : (HandSHeadRun.topDef R.prog 48).params.defaults = [] := by kernel_rfl
theorem f_call : WalkO (view R.prog [48]) names (XL (view R.prog [48]) []) hk.says R.toRowW (HandSHeadRun.topDef R.prog 48) [] fun f vs => PySem.call f vs := by
  refine G43.walkG (l := PySem.Challenge.rw_gunclocks_k03_what_clocks_show) (n := 63) (k := 40) rfl (by decide) f_df ⟨rfl, by decide, by decide⟩ ?F
  intro w mg fa h Y G hm
  obtain ⟨K, KX, c⟩ := Y
  have T := G43.prog_of KX G c Law.all_s
  have hd : Law.pg.defs[35]? = some Law.d_law := rfl
  rw [f_nm] at hm
  refine ⟨G43.adOf Law.pg K, Law.pg, 35, Law.d_law, KX, T, hd, ?_, rfl, rfl, Law.law_wp⟩
  · obtain ⟨_, _, _, _, _, _, t⟩ := T.defs 35 _ hd
    have n := t.nm.symm.trans hm
    injection n with n
    injection n
theorem f_row : R.Holds := HandSHeadRun.head_any (r := R) (q := view R.prog [48]) (H := hk) (ob := ob) (M := 60000) (loose := names) (d := HandSHeadRun.topDef R.prog 48) (kwd := []) ob_eq f_e f_f run f_def f_hp f_hk f_hwr f_k1 f_ok f_bare f_hw f_call
end Law
set_option Elab.async false
set_option linter.all false
set_option maxRecDepth 100000
set_option maxHeartbeats 0
open PySem PySem.W PySem.Calls PyProof.Rows
set_option maxRecDepth 100000 in
set_option maxHeartbeats 0 in
theorem PySem.Challenge.cw_gunclocks_k03_what_clocks_show_holds : PySem.Challenge.rw_gunclocks_k03_what_clocks_show.Holds := by
  exact Law.law_of Law.f_row
