import PyProof.Rows.All
import Wide.All
import OpenK.AllK
import Wide.FinOn
import HandS.ForMost
import HandS.Wide
import HandS.WideBits
import HandS.Style
import HandS.Deep
import HandS.TupAny
import HandS.IsInst
import HandS.Walk
import HandS.Flow
import HandS.Lambda
import HandS.TupMul
import HandS.TupLe
import KE.SortData
import KE.SortKeyHeap
import HandS.Zip
import KE.GoesMore
import HandS.RaiseMore
import KE.KLam
import HandS.Words
import HandS.Ends
import HandS.EndBits
import HandS.EndTab
import HandS.EndOwn
import KE.KNestM
import KE.IntBitsLaws
import PySem.Challenge.RW_pagesread_k92_whole_polls_of_late_rows
set_option Elab.async false
set_option linter.all false
set_option maxRecDepth 100000
set_option maxHeartbeats 4000000
/-! Py: plain values, how they stand in the abstract heap. -/
namespace Py
open PySem L2

/-- plain values: cup is the one list that defs change for their callers; scr the law's script -/
inductive PV where
  | non | bl (b : Bool) | int (i : Int) | str (x : Str)
  | tup (xs : List PV) | lst (xs : List PV)
  | cup | scr (ns : List Int) | fn (f : Str) | dict (ks vs : List PV) | exn (c : Str) (lim : Int) | lam (k : Nat) (env : List PV)

abbrev Cup := Option (Int × Int)

/-- what plain values lean on: the written part, the module's names -/
structure Wd where
  K : PySem.W.Frag
  mg : Str → Option Value
  T : List (Addr × Str)

/-- what moves: the cup, the tables of code objects -/
structure Cu where
  a : Option Addr
  T : List (Addr × Str)
def Cu.No (c : Cu) (p : Addr) : Prop := c.a ≠ some p ∧ ∀ q ∈ c.T, q.1 ≠ p
def cupIs (H : Hp) : Option Addr → Cup → Prop
  | none, none => True
  | some c, some (a, b) => H c = some (.lst [.int a, .int b])
  | _, _ => False
def CupIs (W : Wd) (H : Hp) (c : Cu) (S : Cup) : Prop := cupIs H c.a S ∧ c.T = W.T ∧ LamX.Tabs c.T H
/-- a tuple, a list that is read: tracked, and none of those that change; or written -/
def TupAt (K : PySem.W.Frag) (H : Hp) (O : List Addr) (c : Cu) (a : Addr) (vs : List V) : Prop :=
  (c.No a ∧ a ∉ O ∧ Rd H a (.tup vs)) ∨ ∃ (o : Obj) (its : Array Value) (n : Nat), K.lookup a = some o ∧ o.cls = .type "tuple" ∧ o.data = .seq its n ∧ its.size ≤ sizeLine ∧ Vals vs its.toList
def ScrAt (K : PySem.W.Frag) (H : Hp) (O : List Addr) (c : Cu) (a : Addr) (vs : List V) : Prop :=
  (c.No a ∧ a ∉ O ∧ Rd H a (.lst vs)) ∨ ∃ (o : Obj) (its : Array Value) (n : Nat), K.lookup a = some o ∧ o.cls = .type "list" ∧ o.dict = none ∧ o.data = .seq its n ∧ its.size ≤ sizeLine ∧ Vals vs its.toList
theorem TupAt.sq {K H O c a vs} (t : TupAt K H O c a vs) : SqT K H a vs := t.elim (fun h => .inl h.2.2) .inr
theorem ScrAt.sq {K H O c a vs} (t : ScrAt K H O c a vs) : SqL K H a vs := t.elim (fun h => .inl h.2.2) .inr
mutual
inductive Rep (W : Wd) (H : Hp) (O : List Addr) (c : Cu) : PV → V → Prop
  | non : Rep W H O c .non .non
  | bl (b : Bool) : Rep W H O c (.bl b) (.bl b)
  | int (i : Int) : Rep W H O c (.int i) (.int i)
  | str (x : Str) : Rep W H O c (.str x) (.str x)
  | tup {a : Addr} {vs : List V} {xs : List PV} : TupAt W.K H O c a vs → RepL W H O c xs vs → Rep W H O c (.tup xs) (.ref a)
  | lst {a : Addr} {vs : List V} {xs : List PV} : c.No a → a ∉ O → H a = some (.lst vs) → RepL W H O c xs vs → Rep W H O c (.lst xs) (.ref a)
  | scr {a : Addr} (ns : List Int) : ScrAt W.K H O c a (ns.map V.int) → Rep W H O c (.scr ns) (.ref a)
  | cup {a : Addr} : c.a = some a → Rep W H O c .cup (.ref a)
  | fn {f : Str} {a : Addr} : W.mg f = some (.ref a) → Rep W H O c (.fn f) (.ref a)
inductive RepL (W : Wd) (H : Hp) (O : List Addr) (c : Cu) : List PV → List V → Prop
  | nil : RepL W H O c [] []
  | cons {x : PV} {v : V} {xs : List PV} {vs : List V} : Rep W H O c x v → RepL W H O c xs vs → RepL W H O c (x :: xs) (v :: vs)
end

/-- what was tracked stands, but for the cup and the lists of O -/
def ExtO (O : List Addr) (c : Cu) (H H' : Hp) : Prop := ∀ a o, c.No a → a ∉ O → H a = some o → H' a = some o
abbrev Ext := ExtO []
theorem ExtO.refl {O c H} : ExtO O c H H := fun _ _ _ _ h => h
theorem ExtO.trans {O c H H1 H2} (a : ExtO O c H H1) (b : ExtO O c H1 H2) : ExtO O c H H2 := fun x o n m h => b x o n m (a x o n m h)
theorem ExtO.wide {O O' c H H'} (a : ExtO O c H H') (h : ∀ x ∈ O, x ∈ O') : ExtO O' c H H' := fun x o n m e => a x o n (fun z => m (h _ z)) e
theorem Ext.all {O c H H'} (a : Ext c H H') : ExtO O c H H' := ExtO.wide a fun _ z => nomatch z
theorem Ext.at {c H H'} (e : Ext c H H') {a : Addr} {o : HO} (n : c.No a) (h : H a = some o) : H' a = some o := e a o n (fun z => nomatch z) h
theorem ExtO.new {O : List Addr} {c : Cu} {H : Hp} {p : Addr} {o : HO} (h : H p = none) : ExtO O c H (upd H p o) := fun a u _ _ e => by
  rw [upd_ne (ne_of_none e h)]; exact e
theorem ExtO.cupd {O : List Addr} {c : Cu} {p : Addr} {H : Hp} {o : HO} (hp : c.a = some p) : ExtO O c H (upd H p o) := fun a u n _ e => by
  rw [upd_ne (fun z => n.1 (by rw [z]; exact hp))]; exact e
theorem ExtO.ownd {O : List Addr} {c : Cu} {p : Addr} {H : Hp} {o : HO} (h : p ∈ O) : ExtO O c H (upd H p o) := fun a u _ m e => by
  rw [upd_ne (fun z => m (by rw [z]; exact h))]; exact e
section
variable {O : List Addr} {c : Cu} {H H' : Hp} {K : PySem.W.Frag} {a : Addr} {u : HO} {vs : List V}
theorem ExtO.rd (e : ExtO O c H H') (n : c.No a) (m : a ∉ O) (h : Rd H a u) : Rd H' a u := by
  rcases h with h | ⟨o, h⟩
  · exact .inl (e _ _ n m h)
  · exact .inr ⟨o, e _ _ n m h⟩
theorem ExtO.sqT (e : ExtO O c H H') (h : TupAt K H O c a vs) : TupAt K H' O c a vs := h.elim (fun h => .inl ⟨h.1, h.2.1, e.rd h.1 h.2.1 h.2.2⟩) .inr
theorem ExtO.sqL (e : ExtO O c H H') (h : ScrAt K H O c a vs) : ScrAt K H' O c a vs := h.elim (fun h => .inl ⟨h.1, h.2.1, e.rd h.1 h.2.1 h.2.2⟩) .inr
end

section
variable {W : Wd} {H H' : Hp} {O O' : List Addr} {c : Cu}
mutual
theorem Rep.extO (e : ExtO O c H H') : ∀ {x : PV} {v : V}, Rep W H O c x v → Rep W H' O c x v
  | _, _, .non => .non
  | _, _, .bl b => .bl b
  | _, _, .int i => .int i
  | _, _, .str x => .str x
  | _, _, .tup n l => .tup (e.sqT n) (RepL.extO e l)
  | _, _, .lst n m s l => .lst n m (e _ _ n m s) (RepL.extO e l)
  | _, _, .scr ns n => .scr ns (e.sqL n)
  | _, _, .cup n => .cup n
  | _, _, .fn n => .fn n
theorem RepL.extO (e : ExtO O c H H') : ∀ {xs : List PV} {vs : List V}, RepL W H O c xs vs → RepL W H' O c xs vs
  | _, _, .nil => .nil
  | _, _, .cons a b => .cons (Rep.extO e a) (RepL.extO e b)
end
theorem Rep.ext (e : Ext c H H') {x : PV} {v : V} (r : Rep W H O c x v) : Rep W H' O c x v := r.extO e.all
theorem RepL.ext (e : Ext c H H') {x : List PV} {v : List V} (r : RepL W H O c x v) : RepL W H' O c x v := r.extO e.all
mutual
/-- fewer lists owned -/
theorem Rep.sub (h : ∀ a ∈ O', a ∈ O) : ∀ {x : PV} {v : V}, Rep W H O c x v → Rep W H O' c x v
  | _, _, .non => .non
  | _, _, .bl b => .bl b
  | _, _, .int i => .int i
  | _, _, .str x => .str x
  | _, _, .tup n l => .tup (n.elim (fun q => .inl ⟨q.1, fun z => q.2.1 (h _ z), q.2.2⟩) .inr) (RepL.sub h l)
  | _, _, .lst n m s l => .lst n (fun z => m (h _ z)) s (RepL.sub h l)
  | _, _, .scr ns n => .scr ns (n.elim (fun q => .inl ⟨q.1, fun z => q.2.1 (h _ z), q.2.2⟩) .inr)
  | _, _, .cup n => .cup n
  | _, _, .fn n => .fn n
theorem RepL.sub (h : ∀ a ∈ O', a ∈ O) : ∀ {xs : List PV} {vs : List V}, RepL W H O c xs vs → RepL W H O' c xs vs
  | _, _, .nil => .nil
  | _, _, .cons a b => .cons (Rep.sub h a) (RepL.sub h b)
end
theorem rd_ne {p a : Addr} {u : HO} (n : H p = none) (h : Rd H a u) : a ≠ p := by
  intro z
  subst z
  rcases h with s | ⟨o, s⟩
  · rw [n] at s; cases s
  · rw [n] at s; cases s
mutual
/-- one more list owned, that was not there when the value was -/
theorem Rep.own {p : Addr} (hn : H p = none) : ∀ {x : PV} {v : V}, Rep W H O c x v → Rep W H (p :: O) c x v
  | _, _, .non => .non
  | _, _, .bl b => .bl b
  | _, _, .int i => .int i
  | _, _, .str x => .str x
  | _, _, .tup n l => .tup (n.elim (fun q => .inl ⟨q.1, fun z => (List.mem_cons.mp z).elim (rd_ne hn q.2.2) q.2.1, q.2.2⟩) .inr) (RepL.own hn l)
  | _, _, .lst n m s l => .lst n (fun z => (List.mem_cons.mp z).elim (rd_ne hn (.inl s)) m) s (RepL.own hn l)
  | _, _, .scr ns n => .scr ns (n.elim (fun q => .inl ⟨q.1, fun z => (List.mem_cons.mp z).elim (rd_ne hn q.2.2) q.2.1, q.2.2⟩) .inr)
  | _, _, .cup n => .cup n
  | _, _, .fn n => .fn n
theorem RepL.own {p : Addr} (hn : H p = none) : ∀ {xs : List PV} {vs : List V}, RepL W H O c xs vs → RepL W H (p :: O) c xs vs
  | _, _, .nil => .nil
  | _, _, .cons a b => .cons (Rep.own hn a) (RepL.own hn b)
end
theorem RepL.length : ∀ {xs : List PV} {vs : List V}, RepL W H O c xs vs → xs.length = vs.length
  | _, _, .nil => rfl
  | _, _, .cons _ b => by simp [b.length]
theorem RepL.get : ∀ {xs : List PV} {vs : List V} {i : Nat} {x : PV}, RepL W H O c xs vs → xs[i]? = some x → ∃ v, vs[i]? = some v ∧ Rep W H O c x v
  | _, _, _, _, .nil, e => by simp at e
  | _, _, 0, _, .cons a _, e => by simp at e; subst e; exact ⟨_, rfl, a⟩
  | _, _, i + 1, _, .cons _ b, e => by
    obtain ⟨v, h1, h2⟩ := b.get (by simpa using e)
    exact ⟨v, by simpa using h1, h2⟩
theorem RepL.get' : ∀ {xs : List PV} {vs : List V} {i : Nat} {v : V}, RepL W H O c xs vs → vs[i]? = some v → ∃ x, xs[i]? = some x ∧ Rep W H O c x v
  | _, _, _, _, .nil, e => by simp at e
  | _, _, 0, _, .cons a _, e => by simp at e; subst e; exact ⟨_, rfl, a⟩
  | _, _, i + 1, _, .cons _ b, e => by
    obtain ⟨v, h1, h2⟩ := b.get' (by simpa using e)
    exact ⟨v, by simpa using h1, h2⟩
theorem RepL.append : ∀ {xs ys : List PV} {vs ws : List V}, RepL W H O c xs vs → RepL W H O c ys ws → RepL W H O c (xs ++ ys) (vs ++ ws)
  | _, _, _, _, .nil, s => s
  | _, _, _, _, .cons a b, s => .cons a (b.append s)
theorem RepL.take : ∀ {xs : List PV} {vs : List V} (n : Nat), RepL W H O c xs vs → RepL W H O c (xs.take n) (vs.take n)
  | _, _, 0, _ => by simp; exact .nil
  | _, _, _ + 1, .nil => .nil
  | _, _, n + 1, .cons a b => .cons a (b.take n)
theorem RepL.drop : ∀ {xs : List PV} {vs : List V} (n : Nat), RepL W H O c xs vs → RepL W H O c (xs.drop n) (vs.drop n)
  | _, _, 0, r => r
  | _, _, _ + 1, .nil => .nil
  | _, _, n + 1, .cons _ b => b.drop n
theorem RepL.reverse : ∀ {xs : List PV} {vs : List V}, RepL W H O c xs vs → RepL W H O c xs.reverse vs.reverse := by
  intro xs
  induction xs with
  | nil => intro vs r; cases r; exact .nil
  | cons x xs ih =>
    intro vs r
    cases r with
    | cons a b => rw [List.reverse_cons, List.reverse_cons]; exact (ih b).append (.cons a .nil)
theorem RepL.set {x : PV} {v : V} (a : Rep W H O c x v) : ∀ {xs : List PV} {vs : List V} (i : Nat), RepL W H O c xs vs → RepL W H O c (xs.set i x) (vs.set i v)
  | _, _, _, .nil => .nil
  | _, _, 0, .cons _ b => .cons a b
  | _, _, i + 1, .cons q b => .cons q (RepL.set a i b)
theorem RepL.rep {xs : List PV} {vs : List V} (r : RepL W H O c xs vs) : ∀ n : Nat, RepL W H O c (List.replicate n xs).flatten (List.replicate n vs).flatten
  | 0 => .nil
  | n + 1 => by rw [List.replicate_succ, List.replicate_succ, List.flatten_cons, List.flatten_cons]; exact r.append (r.rep n)
theorem RepL.ints : ∀ (ns : List Int), RepL W H O c (ns.map PV.int) (ns.map V.int)
  | [] => .nil
  | n :: ns => .cons (.int n) (RepL.ints ns)
/-- a list of ints, read back -/
theorem RepL.of_ints : ∀ {ns : List Int} {vs : List V}, RepL W H O c (ns.map PV.int) vs → vs = ns.map V.int
  | [], _, .nil => rfl
  | _ :: _, _, .cons (.int _) b => by rw [RepL.of_ints b]; rfl
theorem RepL.of_bls : ∀ {ns : List Bool} {vs : List V}, RepL W H O c (ns.map PV.bl) vs → vs = ns.map V.bl
  | [], _, .nil => rfl
  | _ :: _, _, .cons (.bl _) b => by rw [RepL.of_bls b]; rfl
end
/-- an operand: an owned list may stand at its top -/
inductive RepO (W : Wd) (H : Hp) (O : List Addr) (c : Cu) : PV → V → Prop
  | of {x : PV} {v : V} : Rep W H O c x v → RepO W H O c x v
  | own {a : Addr} {vs : List V} {xs : List PV} : c.No a → a ∈ O → H a = some (.lst vs) → RepL W H O c xs vs → RepO W H O c (.lst xs) (.ref a)
section
variable {W : Wd} {H H' : Hp} {O O' : List Addr} {c : Cu}
theorem RepO.ext (e : Ext c H H') {x : PV} {v : V} (r : RepO W H O c x v) : RepO W H' O c x v := by
  cases r with
  | of r => exact .of (r.ext e)
  | own n m h l => exact .own n m (e.at n h) (l.ext e)
theorem RepO.lst {xs : List PV} {v : V} (r : RepO W H O c (.lst xs) v) : ∃ a vs, v = .ref a ∧ c.No a ∧ H a = some (.lst vs) ∧ RepL W H O c xs vs := by
  cases r with
  | of r => cases r with
    | lst n m h l => exact ⟨_, _, rfl, n, h, l⟩
  | own n m h l => exact ⟨_, _, rfl, n, h, l⟩
theorem RepO.tup {xs : List PV} {v : V} (r : RepO W H O c (.tup xs) v) : ∃ a vs, v = .ref a ∧ TupAt W.K H O c a vs ∧ True ∧ SqT W.K H a vs ∧ RepL W H O c xs vs := by
  cases r with
  | of r => cases r with
    | tup n l => exact ⟨_, _, rfl, n, trivial, n.sq, l⟩
theorem RepO.int {i : Int} {v : V} (r : RepO W H O c (.int i) v) : v = .int i := by
  cases r with
  | of r => cases r; rfl
theorem RepO.bl {i : Bool} {v : V} (r : RepO W H O c (.bl i) v) : v = .bl i := by
  cases r with
  | of r => cases r; rfl
theorem RepO.str {i : Str} {v : V} (r : RepO W H O c (.str i) v) : v = .str i := by
  cases r with
  | of r => cases r; rfl
theorem RepO.non {v : V} (r : RepO W H O c .non v) : v = .non := by
  cases r with
  | of r => cases r; rfl
theorem RepO.cup {v : V} (r : RepO W H O c .cup v) : ∃ a, v = .ref a ∧ c.a = some a := by
  cases r with
  | of r => cases r with
    | cup h => exact ⟨_, rfl, h⟩
theorem RepO.scr {ns : List Int} {v : V} (r : RepO W H O c (.scr ns) v) : ∃ a, v = .ref a ∧ SqL W.K H a (ns.map V.int) := by
  cases r with
  | of r => cases r with
    | scr _ h => exact ⟨_, rfl, h.sq⟩
theorem cupIs_new {a : Option Addr} {S : Cup} {p : Addr} {o : HO} (h : cupIs H a S) (hn : H p = none) : cupIs (upd H p o) a S := by
  cases a with
  | none => cases S with
    | none => trivial
    | some s => exact h
  | some c => cases S with
    | none => exact h
    | some s =>
      show upd H p o c = _
      have h' : H c = some (.lst [.int s.1, .int s.2]) := h
      rw [upd_ne (ne_of_none h' hn)]; exact h'
theorem cupIs_ne {a : Option Addr} {S : Cup} {p : Addr} (h : cupIs H a S) (hn : H p = none) : a ≠ some p := by
  cases a with
  | none => intro z; cases z
  | some c => cases S with
    | none => exact h.elim
    | some s =>
      have h' : H c = some (.lst [.int s.1, .int s.2]) := h
      intro z
      cases z
      rw [hn] at h'; cases h'
theorem cupIs_upd {a : Option Addr} {S : Cup} {p : Addr} {o : HO} (h : cupIs H a S) (n : a ≠ some p) : cupIs (upd H p o) a S := by
  cases a with
  | none => cases S with
    | none => trivial
    | some s => exact h
  | some c => cases S with
    | none => exact h
    | some s =>
      show L2.upd H p o c = _
      rw [upd_ne (fun z => n (by rw [z]))]; exact h
theorem tabs_upd {T : List (Addr × Str)} {p : Addr} {o : HO} {vs : List V} (t : LamX.Tabs T H) (n : ∀ q ∈ T, q.1 ≠ p) (hl : H p = some (.lst vs)) : LamX.Tabs T (upd H p o) := fun q hq => by
  obtain ⟨ps, h1, h2, h3⟩ := t q hq
  refine ⟨ps, by rw [upd_ne (n q hq)]; exact h1, h2, fun pos cv e => ?_⟩
  obtain ⟨c, e1, e2⟩ := h3 pos cv e
  refine ⟨c, e1, ?_⟩
  rw [upd_ne (fun z => by rw [z, hl] at e2; unfold LamX.CodeO at e2; cases e2)]; exact e2
theorem CupIs.fill {p : Addr} {s s' : Int × Int} (h : CupIs W H c (some s)) (hc : c.a = some p) : CupIs W (L2.upd H p (.lst [.int s'.1, .int s'.2])) c (some s') := by
  have h0 : H p = some (.lst [.int s.1, .int s.2]) := by have := h.1; rw [hc] at this; exact this
  refine ⟨by rw [hc]; exact upd_same, h.2.1, tabs_upd h.2.2 (fun q hq z => ?_) h0⟩
  obtain ⟨ps, h1, _⟩ := h.2.2 q hq
  rw [z, h0] at h1; cases h1
theorem CupIs.new {S : Cup} {p : Addr} {o : HO} (h : CupIs W H c S) (hn : H p = none) : CupIs W (upd H p o) c S :=
  ⟨cupIs_new h.1 hn, h.2.1, h.2.2.ext fun b u e => by rw [upd_ne (ne_of_none e hn)]; exact e⟩
theorem CupIs.ne {S : Cup} {p : Addr} (h : CupIs W H c S) (hn : H p = none) : c.No p := ⟨cupIs_ne h.1 hn, fun q hq z => by
  obtain ⟨ps, h1, _⟩ := h.2.2 q hq
  rw [z, hn] at h1; cases h1⟩
theorem CupIs.at {p : Addr} {s : Int × Int} (h : CupIs W H c (some s)) (hc : c.a = some p) : H p = some (.lst [.int s.1, .int s.2]) := by
  have := h.1
  rw [hc] at this; exact this
theorem CupIs.nos {p : Addr} (h : CupIs W H c none) (hc : c.a = some p) : False := by
  have := h.1
  rw [hc] at this; exact this
theorem CupIs.keep {S : Cup} (h : CupIs W H c S) (k : ∀ b o, H b = some o → H' b = some o) : CupIs W H' c S := ⟨by
  have h1 := h.1
  revert h1
  cases c.a <;> cases S
  · exact fun h => h
  · exact fun h => h
  · exact fun h => h
  · exact fun h => k _ _ h, h.2.1, h.2.2.ext k⟩
theorem CupIs.upd {S : Cup} {p : Addr} {o : HO} {vs : List V} (h : CupIs W H c S) (n : c.No p) (hl : H p = some (.lst vs)) : CupIs W (upd H p o) c S := ⟨cupIs_upd h.1 n.1, h.2.1, tabs_upd h.2.2 n.2 hl⟩
end
end Py

set_option Elab.async false
set_option linter.all false
set_option maxRecDepth 100000
set_option maxHeartbeats 4000000
/-! Py: operators on plain values. -/
namespace Py
open PySem L2

mutual
def toD : PV → PyData
  | .non => .none | .bl b => .bool b | .int i => .int i | .str x => .str x
  | .tup xs => .tuple (toDs xs) | .lst xs => .list (toDs xs)
  | _ => .dict []
def toDs : List PV → List PyData
  | [] => [] | x :: xs => toD x :: toDs xs
end
def eqv (a b : PV) : Bool := PyData.eqv (toD a) (toD b)
def shp (a : PV) : Bool := SeqAt.shaped (toD a)
theorem toDs_map : ∀ xs : List PV, toDs xs = xs.map toD
  | [] => rfl
  | x :: xs => by rw [toDs, toDs_map xs]; rfl

/-- what an operation on values comes to: the heap only grows, the cup is as it is, the answer stands for pv -/
def Good (W : Wd) (O : List Addr) (c : Cu) (H : Hp) (S : Cup) (pv : PV) : VK := fun z H' => Ext c H H' ∧ CupIs W H' c S ∧ Rep W H' O c pv z
/-- where an operation stands -/
structure Sit (X : Cx) (W : Wd) (pins : List (Addr × Obj)) (σ : St) (H : Hp) (O : List Addr) (c : Cu) (S : Cup) (s : Shared) : Prop where
  inv : Inv X pins σ H s
  hK : W.K = X.K
  cup : CupIs W H c S
  own : ∀ a ∈ O, H a ≠ none
section
variable {X : Cx} {W : Wd} {pins : List (Addr × Obj)} {σ : St} {H H' : Hp} {O : List Addr} {c : Cu} {S : Cup} {s : Shared} {pv : PV} {z : V}
theorem Good.same (h : CupIs W H c S) (r : Rep W H O c pv z) : Good W O c H S pv z H := ⟨ExtO.refl, h, r⟩
theorem Sit.ne (h : Sit X W pins σ H O c S s) {p : Addr} (hn : H p = none) : c.No p := h.cup.ne hn
theorem Sit.no (h : Sit X W pins σ H O c S s) {p : Addr} (hn : H p = none) : p ∉ O := fun m => h.own p m hn
theorem Sit.tup (h : Sit X W pins σ H O c S s) {p : Addr} (hn : H p = none) {xs : List PV} {vs : List V} (r : RepL W H O c xs vs) : Good W O c H S (.tup xs) (.ref p) (upd H p (.tup vs)) :=
  ⟨ExtO.new hn, h.cup.new hn, (.tup (.inl ⟨h.ne hn, h.no hn, .inl upd_same⟩) (r.ext (ExtO.new hn)))⟩
theorem Sit.lst (h : Sit X W pins σ H O c S s) {p : Addr} (hn : H p = none) {xs : List PV} {vs : List V} (r : RepL W H O c xs vs) : Good W O c H S (.lst xs) (.ref p) (upd H p (.lst vs)) :=
  ⟨ExtO.new hn, h.cup.new hn, .lst (h.ne hn) (h.no hn) upd_same (r.ext (ExtO.new hn))⟩
mutual
theorem Rep.dp (hK : W.K = X.K) : ∀ {x : PV} {v : V}, Rep W H O c x v → (toD x).canLay0 = true → Dp X.K H v (toD x)
  | _, _, .non, _ => by rw [toD]; exact .non
  | _, _, .bl b, _ => by rw [toD]; exact .bl b
  | _, _, .int i, _ => by rw [toD]; exact .int i
  | _, _, .str x, _ => by rw [toD]; exact .str x
  | _, _, .tup n l, h => by
    rw [toD] at h ⊢
    exact .tup (by rw [← hK]; exact n.sq) (RepL.dp hK l (by simpa [PyData.canLay0] using h))
  | _, _, .lst n m s l, h => by
    rw [toD] at h ⊢
    exact .lst (SqL.of s) (RepL.dp hK l (by simpa [PyData.canLay0] using h))
  | _, _, .scr ns n, h => by simp [toD, PyData.canLay0] at h
  | _, _, .cup n, h => by simp [toD, PyData.canLay0] at h
  | _, _, .fn n, h => by simp [toD, PyData.canLay0] at h
theorem RepL.dp (hK : W.K = X.K) : ∀ {xs : List PV} {vs : List V}, RepL W H O c xs vs → PyData.canLayAll0 (toDs xs) = true → DpAll X.K H vs (toDs xs)
  | _, _, .nil, _ => by rw [toDs]; exact .nil
  | _, _, .cons a b, h => by
    rw [toDs] at h ⊢
    simp only [PyData.canLayAll0, Bool.and_eq_true] at h
    exact .cons (Rep.dp hK a h.1) (RepL.dp hK b h.2)
end
theorem shp_lay {x : PV} (h : shp x = true) : (toD x).canLay0 = true := (Bool.and_eq_true_iff.mp h).1
theorem RepO.dp (hK : W.K = X.K) {x : PV} {v : V} (r : RepO W H O c x v) (h : shp x = true) : Dp X.K H v (toD x) := by
  cases r with
  | of r => exact r.dp hK (shp_lay h)
  | own n m s l =>
    have h := shp_lay h
    rw [toD] at h ⊢
    exact .lst (SqL.of s) (RepL.dp hK l (by simpa [PyData.canLay0] using h))
end

/-! ### what operators come to -/
def lineN : Nat := 16777216
theorem lineN_eq : lineN = sizeLine := sizeLine_eq.symm
def addV : PV → PV → Option PV
  | .int i, .int j => some (.int (i + j))
  | .str i, .str j => if i.length + j.length ≤ lineN then some (.str (i ++ j)) else none
  | .tup xs, .tup ys => if xs.length + ys.length ≤ lineN then some (.tup (xs ++ ys)) else none
  | .lst xs, .lst ys => if xs.length + ys.length ≤ lineN then some (.lst (xs ++ ys)) else none
  | _, _ => none
def subV : PV → PV → Option PV
  | .int i, .int j => some (.int (i - j))
  | _, _ => none
def mulOk (i j : Int) : Bool := decide ((Builtin.Int.intBits i : Int) + (Builtin.Int.intBits j : Int) ≤ 134217728)
def mulV : PV → PV → Option PV
  | .int i, .int j => if mulOk i j then some (.int (i * j)) else none
  | .tup xs, .int k => if 2 ≤ k ∧ k ≤ 1000 ∧ xs.length ≤ 1000 ∧ xs ≠ [] then some (.tup (List.replicate k.toNat xs).flatten) else none
  | .lst xs, .int k => if k ≤ 1000 ∧ -1000 ≤ k ∧ xs.length ≤ 1000 then some (.lst (List.replicate k.toNat xs).flatten) else none
  | _, _ => none
def divV : PV → PV → Option PV
  | .int i, .int j => if 0 < j ∧ j < 1073741824 then some (.int (i / j)) else none
  | _, _ => none
def modV : PV → PV → Option PV
  | .int i, .int j => if 0 < j then some (.int (i % j)) else none
  | _, _ => none
def powV : PV → PV → Option PV
  | .int i, .int j => if 0 ≤ j ∧ j ≤ 1000 ∧ i.natAbs < 1000 then some (.int (i ^ j.toNat)) else none
  | _, _ => none
def binV : Operator → PV → PV → Option PV
  | .Add => addV | .Sub => subV | .Mult => mulV | .FloorDiv => divV | .Mod => modV | .Pow => powV
  | _ => fun _ _ => none

/-- an operation on operands -/
def OpOk (X : Cx) (W : Wd) (f : Value → Value → Sem Value) (g : PV → PV → Option PV) : Prop :=
  ∀ (pins : List (Addr × Obj)) (s : Shared) (σ : St) (H : Hp) (O : List Addr) (c : Cu) (S : Cup) (a b : PV) (x y : V) (v u : Value) (pv : PV), Sit X W pins σ H O c S s → RepO W H O c a x → RepO W H O c b y → RelV x v → RelV y u → g a b = some pv →
    wpAny (model X.prog X.w) X.A (f v u) (EP X pins σ (Good W O c H S pv)) X.xe s
end Py

set_option Elab.async false
set_option linter.all false
set_option maxRecDepth 100000
set_option maxHeartbeats 4000000
/-! Py: operators on plain values are the model's. -/
namespace Py
open PySem L2
section
variable {X : Cx} {W : Wd} {f : Value → Value → Sem Value} {g g' : PV → PV → Option PV}
theorem OpOk.of {r : R2} (hr : OpR X f r) (h : ∀ {pins : List (Addr × Obj)} {s : Shared} {σ : St} {H : Hp} {O : List Addr} {c : Cu} {S : Cup} {a b : PV} {x y : V} {pv : PV}, Sit X W pins σ H O c S s → RepO W H O c a x → RepO W H O c b y → g a b = some pv → r x y H (Good W O c H S pv)) : OpOk X W f g :=
  fun pins s σ H O c S a b x y v u pv st ra rb rx ry e => hr pins s σ H x y v u _ st.inv rx ry (h st ra rb e)

theorem lexAt_up {e r e2 r2 : Nat → Bool} {z : Bool} : ∀ {k i : Nat}, (∀ j, e (j + 1) = e2 j) → (∀ j, r (j + 1) = r2 j) → Ob.lexAt e r z (i + 1) k = Ob.lexAt e2 r2 z i k
  | 0, _, _, _ => rfl
  | k + 1, i, h1, h2 => by rw [Ob.lexAt_succ, Ob.lexAt_succ, h1, h2, lexAt_up h1 h2]
theorem lexAt_gt : ∀ (ns ms : List Int), Ob.lexAt (fun j => decide (ns.getD j 0 = ms.getD j 0)) (fun j => decide (ms.getD j 0 < ns.getD j 0)) (decide (ns.length > ms.length)) 0 (min ns.length ms.length) = HT.lexLt ms ns
  | [], [] => rfl
  | [], _ :: _ => by simp [Ob.lexAt_zero, HT.lexLt]
  | _ :: _, [] => by simp [Ob.lexAt_zero, HT.lexLt]
  | n :: ns, m :: ms => by
    rw [show min (n :: ns).length (m :: ms).length = min ns.length ms.length + 1 by simp, Ob.lexAt_succ, lexAt_up (e2 := fun j => decide (ns.getD j 0 = ms.getD j 0)) (r2 := fun j => decide (ms.getD j 0 < ns.getD j 0)) (fun j => by simp) (fun j => by simp)]
    have ih := lexAt_gt ns ms
    rw [show decide ((n :: ns).length > (m :: ms).length) = decide (ns.length > ms.length) by simp, ih, HT.lexLt_cons]
    by_cases q : n = m
    · subst q; simp
    · have q' : ¬ m = n := fun z => q z.symm
      simp [q, q']
theorem lexAt_le : ∀ (ns ms : List Int), Ob.lexAt (fun j => decide (ns.getD j 0 = ms.getD j 0)) (fun j => decide (ns.getD j 0 ≤ ms.getD j 0)) (decide (ns.length ≤ ms.length)) 0 (min ns.length ms.length) = !HT.lexLt ms ns
  | [], [] => rfl
  | [], _ :: _ => by simp [Ob.lexAt_zero, HT.lexLt]
  | _ :: _, [] => by simp [Ob.lexAt_zero, HT.lexLt]
  | n :: ns, m :: ms => by
    rw [show min (n :: ns).length (m :: ms).length = min ns.length ms.length + 1 by simp, Ob.lexAt_succ, lexAt_up (e2 := fun j => decide (ns.getD j 0 = ms.getD j 0)) (r2 := fun j => decide (ns.getD j 0 ≤ ms.getD j 0)) (fun j => by simp) (fun j => by simp)]
    have ih := lexAt_le ns ms
    rw [show decide ((n :: ns).length ≤ (m :: ms).length) = decide (ns.length ≤ ms.length) by simp, ih, HT.lexLt_cons]
    by_cases q : n = m
    · subst q; simp
    · have q' : ¬ m = n := fun z => q z.symm
      simp [q, q', ← Int.not_lt]
theorem deq_beq (a b : Int) : decide (a = b) = (a == b) := by by_cases z : a = b <;> simp [z]
def rGtI (K : PySem.W.Frag) : R2 := fun x y H Q => ∃ (p q : Addr) (ns ms : List Int), x = .ref p ∧ y = .ref q ∧ SqT K H p (ns.map V.int) ∧ SqT K H q (ms.map V.int) ∧ Q (.bl (HT.lexLt ms ns)) H
theorem op_gtI (hu0 : X.A.units < cLine) : OpR X (compareOp .Gt) (rGtI X.K) := by
  intro pins s σ H x y v u Q I rx ry ⟨p, q, ns, ms, e1, e2, h1, h2, fin⟩
  subst e1 e2
  cases rx; cases ry
  obtain ⟨us, w1, z1, _⟩ := I.tuple h1
  obtain ⟨ws, w2, z2, _⟩ := I.tuple h2
  have k1 : PyProof.Rows.IntsAre us ns := Vals.ints w1
  have k2 : PyProof.Rows.IntsAre ws ms := Vals.ints w2
  have n1 : us.toArray.size = ns.length := by rw [List.size_toArray]; exact k1.length
  have n2 : ws.toArray.size = ms.length := by rw [List.size_toArray]; exact k2.length
  have g1 : ∀ j (hj : j < us.toArray.size), ∃ t, us.toArray[j] = .int (ns.getD j 0) t := fun j hj => PyProof.Rows.IntsAre.int_at k1 _ _ (by simp at hj; simp [hj])
  have g2 : ∀ j (hj : j < ws.toArray.size), ∃ t, ws.toArray[j] = .int (ms.getD j 0) t := fun j hj => PyProof.Rows.IntsAre.int_at k2 _ _ (by simp at hj; simp [hj])
  have big := Ob.RcOp.tuples_gt (A := X.A) (s := s) (e := fun j => decide (ns.getD j 0 = ms.getD j 0)) (r := fun j => decide (ms.getD j 0 < ns.getD j 0)) z1 z2 hu0 (fun j a1 a2 => by
    obtain ⟨t, ht⟩ := g1 j a1
    obtain ⟨t', ht'⟩ := g2 j a2
    rw [ht, ht', deq_beq (ns.getD j 0)]
    exact SeqAt.EqAt.int_int _ _ _ _) (fun j a1 a2 _ => by
    obtain ⟨t, ht⟩ := g1 j a1
    obtain ⟨t', ht'⟩ := g2 j a2
    rw [ht, ht']
    exact Ob.RcOp.gt_int _ _ _ _)
  rw [n1, n2, lexAt_gt] at big
  exact big X.prog X.w X.xe (EP X pins σ Q) ⟨.bl _, H, I, rfl, fin⟩
theorem ok_add : OpOk X W (binaryOp .Add) addV := by
  intro pins s σ H O c S a b x y v u pv st ra rb rx ry e
  cases a <;> cases b <;> first | cases e | skip
  case int.int i j =>
    cases ra.int; cases rb.int
    exact op_add pins s σ H _ _ v u _ st.inv rx ry ⟨i, j, rfl, rfl, Good.same st.cup (.int _)⟩
  case str.str i j =>
    cases ra.str; cases rb.str
    simp only [addV] at e
    split at e
    · rename_i hl
      cases e
      exact op_add_str pins s σ H _ _ v u _ st.inv rx ry ⟨i, j, rfl, rfl, by rw [← lineN_eq]; exact hl, Good.same st.cup (.str _)⟩
    · cases e
  case tup.tup xs ys =>
    simp only [addV] at e
    split at e
    · rename_i hl
      cases e
      obtain ⟨p, vs, rfl, n1, m1, h1, l1⟩ := ra.tup
      obtain ⟨q, ws, rfl, n2, m2, h2, l2⟩ := rb.tup
      have e1 := l1.length
      have e2 := l2.length
      rw [st.hK] at h1 h2
      refine op_catA pins s σ H _ _ v u _ st.inv rx ry ⟨p, q, vs, ws, rfl, rfl, h1, h2, by rw [← lineN_eq]; omega, fun z => ?_, fun _ z => ?_, fun _ _ p hp => st.tup hp (l1.append l2)⟩
      · subst z
        cases l1
        rw [List.nil_append]
        exact Good.same st.cup (.tup n2 l2)
      · subst z
        cases l2
        rw [List.append_nil]
        exact Good.same st.cup (.tup n1 l1)
    · cases e
  case lst.lst xs ys =>
    simp only [addV] at e
    split at e
    · rename_i hl
      cases e
      obtain ⟨p, vs, rfl, n1, h1, l1⟩ := ra.lst
      obtain ⟨q, ws, rfl, n2, h2, l2⟩ := rb.lst
      have e1 := l1.length
      have e2 := l2.length
      exact op_cat pins s σ H _ _ v u _ st.inv rx ry ⟨p, q, vs, ws, rfl, rfl, h1, h2, by rw [← lineN_eq]; omega, fun p hp => st.lst hp (l1.append l2)⟩
    · cases e
theorem ok_sub : OpOk X W (binaryOp .Sub) subV := .of op_sub fun {pins s σ H O c S a b x y pv} st ra rb e => by
  cases a <;> cases b <;> first | cases e | skip
  case int.int i j =>
    cases ra.int; cases rb.int
    exact ⟨i, j, rfl, rfl, Good.same st.cup (.int _)⟩
theorem ok_div : OpOk X W (binaryOp .FloorDiv) divV := .of op_fdiv fun {pins s σ H O c S a b x y pv} st ra rb e => by
  cases a <;> cases b <;> first | cases e | skip
  case int.int i j =>
    cases ra.int; cases rb.int
    simp only [divV] at e
    split at e
    · rename_i h; cases e
      exact ⟨i, j, rfl, rfl, h, Good.same st.cup (.int _)⟩
    · cases e
theorem ok_mod : OpOk X W (binaryOp .Mod) modV := .of op_mod fun {pins s σ H O c S a b x y pv} st ra rb e => by
  cases a <;> cases b <;> first | cases e | skip
  case int.int i j =>
    cases ra.int; cases rb.int
    simp only [modV] at e
    split at e
    · rename_i h; cases e
      exact ⟨i, j, rfl, rfl, h, Good.same st.cup (.int _)⟩
    · cases e
theorem ok_pow : OpOk X W (binaryOp .Pow) powV := .of op_pow fun {pins s σ H O c S a b x y pv} st ra rb e => by
  cases a <;> cases b <;> first | cases e | skip
  case int.int i j =>
    cases ra.int; cases rb.int
    simp only [powV] at e
    split at e
    · rename_i h; cases e
      refine ⟨i, j, rfl, rfl, ⟨h.1, by omega, by have := h.2.2; omega⟩, Good.same st.cup (.int _)⟩
    · cases e
theorem ok_mul : OpOk X W (binaryOp .Mult) mulV := by
  intro pins s σ H O c S a b x y v u pv st ra rb rx ry e
  cases a <;> cases b <;> first | cases e | skip
  case int.int i j =>
    cases ra.int; cases rb.int
    simp only [mulV] at e
    split at e
    · rename_i h; cases e
      exact op_mulX pins s σ H _ _ v u _ st.inv rx ry ⟨i, j, rfl, rfl, (by unfold CMulX; exact of_decide_eq_true (show decide _ = true from h)), Good.same st.cup (.int _)⟩
    · cases e
  case tup.int xs k =>
    cases rb.int
    simp only [mulV] at e
    split at e
    · rename_i h; cases e
      obtain ⟨p, vs, rfl, n1, m1, h1, l1⟩ := ra.tup
      have e1 := l1.length
      rw [st.hK] at h1
      refine op_repT pins s σ H _ _ v u _ st.inv rx ry ⟨p, k, vs, rfl, rfl, h1, ?_, h.1, h.2.1, by omega, fun p hp => st.tup hp (l1.rep _)⟩
      intro z; subst z; cases l1; exact h.2.2.2 rfl
    · cases e
  case lst.int xs k =>
    cases rb.int
    simp only [mulV] at e
    split at e
    · rename_i h; cases e
      obtain ⟨p, vs, rfl, n1, h1, l1⟩ := ra.lst
      have e1 := l1.length
      refine op_rep pins s σ H _ _ v u _ st.inv rx ry ⟨p, k, vs, rfl, rfl, h1, by omega, by omega, ?_, fun p hp => st.lst hp (l1.rep _)⟩
      rw [← lineN_eq]
      have a1 : vs.length * k.toNat ≤ 1000 * 1000 := Nat.mul_le_mul (by omega) (by omega)
      show _ ≤ 16777216
      omega
    · cases e
theorem ok_bin (op : Operator) : OpOk X W (binaryOp op) (binV op) := by
  cases op <;> first
    | exact ok_add | exact ok_sub | exact ok_mul | exact ok_div | exact ok_mod | exact ok_pow
    | (intro pins s σ H O c S a b x y v u pv st ra rb rx ry e; cases e)
end

/-! ### comparisons -/
def isC (b : PV) : Bool := match b with
  | .non => true | .bl _ => true | _ => false
/-- x is y, y None or a truth -/
def isV : PV → PV → Option Bool
  | .non, .non => some true | .bl a, .bl b => some (a == b)
  | .non, .bl _ | .bl _, .non => some false
  | .int _, .non | .int _, .bl _ | .str _, .non | .str _, .bl _ | .tup _, .non | .tup _, .bl _ | .lst _, .non | .lst _, .bl _ => some false
  | _, _ => none
def intsOf : List PV → Option (List Int)
  | [] => some []
  | .int i :: xs => (intsOf xs).map fun r => i :: r
  | _ :: _ => none
theorem intsOf_some : ∀ {xs : List PV} {ns : List Int}, intsOf xs = some ns → xs = ns.map PV.int
  | [], ns, h => by cases h; rfl
  | .int i :: xs, ns, h => by
    simp only [intsOf, Option.map_eq_some_iff] at h
    obtain ⟨r, h1, rfl⟩ := h
    rw [intsOf_some h1]; rfl
theorem intsOf_map : ∀ (ns : List Int), intsOf (ns.map PV.int) = some ns
  | [] => rfl
  | n :: ns => by simp [intsOf, intsOf_map ns]
def ltV : PV → PV → Option Bool
  | .int i, .int j => some (decide (i < j))
  | .tup xs, .tup ys => match intsOf xs, intsOf ys with
    | some ns, some ms => some (HT.lexLt ns ms)
    | _, _ => none
  | _, _ => none
def leqV : PV → PV → Option Bool
  | .int i, .int j => some (decide (i ≤ j))
  | .tup xs, .tup ys => match intsOf xs, intsOf ys with
    | some ns, some ms => some (!HT.lexLt ms ns)
    | _, _ => none
  | _, _ => none
def gtV : PV → PV → Option Bool
  | .int i, .int j => some (decide (j < i))
  | .tup xs, .tup ys => match intsOf xs, intsOf ys with
    | some ns, some ms => some (HT.lexLt ms ns)
    | _, _ => none
  | _, _ => none
@[simp] theorem leqV_int (i j : Int) : leqV (.int i) (.int j) = some (decide (i ≤ j)) := rfl
@[simp] theorem leqV_tup (xs ys : List PV) : leqV (.tup xs) (.tup ys) = (match intsOf xs, intsOf ys with | some ns, some ms => some (!HT.lexLt ms ns) | _, _ => none) := rfl
@[simp] theorem gtV_int (i j : Int) : gtV (.int i) (.int j) = some (decide (j < i)) := rfl
@[simp] theorem gtV_tup (xs ys : List PV) : gtV (.tup xs) (.tup ys) = (match intsOf xs, intsOf ys with | some ns, some ms => some (HT.lexLt ms ns) | _, _ => none) := rfl
def eqB (a b : PV) : Option Bool := if shp a && shp b then some (eqv a b) else none
def inB (a b : PV) : Option Bool := match b with
  | .lst xs | .tup xs => if shp a && shp b then some (xs.any fun z => eqv z a) else none
  | _ => none
def cmpB (op : CmpOp) (a b : PV) : Option Bool := match op with
  | .Eq => eqB a b
  | .NotEq => (eqB a b).map not
  | .Lt => ltV a b
  | .LtE => leqV a b
  | .Gt => gtV a b
  | .GtE => match a, b with | .int i, .int j => some (decide (j ≤ i)) | _, _ => none
  | .Is => isV a b
  | .IsNot => (isV a b).map not
  | .In => inB a b
  | .NotIn => (inB a b).map not
def cmpV (op : CmpOp) (a b : PV) : Option PV := (cmpB op a b).map PV.bl

section
variable {X : Cx} {W : Wd}
theorem is_bl {P : Program} {w : World} {A : Around} {E Q : Value → Shared → Prop} {s : Shared} {x : V} {v : Value} {b : Bool} (r : RelV x v) (hx : ∀ t, x ≠ .ty t) (h : Q (.bool (decide (x = .bl b))) s) : wpAny (model P w) A (compareOp .Is v (.bool b)) Q E s := by
  cases x with
  | non => cases r; exact wpAny_pure h
  | bl a =>
    cases r
    refine wpAny_bind (wpAny_pure ?_)
    have e : (Value.bool a == Value.bool b) = decide (V.bl a = V.bl b) := by
      cases a <;> cases b <;> rfl
    rw [e]; exact wpAny_pure h
  | int i => obtain ⟨t, rfl⟩ := r; exact wpAny_pure h
  | str i => obtain ⟨t, rfl⟩ := r; exact wpAny_pure h
  | byt i => obtain ⟨t, rfl⟩ := r; exact wpAny_pure h
  | flt i => obtain ⟨t, rfl⟩ := r; exact wpAny_pure h
  | ref i => cases r; exact wpAny_pure h
  | ty n => exact absurd rfl (hx n)
theorem isNot_bl {P : Program} {w : World} {A : Around} {E Q : Value → Shared → Prop} {s : Shared} {x : V} {v : Value} {b : Bool} (r : RelV x v) (hx : ∀ t, x ≠ .ty t) (h : Q (.bool (!decide (x = .bl b))) s) : wpAny (model P w) A (compareOp .IsNot v (.bool b)) Q E s := by
  cases x with
  | non => cases r; exact wpAny_pure h
  | bl a =>
    cases r
    refine wpAny_bind (wpAny_pure ?_)
    have e : (Value.bool a == Value.bool b) = decide (V.bl a = V.bl b) := by
      cases a <;> cases b <;> rfl
    rw [e]; exact wpAny_pure h
  | int i => obtain ⟨t, rfl⟩ := r; exact wpAny_pure h
  | str i => obtain ⟨t, rfl⟩ := r; exact wpAny_pure h
  | byt i => obtain ⟨t, rfl⟩ := r; exact wpAny_pure h
  | flt i => obtain ⟨t, rfl⟩ := r; exact wpAny_pure h
  | ref i => cases r; exact wpAny_pure h
  | ty n => exact absurd rfl (hx n)
theorem RepO.ty {H : Hp} {O : List Addr} {c : Cu} {a : PV} {x : V} (r : RepO W H O c a x) : ∀ t, x ≠ .ty t := by
  intro t z
  subst z
  cases r with
  | of r => cases r
/-- is, by what stands at its right -/
theorem isV_some {H : Hp} {O : List Addr} {c : Cu} {a b : PV} {x y : V} {k : Bool} (ra : RepO W H O c a x) (rb : RepO W H O c b y) (e : isV a b = some k) :
    (y = .non ∧ k = decide (x = .non)) ∨ ∃ d, y = .bl d ∧ k = decide (x = .bl d) := by
  cases a <;> cases b <;> cases e
  all_goals first
    | (have q := rb.non; subst q; left; refine ⟨rfl, ?_⟩)
    | (have q := rb.bl; subst q; right; refine ⟨_, rfl, ?_⟩)
  all_goals first
    | (have q := ra.non; subst q; simp; done)
    | (have q := ra.bl; subst q; simp; done)
    | (have q := ra.bl; subst q; rename_i d1 d2; cases d1 <;> cases d2 <;> simp; done)
    | (have q := ra.int; subst q; simp; done)
    | (have q := ra.str; subst q; simp; done)
    | (obtain ⟨p, vs, rfl, _⟩ := ra.tup; simp; done)
    | (obtain ⟨p, vs, rfl, _⟩ := ra.lst; simp; done)
theorem bool_good {pins : List (Addr × Obj)} {σ : St} {H : Hp} {O : List Addr} {c : Cu} {S : Cup} {s : Shared} {k k' : Bool} (st : Sit X W pins σ H O c S s) (e : k = k') : EP X pins σ (Good W O c H S (.bl k)) (.bool k') s := by
  subst e
  exact ⟨.bl k, H, st.inv, rfl, Good.same st.cup (.bl _)⟩
theorem in_ref {X : Cx} {pins : List (Addr × Obj)} {s : Shared} {σ : St} {H : Hp} {x y : V} {v u : Value} {Q : Value → Shared → Prop} {d : PyData} {ds : List PyData} (hu : X.A.units + 65 < cLine) (I : Inv X pins σ H s) (hx : Dp X.K H x d) (rx : RelV x v) (ry : RelV y u)
    (hy : Dp X.K H y (.list ds) ∨ Dp X.K H y (.tuple ds)) (sd : SeqAt.shaped d = true) (sy : SeqAt.shaped (.list ds) = true) (h : Q (.bool (ds.any fun z => PyData.eqv z d)) s) : wpAny (model X.prog X.w) X.A (compareOp .In v u) Q X.xe s := by
  obtain ⟨as, r1⟩ := Dp.reads I d x v hx rx
  rcases hy with hy | hy
  · obtain ⟨bs, r2⟩ := Dp.reads I _ y u hy ry
    exact SeqAt.in_list_reads r2 r1 (SeqAt.canLay_of_shaped sy) (SeqAt.canLay_of_shaped sd) (PyProof.Rows.room_in_shaped sd hu) h
  · obtain ⟨bs, r2⟩ := Dp.reads I _ y u hy ry
    exact SeqAt.in_tuple_reads r2 r1 (SeqAt.canLay_of_shaped sy) (SeqAt.canLay_of_shaped sd) (PyProof.Rows.room_in_shaped sd hu) h
theorem notIn_ref {X : Cx} {pins : List (Addr × Obj)} {s : Shared} {σ : St} {H : Hp} {x y : V} {v u : Value} {Q : Value → Shared → Prop} {d : PyData} {ds : List PyData} (hu : X.A.units + 65 < cLine) (I : Inv X pins σ H s) (hx : Dp X.K H x d) (rx : RelV x v) (ry : RelV y u)
    (hy : Dp X.K H y (.list ds) ∨ Dp X.K H y (.tuple ds)) (sd : SeqAt.shaped d = true) (sy : SeqAt.shaped (.list ds) = true) (h : Q (.bool (!ds.any fun z => PyData.eqv z d)) s) : wpAny (model X.prog X.w) X.A (compareOp .NotIn v u) Q X.xe s := by
  obtain ⟨as, r1⟩ := Dp.reads I d x v hx rx
  rcases hy with hy | hy
  · obtain ⟨bs, r2⟩ := Dp.reads I _ y u hy ry
    exact SeqAt.notIn_list_reads r2 r1 (SeqAt.canLay_of_shaped sy) (SeqAt.canLay_of_shaped sd) (PyProof.Rows.room_in_shaped sd hu) h
  · obtain ⟨bs, r2⟩ := Dp.reads I _ y u hy ry
    exact SeqAt.notIn_tuple_reads r2 r1 (SeqAt.canLay_of_shaped sy) (SeqAt.canLay_of_shaped sd) (PyProof.Rows.room_in_shaped sd hu) h
theorem any_map_toD (xs : List PV) (a : PV) : ((toDs xs).any fun z => PyData.eqv z (toD a)) = xs.any fun z => eqv z a := by
  rw [toDs_map, List.any_map]; rfl
/-- in, by what it comes to -/
theorem inB_some {H : Hp} {O : List Addr} {c : Cu} {a b : PV} {x y : V} {k : Bool} (hK : W.K = X.K) (ra : RepO W H O c a x) (rb : RepO W H O c b y) (e : inB a b = some k) :
    ∃ d ds, Dp X.K H x d ∧ (Dp X.K H y (.list ds) ∨ Dp X.K H y (.tuple ds)) ∧ SeqAt.shaped d = true ∧ SeqAt.shaped (.list ds) = true ∧ k = ds.any fun z => PyData.eqv z d := by
  cases b <;> first | cases e | skip
  case lst xs =>
    simp only [inB] at e
    split at e
    · rename_i h
      cases e
      rw [Bool.and_eq_true] at h
      have d2 := rb.dp hK h.2
      rw [toD] at d2
      have s2 : SeqAt.shaped (toD (.lst xs)) = true := h.2
      rw [toD] at s2
      exact ⟨toD a, toDs xs, ra.dp hK h.1, .inl d2, h.1, s2, (any_map_toD xs a).symm⟩
    · cases e
  case tup xs =>
    simp only [inB] at e
    split at e
    · rename_i h
      cases e
      rw [Bool.and_eq_true] at h
      have d2 := rb.dp hK h.2
      rw [toD] at d2
      have s2 : SeqAt.shaped (toD (.tup xs)) = true := h.2
      rw [toD] at s2
      have s3 : SeqAt.shaped (.list (toDs xs)) = true := by
        have e1 : SeqAt.shaped (.tuple (toDs xs)) = SeqAt.shaped (.list (toDs xs)) := by
          simp only [SeqAt.shaped, PyData.canLay0, PyData.depth]; rfl
        rw [← e1]; exact s2
      exact ⟨toD a, toDs xs, ra.dp hK h.1, .inr d2, h.1, s3, (any_map_toD xs a).symm⟩
    · cases e

theorem ok_cmp (hu : X.A.units + 65 < cLine) (op : CmpOp) : OpOk X W (compareOp op) (cmpV op) := by
  intro pins s σ H O c S a b x y v u pv st ra rb rx ry e
  unfold cmpV at e
  rw [Option.map_eq_some_iff] at e
  obtain ⟨k, e, rfl⟩ := e
  have hu4 : X.A.units + 64 < cLine := by omega
  have hu0 : X.A.units < cLine := by omega
  have hint : ∀ {op : CmpOp} {p : Int → Int → Bool}, OpR X (compareOp op) (rI0 fun i j => .bl (p i j)) → (∃ i j, a = .int i ∧ b = .int j ∧ k = p i j) → wpAny (model X.prog X.w) X.A (compareOp op v u) (EP X pins σ (Good W O c H S (.bl k))) X.xe s := by
    intro op p hr h
    obtain ⟨i, j, rfl, rfl, rfl⟩ := h
    cases ra.int; cases rb.int
    exact hr pins s σ H _ _ v u _ st.inv rx ry ⟨i, j, rfl, rfl, Good.same st.cup (.bl _)⟩
  cases op
  case Eq =>
    simp only [cmpB, eqB] at e
    split at e
    · rename_i h
      cases e
      rw [Bool.and_eq_true] at h
      exact op_eqD hu4 pins s σ H x y v u _ st.inv rx ry ⟨toD a, toD b, ra.dp st.hK h.1, rb.dp st.hK h.2, h.1, h.2, Good.same st.cup (.bl _)⟩
    · cases e
  case NotEq =>
    simp only [cmpB, eqB] at e
    split at e
    · rename_i h
      cases e
      rw [Bool.and_eq_true] at h
      exact op_neD hu4 pins s σ H x y v u _ st.inv rx ry ⟨toD a, toD b, ra.dp st.hK h.1, rb.dp st.hK h.2, h.1, h.2, Good.same st.cup (.bl _)⟩
    · cases e
  case Lt =>
    cases a <;> cases b <;> first | cases e | skip
    case int.int i j => exact hint op_lt ⟨i, j, rfl, rfl, rfl⟩
    case tup.tup xs ys =>
      simp only [cmpB, ltV] at e
      split at e
      · rename_i ns ms h1 h2
        cases e
        obtain ⟨p, vs, rfl, _, _, q1, l1⟩ := ra.tup
        obtain ⟨q, ws, rfl, _, _, q2, l2⟩ := rb.tup
        rw [intsOf_some h1] at l1
        rw [intsOf_some h2] at l2
        rw [l1.of_ints, st.hK] at q1
        rw [l2.of_ints, st.hK] at q2
        exact op_ltT hu0 pins s σ H _ _ v u _ st.inv rx ry ⟨p, q, ns, ms, rfl, rfl, q1, q2, Good.same st.cup (.bl _)⟩
      · cases e
  case LtE =>
    cases a <;> cases b <;> first | cases e | skip
    case int.int i j => exact hint op_le ⟨i, j, rfl, rfl, rfl⟩
    case tup.tup xs ys =>
      simp only [cmpB, leqV] at e
      split at e
      · rename_i ns ms h1 h2
        cases e
        obtain ⟨p, vs, rfl, _, _, q1, l1⟩ := ra.tup
        obtain ⟨q, ws, rfl, _, _, q2, l2⟩ := rb.tup
        rw [intsOf_some h1] at l1
        rw [intsOf_some h2] at l2
        rw [l1.of_ints, st.hK] at q1
        rw [l2.of_ints, st.hK] at q2
        exact op_leT hu0 pins s σ H _ _ v u _ st.inv rx ry ⟨p, q, ns, ms, rfl, rfl, q1, q2, by rw [lexAt_le]; exact Good.same st.cup (.bl _)⟩
      · cases e
  case Gt =>
    cases a <;> cases b <;> first | cases e | skip
    case int.int i j => exact hint op_gt ⟨i, j, rfl, rfl, rfl⟩
    case tup.tup xs ys =>
      simp only [cmpB, gtV] at e
      split at e
      · rename_i ns ms h1 h2
        cases e
        obtain ⟨p, vs, rfl, _, _, q1, l1⟩ := ra.tup
        obtain ⟨q, ws, rfl, _, _, q2, l2⟩ := rb.tup
        rw [intsOf_some h1] at l1
        rw [intsOf_some h2] at l2
        rw [l1.of_ints, st.hK] at q1
        rw [l2.of_ints, st.hK] at q2
        exact op_gtI hu0 pins s σ H _ _ v u _ st.inv rx ry ⟨p, q, ns, ms, rfl, rfl, q1, q2, Good.same st.cup (.bl _)⟩
      · cases e
  case GtE =>
    cases a <;> cases b <;> first | cases e | skip
    case int.int i j => exact hint op_ge ⟨i, j, rfl, rfl, rfl⟩
  case Is =>
    rcases isV_some ra rb e with ⟨rfl, rfl⟩ | ⟨d, rfl, rfl⟩
    · exact op_isN pins s σ H x _ v u _ st.inv rx ry ⟨rfl, Good.same st.cup (.bl _)⟩
    · cases ry
      exact is_bl rx ra.ty (bool_good st rfl)
  case IsNot =>
    simp only [cmpB, Option.map_eq_some_iff] at e
    obtain ⟨k', e, rfl⟩ := e
    rcases isV_some ra rb e with ⟨rfl, rfl⟩ | ⟨d, rfl, rfl⟩
    · exact op_notN pins s σ H x _ v u _ st.inv rx ry ⟨rfl, Good.same st.cup (.bl _)⟩
    · cases ry
      exact isNot_bl rx ra.ty (bool_good st rfl)
  case In =>
    obtain ⟨d, ds, h1, h2, h3, h4, rfl⟩ := inB_some st.hK ra rb e
    exact in_ref hu st.inv h1 rx ry h2 h3 h4 (bool_good st rfl)
  case NotIn =>
    simp only [cmpB, Option.map_eq_some_iff] at e
    obtain ⟨k', e, rfl⟩ := e
    obtain ⟨d, ds, h1, h2, h3, h4, rfl⟩ := inB_some st.hK ra rb e
    exact notIn_ref hu st.inv h1 rx ry h2 h3 h4 (bool_good st rfl)
end
end Py

set_option Elab.async false
set_option linter.all false
set_option maxRecDepth 100000
set_option maxHeartbeats 4000000
/-! Py: the small language and its evaluator. -/
namespace Py
open PySem L2

inductive Res (α : Type) where
  | ok (a : α) (S : Cup) | exn (c : Str) (l : Int) (S : Cup) | bad
def Res.bind {α β : Type} (r : Res α) (f : α → Cup → Res β) : Res β := match r with
  | .ok a S => f a S | .exn c l S => .exn c l S | .bad => .bad
/-- a value that may be none: stuck -/
def Res.of {α : Type} (o : Option α) (S : Cup) : Res α := match o with
  | some a => .ok a S | none => .bad

inductive Blt where
  | len | abs | sum | max1 | min1 | max2 | min2 | int1 | str1 | list1 | tuple1 | sorted1 | all1 | any1 | set1 | dict1
  deriving DecidableEq
inductive Ty where
  | int | bool | str | tuple | list
  deriving DecidableEq
def Ty.nm : Ty → String
  | .int => "int" | .bool => "bool" | .str => "str" | .tuple => "tuple" | .list => "list"
inductive MT where
  | one (i : Nat) | tup (is : List Nat)
  deriving DecidableEq
/-- keys: what is reckoned of a thing without a trace; par: the def's parameters -/
inductive KX where
  | par (i : Nat) | int (i : Int) | glb (x : Str) (i : Int) | idx (a k : KX) | tup1 (a : KX) | tup2 (a b : KX) | ite (a b c d : KX)
mutual
inductive ME where
  | var (i : Nat) | own (i : Nat) | cst (v : PV) | glb (x : Str) (v : PV)
  | bin (op : Operator) (a b : ME) | neg (a : ME) | not (a : ME) | and (a b : ME) | or (a b : ME)
  | cmp (op : CmpOp) (a b : ME) | chain (op op' : CmpOp) (a b c : ME) | ite (c a b : ME)
  | tup (es : MEs) | lst (es : MEs)
  | idx (a b : ME) | slc (a : ME) (lo hi : MO) | rev (a : ME)
  | cat (a b : ME) | callF (f : Str) (es : MEs)
  | call (f : Str) (es : MEs) | blt (b : Blt) (es : MEs)
  | isin (a : ME) (t : Ty)
  | comp (own : List Nat) (elt : ME) (t : MT) (it : MI) (ifs : MO)
  | comp2 (own : List Nat) (elt : ME) (t : MT) (it : MI) (own2 : List Nat) (t2 : MT) (it2 : MI)
  | sortK (a : ME) (c : Nat) (f : Str) (key : KX) | minK (a : ME) (own : List Nat) (i : Nat) (key : ME)
  | sset (a : ME) | lset (a : ME)
inductive MEs where
  | nil | cons (e : ME) (es : MEs)
inductive MO where
  | no | yes (e : ME)
inductive MI where
  | seq (e : ME) | rng1 (a : ME) | rng2 (a b : ME) | enum (e : ME) | zip2 (a b : ME) | zip3 (a b c : ME)
end

def kev : KX → List PV → Option PV
  | .par i, ps => ps[i]?
  | .int i, _ => some (.int i)
  | .glb _ i, _ => some (.int i)
  | .idx a k, ps => match kev a ps, kev k ps with
    | some (.tup xs), some (.int i) => if 0 ≤ i ∧ i < 1000 then xs[i.toNat]? else none
    | _, _ => none
  | .tup1 a, ps => match kev a ps with
    | some x => some (.tup [x])
    | none => none
  | .tup2 a b, ps => match kev a ps, kev b ps with
    | some x, some y => some (.tup [x, y])
    | _, _ => none
  | .ite a b c d, ps => match kev a ps, kev b ps with
    | some (.int i), some (.int j) => if i = j then kev c ps else kev d ps
    | _, _ => none
abbrev Env := List (Option PV)
/-- the defs' calls -/
abbrev Calls := Str → List PV → Cup → Res PV

def truthV : PV → Option Bool
  | .bl b => some b | .non => some false | .int i => some (i != 0)
  | .tup xs => if xs.length ≤ lineN then some (!xs.isEmpty) else none
  | .lst xs => if xs.length ≤ lineN then some (!xs.isEmpty) else none
  | _ => none
def negV : PV → Option PV
  | .int i => some (.int (-i)) | _ => none
def idxV (S : Cup) : PV → PV → Option PV
  | .lst xs, .int i => atI xs i
  | .tup xs, .int i => atI xs i
  | .cup, .int i => match S with
    | some (a, b) => atI [.int a, .int b] i
    | none => none
  | _, _ => none
def cutP (xs : List PV) (lo hi : Option Int) : List PV := (xs.drop (HT.sIx xs.length 0 lo)).take (HT.sIx xs.length xs.length hi - HT.sIx xs.length 0 lo)
def slcV (lo hi : Option Int) : PV → Option PV
  | .lst xs => some (.lst (cutP xs lo hi))
  | .tup xs => some (.tup (cutP xs lo hi))
  | _ => none
def revV : PV → Option PV
  | .lst xs => some (.lst xs.reverse)
  | .tup xs => some (.tup xs.reverse)
  | _ => none
def blsOf : List PV → Option (List Bool)
  | [] => some []
  | .bl i :: xs => (blsOf xs).map fun r => i :: r
  | _ :: _ => none
def seqOf : PV → Option (List PV)
  | .lst xs => some xs | .tup xs => some xs | _ => none
/-- greatest and least: the first of several -/
def maxI : Int → List Int → Int
  | m, [] => m | m, x :: xs => maxI (if m < x then x else m) xs
def minI : Int → List Int → Int
  | m, [] => m | m, x :: xs => minI (if x < m then x else m) xs
def maxL : List Int → List (List Int) → List Int
  | m, [] => m | m, x :: xs => maxL (if HT.lexLt m x then x else m) xs
def insLex (x : List Int) : List (List Int) → List (List Int)
  | [] => [x] | y :: ys => if HT.lexLt x y then x :: y :: ys else y :: insLex x ys
def rowsOf : List PV → Option (List (List Int))
  | [] => some []
  | .tup xs :: r => match intsOf xs, rowsOf r with
    | some ns, some rs => some (ns :: rs)
    | _, _ => none
  | _ :: _ => none
def ofRow (ns : List Int) : PV := .tup (ns.map PV.int)
/-- sorting that the kernel can reckon -/
def insS {α : Type} (le : α → α → Bool) (x : α) : List α → List α
  | [] => [x]
  | y :: ys => if le x y = true then x :: y :: ys else y :: insS le x ys
def isort {α : Type} (le : α → α → Bool) (xs : List α) : List α := xs.foldr (insS le) []
theorem insS_mem {α : Type} {le : α → α → Bool} {x z : α} : ∀ {ys : List α}, z ∈ insS le x ys → z = x ∨ z ∈ ys
  | [], h => by simpa [insS] using h
  | y :: ys, h => by
    rw [insS] at h
    split at h
    · simpa using h
    · rcases List.mem_cons.mp h with rfl | h
      · simp
      · rcases insS_mem h with rfl | h
        · simp
        · simp [h]
theorem insS_sorted {α : Type} {le : α → α → Bool} (T : PySem.W.TotalLe le) {x : α} : ∀ {ys : List α}, ys.Pairwise (fun a b => le a b = true) → (insS le x ys).Pairwise fun a b => le a b = true
  | [], _ => by simp [insS]
  | y :: ys, h => by
    have h' := List.pairwise_cons.mp h
    rw [insS]
    split
    · rename_i hxy
      refine List.pairwise_cons.mpr ⟨fun z hz => ?_, h⟩
      rcases List.mem_cons.mp hz with rfl | hz
      · exact hxy
      · exact T.trans _ _ _ hxy (h'.1 z hz)
    · rename_i hxy
      refine List.pairwise_cons.mpr ⟨fun z hz => ?_, insS_sorted T h'.2⟩
      rcases insS_mem hz with rfl | hz
      · exact (T.total _ _).resolve_left hxy
      · exact h'.1 z hz
theorem insS_filter {α : Type} {le : α → α → Bool} (T : PySem.W.TotalLe le) {x c : α} : ∀ {ys : List α}, (insS le x ys).filter (PySem.W.sameRank le c) = (x :: ys).filter (PySem.W.sameRank le c)
  | [] => rfl
  | y :: ys => by
    rw [insS]
    split
    · rfl
    · rename_i hxy
      rw [List.filter_cons, insS_filter T, List.filter_cons, List.filter_cons (x := x), List.filter_cons (x := y)]
      by_cases h1 : PySem.W.sameRank le c y = true <;> by_cases h2 : PySem.W.sameRank le c x = true <;> simp [h1, h2]
      exfalso
      unfold PySem.W.sameRank at h1 h2
      simp only [Bool.and_eq_true] at h1 h2
      exact hxy (T.trans _ _ _ (by first | exact h2.2 | exact h2.1) (by first | exact h1.1 | exact h1.2))
theorem isort_eq {α : Type} {le : α → α → Bool} (T : PySem.W.TotalLe le) (xs : List α) : isort le xs = xs.mergeSort le := by
  refine PySem.W.sort_unique T ?_ fun c => ?_
  · induction xs with
    | nil => exact .nil
    | cons x xs ih => exact insS_sorted T ih
  · induction xs with
    | nil => rfl
    | cons x xs ih =>
      show (insS le x (isort le xs)).filter _ = _
      rw [insS_filter T, List.filter_cons, List.filter_cons, ih]
/-- sorting: by the data's order; what may be sorted -/
def leV (a b : PV) : Bool := PySem.W.dataLe false toD a b
def tupNE : PV → Bool
  | .tup (_ :: _) => true | _ => false
def notTN : PV → Bool
  | .tup _ => false | .non => false | _ => true
def sortOk (xs : List PV) : Bool := decide (xs.length ≤ lineN) && (xs.all fun a => (toD a).canLay0 && decide ((toD a).depth ≤ 60) && xs.all fun b => PySem.W.alike (toD a) (toD b)) && (xs.all tupNE || xs.all notTN)
def sortV (xs : List PV) : Option PV := if sortOk xs then some (.lst (isort leV xs)) else none
/-- by keys: the pairs of a key and a thing -/
def sortKV (ps : List (PV × PV)) : Option PV := if sortOk (ps.map (·.1)) then some (.lst ((isort (fun p q => leV p.1 q.1) ps).map (·.2))) else none
theorem leV_total : PySem.W.TotalLe leV := PySem.W.sortLe_total (PyProof.Rows.listOrd PyProof.Rows.itemOrd) false fun b : PV => PySem.W.keyToks (toD b)
theorem leK_total : PySem.W.TotalLe (fun p q : PV × PV => leV p.1 q.1) := ⟨fun a b c => leV_total.trans a.1 b.1 c.1, fun a b => leV_total.total a.1 b.1⟩
/-- what keys are made of -/
def flatP : PV → Bool
  | .int _ => true | .bl _ => true | .str _ => true
  | .tup xs => xs.all fun x => match x with
    | .int _ => true | .bl _ => true | .str _ => true
    | .tup ys => ys.all fun y => match y with | .int _ => true | .bl _ => true | .str _ => true | _ => false
    | _ => false
  | _ => false
/-- each thing beside its key -/
def keysV (key : KX) (o : Int) : List PV → Option (List (PV × PV))
  | [] => some []
  | x :: xs => match kev key [.int o, x], keysV key o xs with
    | some k, some r => if (toD x).canLay0 && flatP k then some ((k, x) :: r) else none
    | _, _ => none
def isTy : Ty → PV → Option Bool
  | _, .non => some false
  | t, .bl _ => some (match t with | .int => true | .bool => true | _ => false)
  | t, .int _ => some (match t with | .int => true | _ => false)
  | t, .str _ => some (match t with | .str => true | _ => false)
  | t, .tup _ => some (match t with | .tuple => true | _ => false)
  | t, .lst _ => some (match t with | .list => true | _ => false)
  | _, _ => none
def rngOk (j : Int) : Bool := decide (-4611686018427387904 ≤ j ∧ j < 4611686018427387904)
theorem rngOk_iff {j : Int} : rngOk j = true ↔ -4611686018427387904 ≤ j ∧ j < 4611686018427387904 := by unfold rngOk; rw [decide_eq_true_eq]
def rngL (lo : Int) (n : Nat) : List PV := (List.range n).map fun (i : Nat) => PV.int (lo + (i : Int))
def enumL : Nat → List PV → List PV
  | _, [] => [] | i, x :: r => .tup [.int (i : Int), x] :: enumL (i + 1) r
def zipL : List PV → List PV → List PV
  | x :: xs, y :: ys => .tup [x, y] :: zipL xs ys
  | _, _ => []
def zipL3 : List PV → List PV → List PV → List PV
  | x :: xs, y :: ys, z :: zs => .tup [x, y, z] :: zipL3 xs ys zs
  | _, _, _ => []
def bltV : Blt → List PV → Option PV
  | .len, [.lst xs] => some (.int xs.length)
  | .len, [.tup xs] => some (.int xs.length)
  | .abs, [.int i] => some (.int (if i < 0 then -i else i))
  | .sum, [.lst xs] => (intsOf xs).map fun ns => .int ns.sum
  | .max2, [.int i, .int j] => some (.int (if j > i then j else i))
  | .min2, [.int i, .int j] => some (.int (if j < i then j else i))
  | .max1, [.lst xs] => match intsOf xs with
    | some (n :: ns) => some (.int (maxI n ns))
    | _ => none
  | .min1, [.lst xs] => match intsOf xs with
    | some (n :: ns) => some (.int (minI n ns))
    | _ => none
  | .int1, [.int i] => some (.int i)
  | .int1, [.bl b] => some (.int (if b then 1 else 0))
  | .str1, [.str x] => some (.str x)
  | .list1, [.lst xs] => some (.lst xs)
  | .list1, [.tup xs] => some (.lst xs)
  | .list1, [.scr ns] => some (.lst (ns.map PV.int))
  | .tuple1, [.lst xs] => some (.tup xs)
  | .tuple1, [.tup xs] => some (.tup xs)
  | .all1, [.lst xs] => (blsOf xs).map fun bs => .bl (bs.all id)
  | .any1, [.lst xs] => (blsOf xs).map fun bs => .bl (bs.any id)
  | .sorted1, [a] => (seqOf a).bind sortV
  | _, _ => none
def isLst : PV → Bool
  | .lst _ => true | _ => false
/-- what stands for a target's names -/
def bindT : MT → PV → Env → Option Env
  | .one i, v, ρ => some (ρ.set i (some v))
  | .tup is, .tup vs, ρ => if is.length = vs.length then some ((is.zip vs).foldl (fun r p => r.set p.1 (some p.2)) ρ) else none
  | .tup _, _, _ => none
def wipeE (ρ : Env) : List Nat → Env
  | [] => ρ | v :: vs => (wipeE ρ vs).set v none
/-- the items of a walk, each to some items -/
def flatR (f : PV → Cup → Res (List PV)) : List PV → Cup → Res (List PV)
  | [], S => .ok [] S
  | x :: xs, S => match f x S with
    | .ok ys S1 => match flatR f xs S1 with
      | .ok zs S2 => .ok (ys ++ zs) S2
      | _ => .bad
    | _ => .bad

section
variable (C : Calls)
mutual
def ev : ME → Env → Cup → Res PV
  | .var i, ρ, S => match ρ[i]? with | some (some v) => .ok v S | _ => .bad
  | .own i, ρ, S => match ρ[i]? with | some (some v) => .ok v S | _ => .bad
  | .cst v, _, S => .ok v S
  | .glb _ v, _, S => .ok v S
  | .bin op a b, ρ, S => (ev a ρ S).bind fun x S1 => (ev b ρ S1).bind fun y S2 => .of (binV op x y) S2
  | .neg a, ρ, S => (ev a ρ S).bind fun x S1 => .of (negV x) S1
  | .not a, ρ, S => (ev a ρ S).bind fun x S1 => (Res.of (truthV x) S1).bind fun k S2 => .ok (.bl (!k)) S2
  | .and a b, ρ, S => (ev a ρ S).bind fun x S1 => (Res.of (truthV x) S1).bind fun k S2 => if k then ev b ρ S2 else .ok x S2
  | .or a b, ρ, S => (ev a ρ S).bind fun x S1 => (Res.of (truthV x) S1).bind fun k S2 => if k then .ok x S2 else ev b ρ S2
  | .cmp op a b, ρ, S => (ev a ρ S).bind fun x S1 => (ev b ρ S1).bind fun y S2 => .of (cmpV op x y) S2
  | .chain op op' a b c, ρ, S => (ev a ρ S).bind fun x S1 => (ev b ρ S1).bind fun y S2 => (Res.of (cmpB op x y) S2).bind fun k S3 =>
      if k then (ev c ρ S3).bind fun z S4 => .of (cmpV op' y z) S4 else .ok (.bl false) S3
  | .ite c a b, ρ, S => (ev c ρ S).bind fun x S1 => (Res.of (truthV x) S1).bind fun k S2 => if k then ev a ρ S2 else ev b ρ S2
  | .tup es, ρ, S => (evs es ρ S).bind fun xs S1 => if xs.length ≤ lineN then .ok (.tup xs) S1 else .bad
  | .lst es, ρ, S => (evs es ρ S).bind fun xs S1 => if xs.length ≤ lineN then .ok (.lst xs) S1 else .bad
  | .idx a b, ρ, S => (ev a ρ S).bind fun x S1 => (ev b ρ S1).bind fun y S2 => .of (idxV S2 x y) S2
  | .slc a lo hi, ρ, S => (ev a ρ S).bind fun x S1 => (evO lo ρ S1).bind fun l S2 => (evO hi ρ S2).bind fun h S3 => .of (slcV l h x) S3
  | .rev a, ρ, S => (ev a ρ S).bind fun x S1 => .of (revV x) S1
  | .call f es, ρ, S => (evs es ρ S).bind fun xs S1 => C f xs S1
  | .cat a b, ρ, S => (ev a ρ S).bind fun x S1 => (ev b ρ S1).bind fun y S2 => match x, y with
    | .lst xs, .lst ys => if xs.length + ys.length ≤ lineN then .ok (.lst (xs ++ ys)) S2 else .bad
    | _, _ => .bad
  | .callF f es, ρ, S => (evs es ρ S).bind fun xs S1 => (C f xs S1).bind fun v S2 => if isLst v then .ok v S2 else .bad
  | .blt b es, ρ, S => (evs es ρ S).bind fun xs S1 => .of (bltV b xs) S1
  | .isin a t, ρ, S => (ev a ρ S).bind fun x S1 => .of ((isTy t x).map PV.bl) S1
  | .comp own elt t it ifs, ρ, S => (evI it ρ S).bind fun xs S1 => (flatR (fun x S => match bindT t x (wipeE ρ own) with
      | none => .bad
      | some ρ1 => (evT ifs ρ1 S).bind fun k S1 => if k then (ev elt ρ1 S1).bind fun y S2 => .ok [y] S2 else .ok [] S1) xs S1).bind fun ys S2 => if ys.length ≤ lineN then .ok (.lst ys) S2 else .bad
  | .comp2 own elt t it own2 t2 it2, ρ, S => (evI it ρ S).bind fun xs S1 => (flatR (fun x S => match bindT t x (wipeE ρ own) with
      | none => .bad
      | some ρ1 => (evI it2 ρ1 S).bind fun ys S1 => flatR (fun y S => match bindT t2 y (wipeE ρ1 own2) with
        | none => .bad
        | some ρ2 => (ev elt ρ2 S).bind fun z S2 => .ok [z] S2) ys S1) xs S1).bind fun ys S2 => if ys.length ≤ lineN then .ok (.lst ys) S2 else .bad
  | .sortK a c _ key, ρ, S => (ev a ρ S).bind fun x S1 => match ρ[c]?, seqOf x with
    | some (some (.int o)), some xs => match keysV key o xs with
      | some ps => .of (sortKV ps) S1
      | none => .bad
    | _, _ => .bad
  | .minK a own i key, ρ, S => .bad
  | .sset a, ρ, S => .bad
  | .lset a, ρ, S => .bad
def evs : MEs → Env → Cup → Res (List PV)
  | .nil, _, S => .ok [] S
  | .cons e es, ρ, S => (ev e ρ S).bind fun x S1 => (evs es ρ S1).bind fun xs S2 => .ok (x :: xs) S2
/-- a part of a slice: an int, or none -/
def evO : MO → Env → Cup → Res (Option Int)
  | .no, _, S => .ok none S
  | .yes e, ρ, S => (ev e ρ S).bind fun x S1 => match x with | .int i => .ok (some i) S1 | _ => .bad
/-- a comprehension's test -/
def evT : MO → Env → Cup → Res Bool
  | .no, _, S => .ok true S
  | .yes e, ρ, S => (ev e ρ S).bind fun x S1 => .of (truthV x) S1
def evI : MI → Env → Cup → Res (List PV)
  | .seq e, ρ, S => (ev e ρ S).bind fun x S1 => .of (seqOf x) S1
  | .rng1 a, ρ, S => (ev a ρ S).bind fun x S1 => match x with
    | .int j => if rngOk j then .ok (rngL 0 j.toNat) S1 else .bad
    | _ => .bad
  | .rng2 a b, ρ, S => (ev a ρ S).bind fun x S1 => (ev b ρ S1).bind fun y S2 => match x, y with
    | .int i, .int j => if rngOk i ∧ rngOk j then .ok (rngL i (j - i).toNat) S2 else .bad
    | _, _ => .bad
  | .enum e, ρ, S => (ev e ρ S).bind fun x S1 => match seqOf x with
    | some xs => .ok (enumL 0 xs) S1
    | none => .bad
  | .zip2 a b, ρ, S => (ev a ρ S).bind fun x S1 => (ev b ρ S1).bind fun y S2 => match x, y with
    | .lst xs, .lst ys => .ok (zipL xs ys) S2
    | .tup xs, .tup ys => .ok (zipL xs ys) S2
    | _, _ => .bad
  | .zip3 a b c, ρ, S => (ev a ρ S).bind fun x S1 => (ev b ρ S1).bind fun y S2 => (ev c ρ S2).bind fun z S3 => match seqOf x, seqOf y, seqOf z with
    | some xs, some ys, some zs => .ok (zipL3 xs ys zs) S3
    | _, _, _ => .bad
end
end

/-! ### statements -/
mutual
inductive MS where
  | set (i : Nat) (e : ME) | setO (i : Nat) (e : ME) | keepO (i : Nat) (c e : ME)
  | par (ts : List (Nat × Bool)) (es : MEs) | unp (is : List Nat) (e : ME)
  | aug (i : Nat) (op : Operator) (e : ME) | augO (i : Nat) (e : ME) | app (i : Nat) (e : ME) | setIx (i : Nat) (k e : ME)
  | setCup (i : Nat) (k : Nat) (e : ME) | mkCup (i : Nat) (f : Str) (es : MEs)
  | expr (e : ME) | ite (c : ME) (a b : MB) | loop (t : MT) (it : MI) (b : MB) | whl (c : ME) (b : MB)
  | ret (e : ME) | retF (e : ME) | retN | raise (c : Str) | pass | brk | cont | never
inductive MB where
  | nil | cons (s : MS) (b : MB) | frz (i : Nat) (b : MB)
end
inductive Out where
  | next (ρ : Env) (S : Cup) | ret (v : PV) (S : Cup) | brk (ρ : Env) (S : Cup) | cont (ρ : Env) (S : Cup) | exn (c : Str) (l : Int) (S : Cup) | bad
def Res.out {α : Type} (r : Res α) (f : α → Cup → Out) : Out := match r with
  | .ok a S => f a S | .exn c l S => .exn c l S | .bad => .bad
/-- what slot i holds is no longer told -/
def Out.forget (i : Nat) : Out → Out
  | .next ρ S => .next (ρ.set i none) S | .brk ρ S => .brk (ρ.set i none) S | .cont ρ S => .cont (ρ.set i none) S | o => o
def Out.seq (o : Out) (f : Env → Cup → Out) : Out := match o with
  | .next ρ S => f ρ S | o => o
def forR (f : PV → Env → Cup → Out) : List PV → Env → Cup → Out
  | [], ρ, S => .next ρ S
  | x :: xs, ρ, S => match f x ρ S with
    | .next ρ1 S1 => forR f xs ρ1 S1
    | .cont ρ1 S1 => forR f xs ρ1 S1
    | .brk ρ1 S1 => .next ρ1 S1
    | o => o
def whlR (c : Env → Cup → Res Bool) (f : Env → Cup → Out) : Nat → Env → Cup → Out
  | 0, _, _ => .bad
  | n + 1, ρ, S => (c ρ S).out fun k S1 => if k then match f ρ S1 with
    | .next ρ1 S1 => whlR c f n ρ1 S1
    | .cont ρ1 S1 => whlR c f n ρ1 S1
    | .brk ρ1 S1 => .next ρ1 S1
    | o => o else .next ρ S1
def augV : Operator → PV → PV → Option PV
  | .Add, .int i, .int j => some (.int (i + j))
  | .Sub, .int i, .int j => some (.int (i - j))
  | _, _, _ => none
section
variable (C : Calls)
mutual
def run : MS → Env → Cup → Out
  | .set i e, ρ, S => (ev C e ρ S).out fun v S1 => .next (ρ.set i (some v)) S1
  | .setO i e, ρ, S => (ev C e ρ S).out fun v S1 => if isLst v then .next (ρ.set i (some v)) S1 else .bad
  | .keepO i c e, ρ, S => (ev C c ρ S).out fun x S1 => (Res.of (truthV x) S1).out fun k S2 => if k then .next ρ S2 else
      (ev C e ρ S2).out fun v S3 => if isLst v then .next (ρ.set i (some v)) S3 else .bad
  | .par ts es, ρ, S => (evs C es ρ S).out fun vs S1 => if ts.length = vs.length ∧ (∀ q ∈ ts.zip vs, q.1.2 = true → isLst q.2 = true) then .next ((ts.zip vs).foldl (fun r p => r.set p.1.1 (some p.2)) ρ) S1 else .bad
  | .unp is e, ρ, S => (ev C e ρ S).out fun v S1 => match bindT (.tup is) v ρ with
    | some ρ1 => .next ρ1 S1
    | none => .bad
  | .aug i op e, ρ, S => match ρ[i]? with
    | some (some x) => (ev C e ρ S).out fun y S1 => (Res.of (augV op x y) S1).out fun z S2 => .next (ρ.set i (some z)) S2
    | _ => .bad
  | .augO i e, ρ, S => match ρ[i]? with
    | some (some (.lst xs)) => (ev C e ρ S).out fun y S1 => match y with
      | .lst ys => if xs.length + ys.length ≤ lineN then .next (ρ.set i (some (.lst (xs ++ ys)))) S1 else .bad
      | _ => .bad
    | _ => .bad
  | .app i e, ρ, S => match ρ[i]? with
    | some (some (.lst xs)) => (ev C e ρ S).out fun y S1 => if xs.length < lineN then .next (ρ.set i (some (.lst (xs ++ [y])))) S1 else .bad
    | _ => .bad
  | .setIx i k e, ρ, S => (ev C e ρ S).out fun y S1 => match ρ[i]? with
    | some (some (.lst xs)) => (ev C k ρ S1).out fun z S2 => match z with
      | .int j => match ixN xs.length j with
        | some n => .next (ρ.set i (some (.lst (xs.set n y)))) S2
        | none => .bad
      | _ => .bad
    | _ => .bad
  | .setCup i k e, ρ, S => (ev C e ρ S).out fun y S1 => match ρ[i]?, y, S1 with
    | some (some .cup), .int j, some (a, b) => if k = 0 then .next ρ (some (j, b)) else if k = 1 then .next ρ (some (a, j)) else .bad
    | _, _, _ => .bad
  | .mkCup i f es, ρ, S => match S with
    | none => (evs C es ρ none).out fun xs S1 => match C f xs S1 with
      | .ok (.lst [.int a, .int b]) none => .next (ρ.set i (some .cup)) (some (a, b))
      | _ => .bad
    | some _ => .bad
  | .expr e, ρ, S => (ev C e ρ S).out fun _ S1 => .next ρ S1
  | .ite c a b, ρ, S => (ev C c ρ S).out fun x S1 => (Res.of (truthV x) S1).out fun k S2 => if k then runs a ρ S2 else runs b ρ S2
  | .loop t it b, ρ, S => (evI C it ρ S).out fun xs S1 => forR (fun x ρ S => match bindT t x ρ with
      | none => .bad
      | some ρ1 => runs b ρ1 S) xs ρ S1
  | .whl c b, ρ, S => whlR (fun ρ S => (ev C c ρ S).bind fun x S1 => .of (truthV x) S1) (fun ρ S => runs b ρ S) 100000 ρ S
  | .ret e, ρ, S => (ev C e ρ S).out fun v S1 => .ret v S1
  | .retF e, ρ, S => (ev C e ρ S).out fun v S1 => if isLst v then .ret v S1 else .bad
  | .retN, _, S => .ret .non S
  | .raise c, _, S => .exn c 0 S
  | .never, _, _ => .bad
  | .pass, ρ, S => .next ρ S
  | .brk, ρ, S => .brk ρ S
  | .cont, ρ, S => .cont ρ S
def runs : MB → Env → Cup → Out
  | .nil, ρ, S => .next ρ S
  | .cons s b, ρ, S => (run s ρ S).seq fun ρ1 S1 => runs b ρ1 S1
  | .frz i b, ρ, S => (runs b ρ S).forget i
end
end

/-! ### programs -/
structure FDef where
  name : Str
  np : Nat
  nl : Nat
  own : List Nat
  fresh : Bool
  body : MB
abbrev Prog := List FDef
def find (P : Prog) (f : Str) : Option FDef := P.find? fun d => d.name == f
def endR (fr : Bool) (S0 : Cup) (o : Out) : Res PV := match S0 with
  | some _ => match o with
    | .ret v S => .ok v S
    | .next _ S => if fr then .bad else .ok .non S
    | .exn c l S => .exn c l S
    | _ => .bad
  | none => match o with
    | .ret v none => .ok v none
    | .ret (.bl b) (some _) => .ok (.bl b) none
    | .next _ none => if fr then .bad else .ok .non none
    | .exn c l none => .exn c l none
    | _ => .bad
def start (n : Nat) (args : List PV) : Env := args.map some ++ List.replicate (n - args.length) none
def evCall (P : Prog) : Nat → Calls
  | 0, _, _, _ => .bad
  | d + 1, f, args, S => match find P f with
    | none => .bad
    | some fd => if args.length = fd.np then endR fd.fresh S (runs (evCall P d) fd.body (start fd.nl args) S) else .bad
end Py

set_option Elab.async false
set_option linter.all false
set_option maxRecDepth 100000
set_option maxHeartbeats 4000000
/-! Py: the evaluator's steps are the model's: the frame, expressions. -/
namespace Py
@[local simp] theorem ub_E {α β : Type} (r : Res α) (f : α → Cup → Res β) : r.bind f = (match r with | .ok a S => f a S | .exn c l S => .exn c l S | .bad => .bad) := rfl
@[local simp] theorem uo_E {α : Type} (o : Option α) (S : Cup) : Res.of o S = (match o with | some a => .ok a S | none => .bad) := rfl
@[local simp] theorem uu_E {α : Type} (r : Res α) (f : α → Cup → Out) : r.out f = (match r with | .ok a S => f a S | .exn c l S => .exn c l S | .bad => .bad) := rfl
@[local simp] theorem us_E (o : Out) (f : Env → Cup → Out) : o.seq f = (match o with | .next ρ S => f ρ S | o => o) := rfl
open PySem PySem.Spec PyProof.Rows L2

def Res.all {α : Type} (r : Res α) (F : α → Cup → Prop) (G : Str → Int → Cup → Prop) : Prop := match r with
  | .ok a S => F a S | .exn c l S => G c l S | .bad => False
theorem Res.all.imp {α : Type} {r : Res α} {F F' : α → Cup → Prop} {G G' : Str → Int → Cup → Prop} (h : r.all F G) (hF : ∀ a S, F a S → F' a S) (hG : ∀ c l S, G c l S → G' c l S) : r.all F' G' := by
  cases r with
  | ok a S => exact hF a S h
  | exn c l S => exact hG c l S h
  | bad => exact h
theorem Res.all_bind {α β : Type} {r : Res α} {f : α → Cup → Res β} {F : β → Cup → Prop} {G : Str → Int → Cup → Prop} (h : (r.bind f).all F G) : r.all (fun a S => (f a S).all F G) G := by
  cases r with
  | ok a S => exact h
  | exn c l S => exact h
  | bad => exact h
theorem Res.all_of {α : Type} {o : Option α} {S : Cup} {F : α → Cup → Prop} {G : Str → Int → Cup → Prop} (h : (Res.of o S).all F G) : ∃ a, o = some a ∧ F a S := by
  cases o with
  | none => exact h.elim
  | some a => exact ⟨a, rfl, h⟩

/-- the slots stand for the environment; the owned ones hold lists that nothing else leans on -/
structure StR (W : Wd) (G : List Nat) (c : Cu) (O : List Addr) (σ : L2.St) (H : Hp) (ρ : Env) (S : Cup) : Prop where
  len : σ.length = ρ.length
  gen : ∀ (i : Nat) pv, ρ[i]? = some (some pv) → i ∉ G → ∃ v, σ[i]? = some (some v) ∧ Rep W H O c pv v
  own : ∀ (i : Nat) pv, ρ[i]? = some (some pv) → i ∈ G → ∃ xs a vs, pv = .lst xs ∧ σ[i]? = some (some (.ref a)) ∧ a ∈ O ∧ H a = some (.lst vs) ∧ RepL W H O c xs vs
  sep : ∀ (i j : Nat) pv qv a, i ∈ G → j ∈ G → i ≠ j → ρ[i]? = some (some pv) → ρ[j]? = some (some qv) → σ[i]? = some (some (.ref a)) → σ[j]? ≠ some (some (.ref a))
  cup : CupIs W H c S
  tr : ∀ a ∈ O, H a ≠ none
  co : ∀ a ∈ O, c.No a
section
variable {W : Wd} {G : List Nat} {c : Cu} {O : List Addr} {σ : L2.St} {H H' : Hp} {ρ : Env} {S S' : Cup}
theorem StR.ext (st : StR W G c O σ H ρ S) (e : Ext c H H') (h : CupIs W H' c S') : StR W G c O σ H' ρ S' where
  len := st.len
  gen := fun i pv hi hg => let ⟨v, a, b⟩ := st.gen i pv hi hg; ⟨v, a, b.ext e⟩
  own := fun i pv hi hg => let ⟨xs, a, vs, h1, h2, h3, h4, h5⟩ := st.own i pv hi hg; ⟨xs, a, vs, h1, h2, h3, e.at (st.co a h3) h4, h5.ext e⟩
  sep := st.sep
  cup := h
  tr := fun a ha z => by
    cases q : H a with
    | none => exact st.tr a ha q
    | some o => rw [e.at (st.co a ha) q] at z; cases z
  co := st.co
/-- an operand's value at a slot -/
theorem StR.get (st : StR W G c O σ H ρ S) {i : Nat} {pv : PV} (h : ρ[i]? = some (some pv)) : ∃ v, σ[i]? = some (some v) ∧ RepO W H O c pv v := by
  by_cases hg : i ∈ G
  · obtain ⟨xs, a, vs, rfl, h2, h3, h4, h5⟩ := st.own i pv h hg
    exact ⟨_, h2, .own (st.co a h3) h3 h4 h5⟩
  · obtain ⟨v, h1, h2⟩ := st.gen i pv h hg
    exact ⟨v, h1, .of h2⟩
end

/-- what is wanted of an exception: its class's name, its limit -/
abbrev Wish := Str → Int → Hp → Prop
section
variable (W : Wd) (G : List Nat) (C : Calls) (Ew : Wish)
/-- the readings: a value; an operand; a list that is new -/
def tE (m : ME) : TE := fun σ H Q => ∃ c O ρ S, StR W G c O σ H ρ S ∧ (ev C m ρ S).all (fun pv S' => ∀ H' z, Ext c H H' → CupIs W H' c S' → Rep W H' O c pv z → Q z H') (fun n l S' => ∀ H', Ext c H H' → CupIs W H' c S' → Ew n l H')
def tO (m : ME) : TE := fun σ H Q => ∃ c O ρ S, StR W G c O σ H ρ S ∧ (ev C m ρ S).all (fun pv S' => ∀ H' z, Ext c H H' → CupIs W H' c S' → RepO W H' O c pv z → Q z H') (fun n l S' => ∀ H', Ext c H H' → CupIs W H' c S' → Ew n l H')
def tF (m : ME) : TE := fun σ H Q => ∃ c O ρ S, StR W G c O σ H ρ S ∧ (ev C m ρ S).all (fun pv S' => ∀ H' p vs xs, Ext c H H' → CupIs W H' c S' → pv = .lst xs → H p = none → H' p = some (.lst vs) → RepL W H' (p :: O) c xs vs → Q (.ref p) H') (fun n l S' => ∀ H', Ext c H H' → CupIs W H' c S' → Ew n l H')
def tT (m : ME) : TT := fun σ H Q => ∃ c O ρ S, StR W G c O σ H ρ S ∧ ((ev C m ρ S).bind fun x S1 => Res.of (truthV x) S1).all (fun k S' => ∀ H', Ext c H H' → CupIs W H' c S' → Q k H') (fun n l S' => ∀ H', Ext c H H' → CupIs W H' c S' → Ew n l H')
def tEs (ms : MEs) : TA := fun σ H Q => ∃ c O ρ S, StR W G c O σ H ρ S ∧ (evs C ms ρ S).all (fun xs S' => ∀ H' zs, Ext c H H' → CupIs W H' c S' → RepL W H' O c xs zs → Q zs H') (fun n l S' => ∀ H', Ext c H H' → CupIs W H' c S' → Ew n l H')
end
inductive RepOs (W : Wd) (H : Hp) (O : List Addr) (c : Cu) : List PV → List V → Prop
  | nil : RepOs W H O c [] []
  | cons {x : PV} {v : V} {xs : List PV} {vs : List V} : RepO W H O c x v → RepOs W H O c xs vs → RepOs W H O c (x :: xs) (v :: vs)
theorem RepOs.ext {W : Wd} {H H' : Hp} {O : List Addr} {c : Cu} (e : Ext c H H') : ∀ {xs : List PV} {vs : List V}, RepOs W H O c xs vs → RepOs W H' O c xs vs
  | _, _, .nil => .nil
  | _, _, .cons a b => .cons (a.ext e) (b.ext e)
/-- operands as arguments -/
def tOs (W : Wd) (G : List Nat) (C : Calls) (Ew : Wish) (ms : MEs) : TA := fun σ H Q => ∃ c O ρ S, StR W G c O σ H ρ S ∧ (evs C ms ρ S).all (fun xs S' => ∀ H' zs, Ext c H H' → CupIs W H' c S' → RepOs W H' O c xs zs → Q zs H') (fun n l S' => ∀ H', Ext c H H' → CupIs W H' c S' → Ew n l H')

theorem _root_.L2.PE.imp {X : Cx} {e : Expr} {t t' : TE} (h : PE X e t) (f : ∀ σ H Q, t' σ H Q → t σ H Q) : PE X e t' := ⟨fun pins s σ H Q I q => h.run pins s σ H Q I (f _ _ _ q)⟩

section
variable {X : Cx} {W : Wd} {G : List Nat} {C : Calls} {Ew : Wish} {a b d : Expr} {ma mb md : ME} {ms : MEs} {es : List Expr} {pos : Pos}
variable {pins : List (Addr × Obj)} {s : Shared} {σ : L2.St} {H : Hp} {c : Cu} {O : List Addr} {ρ : Env} {S : Cup}
theorem tE.op (h : PE X a (tE W G C Ew ma)) : PE X a (tO W G C Ew ma) := h.imp fun σ H Q ⟨c, O, ρ, S, st, q⟩ => ⟨c, O, ρ, S, st, q.imp (fun _ _ q H' z e h r => q H' z e h (.of r)) fun _ _ _ q => q⟩
theorem tF.e (hK : W.K = X.K) (h : PE X a (tF W G C Ew ma)) (hl : ∀ ρ S v S', ev C ma ρ S = .ok v S' → isLst v = true) : PE X a (tE W G C Ew ma) := h.imp fun σ H Q ⟨c, O, ρ, S, st, q⟩ => by
  refine ⟨c, O, ρ, S, st, ?_⟩
  cases hr : ev C ma ρ S with
  | ok v S' =>
    rw [hr] at q
    intro H' p vs xs e h ex hn hp r
    subst ex
    exact q H' _ e h (.lst (st.cup.ne hn) (fun m => st.tr p m hn) hp (r.sub fun a ha => List.mem_cons_of_mem _ ha))
  | exn n l S' => rw [hr] at q; exact q
  | bad => rw [hr] at q; exact q
theorem StR.sit (st : StR W G c O σ H ρ S) (I : Inv X pins σ H s) (hK : W.K = X.K) : Sit X W pins σ H O c S s := ⟨I, hK, st.cup, st.tr⟩
/-- an operand, then what follows -/
theorem runO (h : PE X a (tO W G C Ew ma)) (I : Inv X pins σ H s) (st : StR W G c O σ H ρ S) {Q : Value → Shared → Prop}
    (q : (ev C ma ρ S).all (fun pv S' => ∀ v s' z H', Inv X pins σ H' s' → RelV z v → Ext c H H' → StR W G c O σ H' ρ S' → RepO W H' O c pv z → Q v s') (fun n l S' => ∀ H', Ext c H H' → CupIs W H' c S' → Ew n l H')) :
    wpAny (model X.prog X.w) X.A (eval a X.env) Q X.xe s := by
  refine thn (h.run pins s σ H (fun z H' => ∀ v s', Inv X pins σ H' s' → RelV z v → Q v s') I ⟨c, O, ρ, S, st, q.imp (fun pv S' q H' z e h r v s' I' rv => q v s' z H' I' rv e (st.ext e h) r) fun _ _ _ q => q⟩) fun v s' ⟨z, H', I', rv, q⟩ => q v s' I' rv
theorem runE (h : PE X a (tE W G C Ew ma)) (I : Inv X pins σ H s) (st : StR W G c O σ H ρ S) {Q : Value → Shared → Prop}
    (q : (ev C ma ρ S).all (fun pv S' => ∀ v s' z H', Inv X pins σ H' s' → RelV z v → Ext c H H' → StR W G c O σ H' ρ S' → Rep W H' O c pv z → Q v s') (fun n l S' => ∀ H', Ext c H H' → CupIs W H' c S' → Ew n l H')) :
    wpAny (model X.prog X.w) X.A (eval a X.env) Q X.xe s := by
  refine thn (h.run pins s σ H (fun z H' => ∀ v s', Inv X pins σ H' s' → RelV z v → Q v s') I ⟨c, O, ρ, S, st, q.imp (fun pv S' q H' z e h r v s' I' rv => q v s' z H' I' rv e (st.ext e h) r) fun _ _ _ q => q⟩) fun v s' ⟨z, H', I', rv, q⟩ => q v s' I' rv
theorem runT (h : PT X a (tT W G C Ew ma)) (I : Inv X pins σ H s) (st : StR W G c O σ H ρ S) {Q : Bool → Shared → Prop}
    (q : ((ev C ma ρ S).bind fun x S1 => Res.of (truthV x) S1).all (fun k S' => ∀ s' H', Inv X pins σ H' s' → Ext c H H' → StR W G c O σ H' ρ S' → Q k s') (fun n l S' => ∀ H', Ext c H H' → CupIs W H' c S' → Ew n l H')) :
    wpAny (model X.prog X.w) X.A (isTrue a X.env (eval a X.env)) Q X.xe s := by
  refine thn (h.run pins s σ H (fun k H' => ∀ s', Inv X pins σ H' s' → Q k s') I ⟨c, O, ρ, S, st, q.imp (fun pv S' q H' e h s' I' => q s' H' I' e (st.ext e h)) fun _ _ _ q => q⟩) fun v s' ⟨H', I', q⟩ => q s' I'
/-- the end of an operation -/
theorem fin {f : Sem Value} {H0 : Hp} {pv : PV} {Q : VK} (h : wpAny (model X.prog X.w) X.A f (EP X pins σ (Good W O c H S pv)) X.xe s) (e0 : Ext c H0 H) (q : ∀ H' z, Ext c H0 H' → CupIs W H' c S → Rep W H' O c pv z → Q z H') : wpAny (model X.prog X.w) X.A f (EP X pins σ Q) X.xe s :=
  thn h fun v s' ⟨z, H', I', rv, e, cu, r⟩ => ⟨z, H', I', rv, q H' z (e0.trans e) cu r⟩

theorem e_bin {op : Operator} (hK : W.K = X.K) (ha : PE X a (tO W G C Ew ma)) (hb : PE X b (tO W G C Ew mb)) : PE X (.BinOp a op b pos) (tE W G C Ew (.bin op ma mb)) := by
  refine ⟨fun pins s σ H Q I ⟨c, O, ρ, S, st, h⟩ => ?_⟩
  rw [ev] at h
  refine wpAny_BinOp (runO ha I st ((Res.all_bind h).imp (fun x S1 h1 v s1 z H1 I1 rz e1 st1 r1 => ?_) fun _ _ _ h => h))
  refine runO hb I1 st1 ((Res.all_bind h1).imp (fun y S2 h2 u s2 z2 H2 I2 rz2 e2 st2 r2 => ?_) fun _ _ _ h H' e => h H' (e1.trans e))
  obtain ⟨pv, hp, h2⟩ := Res.all_of h2
  exact fin (ok_bin op pins s2 σ H2 O c S2 x y z z2 v u pv (st2.sit I2 hK) (r1.ext e2) r2 rz rz2 hp) (e1.trans e2) h2
theorem e_cmp {op : CmpOp} (hK : W.K = X.K) (hu : X.A.units + 65 < cLine) (ha : PE X a (tO W G C Ew ma)) (hb : PE X b (tO W G C Ew mb)) (hm : behindInMarks op b = false) : PE X (.Compare a [op] [b] pos) (tE W G C Ew (.cmp op ma mb)) := by
  refine ⟨fun pins s σ H Q I ⟨c, O, ρ, S, st, h⟩ => ?_⟩
  rw [ev] at h
  refine wpAny_Compare1 (runO ha I st ((Res.all_bind h).imp (fun x S1 h1 v s1 z H1 I1 rz e1 st1 r1 => ?_) fun _ _ _ h => h)) hm
  refine runO hb I1 st1 ((Res.all_bind h1).imp (fun y S2 h2 u s2 z2 H2 I2 rz2 e2 st2 r2 => ?_) fun _ _ _ h H' e => h H' (e1.trans e))
  obtain ⟨pv, hp, h2⟩ := Res.all_of h2
  exact fin (ok_cmp hu op pins s2 σ H2 O c S2 x y z z2 v u pv (st2.sit I2 hK) (r1.ext e2) r2 rz rz2 hp) (e1.trans e2) h2

/-! ### names, constants -/
theorem e_var {i : Nat} {x : Str} (h : PE X (.Name x pos) (tVar i)) (hi : i ∉ G) : PE X (.Name x pos) (tE W G C Ew (.var i)) := h.imp fun σ H Q ⟨c, O, ρ, S, st, h⟩ => by
  rw [ev] at h
  split at h
  · rename_i v hv
    obtain ⟨z, h1, h2⟩ := st.gen i v hv hi
    exact ⟨z, h1, h H z ExtO.refl st.cup h2⟩
  · exact h.elim
theorem e_own {i : Nat} {x : Str} (h : PE X (.Name x pos) (tVar i)) : PE X (.Name x pos) (tO W G C Ew (.own i)) := h.imp fun σ H Q ⟨c, O, ρ, S, st, h⟩ => by
  rw [ev] at h
  split at h
  · rename_i v hv
    obtain ⟨z, h1, h2⟩ := st.get hv
    exact ⟨z, h1, h H z ExtO.refl st.cup h2⟩
  · exact h.elim
/-- a value that leans on nothing of the heap -/
theorem e_cst {e : Expr} {m : ME} {pv : PV} {v : V} (h : PE X e (tC v)) (he : ∀ ρ S, ev C m ρ S = .ok pv S) (r : ∀ H O c, Rep W H O c pv v) : PE X e (tE W G C Ew m) := h.imp fun σ H Q ⟨c, O, ρ, S, st, h⟩ => by
  rw [he] at h
  exact h H v ExtO.refl st.cup (r _ _ _)
/-! ### truth -/
theorem truth_ok {pins : List (Addr × Obj)} {s : Shared} {σ : L2.St} {H : Hp} {O : List Addr} {c : Cu} {S : Cup} {x : PV} {z : V} {v : Value} {k : Bool} {Q : Bool → Shared → Prop} (st : Sit X W pins σ H O c S s) (r : RepO W H O c x z) (rz : RelV z v) (h : truthV x = some k)
    (q : ∀ s', Inv X pins σ H s' → Q k s') : wpAny (model X.prog X.w) X.A (truthy v) Q X.xe s := by
  refine thn (tru_ok pins s σ H z v (fun k' H' => k' = k ∧ H' = H) st.inv rz ?_) fun b s' ⟨H', I', e1, e2⟩ => by subst e1 e2; exact q s' I'
  cases x <;> first | cases h | skip
  case non => cases r.non; exact ⟨_, rfl, rfl, rfl⟩
  case bl => cases r.bl; exact ⟨_, rfl, rfl, rfl⟩
  case int => cases r.int; exact ⟨_, rfl, rfl, rfl⟩
  case tup xs =>
    simp only [truthV] at h
    split at h
    · cases h
      obtain ⟨p, vs, rfl, n1, m1, h1, l1⟩ := r.tup
      rw [st.hK] at h1
      refine ⟨_, .inr (.inl ⟨vs, h1, rfl⟩), ?_, rfl⟩
      cases l1 <;> rfl
    · cases h
  case lst xs =>
    simp only [truthV] at h
    split at h
    · cases h
      obtain ⟨p, vs, rfl, n1, h1, l1⟩ := r.lst
      refine ⟨_, .inl ⟨vs, SqL.of h1, rfl⟩, ?_, rfl⟩
      cases l1 <;> rfl
    · cases h
/-- an operand as a test, where the test is its value's truth -/
theorem t_val (hK : W.K = X.K) (ha : PE X a (tO W G C Ew ma)) (he : ∀ whole, isTrue a X.env whole = (do let v ← whole; standAt a.pos; holding [v] (truthy v))) : PT X a (tT W G C Ew ma) := by
  refine ⟨fun pins s σ H Q I ⟨c, O, ρ, S, st, h⟩ => ?_⟩
  refine isTrue_plain (runO ha I st ((Res.all_bind h).imp (fun x S1 h1 v s1 z H1 I1 rz e1 st1 r1 => ?_) fun _ _ _ h => h)) (he _)
  obtain ⟨k, hk, h1⟩ := Res.all_of h1
  exact truth_ok (st1.sit I1 hK) r1 rz hk fun s' I' => ⟨H1, I', h1 H1 e1 st1.cup⟩
theorem t_cmp {op : CmpOp} (hK : W.K = X.K) (hu : X.A.units + 65 < cLine) (ha : PE X a (tO W G C Ew ma)) (hb : PE X b (tO W G C Ew mb)) (hm : behindInMarks op b = false) : PT X (.Compare a [op] [b] pos) (tT W G C Ew (.cmp op ma mb)) := by
  refine ⟨fun pins s σ H Q I ⟨c, O, ρ, S, st, h⟩ => ?_⟩
  rw [ev] at h
  have h := Res.all_bind h
  refine wpAny_isTrue_Compare1 (runO ha I st ((Res.all_bind h).imp (fun x S1 h1 v s1 z H1 I1 rz e1 st1 r1 => ?_) fun _ _ _ h => h)) hm
  refine runO hb I1 st1 ((Res.all_bind h1).imp (fun y S2 h2 u s2 z2 H2 I2 rz2 e2 st2 r2 => ?_) fun _ _ _ h H' e => h H' (e1.trans e))
  obtain ⟨pv, hp, h2⟩ := Res.all_of h2
  obtain ⟨k, hk, h2⟩ := Res.all_of h2
  refine thn (ok_cmp hu op pins s2 σ H2 O c S2 x y z z2 v u pv (st2.sit I2 hK) (r1.ext e2) r2 rz rz2 hp) fun r s3 ⟨z3, H3, I3, rz3, e3, cu, r3⟩ => ?_
  exact truth_ok ⟨I3, hK, cu, (st2.ext e3 cu).tr⟩ (.of r3) rz3 hk fun s' I' => ⟨H3, I', h2 H3 (e1.trans (e2.trans e3)) cu⟩
theorem e_not (hK : W.K = X.K) (ha : PE X a (tO W G C Ew ma)) : PE X (.UnaryOp .Not a pos) (tE W G C Ew (.not ma)) := by
  refine ⟨fun pins s σ H Q I ⟨c, O, ρ, S, st, h⟩ => ?_⟩
  rw [ev] at h
  refine UnaryOp_ (runO ha I st ((Res.all_bind h).imp (fun x S1 h1 v s1 z H1 I1 rz e1 st1 r1 => ?_) fun _ _ _ h => h))
  obtain ⟨k, hk, h1⟩ := Res.all_of (Res.all_bind h1)
  exact not_of (truth_ok (st1.sit I1 hK) r1 rz hk fun s' I' => ⟨.bl (!k), H1, I', rfl, h1 H1 _ e1 st1.cup (.bl _)⟩)
theorem t_not (ha : PT X a (tT W G C Ew ma)) : PT X (.UnaryOp .Not a pos) (tT W G C Ew (.not ma)) := by
  refine ⟨fun pins s σ H Q I ⟨c, O, ρ, S, st, h⟩ => ?_⟩
  rw [ev] at h
  refine isTrue_not (runT ha I st ?_)
  revert h
  cases ev C ma ρ S with
  | ok x S1 =>
    cases hx : truthV x with
    | none => exact fun h => by simp [Res.all, hx] at h
    | some k =>
      intro h
      have hb : truthV (.bl (!k)) = some (!k) := rfl
      simp only [Res.bind, Res.of, hx, hb] at h ⊢
      exact fun s' H' I' e st' => ⟨H', I', h H' e st'.cup⟩
  | exn n l S1 => exact fun h => h
  | bad => exact fun h => h
theorem e_one {op : BoolOp} {t : TE} (h : PE X a t) : PE X (.BoolOp op [a] pos) t := pe_one h
theorem e_and {rest : List Expr} (hK : W.K = X.K) (ha : PE X a (tE W G C Ew ma)) (hb : PE X (.BoolOp .And (b :: rest) pos) (tE W G C Ew mb)) : PE X (.BoolOp .And (a :: b :: rest) pos) (tE W G C Ew (.and ma mb)) := by
  refine ⟨fun pins s σ H Q I ⟨c, O, ρ, S, st, h⟩ => ?_⟩
  rw [ev] at h
  refine BoolOp_and (runE ha I st ((Res.all_bind h).imp (fun x S1 h1 v s1 z H1 I1 rz e1 st1 r1 => ?_) fun _ _ _ h => h))
  obtain ⟨k, hk, h1⟩ := Res.all_of (Res.all_bind h1)
  refine truth_ok (st1.sit I1 hK) (.of r1) rz hk fun s' I' => ?_
  cases k with
  | true => exact runE hb I' st1 (h1.imp (fun y S2 h2 u s2 z2 H2 I2 rz2 e2 st2 r2 => ⟨z2, H2, I2, rz2, h2 H2 z2 (e1.trans e2) st2.cup r2⟩) fun _ _ _ h H' e => h H' (e1.trans e))
  | false => exact ⟨z, H1, I', rz, h1 H1 z e1 st1.cup r1⟩
theorem e_or {rest : List Expr} (hK : W.K = X.K) (ha : PE X a (tE W G C Ew ma)) (hb : PE X (.BoolOp .Or (b :: rest) pos) (tE W G C Ew mb)) : PE X (.BoolOp .Or (a :: b :: rest) pos) (tE W G C Ew (.or ma mb)) := by
  refine ⟨fun pins s σ H Q I ⟨c, O, ρ, S, st, h⟩ => ?_⟩
  rw [ev] at h
  refine BoolOp_or (runE ha I st ((Res.all_bind h).imp (fun x S1 h1 v s1 z H1 I1 rz e1 st1 r1 => ?_) fun _ _ _ h => h))
  obtain ⟨k, hk, h1⟩ := Res.all_of (Res.all_bind h1)
  refine truth_ok (st1.sit I1 hK) (.of r1) rz hk fun s' I' => ?_
  cases k with
  | false => exact runE hb I' st1 (h1.imp (fun y S2 h2 u s2 z2 H2 I2 rz2 e2 st2 r2 => ⟨z2, H2, I2, rz2, h2 H2 z2 (e1.trans e2) st2.cup r2⟩) fun _ _ _ h H' e => h H' (e1.trans e))
  | true => exact ⟨z, H1, I', rz, h1 H1 z e1 st1.cup r1⟩
/-- a test whatever its whole is -/
theorem t_and1 (ha : PT X a (tT W G C Ew ma)) : PW X (.BoolOp .And [a] pos) (tT W G C Ew ma) := pw_and1 ha
theorem t_or1 (ha : PT X a (tT W G C Ew ma)) : PW X (.BoolOp .Or [a] pos) (tT W G C Ew ma) := pw_or1 ha
theorem runW {e : Expr} {m : ME} {whole : Sem Value} (h : PW X e (tT W G C Ew m)) (I : Inv X pins σ H s) (st : StR W G c O σ H ρ S) {Q : Bool → Shared → Prop}
    (q : ((ev C m ρ S).bind fun x S1 => Res.of (truthV x) S1).all (fun k S' => ∀ s' H', Inv X pins σ H' s' → Ext c H H' → StR W G c O σ H' ρ S' → Q k s') (fun n l S' => ∀ H', Ext c H H' → CupIs W H' c S' → Ew n l H')) :
    wpAny (model X.prog X.w) X.A (isTrue e X.env whole) Q X.xe s := by
  refine thn (h.run whole pins s σ H (fun k H' => ∀ s', Inv X pins σ H' s' → Q k s') I ⟨c, O, ρ, S, st, q.imp (fun pv S' q H' e h s' I' => q s' H' I' e (st.ext e h)) fun _ _ _ q => q⟩) fun v s' ⟨H', I', q⟩ => q s' I'
theorem t_and {rest : List Expr} (ha : PT X a (tT W G C Ew ma)) (hb : PW X (.BoolOp .And (b :: rest) pos) (tT W G C Ew mb)) : PW X (.BoolOp .And (a :: b :: rest) pos) (tT W G C Ew (.and ma mb)) := by
  refine ⟨fun wh pins s σ H Q I ⟨c, O, ρ, S, st, h⟩ => ?_⟩
  rw [ev] at h
  refine isTrue_and (runT ha I st ?_)
  revert h
  cases ev C ma ρ S with
  | ok x S1 =>
    cases hx : truthV x with
    | none => exact fun h => by simp [Res.all, hx] at h
    | some k =>
      intro h
      simp only [Res.bind, Res.of, hx] at h ⊢
      intro s' H' I' e st'
      cases k with
      | true => exact runW hb I' st' (h.imp (fun k2 S2 h2 s2 H2 I2 e2 st2 => ⟨H2, I2, h2 H2 (e.trans e2) st2.cup⟩) fun _ _ _ h H' e2 => h H' (e.trans e2))
      | false =>
        simp only [Bool.false_eq_true, if_false, hx, Res.all] at h
        exact ⟨H', I', h H' e st'.cup⟩
  | exn n l S1 => exact fun h => h
  | bad => exact fun h => h
theorem t_or {rest : List Expr} (ha : PT X a (tT W G C Ew ma)) (hb : PW X (.BoolOp .Or (b :: rest) pos) (tT W G C Ew mb)) : PW X (.BoolOp .Or (a :: b :: rest) pos) (tT W G C Ew (.or ma mb)) := by
  refine ⟨fun wh pins s σ H Q I ⟨c, O, ρ, S, st, h⟩ => ?_⟩
  rw [ev] at h
  refine isTrue_or (runT ha I st ?_)
  revert h
  cases ev C ma ρ S with
  | ok x S1 =>
    cases hx : truthV x with
    | none => exact fun h => by simp [Res.all, hx] at h
    | some k =>
      intro h
      simp only [Res.bind, Res.of, hx] at h ⊢
      intro s' H' I' e st'
      cases k with
      | false => exact runW hb I' st' (h.imp (fun k2 S2 h2 s2 H2 I2 e2 st2 => ⟨H2, I2, h2 H2 (e.trans e2) st2.cup⟩) fun _ _ _ h H' e2 => h H' (e.trans e2))
      | true =>
        simp only [if_true, hx, Res.all] at h
        exact ⟨H', I', h H' e st'.cup⟩
  | exn n l S1 => exact fun h => h
  | bad => exact fun h => h
theorem e_ite (hd : PT X d (tT W G C Ew md)) (ha : PE X a (tE W G C Ew ma)) (hb : PE X b (tE W G C Ew mb)) : PE X (.IfExp d a b pos) (tE W G C Ew (.ite md ma mb)) := by
  refine ⟨fun pins s σ H Q I ⟨c, O, ρ, S, st, h⟩ => ?_⟩
  rw [ev] at h
  refine wpAny_IfExp (runT hd I st ?_)
  revert h
  cases ev C md ρ S with
  | ok x S1 =>
    cases hx : truthV x with
    | none => exact fun h => by simp [Res.all, hx] at h
    | some k =>
      intro h
      simp only [Res.bind, Res.of, hx] at h ⊢
      intro s' H' I' e st'
      cases k with
      | true => exact runE ha I' st' (h.imp (fun y S2 h2 u s2 z2 H2 I2 rz2 e2 st2 r2 => ⟨z2, H2, I2, rz2, h2 H2 z2 (e.trans e2) st2.cup r2⟩) fun _ _ _ h H' e2 => h H' (e.trans e2))
      | false => exact runE hb I' st' (h.imp (fun y S2 h2 u s2 z2 H2 I2 rz2 e2 st2 r2 => ⟨z2, H2, I2, rz2, h2 H2 z2 (e.trans e2) st2.cup r2⟩) fun _ _ _ h H' e2 => h H' (e.trans e2))
  | exn n l S1 => exact fun h => h
  | bad => exact fun h => h
theorem e_neg (ha : PE X a (tO W G C Ew ma)) : PE X (.UnaryOp .USub a pos) (tE W G C Ew (.neg ma)) := by
  refine ⟨fun pins s σ H Q I ⟨c, O, ρ, S, st, h⟩ => ?_⟩
  rw [ev] at h
  refine UnaryOp_ (runO ha I st ((Res.all_bind h).imp (fun x S1 h1 v s1 z H1 I1 rz e1 st1 r1 => ?_) fun _ _ _ h => h))
  obtain ⟨pv, hp, h1⟩ := Res.all_of h1
  cases x <;> first | cases hp | skip
  cases r1.int
  exact un_neg pins s1 σ H1 _ v _ I1 rz ⟨_, rfl, h1 H1 _ e1 st1.cup (.int _)⟩
end
end Py

set_option Elab.async false
set_option linter.all false
set_option maxRecDepth 100000
set_option maxHeartbeats 4000000
/-! Py: displays, subscripts, calls of built-ins. -/
namespace Py
@[local simp] theorem ub_F {α β : Type} (r : Res α) (f : α → Cup → Res β) : r.bind f = (match r with | .ok a S => f a S | .exn c l S => .exn c l S | .bad => .bad) := rfl
@[local simp] theorem uo_F {α : Type} (o : Option α) (S : Cup) : Res.of o S = (match o with | some a => .ok a S | none => .bad) := rfl
@[local simp] theorem uu_F {α : Type} (r : Res α) (f : α → Cup → Out) : r.out f = (match r with | .ok a S => f a S | .exn c l S => .exn c l S | .bad => .bad) := rfl
@[local simp] theorem us_F (o : Out) (f : Env → Cup → Out) : o.seq f = (match o with | .next ρ S => f ρ S | o => o) := rfl
open PySem PySem.Spec PyProof.Rows L2
section
variable {X : Cx} {W : Wd} {G : List Nat} {C : Calls} {Ew : Wish} {a b d : Expr} {ma mb md : ME} {ms : MEs} {es : List Expr} {pos : Pos}
variable {pins : List (Addr × Obj)} {s : Shared} {σ : L2.St} {H : Hp} {c : Cu} {O : List Addr} {ρ : Env} {S : Cup}
/-- readings in a row -/
theorem rdO (st : StR W G c O σ H ρ S) {R : VK} (q : (ev C ma ρ S).all (fun pv S' => ∀ z H', Ext c H H' → StR W G c O σ H' ρ S' → RepO W H' O c pv z → R z H') (fun n l S' => ∀ H', Ext c H H' → CupIs W H' c S' → Ew n l H')) : tO W G C Ew ma σ H R :=
  ⟨c, O, ρ, S, st, q.imp (fun pv S' q H' z e h r => q z H' e (st.ext e h) r) fun _ _ _ q => q⟩
theorem rdE (st : StR W G c O σ H ρ S) {R : VK} (q : (ev C ma ρ S).all (fun pv S' => ∀ z H', Ext c H H' → StR W G c O σ H' ρ S' → Rep W H' O c pv z → R z H') (fun n l S' => ∀ H', Ext c H H' → CupIs W H' c S' → Ew n l H')) : tE W G C Ew ma σ H R :=
  ⟨c, O, ρ, S, st, q.imp (fun pv S' q H' z e h r => q z H' e (st.ext e h) r) fun _ _ _ q => q⟩
theorem rdEs (st : StR W G c O σ H ρ S) {R : List V → Hp → Prop} (q : (evs C ms ρ S).all (fun pv S' => ∀ z H', Ext c H H' → StR W G c O σ H' ρ S' → RepL W H' O c pv z → R z H') (fun n l S' => ∀ H', Ext c H H' → CupIs W H' c S' → Ew n l H')) : tEs W G C Ew ms σ H R :=
  ⟨c, O, ρ, S, st, q.imp (fun pv S' q H' z e h r => q z H' e (st.ext e h) r) fun _ _ _ q => q⟩
theorem rdOs (st : StR W G c O σ H ρ S) {R : List V → Hp → Prop} (q : (evs C ms ρ S).all (fun pv S' => ∀ z H', Ext c H H' → StR W G c O σ H' ρ S' → RepOs W H' O c pv z → R z H') (fun n l S' => ∀ H', Ext c H H' → CupIs W H' c S' → Ew n l H')) : tOs W G C Ew ms σ H R :=
  ⟨c, O, ρ, S, st, q.imp (fun pv S' q H' z e h r => q z H' e (st.ext e h) r) fun _ _ _ q => q⟩
/-- what values and heaps an operation has -/
structure Hit (W : Wd) (O : List Addr) (c : Cu) (H : Hp) (S : Cup) : Prop where
  cup : CupIs W H c S
  tr : ∀ a ∈ O, H a ≠ none
theorem StR.hit (st : StR W G c O σ H ρ S) : Hit W O c H S := ⟨st.cup, st.tr⟩
theorem Sit.hit (st : Sit X W pins σ H O c S s) : Hit W O c H S := ⟨st.cup, st.own⟩
theorem Hit.tup (h : Hit W O c H S) {p : Addr} (hn : H p = none) {xs : List PV} {vs : List V} (r : RepL W H O c xs vs) : Good W O c H S (.tup xs) (.ref p) (upd H p (.tup vs)) :=
  ⟨ExtO.new hn, h.cup.new hn, .tup (.inl ⟨h.cup.ne hn, fun m => h.tr p m hn, .inl upd_same⟩) (r.ext (ExtO.new hn))⟩
theorem Hit.lst (h : Hit W O c H S) {p : Addr} (hn : H p = none) {xs : List PV} {vs : List V} (r : RepL W H O c xs vs) : Good W O c H S (.lst xs) (.ref p) (upd H p (.lst vs)) :=
  ⟨ExtO.new hn, h.cup.new hn, .lst (h.cup.ne hn) (fun m => h.tr p m hn) upd_same (r.ext (ExtO.new hn))⟩

def isStar : Expr → Bool
  | .Starred .. => true | _ => false
theorem star_plain {e : Expr} {es : List Expr} {env : PySem.Env} (h : isStar e = false) : starEach (e :: es) env = (false, eval e env) :: starEach es env := by
  cases e <;> first | rfl | cases h
theorem plain_args {pos : Pos} {env : PySem.Env} : ∀ {es : List Expr}, es.all (fun e => !isStar e) = true → (backTo pos (starEach es env)).any (·.1) = false
  | [], _ => rfl
  | e :: es, h => by
    rw [List.all_cons, Bool.and_eq_true] at h
    rw [star_plain (by simpa using h.1)]
    show (false || _) = false
    rw [Bool.false_or]
    exact plain_args h.2
theorem a_nil : PA X [] (tEs W G C Ew .nil) := by
  refine ⟨fun pos pins s σ H Q I ⟨c, O, ρ, S, st, h⟩ => pa_nil.run pos pins s σ H Q I ?_⟩
  rw [evs] at h
  exact h H [] ExtO.refl st.cup .nil
theorem a_cons (ha : PE X a (tE W G C Ew ma)) (hr : PA X es (tEs W G C Ew ms)) (hs : isStar a = false) : PA X (a :: es) (tEs W G C Ew (.cons ma ms)) := by
  refine ⟨fun pos pins s σ H Q I ⟨c, O, ρ, S, st, h⟩ => (pa_cons ha hr (star_plain hs)).run pos pins s σ H Q I ?_⟩
  rw [evs] at h
  refine rdE st ((Res.all_bind h).imp (fun x S1 h1 z H1 e1 st1 r1 => ?_) fun _ _ _ h => h)
  refine rdEs st1 ((Res.all_bind h1).imp (fun y S2 h2 zs H2 e2 st2 r2 => ?_) fun _ _ _ h H' e => h H' (e1.trans e))
  exact h2 H2 (z :: zs) (e1.trans e2) st2.cup (.cons (r1.ext e2) r2)
theorem o_nil : PA X [] (tOs W G C Ew .nil) := by
  refine ⟨fun pos pins s σ H Q I ⟨c, O, ρ, S, st, h⟩ => pa_nil.run pos pins s σ H Q I ?_⟩
  rw [evs] at h
  exact h H [] ExtO.refl st.cup .nil
theorem o_cons (ha : PE X a (tO W G C Ew ma)) (hr : PA X es (tOs W G C Ew ms)) (hs : isStar a = false) : PA X (a :: es) (tOs W G C Ew (.cons ma ms)) := by
  refine ⟨fun pos pins s σ H Q I ⟨c, O, ρ, S, st, h⟩ => (pa_cons ha hr (star_plain hs)).run pos pins s σ H Q I ?_⟩
  rw [evs] at h
  refine rdO st ((Res.all_bind h).imp (fun x S1 h1 z H1 e1 st1 r1 => ?_) fun _ _ _ h => h)
  refine rdOs st1 ((Res.all_bind h1).imp (fun y S2 h2 zs H2 e2 st2 r2 => ?_) fun _ _ _ h H' e => h H' (e1.trans e))
  exact h2 H2 (z :: zs) (e1.trans e2) st2.cup (.cons (r1.ext e2) r2)

/-! ### displays -/
theorem e_tup {k : Nat} (ha : PA X es (tEs W G C Ew ms)) : PE X (.Tuple es k pos) (tE W G C Ew (.tup ms)) := (pe_tup ha).imp fun σ H Q ⟨c, O, ρ, S, st, h⟩ => by
  rw [ev] at h
  refine rdEs st ((Res.all_bind h).imp (fun xs S1 h1 zs H1 e1 st1 r1 => ?_) fun _ _ _ h => h)
  have hl := r1.length
  split at h1
  · rename_i hz
    refine ⟨by rw [← lineN_eq]; omega, fun p hp => ?_⟩
    obtain ⟨e2, c2, r2⟩ := st1.hit.tup hp r1
    exact h1 _ _ (e1.trans e2) c2 r2
  · exact h1.elim
theorem f_lst (ha : PA X es (tEs W G C Ew ms)) : PE X (.List es pos) (tF W G C Ew (.lst ms)) := (pe_lst ha).imp fun σ H Q ⟨c, O, ρ, S, st, h⟩ => by
  rw [ev] at h
  refine rdEs st ((Res.all_bind h).imp (fun xs S1 h1 zs H1 e1 st1 r1 => ?_) fun _ _ _ h => h)
  have hl := r1.length
  split at h1
  · rename_i hz
    refine ⟨by rw [← lineN_eq]; omega, fun p hp => ?_⟩
    have hn : H p = none := by
      cases q : H p with
      | none => rfl
      | some o => have hc := st1.cup.ne hp; rw [e1.at hc q] at hp; cases hp
    exact h1 _ p zs xs (e1.trans (ExtO.new hp)) (st1.cup.new hp) rfl hn upd_same ((r1.own hp).ext (ExtO.new hp))
  · exact h1.elim

/-! ### subscripts -/
theorem RepL.at (r : RepL W H O c xs vs) {i : Int} {pv : PV} (h : atI xs i = some pv) : ∃ v, atI vs i = some v ∧ Rep W H O c pv v := by
  unfold atI at h ⊢
  rw [← r.length]
  rw [Option.bind_eq_some_iff] at h
  obtain ⟨j, h1, h2⟩ := h
  obtain ⟨v, h3, h4⟩ := r.get h2
  exact ⟨v, by rw [h1]; exact h3, h4⟩
theorem idx_r (hK : W.K = X.K) (h : Hit W O c H S) {x y pv : PV} {zx zy : V} (rx : RepO W H O c x zx) (ry : RepO W H O c y zy) (e : idxV S x y = some pv) {Q : VK} (q : ∀ z, Rep W H O c pv z → Q z H) :
    rIxL X.K zx zy H Q ∨ rIxT X.K zx zy H Q := by
  cases x <;> cases y <;> first | cases e | skip
  case lst.int xs i =>
    cases ry.int
    obtain ⟨p, vs, rfl, n1, h1, l1⟩ := rx.lst
    obtain ⟨v, h2, h3⟩ := l1.at e
    exact .inl ⟨p, vs, i, v, rfl, rfl, SqL.of h1, h2, q v h3⟩
  case tup.int xs i =>
    cases ry.int
    obtain ⟨p, vs, rfl, n1, m1, h1, l1⟩ := rx.tup
    obtain ⟨v, h2, h3⟩ := l1.at e
    rw [hK] at h1
    exact .inr ⟨p, vs, i, v, rfl, rfl, h1, h2, q v h3⟩
  case cup.int i =>
    cases ry.int
    obtain ⟨p, rfl, hc⟩ := rx.cup
    simp only [idxV] at e
    cases S with
    | none => cases e
    | some ab =>
      have h1 : H p = some (.lst [.int ab.1, .int ab.2]) := h.cup.at hc
      obtain ⟨v, h2, h3⟩ := RepL.at (W := W) (H := H) (O := O) (c := c) (xs := [.int ab.1, .int ab.2]) (vs := [.int ab.1, .int ab.2]) (.cons (.int _) (.cons (.int _) .nil)) e
      exact .inl ⟨p, _, i, v, rfl, rfl, SqL.of h1, h2, q v h3⟩
theorem e_idx (hK : W.K = X.K) (ha : PE X a (tO W G C Ew ma)) (hb : PE X b (tO W G C Ew mb)) (hs : PlainIx b) : PE X (.Subscript a b pos) (tE W G C Ew (.idx ma mb)) := (pe_ix (ix_list.or ix_tup) ha hb hs).imp fun σ H Q ⟨c, O, ρ, S, st, h⟩ => by
  rw [ev] at h
  refine rdO st ((Res.all_bind h).imp (fun x S1 h1 z H1 e1 st1 r1 => ?_) fun _ _ _ h => h)
  refine rdO st1 ((Res.all_bind h1).imp (fun y S2 h2 z2 H2 e2 st2 r2 => ?_) fun _ _ _ h H' e => h H' (e1.trans e))
  obtain ⟨pv, hp, h2⟩ := Res.all_of h2
  exact idx_r hK st2.hit (r1.ext e2) r2 hp fun z r => h2 H2 z (e1.trans e2) st2.cup r
/-- a part of a slice -/
def tP (W : Wd) (G : List Nat) (C : Calls) (Ew : Wish) (m : MO) : TO := fun σ H Q => ∃ c O ρ S, StR W G c O σ H ρ S ∧ (evO C m ρ S).all (fun o S' => ∀ H', Ext c H H' → CupIs W H' c S' → Q o H') (fun n l S' => ∀ H', Ext c H H' → CupIs W H' c S' → Ew n l H')
theorem _root_.L2.PO.imp {X : Cx} {e : Option Expr} {t t' : TO} (h : PO X e t) (f : ∀ σ H Q, t' σ H Q → t σ H Q) : PO X e t' := ⟨fun pins s σ H Q I q => h.run pins s σ H Q I (f _ _ _ q)⟩
theorem p_none : PO X none (tP W G C Ew .no) := po_none.imp fun σ H Q ⟨c, O, ρ, S, st, h⟩ => by
  rw [evO] at h
  exact h H ExtO.refl st.cup
theorem p_some (ha : PE X a (tO W G C Ew ma)) : PO X (some a) (tP W G C Ew (.yes ma)) := (po_some ha).imp fun σ H Q ⟨c, O, ρ, S, st, h⟩ => by
  rw [evO] at h
  refine rdO st ((Res.all_bind h).imp (fun x S1 h1 z H1 e1 st1 r1 => ?_) fun _ _ _ h => h)
  cases x <;> first | exact h1.elim | skip
  case int i =>
    cases r1.int
    exact ⟨i, rfl, h1 H1 e1 st1.cup⟩
theorem rdP {m : MO} (st : StR W G c O σ H ρ S) {R : Option Int → Hp → Prop} (q : (evO C m ρ S).all (fun pv S' => ∀ H', Ext c H H' → StR W G c O σ H' ρ S' → R pv H') (fun n l S' => ∀ H', Ext c H H' → CupIs W H' c S' → Ew n l H')) : tP W G C Ew m σ H R :=
  ⟨c, O, ρ, S, st, q.imp (fun pv S' q H' e h => q H' e (st.ext e h)) fun _ _ _ q => q⟩
theorem RepL.cut (r : RepL W H O c xs vs) (lo hi : Option Int) : RepL W H O c (cutP xs lo hi) (cutV vs lo hi) := by
  unfold cutP cutV
  rw [← r.length]
  exact (r.drop _).take _
theorem cut_whole {xs : List PV} {lo hi : Option Int} (h : HT.sIx xs.length 0 lo = 0 ∧ HT.sIx xs.length xs.length hi = xs.length) : cutP xs lo hi = xs := by
  unfold cutP
  rw [h.1, h.2]
  simp
theorem e_slc {lo hi : Option Expr} {ml mh : MO} {p2 : Pos} (hK : W.K = X.K) (ha : PE X a (tO W G C Ew ma)) (hl : PO X lo (tP W G C Ew ml)) (hh : PO X hi (tP W G C Ew mh)) : PE X (.Subscript a (.Slice lo hi none p2) pos) (tE W G C Ew (.slc ma ml mh)) :=
  (pe_slice (sl_list.or sl_tupA) ha hl hh).imp fun σ H Q ⟨c, O, ρ, S, st, h⟩ => by
  rw [ev] at h
  refine rdO st ((Res.all_bind h).imp (fun x S1 h1 z H1 e1 st1 r1 => ?_) fun _ _ _ h => h)
  refine rdP st1 ((Res.all_bind h1).imp (fun l S2 h2 H2 e2 st2 => ?_) fun _ _ _ h H' e => h H' (e1.trans e))
  refine rdP st2 ((Res.all_bind h2).imp (fun u S3 h3 H3 e3 st3 => ?_) fun _ _ _ h H' e => h H' (e1.trans (e2.trans e)))
  obtain ⟨pv, hp, h3⟩ := Res.all_of h3
  have e13 := e1.trans (e2.trans e3)
  have r1 := r1.ext (e2.trans e3)
  cases x <;> first | cases hp | skip
  case lst xs =>
    obtain ⟨p, vs, rfl, n1, h1, l1⟩ := r1.lst
    refine .inl ⟨p, vs, rfl, SqL.of h1, fun q hq => ?_⟩
    obtain ⟨e4, c4, r4⟩ := st3.hit.lst hq (l1.cut l u)
    exact h3 _ _ (e13.trans e4) c4 r4
  case tup xs =>
    obtain ⟨p, vs, rfl, n1, m1, h1, l1⟩ := r1.tup
    have h1' := h1
    rw [hK] at h1
    refine .inr ⟨p, vs, rfl, h1, fun w => ?_, fun _ q hq => ?_⟩
    · rw [← l1.length] at w
      refine h3 _ _ e13 st3.cup ?_
      rw [cut_whole w]
      exact .tup n1 l1
    · obtain ⟨e4, c4, r4⟩ := st3.hit.tup hq (l1.cut l u)
      exact h3 _ _ (e13.trans e4) c4 r4

/-! ### calls of built-ins -/
def CallOk (X : Cx) (W : Wd) (f : Value) (g : List PV → Option PV) : Prop :=
  ∀ (pins : List (Addr × Obj)) (s : Shared) (σ : L2.St) (H : Hp) (O : List Addr) (c : Cu) (S : Cup) (xs : List PV) (zs : List V) (us : List Value) (pv : PV), Sit X W pins σ H O c S s → RepOs W H O c xs zs → Vals zs us → g xs = some pv →
    wpAny (model X.prog X.w) X.A (call f us) (EP X pins σ (Good W O c H S pv)) X.xe s
def rCall (W : Wd) (g : List PV → Option PV) : List V → Hp → VK → Prop := fun zs H Q => ∃ O c S xs pv, Hit W O c H S ∧ RepOs W H O c xs zs ∧ g xs = some pv ∧ ∀ H' z, Good W O c H S pv z H' → Q z H'
theorem CallOk.r {f : Value} {g : List PV → Option PV} (hK : W.K = X.K) (h : CallOk X W f g) : CallR X f (rCall W g) := by
  intro pins s σ H zs us Q I r ⟨O, c, S, xs, pv, ht, ro, e, q⟩
  exact thn (h pins s σ H O c S xs zs us pv ⟨I, hK, ht.cup, ht.tr⟩ ro r e) fun v s' ⟨z, H', I', rv, g⟩ => ⟨z, H', I', rv, q H' z g⟩
theorem CallOk.of {f : Value} {g : List PV → Option PV} {r : List V → Hp → VK → Prop} (hr : CallR X f r) (h : ∀ {H : Hp} {O : List Addr} {c : Cu} {S : Cup} {xs : List PV} {zs : List V} {pv : PV}, Hit W O c H S → RepOs W H O c xs zs → g xs = some pv → r zs H (Good W O c H S pv)) : CallOk X W f g :=
  fun pins s σ H O c S xs zs us pv st ro rv e => hr pins s σ H zs us _ st.inv rv (h st.hit ro e)
theorem blt_r {g : List PV → Option PV} {t : TA} {bb : Blt} (hg : g = bltV bb) (σ : L2.St) (H : Hp) (Q : VK) : tE W G C Ew (.blt bb ms) σ H Q → tCB (rCall W g) (tOs W G C Ew ms) σ H Q := by
  subst hg
  intro ⟨c, O, ρ, S, st, h⟩
  rw [ev] at h
  refine rdOs st ((Res.all_bind h).imp (fun xs S1 h1 zs H1 e1 st1 r1 => ?_) fun _ _ _ h => h)
  obtain ⟨pv, hp, h1⟩ := Res.all_of h1
  exact ⟨O, c, S1, xs, pv, st1.hit, r1, hp, fun H' z ⟨e2, c2, r2⟩ => h1 H' z (e1.trans e2) c2 r2⟩
theorem e_bltB {bb : Blt} {id : String} {x : Str} {p : Pos} (hK : W.K = X.K) (hc : CallOk X W (.builtin id) (bltV bb)) (hg : Gl X x) (hm : X.mg x = none) (hv : bootBuiltins x = some (.builtin id)) (ha : PA X (a :: es) (tOs W G C Ew ms)) (hn : x ≠ "__name__") (hdb : (x == ("__debug__" : Str)) = false)
    (he : isStar a = false) (hpl : es.all (fun e => !isStar e) = true) : PE X (.Call (.Name x p) (a :: es) [] pos) (tE W G C Ew (.blt bb ms)) :=
  (pe_callB (hc.r hK) hg hm hv ha hn hdb (star_plain he) (plain_args hpl)).imp fun σ H Q h => blt_r (t := tNil) rfl σ H Q h
theorem e_bltT {bb : Blt} {id : String} {x : Str} {p : Pos} (hK : W.K = X.K) (hc : CallOk X W (.type id) (bltV bb)) (hg : Gl X x) (hm : X.mg x = none) (hv : bootBuiltins x = some (.type id)) (ha : PA X (a :: es) (tOs W G C Ew ms)) (hn : x ≠ "__name__") (hdb : (x == ("__debug__" : Str)) = false)
    (he : isStar a = false) (hpl : es.all (fun e => !isStar e) = true) : PE X (.Call (.Name x p) (a :: es) [] pos) (tE W G C Ew (.blt bb ms)) :=
  (pe_callTy (hc.r hK) hg hm hv ha hn hdb (star_plain he) (plain_args hpl)).imp fun σ H Q h => blt_r (t := tNil) rfl σ H Q h
end
end Py

set_option Elab.async false
set_option linter.all false
set_option maxRecDepth 100000
set_option maxHeartbeats 4000000
/-! Py: x[::-1] of lists and tuples. -/
namespace Py
open PySem PySem.Spec PyProof.Rows L2 HT
theorem back_adjust (n : Nat) : Builtin.Slice.sliceAdjust none none (-1) (n : Int) = ((n : Int) - 1, -1) := by
  unfold Builtin.Slice.sliceAdjust
  simp
theorem back_places (n : Nat) : Builtin.Slice.slicePlaces ((n : Int) - 1) (-1) (-1) = n := by
  unfold Builtin.Slice.slicePlaces
  have k1 : ¬ ((-1 : Int) > 0) := by omega
  simp only [k1, if_false]
  split
  · rw [show (-(-1) : Int) = 1 by omega, Int.ediv_one]; omega
  · omega
theorem fm_same {α β : Type} {f g : α → Option β} : ∀ (l : List α), (∀ x ∈ l, f x = g x) → l.filterMap f = l.filterMap g
  | [], _ => rfl
  | x :: l, h => by rw [List.filterMap_cons, List.filterMap_cons, h x List.mem_cons_self, fm_same l fun y hy => h y (List.mem_cons_of_mem _ hy)]
theorem back_pick (xs : Array Value) : ((List.range xs.size).filterMap fun (m : Nat) => xs[(((xs.size : Int) - 1) + (m : Int) * -1).toNat]?).toArray = xs.toList.reverse.toArray := by
  have key : ∀ (l : List Value), (List.range l.length).filterMap (fun m => l[l.length - 1 - m]?) = l.reverse := by
    intro l
    apply List.ext_getElem?
    intro i
    have al : (List.range l.length).filterMap (fun m => l[l.length - 1 - m]?) = (List.range l.length).map (fun m => l.getD (l.length - 1 - m) .none) := by
      rw [← List.filterMap_eq_map]
      refine fm_same _ fun m hm => ?_
      have := List.mem_range.mp hm
      rw [List.getElem?_eq_getElem (by omega)]
      simp [List.getD, List.getElem?_eq_getElem (show l.length - 1 - m < l.length by omega)]
    rw [al]
    by_cases h : i < l.length
    · rw [List.getElem?_map, List.getElem?_range h, List.getElem?_reverse h]
      simp [List.getD, List.getElem?_eq_getElem (show l.length - 1 - i < l.length by omega)]
    · rw [List.getElem?_eq_none (by simp; omega), List.getElem?_eq_none (by simp; omega)]
  have h := key xs.toList
  rw [Array.length_toList] at h
  rw [← h]
  congr 1
  refine fm_same _ fun m hm => ?_
  have := List.mem_range.mp hm
  rw [show (((xs.size : Int) - 1) + (m : Int) * -1).toNat = xs.size - 1 - m by omega, Array.getElem?_toList]
section
variable {prog : Program} {w : World} {A : Around} {E : Value → Shared → Prop} {s : Shared}
theorem back_applied {sl : Addr} {vl vu vs : Value} {n : Nat} {Q : Int × Int × Nat → Shared → Prop} (h1 : s.heap.IsSliceOf sl vl vu vs) (p1 : IsPart vl none) (p2 : IsPart vu none) (p3 : IsPart vs (some (-1)))
    (fin : Q ((n : Int) - 1, -1, n) s) : wpAny (model prog w) A (Builtin.Slice.sliceApplied (.ref sl) (pure (n : Int))) Q E s := by
  obtain ⟨ob, g1, g2, g3⟩ := id h1
  unfold Builtin.Slice.sliceApplied Builtin.Slice.sliceFields
  refine wpAny_bind (wpAny_bind (wpAny_field g1 g3 (x := vl) rfl (wpAny_bind (wpAny_field g1 g3 (x := vu) rfl (wpAny_bind (wpAny_field g1 g3 (x := vs) rfl (wpAny_pure ?_)))))))
  refine wpAny_bind (slicePart_ p3 ?_)
  show wpAny _ _ (if ((-1 : Int) == 0) = true then _ else _) _ _ s
  rw [if_neg (by decide)]
  refine wpAny_bind (slicePart_ p1 (wpAny_bind (slicePart_ p2 (wpAny_bind (wpAny_pure ?_)))))
  show wpAny _ _ (match Builtin.Slice.sliceAdjust none none (-1) (n : Int) with | (i, j) => pure (i, (-1 : Int), Builtin.Slice.slicePlaces i j (-1))) _ _ s
  rw [back_adjust]
  show wpAny _ _ (pure ((n : Int) - 1, (-1 : Int), Builtin.Slice.slicePlaces ((n : Int) - 1) (-1) (-1))) _ _ s
  rw [back_places]
  exact wpAny_pure fin
theorem tuple_back {t sl : Addr} {items : Array Value} {vl vu vs : Value} {Q : Value → Shared → Prop} (h0 : IsTup s.heap t items) (h1 : s.heap.IsSliceOf sl vl vu vs) (p1 : IsPart vl none) (p2 : IsPart vu none) (p3 : IsPart vs (some (-1)))
    (fin : Q (.ref s.heap.objs.size) { s with heap := s.heap.push { cls := .type "tuple", data := .seq items.toList.reverse.toArray } }) (hz : items.size ≤ sizeLine) : wpAny (model prog w) A (getItem (.ref t) (.ref sl)) Q E s := by
  have ok : sizeOk (.seq items.toList.reverse.toArray) := by
    show items.toList.reverse.toArray.size ≤ sizeLine
    simpa using hz
  obtain ⟨ob, g1, g2, g3⟩ := id h1
  have ty : s.TypeIs (.ref sl) "slice" := ⟨ob, g1, g2⟩
  unfold getItem
  try with_reducible refine wpAny_holding ?_
  first | refine wpAny_bind (wpAny_pure ?_) | skip
  refine wpAny_bind (wpAny_sequenceKey h0.typeIs (by decide) ?_)
  refine wpAny_bind (wpAny_callSpecial?_slot (name := Str.ofString "__getitem__") h0.typeIs PyProof.Rows.slot_tuple_getitem (wpAny_call_entry PyProof.Rows.slot_tuple_getitem h0.typeIs entry_tuple_getitem ?_ (args_tuple_getitem _ _)))
  show wpAny _ _ (Builtin.Tuple.tupleItemsOf (.ref t) >>= _) _ _ s
  refine wpAny_bind (tupleItemsOf_ h0 ?_)
  refine wpAny_bind (wpAny_typeOf ty ?_)
  rw [if_pos (by decide)]
  refine wpAny_bind (back_applied h1 p1 p2 p3 ?_)
  show wpAny _ _ (if (((items.size : Int) - 1) == 0 && (-1 : Int) == 1 && items.size == items.size) = true then _ else _) _ _ s
  rw [if_neg (by rw [show ((-1 : Int) == 1) = false from rfl, Bool.and_false, Bool.false_and]; decide), back_pick]
  first
    | exact wpAny_bind (m := Builtin.Tuple.tupleExact _) (wpAny_newObj_type (wpAny_pure ⟨_, rfl, wpAny_pure fin⟩) ok)
    | exact wpAny_bind (m := Builtin.Tuple.tupleExact _) (wpAny_newObj_type (wpAny_bind (wpAny_pure (wpAny_pure ⟨_, rfl, wpAny_pure fin⟩))) ok)
    | exact wpAny_bind (wpAny_bind (m := Builtin.Tuple.tupleExact _) (wpAny_newObj_type (wpAny_pure (wpAny_pure ⟨_, rfl, wpAny_pure fin⟩)) ok))
    | exact wpAny_bind (wpAny_bind (m := Builtin.Tuple.tupleExact _) (wpAny_newObj_type (wpAny_pure ⟨_, rfl, wpAny_pure fin⟩) ok))
end
section
variable {X : Cx}
def tBack (K : PySem.W.Frag) (te : TE) : TE := fun σ H Q => te σ H fun x H1 => ∃ a xs, x = .ref a ∧ ((SqL K H1 a xs ∧ ∀ p, H1 p = none → Q (.ref p) (upd H1 p (.lst xs.reverse))) ∨ (SqT K H1 a xs ∧ ∀ p, H1 p = none → Q (.ref p) (upd H1 p (.tup xs.reverse))))
theorem pe_back {e : Expr} {te : TE} {k : Nat} {p1 p2 p3 pos : Pos} (he : PE X e te) : PE X (.Subscript e (.Slice none none (some (.UnaryOp .USub (.Constant (.int 1) k p1) p2)) p3) pos) (tBack X.K te) := by
  refine ⟨fun pp s σ H Q I h => ?_⟩
  refine Subscript_ (thn (he.run pp s σ H _ I h) fun v t1 ⟨x, K1, J1, r1, a, xs, ex, fin⟩ => ?_)
  subst ex
  cases r1
  have st : PO X (some (.UnaryOp .USub (.Constant (.int 1) k p1) p2)) (tPart (tUn (rU fun i => .int (-i)) (tC (.int 1)))) := po_some (pe_un un_neg pe_int)
  refine wpAny_Slice (thn (po_none.run pp t1 σ K1 (fun o K2 => o = none ∧ K2 = K1) J1 ⟨rfl, rfl⟩) fun ul t2 ⟨l, K2, J2, gl, el, e2⟩ => ?_)
  subst el e2
  refine thn (po_none.run pp t2 σ K2 (fun o K3 => o = none ∧ K3 = K2) J2 ⟨rfl, rfl⟩) fun uu t3 ⟨u, K3, J3, gu, eu, e3⟩ => ?_
  subst eu e3
  refine thn (st.run pp t3 σ K3 (fun o K4 => o = some (-1) ∧ K4 = K3) J3 ⟨1, rfl, -1, rfl, rfl, rfl⟩) fun us t4 ⟨o, K4, J4, gs, eo, e4⟩ => ?_
  subst eo e4
  have J5 : Inv X pp σ K4 { t4 with heap := t4.heap.push { cls := .type "slice", data := .fields #[ul, uu, us] } } := J4.kept (t' := t4.toks) fun b ob q => Heap.get?_push_of_some _ q
  show wpAny (model X.prog X.w) X.A (subscriptTail e (.Slice none none (some (.UnaryOp .USub (.Constant (.int 1) k p1) p2)) p3) (.ref a) (.ref t4.heap.objs.size)) (EP X pp σ Q) X.xe { t4 with heap := t4.heap.push { cls := .type "slice", data := .fields #[ul, uu, us] } }
  rcases fin with ⟨hx, q⟩ | ⟨hx, q⟩
  · obtain ⟨ws, r, ht, hz⟩ := J5.list hx
    have hlen := r.length
    refine tail_any (ops := [.ref a, .ref t4.heap.objs.size]) ht.isList.typeIs (PySem.slot_list_getitem.lookup) ?_ (by with_unfolding_all rfl)
    refine wpAny_getItem_list_slice ht.isList (Heap.IsSliceOf.new _ ul uu us) gl gu gs (by decide) ?_ (by rw [List.size_toArray]; omega)
    rw [PySem.W.krv_pick]
    refine ⟨.ref _, _, J5.laid (t' := t4.toks) (o := .lst xs.reverse) (fun b ob q => Heap.get?_push_of_some _ q) (Nat.le_refl _) ?_, rfl, q _ (J5.hok.fresh (Nat.le_refl _))⟩
    exact ⟨by rw [List.length_reverse]; exact hz, _, 0, r.reverse, Heap.get?_push_size _ rfl⟩
  · obtain ⟨ws, r, ht, hz⟩ := J5.tuple hx
    have hlen := r.length
    refine tail_any (ops := [.ref a, .ref t4.heap.objs.size]) ht.typeIs (PyProof.Rows.slot_tuple_getitem.lookup) ?_ (by with_unfolding_all rfl)
    refine tuple_back ht (Heap.IsSliceOf.new _ ul uu us) gl gu gs ?_ (by rw [List.size_toArray]; omega)
    refine ⟨.ref _, _, J5.laid (t' := t4.toks) (o := .tup xs.reverse) (fun b ob q => Heap.get?_push_of_some _ q) (Nat.le_refl _) ?_, rfl, q _ (J5.hok.fresh (Nat.le_refl _))⟩
    exact ⟨by rw [List.length_reverse]; exact hz, ws.reverse, r.reverse, IsTup.new _ _⟩
end
theorem RepL.back {W : Wd} {H : Hp} {O : List Addr} {c : Cu} : ∀ {xs : List PV} {vs : List V}, RepL W H O c xs vs → RepL W H O c xs.reverse vs.reverse
  | _, _, .nil => .nil
  | _, _, .cons r l => by rw [List.reverse_cons, List.reverse_cons]; exact (RepL.back l).append (.cons r .nil)
section
variable {X : Cx} {W : Wd} {G : List Nat} {C : Calls} {Ew : Wish} {a : Expr} {ma : ME} {pos : Pos}
theorem e_rev {k : Nat} {p1 p2 p3 : Pos} (hK : W.K = X.K) (ha : PE X a (tO W G C Ew ma)) : PE X (.Subscript a (.Slice none none (some (.UnaryOp .USub (.Constant (.int 1) k p1) p2)) p3) pos) (tE W G C Ew (.rev ma)) :=
  (pe_back ha).imp fun σ H Q ⟨c, O, ρ, S, st, h⟩ => by
  rw [ev] at h
  refine rdO st ((Res.all_bind h).imp (fun x S1 h1 z H1 e1 st1 r1 => ?_) fun _ _ _ h => h)
  obtain ⟨pv, hp, h3⟩ := Res.all_of h1
  cases x <;> first | cases hp | skip
  case lst xs =>
    obtain ⟨p, vs, rfl, n1, g1, l1⟩ := r1.lst
    refine ⟨p, vs, rfl, .inl ⟨SqL.of g1, fun q hq => ?_⟩⟩
    obtain ⟨e4, c4, r4⟩ := st1.hit.lst hq l1.back
    exact h3 _ _ (e1.trans e4) c4 r4
  case tup xs =>
    obtain ⟨p, vs, rfl, n1, m1, g1, l1⟩ := r1.tup
    rw [hK] at g1
    refine ⟨p, vs, rfl, .inr ⟨g1, fun q hq => ?_⟩⟩
    obtain ⟨e4, c4, r4⟩ := st1.hit.tup hq l1.back
    exact h3 _ _ (e1.trans e4) c4 r4
end
end Py

set_option Elab.async false
set_option linter.all false
set_option maxRecDepth 100000
set_option maxHeartbeats 4000000
/-! Py: enumerate of a tuple. -/
namespace Py
@[local simp] theorem ub_I {α β : Type} (r : Res α) (f : α → Cup → Res β) : r.bind f = (match r with | .ok a S => f a S | .exn c l S => .exn c l S | .bad => .bad) := rfl
@[local simp] theorem uo_I {α : Type} (o : Option α) (S : Cup) : Res.of o S = (match o with | some a => .ok a S | none => .bad) := rfl
@[local simp] theorem uu_I {α : Type} (r : Res α) (f : α → Cup → Out) : r.out f = (match r with | .ok a S => f a S | .exn c l S => .exn c l S | .bad => .bad) := rfl
@[local simp] theorem us_I (o : Out) (f : Env → Cup → Out) : o.seq f = (match o with | .next ρ S => f ρ S | o => o) := rfl
open PySem PySem.Spec PyProof.Rows L2
open AutoSeq1 (wpAny_loadPart')
theorem meets_enumerate_newT (l : Addr) (items : Array Value) (n : Nat) (dct : Option Addr) (sl : Array (Option Value)) :
    Meets (Builtin.«enumerate.__new__» ⟨[.type "enumerate", .ref l], []⟩) (fun _ R s => s.heap.get? l = some { cls := .type "tuple", dict := dct, data := .seq items n, slots := sl } ∧
      R (.ok (.ret (.ref (s.heap.push { cls := .type "tuple_iterator", data := .fields #[.ref l, .int 0 0] }).objs.size)))
        { s with heap := (s.heap.push { cls := .type "tuple_iterator", data := .fields #[.ref l, .int 0 0] }).push { cls := .type "enumerate", data := .fields #[.none, .bool false, .ref s.heap.objs.size, rawInt 0, .none, .none] } }) :=
  .of_wp fun prog w A R s h => by
    obtain ⟨hp, g, d, tk, os⟩ := s; obtain ⟨hl, h⟩ := h
    have hsub := sub_enumerate
    have hL : Heap.IsTuple (Shared.heap ⟨hp, g, d, tk, os⟩) l items := ⟨_, hl, rfl, n, rfl⟩
    wp_walk using wpAny_loadPart' hl
    refine wpAny_stack_any fun st => wpAny_pure ?_
    split
    · rename_i c _ _ _ _ _
      cases (c == Value.type "enumerate")
      · wp_walk using wpAny_loadPart' hl, wpAny_pyIter_tuple hL
        exact ⟨_, rfl, h⟩
      · wp_walk using wpAny_loadPart' hl, wpAny_pyIter_tuple hL
        exact ⟨_, rfl, h⟩
    · wp_walk using wpAny_loadPart' hl, wpAny_pyIter_tuple hL
      exact ⟨_, rfl, h⟩
theorem call_enumerate_tuple {prog : Program} {w : World} {A : Around} {E : Value → Shared → Prop} {s : Shared} {l : Addr} {items : Array Value} {Q : Value → Shared → Prop} (hL : s.heap.IsTuple l items)
    (h : ∀ h', IsEnum h' (s.heap.objs.size + 1) s.heap.objs.size 0 .none → h'.IsTupleIter s.heap.objs.size l 0 → h'.objs.size = s.heap.objs.size + 2 →
      (∀ b o, s.heap.get? b = some o → h'.get? b = some o) → Q (.ref (s.heap.objs.size + 1)) { s with heap := h' }) :
    wpAny (model prog w) A (call (.type "enumerate") [.ref l]) Q E s := by
  obtain ⟨⟨c, dct, dt, sl⟩, hl, hc, n, hd⟩ := hL
  replace hc : c = .type "tuple" := hc
  replace hd : dt = .seq items n := hd
  subst hc hd
  refine callType_new F.called_enumerate (by decide) (F.typeCall_enumerate_1 _) (F.newCall_enumerate_1 _) (fun obj => F.args_object_init_2 obj _) F.entry_enumerate_new
    (meets_enumerate_newT l items n dct sl) ⟨hl, ?_⟩
  have hz : (s.heap.push { cls := .type "tuple_iterator", data := .fields #[.ref l, .int 0 0] }).objs.size = s.heap.objs.size + 1 := Heap.size_push ..
  show _ ∧ _
  rw [hz]
  have he : IsEnum ((s.heap.push { cls := .type "tuple_iterator", data := .fields #[.ref l, .int 0 0] }).push
      { cls := .type "enumerate", data := .fields #[.none, .bool false, .ref s.heap.objs.size, rawInt 0, .none, .none] }) (s.heap.objs.size + 1) s.heap.objs.size 0 .none := by
    have := Heap.get?_push_size (s.heap.push { cls := .type "tuple_iterator", data := .fields #[.ref l, .int 0 0] })
      (o := { cls := .type "enumerate", data := .fields #[.none, .bool false, .ref s.heap.objs.size, rawInt 0, .none, .none] }) rfl
    rw [hz] at this; exact this
  refine ⟨⟨_, he, rfl⟩, h _ he ⟨_, Heap.get?_push_of_some _ (Heap.get?_push_size _ rfl), rfl, rfl⟩ (by rw [Heap.size_push, hz]) fun b o x => Heap.get?_push_of_some _ (Heap.get?_push_of_some _ x)⟩

/-- the tuple at a, numbered -/
def IteT (K : PySem.W.Frag) (a : Addr) : It :=
  ⟨fun i H => ∃ (xs : List V) (x : V), SqT K H a xs ∧ xs[i]? = some x, fun i H v H' => ∃ T x, v = .ref T ∧ H T = none ∧ H' = upd H T (.tup [.int (i : Nat), x]) ∧ ∀ xs, SqT K H a xs → xs[i]? = some x, fun i H => ∃ xs : List V, SqT K H a xs ∧ xs.length ≤ i⟩
theorem turn_enumT {P : Program} {w : World} {K : PySem.W.Frag} {elts : List Expr} {kk : Nat} {tpos : Pos} (a e it : Addr) :
    Turn P w K (.Tuple elts kk tpos) (IteT K a) [e, it] e (fun i h => (∃ old, IsEnum h e it ((i : Nat) : Int) old) ∧ h.IsTupleIter it a i ∧ e ≠ it ∧ a ≠ it ∧ a ≠ e) where
  mem := by simp
  obj := fun i h st b hb => by
    obtain ⟨⟨old, he⟩, ⟨o, ho, hc, hd⟩, _⟩ := st
    have e' : b = e ∨ b = it := by simpa using hb
    rcases e' with z | z
    · rw [z]; exact ⟨_, he, fun v q => nomatch q⟩
    · rw [z]; exact ⟨o, ho, fun v q => by rw [hd] at q; cases q⟩
  keep := fun i h h' st k => let ⟨⟨old, he⟩, hi, hne⟩ := st; ⟨⟨old, k e (by simp) _ he⟩, hi.at fun o q => k it (by simp) o q, hne⟩
  item := by
    intro X hP hw hK hc i pins s σ H E I hf st hg
    subst hP hw hK
    obtain ⟨⟨old, he⟩, hit, hne, hat, hae⟩ := st
    obtain ⟨xs, x, hq, hx⟩ := hg
    obtain ⟨its, rv, p, hz⟩ := I.tuple hq
    obtain ⟨u, hu, ru⟩ := rv.get hx
    have hel : e < s.heap.objs.size := Heap.lt_size he
    have hil : it < s.heap.objs.size := by obtain ⟨_, q, _⟩ := hit; exact Heap.lt_size q
    have hlt : i < its.toArray.size := by
      have := (List.getElem?_eq_some_iff.mp hu).1
      simpa using this
    have D : Draws X.prog X.w X.A.in1 it [it, a] its.toArray.size (fun i v => its.toArray[i]? = some v) (fun i h => h.IsTupleIter it a i ∧ h.IsTuple a its.toArray) := Draws.tuple (show X.A.in1.handled = none from I.ok.hd hc) it a hat its.toArray
    refine wpAny_pyNext_enum_itemD D he (show s.heap.IsTupleIter it a i ∧ s.heap.IsTuple a its.toArray from ⟨hit, p⟩) hlt hne (by simp [hne, Ne.symm hae]) fun y h' tk py ho hit' hT hsz hk => ?_
    have ey : y = u := by
      have : its.toArray[i]? = some u := by simpa using hu
      rw [this] at py; exact (Option.some.inj py).symm
    subst ey
    refine ⟨_, rfl, wpAny_letOwnedTupleGo_enum (s := { s with heap := h', toks := tk + 1 }) ho fun h'' he' sb => ?_⟩
    have hT2 : h''.get? s.heap.objs.size = some { cls := .type "tuple", data := .seq #[.int i tk, y] } := (sb.2 _ (Nat.ne_of_gt hel)).trans hT
    have new : ObjOk X.prog X.w (upd H s.heap.objs.size (.tup [.int (i : Nat), x])) h'' s.heap.objs.size (.tup [.int (i : Nat), x]) :=
      ⟨by show 2 ≤ sizeLine; decide, [.int i tk, y], .cons ⟨_, rfl⟩ (.cons ru .nil), ⟨_, hT2, rfl, _, rfl⟩⟩
    have I1 : Inv X pins σ (upd H s.heap.objs.size (.tup [.int (i : Nat), x])) { s with heap := h'', toks := tk + 1 } :=
      I.turnedNew (ch := [e, it]) (fun b ob hb q => (sb.2 b (fun z => hb (by simp [z]))).trans (hk b ob (fun z => hb (by simp [z])) (fun z => hb (by simp [z])) q)) hf (Nat.le_refl _) new
    refine ⟨.ref s.heap.objs.size, _, I1, rfl, ⟨_, x, rfl, I.hok.fresh (Nat.le_refl _), rfl, fun ys hy => by rw [I.tuple_inj hy hq]; exact hx⟩, ⟨⟨y, ?_⟩, hit'.1.at fun o q => (sb.2 it (Ne.symm hne)).trans q, hne, hat, hae⟩, fun b hb => ?_⟩
    · have e1 : ((i + 1 : Nat) : Int) = (i : Int) + 1 := by omega
      rw [e1]; exact he'
    · have hb' : b < s.heap.objs.size := by
        have e' : b = e ∨ b = it := by simpa using hb
        rcases e' with z | z
        · rw [z]; exact hel
        · rw [z]; exact hil
      rw [upd_ne (Nat.ne_of_lt hb')]
      exact (hf b hb).1
  done := by
    intro X hP hw hK hc i pins s σ H E I hf st hg
    subst hP hw hK
    obtain ⟨⟨old, he⟩, hit, hne, hat, hae⟩ := st
    obtain ⟨xs, hq, hx⟩ := hg
    obtain ⟨its, rv, p, hz⟩ := I.tuple hq
    obtain ⟨f0, f1, f2, f3, f4, f5⟩ := hf it (by simp)
    have hl := rv.length
    have D : Draws X.prog X.w X.A.in1 it [it, a] i (fun i v => its.toArray[i]? = some v) (fun j h => j = i ∧ h.IsTupleIter it a j ∧ h.IsTuple a its.toArray) :=
      ⟨fun _ _ st => let ⟨o, ho, _⟩ := st.2.1; ⟨o, ho⟩, fun _ _ _ st hk => ⟨st.1, st.2.1.at fun o e => hk it (by simp) o e, st.2.2.at fun o e => hk a (by simp) o e⟩,
        fun j s Q E hj st hQ => absurd st.1 (Nat.ne_of_lt hj),
        fun s Q E st hE => wpAny_nextOf_tuple_end (show X.A.in1.handled = none from I.ok.hd hc) st.2.1 st.2.2 (by simp; omega) hE⟩
    exact wpAny_pyNext_enum_endD D he (show i = i ∧ s.heap.IsTupleIter it a i ∧ s.heap.IsTuple a its.toArray from ⟨rfl, hit, p⟩) fun h' eb => ⟨rfl, I.turned (t' := s.toks) (fun b o hb q => eb b o hb q) f0 f1 f3 f4 f5⟩
  self := fun A i s Q E st h => let ⟨⟨_, he⟩, _⟩ := st; wpAny_pyIter_enum he h
def iEnumA (K : PySem.W.Frag) (ta : TA) : TI := fun σ H R => ta σ H fun vs H1 => ∃ a xs, vs = [.ref a] ∧ ((SqL K H1 a xs ∧ R (Ite K a) H1) ∨ (SqT K H1 a xs ∧ R (IteT K a) H1))
theorem pi_enumA {X : Cx} {e : Expr} {ta : TA} {p pos tpos : Pos} {elts : List Expr} {kk : Nat} (hg : Gl X "enumerate") (hm : X.mg "enumerate" = none) (ha : PA X [e] ta) (hs : starEach [e] X.env = [(false, eval e X.env)]) :
    PI X (.Tuple elts kk tpos) (.Call (.Name "enumerate" p) [e] [] pos) (iEnumA X.K ta) := by
  refine ⟨fun pins s σ H R I h => ?_⟩
  refine Call_ (ld_blt I hg hm boot_enumerate (PyProof.Rows.callWith_type1 (thn (ha.run pos pins s σ H _ I h) fun us s1 ⟨vs, H1, I1, r1, q1⟩ => ?_) hs rfl))
  obtain ⟨a, xs, ex, q1⟩ := q1
  subst ex
  cases r1 with
  | cons r rr =>
    cases rr
    cases r
    have fp : ∀ b, b ∈ [s1.heap.objs.size + 1, s1.heap.objs.size] → FpOk X pins H1 b := fun b hb => by
      have e' : b = s1.heap.objs.size + 1 ∨ b = s1.heap.objs.size := by simpa using hb
      have hle : s1.heap.objs.size ≤ b := by
        rcases e' with z | z
        · rw [z]; exact Nat.le_add_right _ _
        · rw [z]; exact Nat.le_refl _
      exact I1.fpOk hle (I1.hok.fresh hle)
    rcases q1 with ⟨hq, q⟩ | ⟨hq, q⟩
    · obtain ⟨its, rv, p', hz⟩ := I1.list hq
      refine call_enumerate_list p'.isList fun h' he hit hsz hk => wpAny_pyIter_enum he ?_
      have I2 : Inv X pins σ H1 { s1 with heap := h' } := I1.kept (t' := s1.toks) hk
      exact ⟨s1.heap.objs.size + 1, [s1.heap.objs.size + 1, s1.heap.objs.size], _, _, H1, rfl, I2, turn_enum a (s1.heap.objs.size + 1) s1.heap.objs.size, ⟨⟨.none, he⟩, hit, Nat.succ_ne_self _⟩, fp, q⟩
    · obtain ⟨its, rv, p', hz⟩ := I1.tuple hq
      have hal : a < s1.heap.objs.size := by obtain ⟨o, ho, _⟩ := id p'; exact Heap.lt_size ho
      refine call_enumerate_tuple p' fun h' he hit hsz hk => wpAny_pyIter_enum he ?_
      have I2 : Inv X pins σ H1 { s1 with heap := h' } := I1.kept (t' := s1.toks) hk
      exact ⟨s1.heap.objs.size + 1, [s1.heap.objs.size + 1, s1.heap.objs.size], _, _, H1, rfl, I2, turn_enumT a (s1.heap.objs.size + 1) s1.heap.objs.size, ⟨⟨.none, he⟩, hit, Nat.succ_ne_self _, Nat.ne_of_lt hal, Nat.ne_of_lt (Nat.lt_succ_of_lt hal)⟩, fp, q⟩
theorem walk_enumT {K : PySem.W.Frag} {a : Addr} {xs : List V} : Walk (IteT K a) xs.length (fun H => SqT K H a xs) (YPair (fun i => some (.int (i : Nat))) (fun i => xs[i]?)) := by
  refine ⟨fun i _ hi q => ⟨xs, xs[i], q, by simp [hi]⟩, fun _ q => ⟨xs, q, Nat.le_refl _⟩, fun i H v H' _ q y => ?_⟩
  obtain ⟨T, x, h1, h2, h3, h4⟩ := y
  exact ⟨T, .int (i : Nat), x, h1, h2, h3, rfl, h4 xs q⟩
theorem walk_zipT {K : PySem.W.Frag} {a b : Addr} {xs ys : List V} {n : Nat} (hn : n = min xs.length ys.length) : Walk (RZ.ItzT K a b) n (fun H => SqT K H a xs ∧ SqT K H b ys) (YPair (fun i => xs[i]?) (fun i => ys[i]?)) := by
  subst hn
  refine ⟨fun i _ hi q => ?_, fun _ q => ⟨xs, ys, q.1, q.2, by omega⟩, fun i H v H' _ q y => ?_⟩
  · have h1 : i < xs.length := by omega
    have h2 : i < ys.length := by omega
    exact ⟨xs, ys, xs[i], ys[i], q.1, q.2, by simp [h1], by simp [h2]⟩
  · obtain ⟨T, x, z, h1, h2, h3, h4, h5⟩ := y
    exact ⟨T, x, z, h1, h2, h3, h4 xs q.1, h5 ys q.2⟩
end Py

set_option Elab.async false
set_option linter.all false
set_option maxRecDepth 100000
set_option maxHeartbeats 4000000
/-! Py: built-ins by values, isinstance, what is walked. -/
namespace Py
@[local simp] theorem ub_G {α β : Type} (r : Res α) (f : α → Cup → Res β) : r.bind f = (match r with | .ok a S => f a S | .exn c l S => .exn c l S | .bad => .bad) := rfl
@[local simp] theorem uo_G {α : Type} (o : Option α) (S : Cup) : Res.of o S = (match o with | some a => .ok a S | none => .bad) := rfl
@[local simp] theorem uu_G {α : Type} (r : Res α) (f : α → Cup → Out) : r.out f = (match r with | .ok a S => f a S | .exn c l S => .exn c l S | .bad => .bad) := rfl
@[local simp] theorem us_G (o : Out) (f : Env → Cup → Out) : o.seq f = (match o with | .next ρ S => f ρ S | o => o) := rfl
open PySem PySem.Spec PyProof.Rows L2
section
variable {X : Cx} {W : Wd} {G : List Nat} {C : Calls} {Ew : Wish} {a b d : Expr} {ma mb md : ME} {ms : MEs} {es : List Expr} {pos : Pos}
theorem RepOs.one {H : Hp} {O : List Addr} {c : Cu} {x : PV} {zs : List V} (r : RepOs W H O c [x] zs) : ∃ z, zs = [z] ∧ RepO W H O c x z := by
  cases r with
  | cons a b => cases b; exact ⟨_, rfl, a⟩
theorem RepOs.two {H : Hp} {O : List Addr} {c : Cu} {x y : PV} {zs : List V} (r : RepOs W H O c [x, y] zs) : ∃ z u, zs = [z, u] ∧ RepO W H O c x z ∧ RepO W H O c y u := by
  cases r with
  | cons a b => obtain ⟨u, rfl, q⟩ := b.one; exact ⟨_, u, rfl, a, q⟩
theorem blt_one {bb : Blt} {xs : List PV} {pv : PV} (h : bltV bb xs = some pv) (hb : bb ≠ .max2 ∧ bb ≠ .min2) : ∃ x, xs = [x] := by
  cases xs with
  | nil => cases bb <;> cases h
  | cons x r =>
    cases r with
    | nil => exact ⟨x, rfl⟩
    | cons y r =>
      cases bb <;> first
        | (cases h; done)
        | (exact absurd rfl hb.1)
        | (exact absurd rfl hb.2)
        | (cases x <;> cases h)
theorem ok_len : CallOk X W (.builtin "len") (bltV .len) := fun pins s σ H O c S xs zs us pv st ro rv e => by
  obtain ⟨x, rfl⟩ := blt_one e ⟨by decide, by decide⟩
  obtain ⟨z, rfl, r⟩ := ro.one
  refine call_len_seq pins s σ H _ us _ st.inv rv ?_
  cases x <;> first | cases e | skip
  case lst xs =>
    obtain ⟨p, vs, rfl, n, h, l⟩ := r.lst
    refine ⟨p, vs, rfl, .inl (SqL.of h), ?_⟩
    rw [← l.length]; exact Good.same st.cup (.int _)
  case tup xs =>
    obtain ⟨p, vs, rfl, n, m, h, l⟩ := r.tup
    rw [st.hK] at h
    refine ⟨p, vs, rfl, .inr h, ?_⟩
    rw [← l.length]; exact Good.same st.cup (.int _)
theorem ok_abs : CallOk X W (.builtin "abs") (bltV .abs) := fun pins s σ H O c S xs zs us pv st ro rv e => by
  obtain ⟨x, rfl⟩ := blt_one e ⟨by decide, by decide⟩
  obtain ⟨z, rfl, r⟩ := ro.one
  cases x <;> first | cases e | skip
  case int i =>
    cases r.int
    exact call_abs pins s σ H _ us _ st.inv rv ⟨i, rfl, Good.same st.cup (.int _)⟩
theorem ok_int : CallOk X W (.type "int") (bltV .int1) := fun pins s σ H O c S xs zs us pv st ro rv e => by
  obtain ⟨x, rfl⟩ := blt_one e ⟨by decide, by decide⟩
  obtain ⟨z, rfl, r⟩ := ro.one
  refine call_int1 pins s σ H _ us _ st.inv rv ?_
  cases x <;> first | cases e | skip
  case int i => cases r.int; exact .inl ⟨i, rfl, Good.same st.cup (.int _)⟩
  case bl i => cases r.bl; exact .inr ⟨i, rfl, Good.same st.cup (.int _)⟩
theorem max2_some {xs : List PV} {pv : PV} (h : bltV .max2 xs = some pv) : ∃ i j, xs = [.int i, .int j] ∧ pv = .int (if j > i then j else i) := by
  unfold bltV at h
  split at h <;> first | cases h | skip
  all_goals first | (rename_i e _; cases e; done) | skip
  all_goals first | exact ⟨_, _, rfl, rfl⟩ | contradiction
theorem min2_some {xs : List PV} {pv : PV} (h : bltV .min2 xs = some pv) : ∃ i j, xs = [.int i, .int j] ∧ pv = .int (if j < i then j else i) := by
  unfold bltV at h
  split at h <;> first | cases h | skip
  all_goals first | (rename_i e _; cases e; done) | skip
  all_goals first | exact ⟨_, _, rfl, rfl⟩ | contradiction
theorem ok_max2 (hc : X.calm = true) : CallOk X W (.builtin "max") (bltV .max2) := fun pins s σ H O c S xs zs us pv st ro rv e => by
  obtain ⟨i, j, rfl, ex⟩ := max2_some e
  obtain ⟨z, u, rfl, r1, r2⟩ := ro.two
  cases ex
  cases r1.int; cases r2.int
  exact call_max2 hc pins s σ H _ us _ st.inv rv ⟨i, j, rfl, Good.same st.cup (.int _)⟩
theorem ok_min2 (hc : X.calm = true) : CallOk X W (.builtin "min") (bltV .min2) := fun pins s σ H O c S xs zs us pv st ro rv e => by
  obtain ⟨i, j, rfl, ex⟩ := min2_some e
  obtain ⟨z, u, rfl, r1, r2⟩ := ro.two
  cases ex
  cases r1.int; cases r2.int
  exact call_min2 hc pins s σ H _ us _ st.inv rv ⟨i, j, rfl, Good.same st.cup (.int _)⟩
theorem ok_list : CallOk X W (.type "list") (bltV .list1) := fun pins s σ H O c S xs zs us pv st ro rv e => by
  obtain ⟨x, rfl⟩ := blt_one e ⟨by decide, by decide⟩
  obtain ⟨z, rfl, r⟩ := ro.one
  refine call_list_of pins s σ H _ us _ st.inv rv ?_
  cases x <;> first | cases e | skip
  case lst xs =>
    obtain ⟨p, vs, rfl, n, h, l⟩ := r.lst
    exact ⟨p, vs, rfl, .inl (SqL.of h), fun q hq => st.hit.lst hq l⟩
  case tup xs =>
    obtain ⟨p, vs, rfl, n, m, h, l⟩ := r.tup
    rw [st.hK] at h
    exact ⟨p, vs, rfl, .inr h, fun q hq => st.hit.lst hq l⟩
  case scr ns =>
    obtain ⟨p, rfl, h⟩ := r.scr
    rw [st.hK] at h
    exact ⟨p, _, rfl, .inl h, fun q hq => st.hit.lst hq (RepL.ints ns)⟩
theorem ok_tuple : CallOk X W (.type "tuple") (bltV .tuple1) := fun pins s σ H O c S xs zs us pv st ro rv e => by
  obtain ⟨x, rfl⟩ := blt_one e ⟨by decide, by decide⟩
  obtain ⟨z, rfl, r⟩ := ro.one
  refine call_tuple_of pins s σ H _ us _ st.inv rv ?_
  cases x <;> first | cases e | skip
  case lst xs =>
    obtain ⟨p, vs, rfl, n, h, l⟩ := r.lst
    exact ⟨p, vs, rfl, .inl ⟨SqL.of h, fun q hq => st.hit.tup hq l⟩⟩
  case tup xs =>
    obtain ⟨p, vs, rfl, n, m, h, l⟩ := r.tup
    have h' := h
    rw [st.hK] at h
    exact ⟨p, vs, rfl, .inr ⟨h, Good.same st.cup (.tup n l)⟩⟩
theorem blsOf_some : ∀ {xs : List PV} {ns : List Bool}, blsOf xs = some ns → xs = ns.map PV.bl
  | [], ns, h => by cases h; rfl
  | .bl i :: xs, ns, h => by
    simp only [blsOf, Option.map_eq_some_iff] at h
    obtain ⟨r, h1, rfl⟩ := h
    rw [blsOf_some h1]; rfl
theorem ok_all (hc : X.calm = true) : CallOk X W (.builtin "all") (bltV .all1) := fun pins s σ H O c S xs zs us pv st ro rv e => by
  obtain ⟨x, rfl⟩ := blt_one e ⟨by decide, by decide⟩
  obtain ⟨z, rfl, r⟩ := ro.one
  cases x <;> first | cases e | skip
  case lst xs =>
    simp only [bltV, Option.map_eq_some_iff] at e
    obtain ⟨bs, hb, rfl⟩ := e
    obtain ⟨p, vs, rfl, n, h, l⟩ := r.lst
    rw [blsOf_some hb] at l
    rw [l.of_bls] at h
    exact cr_all hc pins s σ H _ us _ st.inv rv ⟨p, bs, rfl, SqL.of h, Good.same st.cup (.bl _)⟩
theorem ok_any (hc : X.calm = true) : CallOk X W (.builtin "any") (bltV .any1) := fun pins s σ H O c S xs zs us pv st ro rv e => by
  obtain ⟨x, rfl⟩ := blt_one e ⟨by decide, by decide⟩
  obtain ⟨z, rfl, r⟩ := ro.one
  cases x <;> first | cases e | skip
  case lst xs =>
    simp only [bltV, Option.map_eq_some_iff] at e
    obtain ⟨bs, hb, rfl⟩ := e
    obtain ⟨p, vs, rfl, n, h, l⟩ := r.lst
    rw [blsOf_some hb] at l
    rw [l.of_bls] at h
    exact cr_any hc pins s σ H _ us _ st.inv rv ⟨p, bs, rfl, SqL.of h, Good.same st.cup (.bl _)⟩
theorem ok_sum (hc : X.calm = true) : CallOk X W (.builtin "sum") (bltV .sum) := fun pins s σ H O c S xs zs us pv st ro rv e => by
  obtain ⟨x, rfl⟩ := blt_one e ⟨by decide, by decide⟩
  obtain ⟨z, rfl, r⟩ := ro.one
  cases x <;> first | cases e | skip
  case lst xs =>
    simp only [bltV, Option.map_eq_some_iff] at e
    obtain ⟨bs, hb, rfl⟩ := e
    obtain ⟨p, vs, rfl, n, h, l⟩ := r.lst
    rw [intsOf_some hb] at l
    rw [l.of_ints] at h
    exact cr_sum hc pins s σ H _ us _ st.inv rv ⟨p, bs, rfl, SqL.of h, Good.same st.cup (.int _)⟩
theorem maxI_mem : ∀ (n : Int) (ns : List Int), maxI n ns ∈ n :: ns
  | n, [] => by simp [maxI]
  | n, x :: ns => by
    have h := maxI_mem (if n < x then x else n) ns
    rw [maxI]
    rcases List.mem_cons.mp h with h | h
    · rw [h]; split <;> simp
    · exact List.mem_cons_of_mem _ (List.mem_cons_of_mem _ h)
theorem maxI_ge : ∀ (n : Int) (ns : List Int), ∀ y ∈ n :: ns, y ≤ maxI n ns
  | n, [], y, h => by simp at h; simp [maxI, h]
  | n, x :: ns, y, h => by
    have k := maxI_ge (if n < x then x else n) ns
    rw [maxI]
    have k0 := k _ List.mem_cons_self
    rcases List.mem_cons.mp h with h | h
    · subst h; split at k0 <;> rename_i z
      · rw [if_pos z]; omega
      · rw [if_neg z]; omega
    · rcases List.mem_cons.mp h with h | h
      · subst h; split at k0 <;> rename_i z
        · rw [if_pos z]; omega
        · rw [if_neg z]; omega
      · exact k _ (List.mem_cons_of_mem _ h)
theorem minI_mem : ∀ (n : Int) (ns : List Int), minI n ns ∈ n :: ns
  | n, [] => by simp [minI]
  | n, x :: ns => by
    have h := minI_mem (if x < n then x else n) ns
    rw [minI]
    rcases List.mem_cons.mp h with h | h
    · rw [h]; split <;> simp
    · exact List.mem_cons_of_mem _ (List.mem_cons_of_mem _ h)
theorem minI_le : ∀ (n : Int) (ns : List Int), ∀ y ∈ n :: ns, minI n ns ≤ y
  | n, [], y, h => by simp at h; simp [minI, h]
  | n, x :: ns, y, h => by
    have k := minI_le (if x < n then x else n) ns
    rw [minI]
    have k0 := k _ List.mem_cons_self
    rcases List.mem_cons.mp h with h | h
    · subst h; split at k0 <;> rename_i z
      · rw [if_pos z]; omega
      · rw [if_neg z]; omega
    · rcases List.mem_cons.mp h with h | h
      · subst h; split at k0 <;> rename_i z
        · rw [if_pos z]; omega
        · rw [if_neg z]; omega
      · exact k _ (List.mem_cons_of_mem _ h)
theorem ok_max1 (hc : X.calm = true) : CallOk X W (.builtin "max") (bltV .max1) := fun pins s σ H O c S xs zs us pv st ro rv e => by
  obtain ⟨x, rfl⟩ := blt_one e ⟨by decide, by decide⟩
  obtain ⟨z, rfl, r⟩ := ro.one
  cases x <;> first | cases e | skip
  case lst xs =>
    simp only [bltV] at e
    split at e
    · rename_i n ns hb
      cases e
      obtain ⟨p, vs, rfl, _, h, l⟩ := r.lst
      rw [intsOf_some hb] at l
      rw [l.of_ints] at h
      exact cr_max hc pins s σ H _ us _ st.inv rv ⟨p, n :: ns, rfl, SqL.of h, Nat.succ_pos _, fun m h1 h2 => by
        have : m = maxI n ns := Int.le_antisymm (maxI_ge n ns m h1) (h2 _ (maxI_mem n ns))
        rw [this]; exact Good.same st.cup (.int _)⟩
    · cases e
theorem ok_min1 (hc : X.calm = true) : CallOk X W (.builtin "min") (bltV .min1) := fun pins s σ H O c S xs zs us pv st ro rv e => by
  obtain ⟨x, rfl⟩ := blt_one e ⟨by decide, by decide⟩
  obtain ⟨z, rfl, r⟩ := ro.one
  cases x <;> first | cases e | skip
  case lst xs =>
    simp only [bltV] at e
    split at e
    · rename_i n ns hb
      cases e
      obtain ⟨p, vs, rfl, _, h, l⟩ := r.lst
      rw [intsOf_some hb] at l
      rw [l.of_ints] at h
      exact cr_min hc pins s σ H _ us _ st.inv rv ⟨p, n :: ns, rfl, SqL.of h, Nat.succ_pos _, fun m h1 h2 => by
        have : m = minI n ns := Int.le_antisymm (h2 _ (minI_mem n ns)) (minI_le n ns m h1)
        rw [this]; exact Good.same st.cup (.int _)⟩
    · cases e
theorem ok_str : CallOk X W (.type "str") (bltV .str1) := fun pins s σ H O c S xs zs us pv st ro rv e => by
  obtain ⟨x, rfl⟩ := blt_one e ⟨by decide, by decide⟩
  obtain ⟨z, rfl, r⟩ := ro.one
  cases x <;> first | cases e | skip
  case str i =>
    cases r.str
    exact SkE.call_str_str pins s σ H _ us _ st.inv rv ⟨i, rfl, Good.same st.cup (.str _)⟩

/-! ### isinstance -/
def tyN : PV → Option String
  | .non => some "NoneType" | .bl _ => some "bool" | .int _ => some "int" | .str _ => some "str" | .tup _ => some "tuple" | .lst _ => some "list" | _ => none
theorem kit_non (t : Ty) : kitB "NoneType" t.nm = some false := by cases t <;> kernel_rfl
theorem kit_bl (t : Ty) : kitB "bool" t.nm = some (match t with | .int => true | .bool => true | _ => false) := by cases t <;> kernel_rfl
theorem kit_int (t : Ty) : kitB "int" t.nm = some (match t with | .int => true | _ => false) := by cases t <;> kernel_rfl
theorem kit_str (t : Ty) : kitB "str" t.nm = some (match t with | .str => true | _ => false) := by cases t <;> kernel_rfl
theorem kit_tup (t : Ty) : kitB "tuple" t.nm = some (match t with | .tuple => true | _ => false) := by cases t <;> kernel_rfl
theorem kit_lst (t : Ty) : kitB "list" t.nm = some (match t with | .list => true | _ => false) := by cases t <;> kernel_rfl
theorem isTy_r {H : Hp} {O : List Addr} {c : Cu} {S : Cup} (hK : W.K = X.K) (h : Hit W O c H S) {x : PV} {z : V} {t : Ty} {k : Bool} {zt : V} (hz : zt = .ty t.nm) (r : RepO W H O c x z) (e : isTy t x = some k) {Q : VK} (q : Q (.bl k) H) : rIsi X.K [z, zt] H Q := by
  subst hz
  have key : ∀ {T : String}, TyX X.K H z (.type T) → kitB T t.nm = some k → rIsi X.K [z, .ty t.nm] H Q := fun {T} ty kk => ⟨z, .ty t.nm, .type T, .type t.nm, k, rfl, .ty _, ty, kit_ty kk, q⟩
  cases x <;> first | cases e | skip
  case non => cases r.non; exact key (.base .non) (kit_non t)
  case bl b => cases r.bl; exact key (.base (.bl b)) (kit_bl t)
  case int i => cases r.int; exact key (.base (.int i)) (kit_int t)
  case str i => cases r.str; exact key (.base (.str i)) (kit_str t)
  case lst xs =>
    obtain ⟨p, vs, rfl, n, h1, l⟩ := r.lst
    exact key (.base (.lst h1)) (kit_lst t)
  case tup xs =>
    obtain ⟨p, vs, rfl, n, m, h1, l⟩ := r.tup
    rw [hK] at h1
    rcases h1 with (h1 | ⟨o, h1⟩) | ⟨o, _, _, h1, h2, _⟩
    · exact key (.base (.tup h1)) (kit_tup t)
    · exact key (.fTuple h1) (kit_tup t)
    · exact key (.kTuple h1 h2) (kit_tup t)
theorem e_isin {t : Ty} {x : Str} {p pa : Pos} {nm : Str} (hK : W.K = X.K) (hg : Gl X "isinstance") (hm : X.mg "isinstance" = none) (hv : bootBuiltins "isinstance" = some (.builtin "isinstance")) (ha : PE X a (tO W G C Ew ma))
    (ht : PE X (.Name nm pa) (tC (.ty t.nm))) (he : isStar a = false) : PE X (.Call (.Name "isinstance" p) [a, .Name nm pa] [] pos) (tE W G C Ew (.isin ma t)) :=
  (pe_callB call_isi hg hm hv (pa_cons ha (pa_cons ht pa_nil) (star_plain he)) (by decide) (by decide) (star_plain he) rfl).imp fun σ H Q ⟨c, O, ρ, S, st, h⟩ => by
    rw [ev] at h
    refine rdO st ((Res.all_bind h).imp (fun x S1 h1 z H1 e1 st1 r1 => ?_) fun _ _ _ h => h)
    obtain ⟨pv, hp, h1⟩ := Res.all_of h1
    rw [Option.map_eq_some_iff] at hp
    obtain ⟨k, hk, rfl⟩ := hp
    exact isTy_r hK st1.hit rfl r1 hk (h1 H1 _ e1 st1.cup (.bl _))

/-! ### what is walked -/
def IterAt (K : PySem.W.Frag) (R : PV → V → Prop) (J : It) (items : List PV) : Prop :=
  (∃ a, J = Itl K a ∧ R (.lst items) (.ref a)) ∨ (∃ a, J = Itt K a ∧ R (.tup items) (.ref a)) ∨ (∃ lo n, J = Itr lo n ∧ items = rngL lo n) ∨
  (∃ a xs, J = Ite K a ∧ R (.lst xs) (.ref a) ∧ items = enumL 0 xs) ∨ (∃ a xs, J = IteT K a ∧ R (.tup xs) (.ref a) ∧ items = enumL 0 xs) ∨
  (∃ a b xs ys, J = Itz K a b ∧ R (.lst xs) (.ref a) ∧ R (.lst ys) (.ref b) ∧ items = zipL xs ys) ∨ (∃ a b xs ys, J = RZ.ItzT K a b ∧ R (.tup xs) (.ref a) ∧ R (.tup ys) (.ref b) ∧ items = zipL xs ys)
theorem IterAt.imp {K : PySem.W.Frag} {R R' : PV → V → Prop} {J : It} {items : List PV} (h : IterAt K R J items) (f : ∀ x v, R x v → R' x v) : IterAt K R' J items := by
  rcases h with ⟨a, h1, h2⟩ | ⟨a, h1, h2⟩ | h | ⟨a, xs, h1, h2, h3⟩ | ⟨a, xs, h1, h2, h3⟩ | ⟨a, b, xs, ys, h1, h2, h3, h4⟩ | ⟨a, b, xs, ys, h1, h2, h3, h4⟩
  · exact .inl ⟨a, h1, f _ _ h2⟩
  · exact .inr (.inl ⟨a, h1, f _ _ h2⟩)
  · exact .inr (.inr (.inl h))
  · exact .inr (.inr (.inr (.inl ⟨a, xs, h1, f _ _ h2, h3⟩)))
  · exact .inr (.inr (.inr (.inr (.inl ⟨a, xs, h1, f _ _ h2, h3⟩))))
  · exact .inr (.inr (.inr (.inr (.inr (.inl ⟨a, b, xs, ys, h1, f _ _ h2, f _ _ h3, h4⟩)))))
  · exact .inr (.inr (.inr (.inr (.inr (.inr ⟨a, b, xs, ys, h1, f _ _ h2, f _ _ h3, h4⟩)))))
theorem enumL_len : ∀ (n : Nat) (xs : List PV), (enumL n xs).length = xs.length
  | _, [] => rfl
  | n, x :: xs => by rw [enumL, List.length_cons, List.length_cons, enumL_len]
theorem enumL_get : ∀ (n : Nat) (xs : List PV) (i : Nat), (enumL n xs)[i]? = (xs[i]?).map fun x => .tup [.int ((n + i : Nat) : Int), x]
  | _, [], i => by simp [enumL]
  | n, x :: xs, 0 => by simp [enumL]
  | n, x :: xs, i + 1 => by
    rw [enumL, List.getElem?_cons_succ, enumL_get (n + 1) xs i, List.getElem?_cons_succ, show n + 1 + i = n + (i + 1) by omega]
theorem zipL_len : ∀ (xs ys : List PV), (zipL xs ys).length = min xs.length ys.length
  | [], _ => by simp [zipL]
  | _ :: _, [] => by simp [zipL]
  | x :: xs, y :: ys => by rw [zipL, List.length_cons, zipL_len xs ys, List.length_cons, List.length_cons]; omega
theorem zipL_get : ∀ (xs ys : List PV) (i : Nat) (x y : PV), xs[i]? = some x → ys[i]? = some y → (zipL xs ys)[i]? = some (.tup [x, y])
  | [], _, i, x, y, h, _ => by simp at h
  | _ :: _, [], i, x, y, _, h => by simp at h
  | x :: xs, y :: ys, 0, a, b, h1, h2 => by simp at h1 h2; simp [zipL, h1, h2]
  | x :: xs, y :: ys, i + 1, a, b, h1, h2 => by
    rw [zipL, List.getElem?_cons_succ]
    exact zipL_get xs ys i a b (by simpa using h1) (by simpa using h2)
theorem rngL_get (lo : Int) (n i : Nat) (h : i < n) : (rngL lo n)[i]? = some (.int (lo + (i : Int))) := by
  unfold rngL
  rw [List.getElem?_map, List.getElem?_range h]; rfl
theorem rngL_len (lo : Int) (n : Nat) : (rngL lo n).length = n := by simp [rngL]
/-- how a walk goes over its items -/
theorem iter_steps {H : Hp} {O : List Addr} {c : Cu} {S : Cup} {K : PySem.W.Frag} (hK : W.K = K) (h : Hit W O c H S) {J : It} {items : List PV} (it : IterAt K (RepO W H O c) J items) (i : Nat) :
    (i = items.length → J.stop i H) ∧ (i < items.length → J.go i H ∧ ∀ x H', J.yld i H x H' → ∃ pv, items[i]? = some pv ∧ Good W O c H S pv x H') := by
  subst hK
  have same : ∀ {xs : List PV} {vs : List V} (l : RepL W H O c xs vs) {n : Nat} {G : Hp → Prop}, Walk J n G (YAt vs) → G H → n = xs.length → (i = xs.length → J.stop i H) ∧ (i < xs.length → J.go i H ∧ ∀ x H', J.yld i H x H' → ∃ pv, xs[i]? = some pv ∧ Good W O c H S pv x H') := by
    intro xs vs l n G w g hn
    subst hn
    refine ⟨fun e => by subst e; exact w.stops H g, fun hi => ⟨w.goes i H hi g, fun x H' y => ?_⟩⟩
    obtain ⟨rfl, e⟩ := w.yields i H x H' hi g y
    obtain ⟨pv, h1, h2⟩ := l.get' e
    exact ⟨pv, h1, Good.same h.cup h2⟩
  have pair : ∀ {n : Nat} {G : Hp → Prop} {f g' : Nat → Option V}, Walk J n G (YPair f g') → G H → n = items.length → (∀ i x y, i < n → f i = some x → g' i = some y → ∃ p q, items[i]? = some (.tup [p, q]) ∧ Rep W H O c p x ∧ Rep W H O c q y) →
      (i = items.length → J.stop i H) ∧ (i < items.length → J.go i H ∧ ∀ x H', J.yld i H x H' → ∃ pv, items[i]? = some pv ∧ Good W O c H S pv x H') := by
    intro n G f g' w g hn hf
    subst hn
    refine ⟨fun e => by subst e; exact w.stops H g, fun hi => ⟨w.goes i H hi g, fun x H' y => ?_⟩⟩
    obtain ⟨T, x1, y1, rfl, hT, rfl, e1, e2⟩ := w.yields i H x H' hi g y
    obtain ⟨p, q, h1, h2, h3⟩ := hf i x1 y1 hi e1 e2
    exact ⟨_, h1, h.tup hT (.cons h2 (.cons h3 .nil))⟩
  rcases it with ⟨a, rfl, h2⟩ | ⟨a, rfl, h2⟩ | ⟨lo, n, rfl, rfl⟩ | ⟨a, xs, rfl, h2, rfl⟩ | ⟨a, xs, rfl, h2, rfl⟩ | ⟨a, b, xs, ys, rfl, h2, h3, rfl⟩ | ⟨a, b, xs, ys, rfl, h2, h3, rfl⟩
  · obtain ⟨p, vs, e, n, h1, l⟩ := h2.lst
    cases e
    exact same l (walk_list (K := W.K) (a := a) (xs := vs)) (SqL.of h1) l.length.symm
  · obtain ⟨p, vs, e, n, m, h1, l⟩ := h2.tup
    cases e
    exact same l (walk_tup (K := W.K) (a := a) (xs := vs)) h1 l.length.symm
  · refine ⟨fun e => ?_, fun hi => ?_⟩
    · rw [rngL_len] at e; subst e; exact Nat.le_refl _
    · rw [rngL_len] at hi
      refine ⟨hi, fun x H' y => ?_⟩
      obtain ⟨rfl, rfl⟩ := y
      exact ⟨_, rngL_get lo n i hi, Good.same h.cup (.int _)⟩
  · obtain ⟨p, vs, e, n, h1, l⟩ := h2.lst
    cases e
    refine pair (walk_enum (K := W.K) (a := a) (xs := vs)) (SqL.of h1) (by rw [enumL_len, l.length]) fun i x y hi e1 e2 => ?_
    cases e1
    obtain ⟨q, h3, h4⟩ := l.get' e2
    exact ⟨_, q, by rw [enumL_get, h3]; rfl, by rw [Nat.zero_add]; exact .int _, h4⟩
  · obtain ⟨p, vs, e, n, m, h1, l⟩ := h2.tup
    cases e
    refine pair (walk_enumT (K := W.K) (a := a) (xs := vs)) h1 (by rw [enumL_len, l.length]) fun i x y hi e1 e2 => ?_
    cases e1
    obtain ⟨q, h3, h4⟩ := l.get' e2
    exact ⟨_, q, by rw [enumL_get, h3]; rfl, by rw [Nat.zero_add]; exact .int _, h4⟩
  · obtain ⟨p, vs, e, n, h1, l⟩ := h2.lst
    cases e
    obtain ⟨p2, ws, e, n2, h4, l2⟩ := h3.lst
    cases e
    refine pair (walk_zip (K := W.K) (a := a) (b := b) (xs := vs) (ys := ws) rfl) ⟨SqL.of h1, SqL.of h4⟩ (by rw [zipL_len, l.length, l2.length]) fun i x y hi e1 e2 => ?_
    obtain ⟨q, h5, h6⟩ := l.get' e1
    obtain ⟨r, h7, h8⟩ := l2.get' e2
    exact ⟨q, r, zipL_get _ _ _ _ _ h5 h7, h6, h8⟩
  · obtain ⟨p, vs, e, n, m, h1, l⟩ := h2.tup
    cases e
    obtain ⟨p2, ws, e, n2, m2, h4, l2⟩ := h3.tup
    cases e
    refine pair (walk_zipT (K := W.K) (a := a) (b := b) (xs := vs) (ys := ws) rfl) ⟨h1, h4⟩ (by rw [zipL_len, l.length, l2.length]) fun i x y hi e1 e2 => ?_
    obtain ⟨q, h5, h6⟩ := l.get' e1
    obtain ⟨r, h7, h8⟩ := l2.get' e2
    exact ⟨q, r, zipL_get _ _ _ _ _ h5 h7, h6, h8⟩
end
end Py

set_option Elab.async false
set_option linter.all false
set_option maxRecDepth 100000
set_option maxHeartbeats 4000000
/-! Py: sorted, of lists and tuples. -/
namespace Py
open PySem PySem.Spec PyProof.Rows L2
section
variable {prog : Program} {w : World} {A : Around} {E : Value → Shared → Prop} {s : Shared}
/-- the items of a list or a tuple, in a new list -/
theorem collectS {l : Addr} {T : String} {o : Obj} {n : Nat} {vs : List Value} {Q : List Value → Shared → Prop} (hT : T = "list" ∨ T = "tuple") (ho : s.heap.get? l = some o) (hc : o.cls = .type T) (hd : o.data = .seq vs.toArray n) (hsz : vs.length ≤ sizeLine)
    (h : Q vs { s with heap := (s.heap.push (seqObj "list" #[] 0)).update s.heap.objs.size (Obj.mapSeq (· ++ vs.toArray)) }) : wpAny (model prog w) A (collect (.ref l)) Q E s := by
  have hn : (s.heap.push (seqObj "list" #[] 0)).get? s.heap.objs.size = some (seqObj "list" #[] 0) := Heap.get?_push_size _ rfl
  have hl : (s.heap.push (seqObj "list" #[] 0)).get? l = some o := Heap.get?_push_of_some _ ho
  have hb : (Value.type T == .type "list" || Value.type T == .type "tuple") = true := by rcases hT with rfl | rfl <;> rfl
  unfold collect
  refine wpAny_bind (wpAny_runValue (codeAny_builtin entry_proto_collect' ?_)); show wpAny _ _ (do again (.builtin "list.__iadd__" ⟨[← newList [], .ref l], []⟩)) _ _ s
  refine wpAny_bind (wpAny_newList (wpAny_pure ⟨Code.quiet_builtin _ (by decide +kernel), codeAny_builtin entry_list_iadd' ?_⟩)); show wpAny _ _ (Builtin.List.listExtendWith (.ref s.heap.objs.size) (.ref l) (.ref s.heap.objs.size)) _ _ { s with heap := s.heap.push (seqObj "list" #[] 0) }
  unfold Builtin.List.listExtendWith
  refine wpAny_bind (wpAny_typeOf (T := T) ⟨o, hl, hc⟩ ?_)
  rw [if_pos (by rw [Bool.or_assoc, hb, Bool.or_true])]
  refine wpAny_bind (listItems_at hl hd (wpAny_bind (listItems_at (xs := #[]) (n := 0) hn rfl ?_)))
  rw [if_neg (by simp)]
  refine wpAny_bind (listUpdate_at (xs := #[]) (n := 0) hn rfl ?_ (Nat.zero_le _) (by show (#[] ++ vs.toArray).size ≤ _; simp only [Array.size_append, List.size_toArray, List.length_nil] <;> omega)); refine wpAny_pure ?_
  show wpAny _ _ (do
      let o ← load s.heap.objs.size
      match o.data with | .seq xs _ => pure xs.toList | _ => unsupported "internal:collect") Q E _
  refine wpAny_bind (wpAny_load (get?_update_seq hn _) ?_); show wpAny _ _ (pure ((#[] : Array Value) ++ vs.toArray).toList) Q E _
  rw [show ((#[] : Array Value) ++ vs.toArray).toList = vs by simp]; exact wpAny_pure h
/-- sorted(l, ..): list.sort(..) of the new list -/
theorem sorted_by {l : Addr} {T : String} {o : Obj} {n : Nat} {vs : List Value} {kw : List (Str × Value)} {Q : Value → Shared → Prop} (hT : T = "list" ∨ T = "tuple") (ho : s.heap.get? l = some o) (hc : o.cls = .type T) (hd : o.data = .seq vs.toArray n) (hL : vs.length ≤ sizeLine)
    (ha1 : argsOk "sorted" ⟨[.ref l], kw⟩) (ha2 : ∀ x, argsOk "list.sort" ⟨[.ref x], kw⟩)
    (body : ∀ E' : Value → Shared → Prop, wpAny (model prog w) A.in1.in1 (Builtin.«list.sort» ⟨[.ref (s.heap.objs.size + 1)], kw⟩) (fun f s' => f = .done (.ret .none) ∧ Q (.ref (s.heap.objs.size + 1)) s') E' { s with heap := PySem.W.copyHeap s.heap vs }) :
    wpAny (model prog w) A (call (.builtin "sorted") [.ref l] kw) Q E s := by
  refine call_function_entry_kw kind_sorted plain_sorted entry_sorted ha1 ?_
  unfold Builtin.«sorted»
  refine wpAny_bind (m := checkCount "sorted" 1 1 _) (wpAny_pure (wpAny_bind (collectS hT ho hc hd hL (wpAny_bind (wpAny_newList ?_ hL)))))
  have hz : ((s.heap.push (seqObj "list" #[] 0)).update s.heap.objs.size (Obj.mapSeq (· ++ vs.toArray))).objs.size = s.heap.objs.size + 1 := by rw [Heap.size_update, show ∀ (h : Heap) (o : Obj), (h.push o).objs.size = h.objs.size + 1 from fun h o => by simp [Heap.push]]
  show wpAny _ _ _ _ _ { s with heap := PySem.W.copyHeap s.heap vs }
  rw [hz]
  refine wpAny_bind (wpAny_holding (wpAny_call_entry_kw slot_list_sort ⟨_, PySem.W.copyHeap_at s.heap vs, rfl⟩ entry_list_sort (wpAny_mono (body _) (fun f s' hf => ?_) fun _ _ e => e) (ha2 _)))
  obtain ⟨rfl, hq⟩ := hf; exact ⟨_, rfl, wpAny_pure ⟨_, rfl, hq⟩⟩
end

section
variable {prog : Program} {w : World} {A : Around} {E : Value → Shared → Prop} {s : Shared} {β : Type} {enc : β → PyData} {R : Value → β → Prop} {vs : List Value} {bs : List β}
theorem sortedD {l : Addr} {T : String} {o : Obj} {n : Nat} {Q : Value → Shared → Prop} (hT : T = "list" ∨ T = "tuple") (ho : s.heap.get? l = some o) (hc : o.cls = .type T) (hd : o.data = .seq vs.toArray n)
    (e : PySem.W.EachIs R vs bs) (er : PySem.W.EachIs (fun v b => ∃ as, Reads s.heap v (enc b) as) vs bs) (hal : PySem.W.AllAlike (bs.map enc)) (hk : PySem.W.Sortable (bs.map enc)) (hL : bs.length ≤ sizeLine) (hu : ∀ b, b ∈ bs → A.units + 2 + (enc b).depth < cLine)
    (h : ∀ out, out.length = bs.length → PySem.W.EachIs R out (bs.mergeSort (PySem.W.dataLe false enc)) → Q (.ref (s.heap.objs.size + 1)) { s with heap := sortedAll s.heap vs (List.toArray out) }) : wpAny (model prog w) A (call (.builtin "sorted") [.ref l]) Q E s := by
  have hl' : vs.length ≤ sizeLine := by rw [e.length]; exact hL
  have e2 : PySem.W.EachIs (fun v b => ∃ as, Reads (PySem.W.sortingHeap (PySem.W.copyHeap s.heap vs) (s.heap.objs.size + 1) vs) v (enc b) as) vs bs := er.mono fun _ _ ⟨as, r⟩ => ⟨as, PyProof.Rows.Reads.keeps (fun _ _ => PySem.W.sorting_copy_old) r⟩
  refine sorted_by hT ho hc hd hl' (args_sorted1 _) (fun _ => args_list_sort _) fun _ => PySem.W.list_sort_vals (s := { s with heap := PySem.W.copyHeap s.heap vs }) (PySem.W.copyHeap_at s.heap vs) (PySem.W.SortsAt.data (s := { s with heap := PySem.W.sortingHeap (PySem.W.copyHeap s.heap vs) (s.heap.objs.size + 1) vs }) (PySem.W.each_map (R := fun v d => ∃ as, Reads (PySem.W.sortingHeap (PySem.W.copyHeap s.heap vs) (s.heap.objs.size + 1) vs) v d as) enc e2) hal hk (PySem.W.bound_map (A := A.in1.in1) hu)) hl' ⟨rfl, ?_⟩
  exact h _ (by rw [PySem.W.sortVals_length false rfl]; exact e.length) (PySem.W.sortVals_data false e e2 hal)
end
/-- each thing beside what stands for it -/
theorem each_vals {W : Wd} {H : Hp} {O : List Addr} {c : Cu} : ∀ {xs : List PV} {zs : List V} {us : List Value}, RepL W H O c xs zs → Vals zs us → PySem.W.EachIs (fun u b => RelV b.1 u ∧ Rep W H O c b.2 b.1) us (zs.zip xs)
  | _, _, _, .nil, .nil => .nil
  | _, _, _, .cons a b, .cons r q => .cons ⟨r, a⟩ (each_vals b q)
theorem vals_each {W : Wd} {H : Hp} {O : List Addr} {c : Cu} : ∀ {us : List Value} {bs : List (V × PV)}, PySem.W.EachIs (fun u b => RelV b.1 u ∧ Rep W H O c b.2 b.1) us bs → Vals (bs.map (·.1)) us ∧ RepL W H O c (bs.map (·.2)) (bs.map (·.1))
  | _, _, .nil => ⟨.nil, .nil⟩
  | _, _, .cons h r => ⟨.cons h.1 (vals_each r).1, .cons h.2 (vals_each r).2⟩
theorem sortOk_iff {xs : List PV} (h : sortOk xs = true) : xs.length ≤ lineN ∧ (∀ x ∈ xs, (toD x).canLay0 = true ∧ (toD x).depth ≤ 60) ∧ PySem.W.AllAlike (xs.map toD) ∧ PySem.W.Sortable (xs.map toD) := by
  unfold sortOk at h
  simp only [Bool.and_eq_true, Bool.or_eq_true, decide_eq_true_eq, List.all_eq_true] at h
  obtain ⟨⟨h1, h2⟩, h3⟩ := h
  refine ⟨h1, fun x hx => (h2 x hx).1, fun d hd d' hd' => ?_, ?_⟩
  · obtain ⟨x, hx, rfl⟩ := List.mem_map.mp hd
    obtain ⟨y, hy, rfl⟩ := List.mem_map.mp hd'
    exact (h2 x hx).2 y hy
  · rcases h3 with h3 | h3
    · refine .inl fun d hd => ?_
      obtain ⟨x, hx, rfl⟩ := List.mem_map.mp hd
      have := h3 x hx
      unfold tupNE at this
      split at this
      · exact ⟨_, _, by rw [toD, toDs]⟩
      · cases this
    · refine .inr fun d hd => ?_
      obtain ⟨x, hx, rfl⟩ := List.mem_map.mp hd
      have := h3 x hx
      unfold notTN at this
      split at this
      · cases this
      · cases this
      · rename_i n1 n2
        cases x <;> first | exact absurd rfl (n1 _) | exact absurd rfl n2 | skip
        all_goals simp [toD]
variable {X : Cx} {W : Wd}
theorem zip_snd {α β : Type} : ∀ {zs : List α} {xs : List β}, xs.length = zs.length → (zs.zip xs).map (·.2) = xs
  | [], [], _ => rfl
  | _ :: zs, _ :: xs, h => by simp [zip_snd (zs := zs) (xs := xs) (by simpa using h)]
theorem ok_sorted (hu : X.A.units + 65 < cLine) : CallOk X W (.builtin "sorted") (bltV .sorted1) := fun pins s σ H O c S xs zs us pv st ro rv e => by
  obtain ⟨x, rfl⟩ := blt_one e ⟨by decide, by decide⟩
  obtain ⟨z, rfl, r⟩ := ro.one
  obtain ⟨u, rfl, rx⟩ := vals1 rv
  have key : ∀ (a : Addr) (ys : List PV) (vs : List V) (its : List Value) (T : String) (o : Obj) (n : Nat), z = .ref a → sortV ys = some pv → RepL W H O c ys vs → Vals vs its → T = "list" ∨ T = "tuple" → s.heap.get? a = some o → o.cls = .type T → o.data = .seq its.toArray n →
      wpAny (model X.prog X.w) X.A (call (.builtin "sorted") [u]) (EP X pins σ (Good W O c H S pv)) X.xe s := by
    intro a ys vs its T o n hz hs rl vl hT ho hc hd
    subst hz
    cases rx
    unfold sortV at hs
    split at hs
    · rename_i hok
      cases hs
      obtain ⟨h1, h2, h3, h4⟩ := sortOk_iff hok
      have hlen := rl.length
      have hmap : (vs.zip ys).map (fun b => toD b.2) = ys.map toD := by
        rw [show (fun b : V × PV => toD b.2) = toD ∘ (·.2) from rfl, ← List.map_map, zip_snd hlen]
      have em := each_vals rl vl
      refine sortedD (enc := fun b : V × PV => toD b.2) hT ho hc hd em ?_ (by rw [hmap]; exact h3) (by rw [hmap]; exact h4) (by rw [List.length_zip, hlen, Nat.min_self, ← hlen, ← lineN_eq]; exact h1) (fun b hb => ?_) fun out hl eo => ?_
      · refine PySem.W.EachIs.of_zip em.length fun p hp => ?_
        obtain ⟨q1, q2⟩ := em.zip p hp
        have hm : p.2.2 ∈ ys := by
          have : p.2 ∈ vs.zip ys := (List.of_mem_zip hp).2
          exact (List.of_mem_zip this).2
        exact (Rep.dp st.hK q2 (h2 _ hm).1).reads st.inv _ _ _ q1
      · have := (h2 b.2 (List.of_mem_zip hb).2).2
        show X.A.units + 2 + (toD b.2).depth < cLine
        omega
      · obtain ⟨v1, v2⟩ := vals_each eo
        obtain ⟨ep, hat⟩ := sortedAll_at s.heap its (List.toArray out)
        have hsm : ((vs.zip ys).mergeSort (PySem.W.dataLe false fun b : V × PV => toD b.2)).map (·.2) = ys.mergeSort leV := by
          rw [PySem.W.sort_maps (s := leV) (r := PySem.W.dataLe false fun b : V × PV => toD b.2) (fun p : V × PV => p.2) (fun a _ b _ => rfl), zip_snd hlen]
        rw [hsm, ← isort_eq leV_total] at v2
        have hz : (((vs.zip ys).mergeSort (PySem.W.dataLe false fun b : V × PV => toD b.2)).map (·.1)).length ≤ sizeLine := by
          rw [v1.length, hl, List.length_zip, hlen, Nat.min_self, ← hlen, ← lineN_eq]; exact h1
        have hn : H (s.heap.objs.size + 1) = none := st.inv.hok.fresh (Nat.le_succ _)
        exact ⟨.ref (s.heap.objs.size + 1), _, st.inv.laid (t' := s.toks) (fun b o e => sortedAll_old e) (Nat.le_succ _) (show ObjOk X.prog X.w _ _ _ (.lst _) from ⟨hz, out, ep, v1, hat⟩), rfl, st.lst hn v2⟩
    · cases hs
  cases x <;> first | cases e | skip
  case lst ys =>
    obtain ⟨p, vs, rfl, n, h, l⟩ := r.lst
    obtain ⟨its, r', pl, hz⟩ := st.inv.list (SqL.of h)
    obtain ⟨o, ho, hc, n', hd⟩ := pl.isList
    exact key p ys vs its "list" o n' rfl e l r' (.inl rfl) ho hc hd
  case tup ys =>
    obtain ⟨p, vs, rfl, n, m, h, l⟩ := r.tup
    rw [st.hK] at h
    obtain ⟨its, r', pl, hz⟩ := st.inv.tuple h
    obtain ⟨o, ho, hc, n', hd⟩ := pl
    exact key p ys vs its "tuple" o n' rfl e l r' (.inr rfl) ho hc hd
end Py

set_option Elab.async false
set_option linter.all false
set_option maxRecDepth 100000
set_option maxHeartbeats 4000000
/-! Py: keys of sorts: what is reckoned without a trace. -/
namespace Py
open PySem PySem.Spec PyProof.Rows L2
/-- all that stood stands -/
def Kp (h h' : Heap) : Prop := ∀ b o, h.get? b = some o → h'.get? b = some o
theorem Kp.refl {h : Heap} : Kp h h := fun _ _ e => e
theorem Kp.trans {a b c : Heap} (x : Kp a b) (y : Kp b c) : Kp a c := fun i o e => y i o (x i o e)
def PuR (s : Shared) (G : Value → Heap → Prop) : Value → Shared → Prop := fun v s2 => ∃ h' tk, s2 = { s with heap := h', toks := tk } ∧ Kp s.heap h' ∧ G v h'
def RdD (d : PyData) : Value → Heap → Prop := fun v h => ∃ as, Reads h v d as
theorem RdD.up {d : PyData} {v : Value} {h h' : Heap} (r : RdD d v h) (k : Kp h h') : RdD d v h' := let ⟨as, q⟩ := r; ⟨as, PyProof.Rows.Reads.keeps k q⟩
/-- e gives d, wherever all stands that stood at h0 -/
def PXd (P : Program) (w : World) (A : Around) (env : PySem.Env) (h0 : Heap) (e : Expr) (d : PyData) : Prop := ∀ (s : Shared) (E : Value → Shared → Prop), Kp h0 s.heap → wpAny (model P w) A (eval e env) (PuR s (RdD d)) E s
def NmR (P : Program) (w : World) (A : Around) (env : PySem.Env) (h0 : Heap) (x : Str) (d : PyData) : Prop := ∀ (s : Shared) (E : Value → Shared → Prop) (pos : Pos) (Q : Value → Shared → Prop), Kp h0 s.heap → (∀ v, RdD d v s.heap → Q v s) → wpAny (model P w) A (eval (.Name x pos) env) Q E s
section
variable {P : Program} {w : World} {A : Around} {env : PySem.Env} {h0 : Heap} {a b c e : Expr} {d : PyData} {pos : Pos}
theorem NmR.px {x : Str} (h : NmR P w A env h0 x d) : PXd P w A env h0 (.Name x pos) d := fun s E k => h s E pos _ k fun v r => ⟨s.heap, s.toks, rfl, Kp.refl, r⟩
theorem px_int {i : Int} {k : Nat} : PXd P w A env h0 (.Constant (.int i) k pos) (.int i) := fun s E _ => wpAny_Constant_int ⟨s.heap, s.toks + 1, rfl, Kp.refl, [], .int _ _⟩
theorem RdD.int {i : Int} {v : Value} {h : Heap} (r : RdD (.int i) v h) : ∃ t, v = .int i t := by
  obtain ⟨as, r⟩ := r
  cases r
  exact ⟨_, rfl⟩
theorem RdD.tup {ds : List PyData} {v : Value} {h : Heap} (r : RdD (.tuple ds) v h) : ∃ a o vs n as, v = .ref a ∧ h.get? a = some o ∧ o.cls = .type "tuple" ∧ o.data = .seq vs n ∧ ReadsAll h vs.toList ds as := by
  obtain ⟨as, r⟩ := r
  cases r with
  | tuple g1 g2 g3 g4 => exact ⟨_, _, _, _, _, rfl, g1, g2, g3, g4⟩
theorem readsAll_get {h : Heap} : ∀ {vs : List Value} {ds : List PyData} {as : List Addr} {i : Nat} {d : PyData}, ReadsAll h vs ds as → ds[i]? = some d → ∃ v, vs[i]? = some v ∧ RdD d v h
  | _, _, _, _, _, .nil, e => by simp at e
  | _, _, _, 0, _, .cons r _, e => by simp at e; subst e; exact ⟨_, rfl, _, r⟩
  | _, _, _, i + 1, _, .cons _ q, e => by
    obtain ⟨v, h1, h2⟩ := readsAll_get q (by simpa using e)
    exact ⟨v, by simpa using h1, h2⟩
theorem readsAll_len {h : Heap} : ∀ {vs : List Value} {ds : List PyData} {as : List Addr}, ReadsAll h vs ds as → vs.length = ds.length
  | _, _, _, .nil => rfl
  | _, _, _, .cons _ q => by simp [readsAll_len q]
theorem px_idx {ds : List PyData} {i : Nat} (hi : (i : Int) < 1000) (ha : PXd P w A env h0 a (.tuple ds)) (hb : PXd P w A env h0 b (.int i)) (hd : ds[i]? = some d) (hs : PlainIx b) : PXd P w A env h0 (.Subscript a b pos) d := fun s E k => by
  refine Subscript_ (wpAny_mono (ha s _ k) (fun o s1 ⟨h1, t1, e1, k1, r1⟩ => ?_) fun _ _ q => q)
  subst e1
  refine wpAny_mono (hb _ _ (k.trans k1)) (fun u s2 ⟨h2, t2, e2, k2, r2⟩ => ?_) fun _ _ q => q
  subst e2
  obtain ⟨t, rfl⟩ := r2.int
  obtain ⟨aa, oo, vs, n, as, rfl, g1, g2, g3, g4⟩ := (r1.up k2).tup
  obtain ⟨v, v1, v2⟩ := readsAll_get g4 hd
  have hlt : i < vs.toList.length := by
    have := (List.getElem?_eq_some_iff.mp v1).1
    exact this
  refine subscriptTail_builtinR (x := v) (T := "tuple") ⟨oo, g1, g2⟩ slot_tuple_getitem.lookup (getItem_tuple (items := vs) (j := i) (x := v) (Q := fun r s' => r = v ∧ PuR s (RdD d) r s') ⟨oo, g1, g2, n, g3⟩ (by omega) (by omega) ?_ ?_ ⟨rfl, h2, t2, rfl, k1.trans k2, v2⟩) (hs _ _)
  · have hl : (i : Int) < (vs.size : Int) := by rw [← Array.length_toList]; omega
    unfold seqIndex?
    simp only [show ¬ ((i : Int) < 0) by omega, if_false]
    rw [if_pos (by simp only [Bool.and_eq_true, decide_eq_true_eq]; omega)]
    simp
  · simpa using v1
theorem px_tup1 {e1 : Expr} {d1 : PyData} {k : Nat} (h1 : PXd P w A env h0 e1 d1) (hs : isStar e1 = false) : PXd P w A env h0 (.Tuple [e1] k pos) (.tuple [d1]) := fun s E kp => by
  refine wpAny_Tuple_spliced ?_
  rw [star_plain hs]
  refine Calls.spliced_cons (wpAny_mono (h1 s _ kp) (fun v s1 ⟨g1, t1, e1, k1, r1⟩ => ?_) fun _ _ q => q)
  subst e1
  refine Calls.spliced_nil ⟨Nat.le_trans (show _ ≤ 2 by simp) (by rw [sizeLine_eq]; decide), _, t1, rfl, k1.trans fun b o e => Heap.get?_push_of_some _ e, ?_⟩
  obtain ⟨as, q1⟩ := r1.up (show Kp g1 (g1.push { cls := .type "tuple", data := .seq [v].toArray }) from fun b o e => Heap.get?_push_of_some _ e)
  exact ⟨_, .tuple (Heap.get?_push_size _ rfl) rfl rfl (.cons q1 .nil)⟩
theorem px_tup2 {e1 e2 : Expr} {d1 d2 : PyData} {k : Nat} (h1 : PXd P w A env h0 e1 d1) (h2 : PXd P w A env h0 e2 d2) (hs : isStar e1 = false) (hs2 : isStar e2 = false) : PXd P w A env h0 (.Tuple [e1, e2] k pos) (.tuple [d1, d2]) := fun s E kp => by
  refine wpAny_Tuple_spliced ?_
  rw [star_plain hs, star_plain hs2]
  refine Calls.spliced_cons (wpAny_mono (h1 s _ kp) (fun v s1 ⟨g1, t1, e1, k1, r1⟩ => ?_) fun _ _ q => q)
  subst e1
  refine Calls.spliced_cons (wpAny_mono (h2 _ _ (kp.trans k1)) (fun u s2 ⟨g2, t2, e2, k2, r2⟩ => ?_) fun _ _ q => q)
  subst e2
  have k3 : Kp g2 (g2.push { cls := .type "tuple", data := .seq [v, u].toArray }) := fun b o e => Heap.get?_push_of_some _ e
  refine Calls.spliced_nil ⟨Nat.le_trans (show _ ≤ 2 by simp) (by rw [sizeLine_eq]; decide), _, t2, rfl, k1.trans (k2.trans k3), ?_⟩
  obtain ⟨as, q1⟩ := r1.up (Kp.trans k2 k3)
  obtain ⟨bs, q2⟩ := r2.up k3
  exact ⟨_, .tuple (Heap.get?_push_size _ rfl) rfl rfl (.cons q1 (.cons q2 .nil))⟩
theorem px_ite {i j : Int} {p2 : Pos} (ha : PXd P w A env h0 a (.int i)) (hb : PXd P w A env h0 b (.int j)) (hc : i = j → PXd P w A env h0 c d) (he : i ≠ j → PXd P w A env h0 e d) (hm : behindInMarks .Eq b = false) : PXd P w A env h0 (.IfExp (.Compare a [.Eq] [b] p2) c e pos) d := fun s E k => by
  refine wpAny_IfExp (wpAny_isTrue_Compare1 (wpAny_mono (ha s _ k) (fun o s1 ⟨h1, t1, e1, k1, r1⟩ => ?_) fun _ _ q => q) hm)
  subst e1
  refine wpAny_mono (hb _ _ (k.trans k1)) (fun u s2 ⟨h2, t2, e2, k2, r2⟩ => ?_) fun _ _ q => q
  subst e2
  obtain ⟨t, rfl⟩ := r1.int
  obtain ⟨t', rfl⟩ := r2.int
  have up : ∀ {x : Expr} {A' : Around}, PXd P w A env h0 x d → wpAny (model P w) A (eval x env) (PuR s (RdD d)) E { s with heap := h2, toks := t2 } := fun {x A'} hx => wpAny_mono (hx _ _ (k.trans (k1.trans k2))) (fun v s3 ⟨h3, t3, e3, k3, r3⟩ => by subst e3; exact ⟨h3, t3, rfl, k1.trans (k2.trans k3), r3⟩) fun _ _ q => q
  refine eq_int (wpAny_truthy_bool ?_)
  by_cases hij : i = j
  · subst hij
    rw [if_pos (by simp)]
    exact up (A' := A) (hc rfl)
  · rw [if_neg (by simpa using hij)]
    exact up (A' := A) (he hij)
end

/-! ### a def whose body is one such thing, called -/
structure Wf (K : PySem.W.Frag) (mg : Str → Option Value) (h : Heap) : Prop where
  kin : K.In h
  glb : h.Ns mainGlobals mg
  lim : h.NoLimit
theorem Wf.up {K : PySem.W.Frag} {mg : Str → Option Value} {h h' : Heap} (x : Wf K mg h) (k : Kp h h') : Wf K mg h' := ⟨x.kin.keeps k, x.glb.keeps k, x.lim.keeps k⟩
structure PScope (ps : List Str) (sc : Scope) : Prop where
  kind : sc.kind = .function
  co : sc.isCoroutine = false
  gen : sc.isGenerator = false
  cell : ∀ x ∈ sc.names, x.2 ≠ .cell
  par : ∀ x ∈ ps, sc.names.lookup x = some .local
  nd : ps.Nodup
section
variable {P : Program} {w : World} {A : Around} {K : PySem.W.Frag} {mg : Str → Option Value} {h0 : Heap} {d : PyData}
theorem nm_glb {env : PySem.Env} {x : Str} {v : Value} (W : Wf K mg h0) (hk : env.scope.kind = .function) (hx : env.scope.names.lookup x = some .globalImplicit) (hg : env.globals = mainGlobals) (hm : mg x = some v) (hd : (x == ("__debug__" : Str)) = false)
    (s : Shared) (E : Value → Shared → Prop) (pos : Pos) (Q : Value → Shared → Prop) (k : Kp h0 s.heap) (q : Q v s) : wpAny (model P w) A (eval (.Name x pos) env) Q E s :=
  Calls.Name_function_global hk hx (Calls.loadGlobal_global (by rw [hg]; exact W.glb.keeps k) hm q) hd
theorem nm_int {env : PySem.Env} {x : Str} {i : Int} {t : Tok} (W : Wf K mg h0) (hk : env.scope.kind = .function) (hx : env.scope.names.lookup x = some .globalImplicit) (hg : env.globals = mainGlobals) (hm : mg x = some (.int i t)) (hd : (x == ("__debug__" : Str)) = false) :
    NmR P w A env h0 x (.int i) := fun s E pos Q k q => nm_glb W hk hx hg hm hd s E pos Q k (q _ ⟨[], .int i t⟩)
theorem nm_loc {env : PySem.Env} {x : Str} {v : Value} {m : Str → Option Value} (hk : env.scope.kind = .function) (hx : env.scope.names.lookup x = some .local) (hn : h0.Ns env.locals m) (hm : m x = some v) (r : RdD d v h0) (hd : (x == ("__debug__" : Str)) = false) :
    NmR P w A env h0 x d := fun s E pos Q k q => wpAny_Name (wpAny_loadName_local hk hx (hn.keeps k) hm (q _ (r.up k))) hd
theorem nm_free {env : PySem.Env} {x : Str} {v : Value} {c : Addr} (hk : env.scope.kind = .function) (hx : env.scope.names.lookup x = some .free) (hc : env.cells.lookup x = some c) (hv : h0.IsCell c (some v)) (r : RdD d v h0) (hd : (x == ("__debug__" : Str)) = false)
    (hcd : (x == ("__classdict__" : Str)) = false) : NmR P w A env h0 x d := fun s E pos Q k q => wpAny_Name (wpAny_loadName_free hk hx hc (let ⟨o, h1, h2⟩ := hv; ⟨o, k _ _ h1, h2⟩) (q _ (r.up k)) hcd) hd
theorem call_pure {fa : Addr} {oc : Value} {od an : Option Addr} {osl : Array (Option Value)} {name : Str} {params : Arguments} {e : Expr} {rp : Pos} {sc : Scope} {dV kV doc pm cdv ct : Value} {ps : List Str} {us : List Value} (W : Wf K mg h0)
    (lk : K.lookup fa = some ⟨oc, od, .func (PySem.W.fnOf name name params [.Return (some e) rp] sc dV kV doc pm an cdv ct), osl⟩) (hcd : PySem.W.codeIn K cdv name = true) (S : PScope ps sc) (hr : A.depth < recursionLimit)
    (hb : Binds K (PySem.W.fnOf name name params [.Return (some e) rp] sc dV kV doc pm an cdv ct) ps []) (hl : us.length = ps.length)
    (he : ∀ (h1 : Heap) (env : PySem.Env) (A' : Around), Kp h0 h1 → env.scope = sc → env.globals = mainGlobals → h1.Ns env.locals (fun x => (ps.zip us).reverse.lookup x) → PXd P w A' env h1 e d)
    (s : Shared) (E : Value → Shared → Prop) (k0 : Kp h0 s.heap) : wpAny (model P w) A (call (.ref fa) us) (PuR s (RdD d)) E s := by
  have W' := W.up k0
  have hz : ps.zip (us ++ []) = ps.zip us := by rw [List.append_nil]
  refine wpAny_call (codeAny_call_function hr (W'.kin _ _ lk) rfl S.co S.gen rfl (PySem.W.codeRec_of W'.kin hcd) (hb s us W'.kin (by rw [List.append_nil]; exact hl) _ _ _ _ ?_))
  rw [hz]
  refine wpAny_newFunctionEnv S.cell (fun y hy => S.par _ (List.of_mem_zip hy).1) (fun h' hns hsb => ⟨W'.lim.fresh _ hsb, codeAny_func ?_⟩) S.kind
  have kp : Kp s.heap h' := fun b o e => hsb.extBut b o (Nat.ne_of_lt (Heap.lt_size e)) (Heap.get?_push_of_some _ e)
  refine wpAny_execs_cons (wpAny_Return_some (wpAny_mono (he h' _ _ (k0.trans kp) rfl rfl hns _ _ Kp.refl) (fun v s2 ⟨h2, t2, e2, k2, r2⟩ => ?_) fun _ _ q => q))
  exact ⟨h2, t2, e2, kp.trans k2, r2⟩
end

section
variable {P : Program} {w : World} {A : Around} {K : PySem.W.Frag} {mg : Str → Option Value} {h0 : Heap} {d : PyData}
theorem px_call2 {env : PySem.Env} {g x1 x2 : Str} {p p1 p2 pos : Pos} {fa : Addr} {d1 d2 : PyData} (W : Wf K mg h0) (hk : env.scope.kind = .function) (hx : env.scope.names.lookup g = some .globalImplicit) (hg : env.globals = mainGlobals) (hm : mg g = some (.ref fa)) (hdb : (g == ("__debug__" : Str)) = false) (hkp : PySem.W.keepIn K (.ref fa) = true)
    (h1 : NmR P w A env h0 x1 d1) (h2 : NmR P w A env h0 x2 d2)
    (hc : ∀ (u v : Value) (s : Shared) (E : Value → Shared → Prop), RdD d1 u s.heap → RdD d2 v s.heap → Kp h0 s.heap → wpAny (model P w) A (call (.ref fa) [u, v]) (PuR s (RdD d)) E s) :
    PXd P w A env h0 (.Call (.Name g p) [.Name x1 p1, .Name x2 p2] [] pos) d := fun s E k => by
  refine wpAny_Call_Name_kw (nm_glb W hk hx hg hm hdb s E p _ k ?_)
  refine PySem.W.callWith_K (h₀ := h0) W.kin hkp ?_ (by rfl) (by rfl)
  show wpAny _ _ (spliced ((false, eval (.Name x1 p1) env) :: (false, eval (.Name x2 p2) env) :: [])) _ _ s
  refine Calls.spliced_cons (h1 s E p1 _ k fun u ru => Calls.spliced_cons (h2 s E p2 _ k fun v rv => Calls.spliced_nil ⟨W.kin.keeps k, ?_⟩))
  exact hc u v s E ru rv k
theorem call_lam {f c' : Addr} {q r : Str} {params : Arguments} {body : Expr} {scope : Scope} {cl : List (Str × Addr)} {pm ctv : Value} {v : Value} (W : Wf K mg h0) (hf : h0.get? f = some (PySem.W.kla_obj "<lambda>" q params body scope cl pm c' ctv)) (hcd : h0.CodeRec (.ref c') q)
    (kind : scope.kind = .function) (co : scope.isCoroutine = false) (gen : scope.isGenerator = false) (cell : ∀ y ∈ scope.names, y.2 ≠ .cell) (par : scope.names.lookup r = some .local) (hr : A.depth < recursionLimit)
    (hb : bindArgs (PySem.W.kla_fn "<lambda>" q params body scope cl pm (.ref c') ctv) ⟨[v], []⟩ = pure [(r, v)])
    (he : ∀ (h1 : Heap) (env : PySem.Env) (A' : Around), Kp h0 h1 → A'.depth = A.depth + 1 → env.scope = scope → env.globals = mainGlobals → env.cells = cl → h1.Ns env.locals (fun x => [(r, v)].reverse.lookup x) → PXd P w A' env h1 body d)
    (s : Shared) (E : Value → Shared → Prop) (k0 : Kp h0 s.heap) : wpAny (model P w) A (call (.ref f) [v]) (PuR s (RdD d)) E s := by
  have W' := W.up k0
  obtain ⟨c1, oc, vs, t, e0, e1, e2, e3⟩ := hcd
  refine wpAny_call (PySem.W.kla_callFunE hr (k0 _ _ hf) rfl co gen rfl ⟨c1, oc, vs, t, e0, k0 _ _ e1, e2, e3⟩ ?_)
  rw [hb]
  refine wpAny_pure (wpAny_newFunctionEnv cell (fun y hy => by rw [List.mem_singleton.mp hy]; exact par) (fun h' hns hsb => ⟨W'.lim.fresh _ hsb, PySem.W.kla_codeExpr ?_⟩) kind)
  have kp : Kp s.heap h' := fun b o e => hsb.extBut b o (Nat.ne_of_lt (Heap.lt_size e)) (Heap.get?_push_of_some _ e)
  refine wpAny_mono (he h' _ _ (k0.trans kp) rfl rfl rfl rfl hns _ _ Kp.refl) (fun v s2 ⟨h2, t2, e2, k2, r2⟩ => ?_) fun _ _ q => q
  exact ⟨h2, t2, e2, kp.trans k2, r2⟩
end
/-! ### the checker of keys -/
def okNm' (x : Str) : Bool := !(x == ("__debug__" : Str)) && !(x == ("__classdict__" : Str))
def kxB (ps : List Str) (sc : Scope) (glb : List (Str × PV)) : KX → Expr → Bool
  | .par i, .Name x _ => decide (ps[i]? = some x) && okNm' x
  | .int i, .Constant (.int j) _ _ => decide (i = j)
  | .glb x i, .Name y _ => decide (y = x) && okNm' y && decide (sc.names.lookup y = some .globalImplicit) && (match glb.lookup y with | some (.int j) => decide (i = j) | _ => false)
  | .idx a k, .Subscript x y _ => (match y with | .Slice .. => false | _ => true) && kxB ps sc glb a x && kxB ps sc glb k y
  | .tup1 a, .Tuple [x] _ _ => !isStar x && kxB ps sc glb a x
  | .tup2 a b, .Tuple [x, y] _ _ => !isStar x && !isStar y && kxB ps sc glb a x && kxB ps sc glb b y
  | .ite a b c d, .IfExp (.Compare x [.Eq] [y] _) z u _ => !behindInMarks .Eq y && kxB ps sc glb a x && kxB ps sc glb b y && kxB ps sc glb c z && kxB ps sc glb d u
  | _, _ => false
theorem slice_ok {e : Expr} (h : (match e with | .Slice .. => false | _ => true) = true) : PlainIx e := by
  intro o i
  cases e <;> first | (cases h; done) | rfl
theorem toDs_get : ∀ {xs : List PV} {i : Nat} {x : PV}, xs[i]? = some x → (toDs xs)[i]? = some (toD x)
  | [], i, x, h => by simp at h
  | y :: ys, 0, x, h => by simp at h; subst h; rw [toDs]; rfl
  | y :: ys, i + 1, x, h => by rw [toDs]; simpa using toDs_get (xs := ys) (by simpa using h)
theorem kx_ok {P : Program} {w : World} {A : Around} {env : PySem.Env} {h1 : Heap} {ps : List Str} {args : List PV} {glb : List (Str × PV)} (hp : ∀ (i : Nat) x pv, ps[i]? = some x → okNm' x = true → args[i]? = some pv → NmR P w A env h1 x (toD pv))
    (hg : ∀ x i, glb.lookup x = some (.int i) → okNm' x = true → env.scope.names.lookup x = some .globalImplicit → NmR P w A env h1 x (.int i)) : ∀ (m : KX) (e : Expr) (v : PV), kxB ps env.scope glb m e = true → kev m args = some v → PXd P w A env h1 e (toD v) := by
  intro m
  induction m with
  | par i =>
    intro e v h hv
    cases e <;> first | (cases h; done) | skip
    simp only [kxB, Bool.and_eq_true, decide_eq_true_eq] at h
    exact (hp i _ v h.1 h.2 hv).px
  | int i =>
    intro e v h hv
    cases e <;> first | (cases h; done) | skip
    rename_i c k p
    cases c <;> first | (cases h; done) | skip
    simp only [kxB, decide_eq_true_eq] at h
    simp only [kev, Option.some.injEq] at hv
    subst h hv
    exact px_int
  | glb x i =>
    intro e v h hv
    cases e <;> first | (cases h; done) | skip
    simp only [kxB, Bool.and_eq_true, decide_eq_true_eq] at h
    obtain ⟨⟨⟨e1, h2⟩, h3⟩, h4⟩ := h
    simp only [kev, Option.some.injEq] at hv
    subst hv
    split at h4
    · rename_i j hj
      simp only [decide_eq_true_eq] at h4
      subst h4
      exact (hg _ _ hj h2 h3).px
    · cases h4
  | idx a k iha ihk =>
    intro e v h hv
    cases e <;> first | (cases h; done) | skip
    simp only [kxB, Bool.and_eq_true] at h
    simp only [kev] at hv
    split at hv
    · rename_i xs i e1 e2
      split at hv
      · rename_i hi
        have p1 := iha _ _ h.1.2 e1
        have p2 := ihk _ _ h.2 e2
        obtain ⟨n, rfl⟩ := Int.eq_ofNat_of_zero_le hi.1
        exact px_idx (ds := toDs xs) (i := n) hi.2 p1 p2 (toDs_get (by simpa using hv)) (slice_ok h.1.1)
      · cases hv
    · cases hv
  | tup1 a iha =>
    intro e v h hv
    cases e <;> first | (cases h; done) | skip
    rename_i es k p
    match es, h with
    | [x], h =>
      simp only [kxB, Bool.and_eq_true, Bool.not_eq_true'] at h
      simp only [kev] at hv
      split at hv
      · rename_i y e1
        cases hv
        show PXd P w A env h1 _ (.tuple [toD y])
        exact px_tup1 (iha _ _ h.2 e1) h.1
      · cases hv
  | tup2 a b iha ihb =>
    intro e v h hv
    cases e <;> first | (cases h; done) | skip
    rename_i es k p
    match es, h with
    | [x, y], h =>
      simp only [kxB, Bool.and_eq_true, Bool.not_eq_true'] at h
      simp only [kev] at hv
      split at hv
      · rename_i u z e1 e2
        cases hv
        show PXd P w A env h1 _ (.tuple [toD u, toD z])
        exact px_tup2 (iha _ _ h.1.2 e1) (ihb _ _ h.2 e2) h.1.1.1 h.1.1.2
      · cases hv
  | ite a b c d iha ihb ihc ihd =>
    intro e v h hv
    match e, h with
    | .IfExp (.Compare x [.Eq] [y] _) z u _, h =>
      simp only [kxB, Bool.and_eq_true, Bool.not_eq_true'] at h
      obtain ⟨⟨⟨⟨h1, h2⟩, h3⟩, h4⟩, h5⟩ := h
      simp only [kev] at hv
      split at hv
      · rename_i i j e1 e2
        refine px_ite (iha _ _ h2 e1) (ihb _ _ h3 e2) (fun q => ihc _ _ h4 ?_) (fun q => ihd _ _ h5 ?_) h1
        · rw [if_pos q] at hv; exact hv
        · rw [if_neg q] at hv; exact hv
      · cases hv
end Py

set_option Elab.async false
set_option linter.all false
set_option maxRecDepth 100000
set_option maxHeartbeats 4000000
/-! Py: sorted by a key, a lambda that hands a name of the def and the thing to a def. -/
namespace Py
open PySem PySem.Spec PyProof.Rows L2 LamX
/-! ### keys hold no lists -/
theorem rd_atom {h : Heap} {v : Value} {x : PV} {as : List Addr} (hx : (match x with | .int _ => true | .bl _ => true | .str _ => true | _ => false) = true) (r : Reads h v (toD x) as) : as = [] := by
  cases x <;> first | (cases hx; done) | (cases r; rfl)
theorem rds_nil {h : Heap} {p : PV → Bool} (hp : ∀ x v as, p x = true → Reads h v (toD x) as → as = []) : ∀ {xs : List PV} {vs : List Value} {as : List Addr}, xs.all p = true → ReadsAll h vs (toDs xs) as → as = []
  | [], _, _, _, r => by rw [toDs] at r; cases r; rfl
  | x :: xs, _, _, e, r => by
    rw [toDs] at r
    simp only [List.all_cons, Bool.and_eq_true] at e
    cases r with
    | cons a b => rw [hp _ _ _ e.1 a, rds_nil hp e.2 b]; rfl
theorem flat_nil {h : Heap} {v : Value} {x : PV} {as : List Addr} (hx : flatP x = true) (r : Reads h v (toD x) as) : as = [] := by
  cases x <;> first | (cases hx; done) | (cases r; rfl) | skip
  rename_i xs
  cases r with
  | tuple g1 g2 g3 g4 =>
    refine rds_nil (fun x v as e r => ?_) hx g4
    cases x <;> first | (cases e; done) | (cases r; rfl) | skip
    rename_i ys
    cases r with
    | tuple g1 g2 g3 g4 =>
      refine rds_nil (fun x v as e r => ?_) e g4
      cases x <;> first | (cases e; done) | (cases r; rfl)
/-! ### a lambda is made: but for the table all stands -/
section
variable {X : Cx} {pins : List (Addr × Obj)} {σ : L2.St} {H : Hp} {s : Shared}
theorem lam_new {T : List (Addr × Str)} {c P : Addr} {params : Arguments} {body : Expr} {scope : Scope} {pos : Pos} {E : Value → Shared → Prop} {Q : Value → Shared → Prop} (I : Inv X pins σ H s) (TB : TabB X.base X.mg c P) (hcode : X.env.code = .ref c)
    (hm : (P, X.env.qual ++ "<lambda>") ∈ T) (hu : ∀ p ∈ T, p.1 = P → p.2 = X.env.qual ++ "<lambda>") (hT : Tabs T H) (hdef : defaultsOf params X.env = ([], [])) (hfree : ∀ y ∈ scope.names, y.2 = .free → ∃ c, X.env.cells.lookup y.1 = some c)
    (h : ∀ (f c' : Addr) (pm ctv : Value) (H1 : Hp) (s' : Shared), Inv X pins σ H1 s' → (∀ b o, b ≠ P → H b = some o → H1 b = some o) → Tabs T H1 → s'.heap.get? f = some (PySem.W.kla_obj "<lambda>" (X.env.qual ++ "<lambda>") params body scope (cloFrom X.env.cells scope.names []) pm c' ctv) →
      H1 c' = some (CodeO c' (X.env.qual ++ "<lambda>")) → Q (.ref f) s') : wpAny (model X.prog X.w) X.A (eval (.Lambda params body scope pos) X.env) Q E s := by
  obtain ⟨ps, hP, ht, ha⟩ := hT _ hm
  have bP := TB.bm.keeps I.bk
  have hP' : s.heap.get? P = some { cls := .none, data := .fields ps } := I.hok P _ hP
  refine PySem.W.kla_eval hdef ?_
  cases hc : codeAmong pos ps.toList with
  | some cv =>
    obtain ⟨c', rfl, hco⟩ := ha pos cv hc
    refine PySem.W.kla_makeFunctionHit (mg := X.mg) (c := c) (P := P) (ps := ps) (closure_ok hfree) I.ok.glob (I.mod.glob.keeps I.bk) hcode (TB.code.keeps I.bk) hP' ht hc bP (fun ctv h' tk hx hsz => ?_)
    exact h _ c' _ ctv H _ (I.kept fun b o e => Heap.get?_push_of_some _ (hx b o e)) (fun _ _ _ e => e) hT (Heap.get?_push_size _ rfl) hco
  | none =>
    refine PySem.W.kla_makeFunction (mg := X.mg) (c := c) (P := P) (ps := ps) (closure_ok hfree) I.ok.glob (I.mod.glob.keeps I.bk) hcode (TB.code.keeps I.bk) hP' ht hc TB.gP bP (fun c' ctv h' tk hx hge hlt hrec htb => ?_)
    obtain ⟨z0, oc, vs, t, ez, hoc, hd, hv⟩ := hrec; cases ez
    have nC : H c' = none := I.hok.fresh hge
    have hE : ∀ b o, b ≠ P → H b = some o → upd (upd H P (.tbl (ps ++ #[rawInt pos.line, rawInt pos.col, .ref c']))) c' (CodeO c' (X.env.qual ++ "<lambda>")) b = some o := fun b o n e => by rw [upd_ne (ne_of_none e nC), upd_ne n]; exact e
    have hCo : ∀ c0, H c0 = some (CodeO c0 (X.env.qual ++ "<lambda>")) → c0 ≠ P := fun c0 e z => by rw [z, hP] at e; unfold CodeO at e; cases e
    have hCo2 : ∀ (q : Str) c0, H c0 = some (CodeO c0 q) → c0 ≠ P := fun q c0 e z => by rw [z, hP] at e; unfold CodeO at e; cases e
    refine h h'.objs.size c' _ ctv _ _ (inv_table (t' := tk) (more := #[rawInt pos.line, rawInt pos.col, .ref c']) I hP (fun b o hb e => Heap.get?_push_of_some _ (hx b o hb e)) (Heap.get?_push_of_some _ htb) hge ⟨oc, vs, t, Heap.get?_push_of_some _ hoc, hd, hv⟩) hE (fun p hp => ?_) (Heap.get?_push_size _ rfl) upd_same
    by_cases hb : p.1 = P
    · rw [hu p hp hb, hb]
      have eL : (ps ++ #[rawInt pos.line, rawInt pos.col, .ref c']).toList = ps.toList ++ [rawInt pos.line, rawInt pos.col, .ref c'] := by simp
      refine ⟨ps ++ #[rawInt pos.line, rawInt pos.col, .ref c'], by rw [upd_ne (ne_of_none hP nC), upd_same], by rw [eL]; exact PySem.TriplesOk_snoc _ _ _ _ ht, fun p' cv hcv => ?_⟩
      rw [eL] at hcv
      rcases among_app _ ht hcv with z | z
      · obtain ⟨c0, e1, e2⟩ := ha p' cv z; exact ⟨c0, e1, hE _ _ (hCo c0 e2) e2⟩
      · exact ⟨c', z, upd_same⟩
    · obtain ⟨ps', a1, a2, a3⟩ := hT p hp
      refine ⟨ps', hE _ _ hb a1, a2, fun p' cv hcv => ?_⟩
      obtain ⟨c0, e1, e2⟩ := a3 p' cv hcv
      exact ⟨c0, e1, hE _ _ (hCo2 _ c0 e2) e2⟩
end
/-! ### sorted by keys, of a list or a tuple -/
section
variable {prog : Program} {w : World} {A : Around} {E : Value → Shared → Prop} {s : Shared} {β : Type} {R : Value → β → Prop} {vs : List Value} {bs : List β}
theorem sortedKey {l f : Addr} {T : String} {o : Obj} {n : Nat} {Q : Value → Shared → Prop} (k : β → PyData) (hT : T = "list" ∨ T = "tuple") (ho : s.heap.get? l = some o) (hc : o.cls = .type T) (hd : o.data = .seq vs.toArray n)
    (e : PySem.W.EachIs R vs bs) (hal : PySem.W.AllAlike (bs.map k)) (hk : PySem.W.Sortable (bs.map k)) (hL : bs.length ≤ sizeLine) (hu : ∀ x, x ∈ bs → A.units + 2 + (k x).depth < cLine)
    (turn : ∀ (v : Value) (x : β), R v x → x ∈ bs → ∀ (h : Heap) (tk : Nat), Kp s.heap h → wpAny (model prog w) A.in1.in1 (call (.ref f) [v]) (PySem.W.KeyPure (k x) { s with heap := h, toks := tk }) (fun _ _ => False) { s with heap := h, toks := tk })
    (h : ∀ out c h' tk, Kp s.heap h' → h'.get? (s.heap.objs.size + 1) = some (seqObj "list" (List.toArray out) c) → out.length = bs.length → PySem.W.EachIs R out (bs.mergeSort (PySem.W.dataLe false k)) → Q (.ref (s.heap.objs.size + 1)) { s with heap := h', toks := tk }) :
    wpAny (model prog w) A (call (.builtin "sorted") [.ref l] [(Str.ofString "key", .ref f)]) Q E s := by
  have up : ∀ {g : Heap}, PySem.W.KeepsBut (s.heap.objs.size + 1) (PySem.W.copyHeap s.heap vs) g → Kp s.heap g := fun {g} kp b o q => kp b o (Nat.ne_of_lt (Nat.lt_succ_of_lt (Heap.lt_size q))) (PySem.W.copyHeap_old q)
  refine sorted_by hT ho hc hd (by rw [e.length]; exact hL) (ksk_s1 _ _) (fun _ => ksk_l1 _ _) fun E' => ?_
  rw [ksk_t1]
  refine PySem.W.keyH_tree (kz := bs.map k) (s := { s with heap := PySem.W.copyHeap s.heap vs }) (PySem.W.copyHeap_at s.heap vs) (by rw [List.length_map, e.length]) (by rw [e.length]; exact hL) hal hk (PySem.W.bound_map (A := A.in1.in1) hu) (PySem.W.keyH_turns (s := { s with heap := PySem.W.copyHeap s.heap vs }) e fun v x hR hx h tk kp => turn v x hR hx h tk (up kp)) ?_
  exact fun h' tk out c kp hD ko => ⟨rfl, h out c h' tk (up kp) hD ((ko.length (by rw [List.length_map, e.length])).trans e.length) (PySem.W.keyedOut_each k ko e)⟩
end
/-! ### the rule -/
/-- the lambda's one parameter -/
def oneB (a : Arguments) (r : Str) : Bool := match a with
  | ⟨[], [⟨x, _, _⟩], none, [], [], none, []⟩ => decide (x = r)
  | _ => false
theorem oneB_bind {a : Arguments} {r : Str} (h : oneB a r = true) {q : Str} {body : Expr} {scope : Scope} {cl : List (Str × Addr)} {pm cv ctv v : Value} : bindArgs (PySem.W.kla_fn "<lambda>" q a body scope cl pm cv ctv) ⟨[v], []⟩ = pure [(r, v)] := by
  unfold oneB at h
  split at h
  · rw [decide_eq_true_eq] at h
    subst h
    have e : ∀ x : Str, (x == x) = true := fun x => by simp
    unfold bindArgs PySem.W.kla_fn
    have e2 : seqItems? Value.none = pure none := rfl
    simp [List.lookup, e, e2]
    try rfl
  · cases h
theorem oneB_def {a : Arguments} {r : Str} (h : oneB a r = true) (env : PySem.Env) : defaultsOf a env = ([], []) := by
  unfold oneB at h
  split at h
  · rfl
  · cases h
def pscB (ps : List Str) (sc : Scope) : Bool := (match sc.kind with | .function => true | _ => false) && !sc.isCoroutine && !sc.isGenerator && sc.names.all (fun y => match y.2 with | .cell => false | _ => true) && ps.all (fun x => decide (sc.names.lookup x = some .local)) && decide ps.Nodup
theorem pscB_ok {ps : List Str} {sc : Scope} (h : pscB ps sc = true) : PScope ps sc := by
  unfold pscB at h
  simp only [Bool.and_eq_true, Bool.not_eq_true', List.all_eq_true, decide_eq_true_eq] at h
  obtain ⟨⟨⟨⟨⟨h1, h2⟩, h3⟩, h4⟩, h5⟩, h6⟩ := h
  refine ⟨?_, h2, h3, fun x hx z => ?_, h5, h6⟩
  · cases hk : sc.kind <;> rw [hk] at h1 <;> first | rfl | cases h1
  · have := h4 x hx
    rw [z] at this; cases this
/-- a def whose body is a key: what is known of it -/
def KDef (X : Cx) (glb : List (Str × PV)) (g : Str) (key : KX) : Prop := ∃ (fa : Addr) (oc : Value) (od an : Option Addr) (osl : Array (Option Value)) (params : Arguments) (e : Expr) (rp : Pos) (sc : Scope) (dV kV doc pm cdv ct : Value) (p1 p2 : Str),
  X.K.lookup fa = some ⟨oc, od, .func (PySem.W.fnOf g g params [.Return (some e) rp] sc dV kV doc pm an cdv ct), osl⟩ ∧ PySem.W.codeIn X.K cdv g = true ∧ PScope [p1, p2] sc ∧ Binds X.K (PySem.W.fnOf g g params [.Return (some e) rp] sc dV kV doc pm an cdv ct) [p1, p2] [] ∧
  X.mg g = some (.ref fa) ∧ PySem.W.keepIn X.K (.ref fa) = true ∧ kxB [p1, p2] sc glb key e = true
structure LamK (sc scope : Scope) (r x1 g : Str) : Prop where
  kind : scope.kind = .function
  co : scope.isCoroutine = false
  gen : scope.isGenerator = false
  cell : ∀ y ∈ scope.names, y.2 ≠ .cell
  free : ∀ y ∈ scope.names, y.2 = .free → sc.names.lookup y.1 = some .cell ∨ sc.names.lookup y.1 = some .free
  par : scope.names.lookup r = some .local
  cap : scope.names.lookup x1 = some .free
  glo : scope.names.lookup g = some .globalImplicit
  nm : okNm' r = true ∧ okNm' x1 = true ∧ okNm' g = true
theorem okNm'_ok {x : Str} (h : okNm' x = true) : (x == ("__debug__" : Str)) = false ∧ (x == ("__classdict__" : Str)) = false := by
  unfold okNm' at h
  simpa using h
section
variable {X : Cx} {W : Wd} {G : List Nat} {C : Calls} {Ew : Wish} {a : Expr} {ma : ME} {pos : Pos}
/-- the lambda's call gives the key -/
theorem key_turn {pins : List (Addr × Obj)} {σ : L2.St} {H : Hp} {s : Shared} {glb : List (Str × PV)} {g r x1 : Str} {key : KX} {ci : Nat} {o : Int} {f c' : Addr} {params : Arguments} {scope : Scope} {pm ctv : Value} {p p1 p2 pb : Pos} (I : Inv X pins σ H s)
    (glo : ∀ x v, glb.lookup x = some v → ∃ z u, X.mg x = some u ∧ RelV z u ∧ ∀ H O c, Rep W H O c v z) (KD : KDef X glb g key) (L : LamK X.env.scope scope r x1 g) (one : oneB params r = true) (hN : X.N[ci]? = some x1) (hσ : σ[ci]? = some (some (.int o))) (hdp : X.A.depth + 4 < recursionLimit)
    (hf : s.heap.get? f = some (PySem.W.kla_obj "<lambda>" (X.env.qual ++ "<lambda>") params (.Call (.Name g p) [.Name x1 p1, .Name r p2] [] pb) scope (cloFrom X.env.cells scope.names []) pm c' ctv)) (hco : H c' = some (CodeO c' (X.env.qual ++ "<lambda>")))
    {v : Value} {x k : PV} (hv : RdD (toD x) v s.heap) (hk : kev key [.int o, x] = some k) (hfl : flatP k = true) (h : Heap) (tk : Nat) (kp : Kp s.heap h) :
    wpAny (model X.prog X.w) X.A.in1.in1 (call (.ref f) [v]) (PySem.W.KeyPure (toD k) { s with heap := h, toks := tk }) (fun _ _ => False) { s with heap := h, toks := tk } := by
  have W0 : Wf X.K X.mg s.heap := ⟨I.kIn, I.mod.glob.keeps I.bk, I.nolimit⟩
  have hcd : s.heap.CodeRec (.ref c') (X.env.qual ++ "<lambda>") := by
    obtain ⟨⟨oc, vs, t, e1, e2, e3⟩, _⟩ := I.hok c' _ hco
    exact ⟨c', oc, vs, t, rfl, e1, e2, e3⟩
  obtain ⟨n1, n2, n3⟩ := L.nm
  -- the captured name
  have hfree : ∀ y ∈ scope.names, y.2 = .free → ∃ c, X.env.cells.lookup y.1 = some c := fun y hy e => by
    rcases L.free y hy e with q | q
    · exact I.ok.has _ (.inl q)
    · exact I.ok.has _ (.inr q)
  have hx1 : (x1, NameKind.free) ∈ scope.names := PySem.mem_of_lookup L.cap
  obtain ⟨m, hn, hl⟩ := I.loc
  have hvis : Vis X.env.scope x1 := by
    rcases L.free _ hx1 rfl with q | q
    · exact .inr (.inl q)
    · exact .inr (.inr q)
  obtain ⟨u, ru, lk⟩ := hl ci x1 (.int o) hN hσ hvis
  obtain ⟨tu, rfl⟩ : ∃ t, u = .int o t := ru
  obtain ⟨c1, hc1, hcell⟩ : ∃ c, X.env.cells.lookup x1 = some c ∧ s.heap.IsCell c (some (.int o tu)) := by
    rcases lk with ⟨q, _⟩ | ⟨_, q⟩
    · have q : X.env.scope.names.lookup x1 = some .local := q
      rcases L.free _ hx1 rfl with z | z <;> rw [show X.env.scope.names.lookup x1 = _ from z] at q <;> cases q
    · exact q
  have hclo : (cloFrom X.env.cells scope.names []).lookup x1 = some c1 := by
    obtain ⟨c2, e2⟩ := mem_lookup (cloFrom_has (cells := X.env.cells) (acc := []) hx1)
    rcases cloFrom_mem (PySem.mem_of_lookup e2) with q | ⟨_, q⟩
    · cases q
    · rw [e2, q, hc1]; rfl
  obtain ⟨fa, oc, od, an, osl, ps, e, rp, sc, dV, kV, doc, pmm, cdv, ct, q1, q2, lkf, hcdf, S, hb, hm, hkp, hkx⟩ := KD
  have glob : ∀ {env : PySem.Env} {h1 : Heap} {A' : Around}, Wf X.K X.mg h1 → env.scope = sc → env.globals = mainGlobals → ∀ y i, glb.lookup y = some (.int i) → okNm' y = true → env.scope.names.lookup y = some .globalImplicit → NmR X.prog X.w A' env h1 y (.int i) := fun {env h1 A'} W1 es eg y i hy hn hg => by
    obtain ⟨z, u, e1, e2, e3⟩ := glo y _ hy
    have := e3 (fun _ => none) [] ⟨none, []⟩
    cases this
    obtain ⟨t, rfl⟩ : ∃ t, u = .int i t := e2
    exact nm_int W1 (by rw [es]; exact S.kind) hg eg e1 (okNm'_ok hn).1
  refine wpAny_mono (call_lam (A := X.A.in1.in1) (K := X.K) (mg := X.mg) (d := toD k) (r := r) W0 hf hcd L.kind L.co L.gen L.cell L.par (by show X.A.depth < _; omega) (oneB_bind one) (fun h1 env A' k1 hd es eg ec hns => ?_) _ _ kp) (fun v' s2 ⟨h2, t2, e2, k2, as, r2⟩ => ?_) fun _ _ q => q
  · have W1 := W0.up k1
    have rv := hv.up k1
    have hk' : env.scope.kind = .function := by rw [es]; exact L.kind
    refine px_call2 (d1 := .int o) (d2 := toD x) W1 hk' (by rw [es]; exact L.glo) eg hm (okNm'_ok n3).1 hkp
      (nm_free hk' (by rw [es]; exact L.cap) (by rw [ec]; exact hclo) (let ⟨ob, z1, z2⟩ := hcell; ⟨ob, k1 _ _ z1, z2⟩) ⟨[], .int _ _⟩ (okNm'_ok n2).1 (okNm'_ok n2).2)
      (nm_loc (m := fun y => [(r, v)].reverse.lookup y) (v := v) hk' (by rw [es]; exact L.par) hns (by simp) rv (okNm'_ok n1).1)
      (fun u v2 s3 E3 r1 r2 kk => ?_)
    refine call_pure (h0 := s3.heap) (d := toD k) (W1.up kk) lkf hcdf S (by show A'.depth < _; rw [hd]; show X.A.depth + 1 < _; omega) hb rfl (fun h4 env4 A4 k4 es4 eg4 hns4 => ?_) s3 E3 Kp.refl
    have W4 := W1.up (kk.trans k4)
    refine kx_ok (args := [.int o, x]) (fun i y pv hy hny hpv => ?_) (glob W4 es4 eg4) key e k (by rw [es4]; exact hkx) hk
    have hk4 : env4.scope.kind = .function := by rw [es4]; exact S.kind
    have nd := S.nd
    match i, hy, hpv with
    | 0, hy, hpv =>
      simp at hy hpv
      subst hy hpv
      refine nm_loc (v := u) hk4 (by rw [es4]; exact S.par _ (by simp)) hns4 ?_ (r1.up k4) (okNm'_ok hny).1
      simp at nd
      have : (q1 == q2) = false := by simpa using nd
      simp [List.lookup, this]
    | 1, hy, hpv =>
      simp at hy hpv
      subst hy hpv
      refine nm_loc (v := v2) hk4 (by rw [es4]; exact S.par _ (by simp)) hns4 ?_ (r2.up k4) (okNm'_ok hny).1
      simp [List.lookup]
    | n + 2, hy, hpv => simp at hy
  · have := flat_nil hfl r2
    subst this
    exact ⟨h2, t2, e2, k2, r2⟩
/-- where lambdas' code is told: the def's code object, its table -/
structure LTab (X : Cx) (W : Wd) : Prop where
  ex : ∃ c P, TabB X.base X.mg c P ∧ X.env.code = .ref c ∧ (P, X.env.qual ++ "<lambda>") ∈ W.T ∧ ∀ p ∈ W.T, p.1 = P → p.2 = X.env.qual ++ "<lambda>"
theorem keysV_some {key : KX} {o : Int} : ∀ {xs : List PV} {ps : List (PV × PV)}, keysV key o xs = some ps → ps.map (·.2) = xs ∧ ∀ q ∈ ps, kev key [.int o, q.2] = some q.1 ∧ (toD q.2).canLay0 = true ∧ flatP q.1 = true
  | [], ps, h => by cases h; simp
  | x :: xs, ps, h => by
    rw [keysV] at h
    split at h
    · rename_i k r e1 e2
      split at h
      · rename_i hc
        cases h
        obtain ⟨h1, h2⟩ := keysV_some e2
        rw [Bool.and_eq_true] at hc
        refine ⟨by simp [h1], fun q hq => ?_⟩
        rcases List.mem_cons.mp hq with rfl | hq
        · exact ⟨e1, hc.1, hc.2⟩
        · exact h2 q hq
      · cases h
    · cases h
theorem each_keyed {H : Hp} {O : List Addr} {c : Cu} : ∀ {ps : List (PV × PV)} {zs : List V} {us : List Value}, RepL W H O c (ps.map (·.2)) zs → Vals zs us → PySem.W.EachIs (fun u b => RelV b.1 u ∧ Rep W H O c b.2.2 b.1) us (zs.zip ps)
  | [], _, _, r, q => by
    cases r
    cases q
    exact .nil
  | p :: ps, _, _, r, q => by
    cases r with
    | cons a b => cases q with
      | cons a' b' => exact .cons ⟨a', a⟩ (each_keyed b b')
theorem keyed_each {H : Hp} {O : List Addr} {c : Cu} : ∀ {us : List Value} {bs : List (V × (PV × PV))}, PySem.W.EachIs (fun u b => RelV b.1 u ∧ Rep W H O c b.2.2 b.1) us bs → Vals (bs.map (·.1)) us ∧ RepL W H O c (bs.map fun b => b.2.2) (bs.map (·.1))
  | _, _, .nil => ⟨.nil, .nil⟩
  | _, _, .cons h r => ⟨.cons h.1 (keyed_each r).1, .cons h.2 (keyed_each r).2⟩
/-- sorted(a, key=lambda r: g(x1, r)) -/
theorem e_sortK {glb : List (Str × PV)} {g r x1 sx : Str} {key : KX} {ci : Nat} {params : Arguments} {scope : Scope} {p ps p1 p2 pb lpos kpos : Pos} (hK : W.K = X.K) (hu : X.A.units + 65 < cLine) (hg : Gl X sx) (hm : X.mg sx = none) (hv : bootBuiltins sx = some (.builtin "sorted")) (hn : sx ≠ "__name__") (hdb : (sx == ("__debug__" : Str)) = false)
    (ha : PE X a (tO W G C Ew ma)) (hs : isStar a = false) (glo : ∀ x v, glb.lookup x = some v → ∃ z u, X.mg x = some u ∧ RelV z u ∧ ∀ H O c, Rep W H O c v z) (KD : KDef X glb g key) (L : LamK X.env.scope scope r x1 g) (one : oneB params r = true) (hN : X.N[ci]? = some x1) (hG : ci ∉ G) (hdp : X.A.depth + 4 < recursionLimit) (LT : LTab X W) :
    PE X (.Call (.Name sx ps) [a] [⟨some "key", .Lambda params (.Call (.Name g p) [.Name x1 p1, .Name r p2] [] pb) scope lpos, kpos⟩] pos) (tE W G C Ew (.sortK ma ci g key)) := by
  refine ⟨fun pins s σ H Q I ⟨c, O, ρ, S, st, h⟩ => ?_⟩
  rw [ev] at h
  obtain ⟨cd, PT, TB, hcode, hmT, huT⟩ := LT.ex
  refine wpAny_Call_Name_kw (ld_blt I hg hm hv ?_ hn hdb)
  refine PyProof.Rows.callWith_kw ?_ (by rw [star_plain hs]; rfl) (by rw [star_plain hs]; rfl) (by rfl) (by rfl)
  rw [star_plain hs]
  refine Calls.spliced_cons (runO ha I st ((Res.all_bind h).imp (fun x S1 h1 v s1 z H1 I1 rz e1 st1 r1 => ?_) fun _ _ _ h => h))
  refine Calls.spliced_nil ?_
  show wpAny _ _ (evalAll [do let v ← eval (.Lambda params (.Call (.Name g p) [.Name x1 p1, .Name r p2] [] pb) scope lpos) X.env; standAt pos; pure v]) (fun kvs s₂ => wpAny _ _ (call (.builtin "sorted") [v] ([Str.ofString "key"].zip kvs)) _ _ s₂) _ _
  split at h1
  case h_2 => exact h1.elim
  rename_i o xs hρ hseq
  split at h1
  case h_2 => exact h1.elim
  rename_i kps hkeys
  obtain ⟨pv, hpv, h1⟩ := Res.all_of h1
  obtain ⟨k1, k2⟩ := keysV_some hkeys
  have cu := st1.cup
  have hT : Tabs W.T H1 := by have := cu.2.2; rw [cu.2.1] at this; exact this
  obtain ⟨vo, hσ, rvo⟩ := st1.gen ci _ hρ hG
  cases rvo
  have hfree : ∀ y ∈ scope.names, y.2 = .free → ∃ c, X.env.cells.lookup y.1 = some c := fun y hy e => by
    rcases L.free y hy e with q | q
    · exact I1.ok.has _ (.inl q)
    · exact I1.ok.has _ (.inr q)
  refine wpAny_evalAll_cons (wpAny_bind (lam_new I1 TB hcode hmT huT hT (oneB_def one _) hfree fun f c' pm ctv H2 s2 I2 hE T2 hf hco => wpAny_bind (wpAny_standAt (wpAny_pure (wpAny_evalAll_nil ?_)))))
  have e2 : Ext c H1 H2 := fun b ob n _ q => hE b ob (fun z => n.2 _ (by rw [cu.2.1]; exact hmT) z.symm) q
  have cu2a : cupIs H2 c.a S1 := by
    have q := cu.1
    revert q
    cases hca : c.a with
    | none => cases S1 <;> exact fun q => q
    | some pc =>
      cases S1 with
      | none => exact fun q => q
      | some ab =>
        intro q
        have q : H1 pc = some (.lst [.int ab.1, .int ab.2]) := q
        refine hE pc _ (fun z => ?_) q
        obtain ⟨ts, t1, _⟩ := hT _ hmT
        rw [z] at q
        rw [show H1 PT = some (.tbl ts) from t1] at q
        cases q
  have cu2 : CupIs W H2 c S1 := ⟨cu2a, cu.2.1, by rw [cu.2.1]; exact T2⟩
  have st2 := st1.ext e2 cu2
  have r2 := r1.ext e2
  unfold sortKV at hpv
  split at hpv
  case isFalse => cases hpv
  rename_i hok
  cases hpv
  obtain ⟨o1, o2, o3, o4⟩ := sortOk_iff hok
  rw [List.length_map] at o1
  have key : ∀ (l : Addr) (vs : List V) (its : List Value) (T : String) (ob : Obj) (n : Nat), v = .ref l → RepL W H2 O c xs vs → Vals vs its → T = "list" ∨ T = "tuple" → s2.heap.get? l = some ob → ob.cls = .type T → ob.data = .seq its.toArray n →
      wpAny (model X.prog X.w) X.A (call (.builtin "sorted") [v] ([Str.ofString "key"].zip [.ref f])) (EP X pins σ Q) X.xe s2 := by
    intro l vs its T ob n hl rl vl hT ho hc hd
    subst hl
    rw [← k1] at rl
    have hlen : kps.length = vs.length := by have := rl.length; rw [List.length_map] at this; exact this
    have em := each_keyed rl vl
    have hz : (vs.zip kps).map (fun b => toD b.2.1) = (kps.map (·.1)).map toD := by
      rw [show (fun b : V × (PV × PV) => toD b.2.1) = (fun q : PV × PV => toD q.1) ∘ (·.2) from rfl, ← List.map_map, zip_snd hlen, List.map_map]; rfl
    refine sortedKey (fun b : V × (PV × PV) => toD b.2.1) hT ho hc hd em (by rw [hz]; exact o3) (by rw [hz]; exact o4) (by rw [List.length_zip, hlen, Nat.min_self, ← hlen, ← lineN_eq]; exact o1) (fun b hb => ?_) (fun u b hR hb h tk kp => ?_) fun out ep h' tk kp hat hl eo => ?_
    · have := (o2 b.2.1 (List.mem_map.mpr ⟨b.2, (List.of_mem_zip hb).2, rfl⟩)).2
      show X.A.units + 2 + (toD b.2.1).depth < cLine
      omega
    · obtain ⟨q1, q2, q3⟩ := k2 b.2 (List.of_mem_zip hb).2
      exact key_turn I2 glo KD L one hN hσ hdp hf hco ((Rep.dp hK hR.2 q2).reads I2 _ _ _ hR.1) q1 q3 h tk kp
    · obtain ⟨v1, v2⟩ := keyed_each eo
      have hsm : ((vs.zip kps).mergeSort (PySem.W.dataLe false fun b : V × (PV × PV) => toD b.2.1)).map (fun b => b.2.2) = (kps.mergeSort fun p q => leV p.1 q.1).map (·.2) := by
        rw [show (fun b : V × (PV × PV) => b.2.2) = (fun q : PV × PV => q.2) ∘ (·.2) from rfl, ← List.map_map, PySem.W.sort_maps (s := fun p q : PV × PV => leV p.1 q.1) (r := PySem.W.dataLe false fun b : V × (PV × PV) => toD b.2.1) (fun b : V × (PV × PV) => b.2) (fun a _ b _ => rfl), zip_snd hlen]
      rw [hsm, ← isort_eq leK_total] at v2
      have hsz : (((vs.zip kps).mergeSort (PySem.W.dataLe false fun b : V × (PV × PV) => toD b.2.1)).map (·.1)).length ≤ sizeLine := by
        rw [v1.length, hl, List.length_zip, hlen, Nat.min_self, ← hlen, ← lineN_eq]; exact o1
      have hn : H2 (s2.heap.objs.size + 1) = none := I2.hok.fresh (Nat.le_succ _)
      have st2' : Sit X W pins σ H2 O c S1 s2 := st2.sit I2 hK
      obtain ⟨g1, g2, g3⟩ := st2'.lst hn v2
      exact ⟨.ref (s2.heap.objs.size + 1), _, I2.laid (t' := tk) kp (Nat.le_succ _) (show ObjOk X.prog X.w _ _ _ (.lst _) from ⟨hsz, out, ep, v1, hat⟩), rfl, h1 _ _ (e1.trans (e2.trans g1)) g2 g3⟩
  cases x <;> first | (cases hseq; done) | skip
  case lst ys =>
    cases hseq
    obtain ⟨l, vs, rfl, n, hh, rl⟩ := r2.lst
    cases rz
    obtain ⟨its, r', pl, hz⟩ := I2.list (SqL.of hh)
    obtain ⟨ob, ho, hc, n', hd⟩ := pl.isList
    exact key l vs its "list" ob n' rfl rl r' (.inl rfl) ho hc hd
  case tup ys =>
    cases hseq
    obtain ⟨l, vs, rfl, n, m, hh, rl⟩ := r2.tup
    cases rz
    rw [hK] at hh
    obtain ⟨its, r', pl, hz⟩ := I2.tuple hh
    obtain ⟨ob, ho, hc, n', hd⟩ := pl
    exact key l vs its "tuple" ob n' rfl rl r' (.inr rfl) ho hc hd
end
end Py

set_option Elab.async false
set_option linter.all false
set_option maxRecDepth 100000
set_option maxHeartbeats 4000000
/-! Py: walks, targets, comprehensions, calls of defs. -/
namespace Py
@[local simp] theorem ub_H {α β : Type} (r : Res α) (f : α → Cup → Res β) : r.bind f = (match r with | .ok a S => f a S | .exn c l S => .exn c l S | .bad => .bad) := rfl
@[local simp] theorem uo_H {α : Type} (o : Option α) (S : Cup) : Res.of o S = (match o with | some a => .ok a S | none => .bad) := rfl
@[local simp] theorem uu_H {α : Type} (r : Res α) (f : α → Cup → Out) : r.out f = (match r with | .ok a S => f a S | .exn c l S => .exn c l S | .bad => .bad) := rfl
@[local simp] theorem us_H (o : Out) (f : Env → Cup → Out) : o.seq f = (match o with | .next ρ S => f ρ S | o => o) := rfl
open PySem PySem.Spec PyProof.Rows L2
section
variable (W : Wd) (G : List Nat) (C : Calls) (Ew : Wish)
def tI (m : MI) : TI := fun σ H R => ∃ c O ρ S, StR W G c O σ H ρ S ∧ (evI C m ρ S).all (fun items S' => ∀ H' J, Ext c H H' → CupIs W H' c S' → IterAt W.K (RepO W H' O c) J items → R J H') (fun n l S' => ∀ H', Ext c H H' → CupIs W H' c S' → Ew n l H')
def tM (m : MO) : TT := fun σ H Q => ∃ c O ρ S, StR W G c O σ H ρ S ∧ (evT C m ρ S).all (fun k S' => ∀ H', Ext c H H' → CupIs W H' c S' → Q k H') (fun n l S' => ∀ H', Ext c H H' → CupIs W H' c S' → Ew n l H')
end
theorem _root_.L2.PI.imp {X : Cx} {tg e : Expr} {t t' : TI} (h : PI X tg e t) (f : ∀ σ H Q, t' σ H Q → t σ H Q) : PI X tg e t' := ⟨fun pins s σ H Q I q => h.run pins s σ H Q I (f _ _ _ q)⟩
theorem _root_.L2.PTs.imp {X : Cx} {es : List Expr} {t t' : TT} (h : PTs X es t) (f : ∀ σ H Q, t' σ H Q → t σ H Q) : PTs X es t' := ⟨fun pins s σ H Q I q => h.run pins s σ H Q I (f _ _ _ q)⟩
theorem _root_.L2.PG.imp {X : Cx} {e : Expr} {t t' : TG} (h : PG X e t) (f : ∀ v σ H Q, t' v σ H Q → t v σ H Q) : PG X e t' := ⟨fun pins s σ H v u Q I r q => h.run pins s σ H v u Q I r (f _ _ _ _ q)⟩
section
variable {X : Cx} {W : Wd} {G : List Nat} {C : Calls} {Ew : Wish} {a b d tg : Expr} {ma mb md : ME} {ms : MEs} {es : List Expr} {pos : Pos}
variable {pins : List (Addr × Obj)} {s : Shared} {σ : L2.St} {H : Hp} {c : Cu} {O : List Addr} {ρ : Env} {S : Cup}
theorem pi_seq {l : Expr} {tl : TE} (hl : PE X l tl) : PI X tg l (fun σ H R => tl σ H fun x H1 => ∃ a, x = .ref a ∧ ((∃ xs, SqL X.K H1 a xs ∧ R (Itl X.K a) H1) ∨ ∃ xs, SqT X.K H1 a xs ∧ R (Itt X.K a) H1)) := by
  refine ⟨fun pins s σ H R I h => ?_⟩
  refine thn (hl.run pins s σ H _ I h) fun v s1 ⟨x, H1, I1, r1, a, e, q⟩ => ?_
  subst e
  cases r1
  have fp : ∀ b ∈ [s1.heap.objs.size], FpOk X pins H1 b := fun b hb => by
    have e : b = s1.heap.objs.size := by simpa using hb
    subst e
    exact I1.fpOk (Nat.le_refl _) (I1.hok.fresh (Nat.le_refl _))
  rcases q with ⟨xs, hq, q⟩ | ⟨xs, hq, q⟩
  · obtain ⟨its, rv, p, hz⟩ := I1.list hq
    refine wpAny_pyIter_list p.isList ?_
    exact ⟨s1.heap.objs.size, [s1.heap.objs.size], _, _, H1, rfl, I1.kept (t' := s1.toks) fun b o e => Heap.get?_push_of_some _ e, turn_list a _, ⟨_, Heap.get?_push_size _ rfl, rfl, rfl⟩, fp, q⟩
  · obtain ⟨its, rv, p, hz⟩ := I1.tuple hq
    refine wpAny_pyIter_tuple (show s1.heap.IsTuple a its.toArray from p) ?_
    exact ⟨s1.heap.objs.size, [s1.heap.objs.size], _, _, H1, rfl, I1.kept (t' := s1.toks) fun b o e => Heap.get?_push_of_some _ e, turn_tuple a _, ⟨_, Heap.get?_push_size _ rfl, rfl, rfl⟩, fp, q⟩
theorem i_seq (hK : W.K = X.K) (ha : PE X a (tO W G C Ew ma)) : PI X tg a (tI W G C Ew (.seq ma)) := (pi_seq ha).imp fun σ H R ⟨c, O, ρ, S, st, h⟩ => by
  rw [evI] at h
  refine rdO st ((Res.all_bind h).imp (fun x S1 h1 z H1 e1 st1 r1 => ?_) fun _ _ _ h => h)
  obtain ⟨xs, hx, h1⟩ := Res.all_of h1
  cases x <;> first | cases hx | skip
  case lst xs =>
    obtain ⟨p, vs, rfl, n, h2, l⟩ := r1.lst
    exact ⟨p, rfl, .inl ⟨vs, SqL.of h2, h1 H1 _ e1 st1.cup (.inl ⟨p, by rw [hK], r1⟩)⟩⟩
  case tup xs =>
    obtain ⟨p, vs, rfl, n, m, h2, l⟩ := r1.tup
    rw [hK] at h2
    exact ⟨p, rfl, .inr ⟨vs, h2, h1 H1 _ e1 st1.cup (.inr (.inl ⟨p, by rw [hK], r1⟩))⟩⟩
theorem i_rng1 {p : Pos} (hg : Gl X "range") (hm : X.mg "range" = none) (ha : PE X a (tO W G C Ew ma)) (he : isStar a = false) : PI X tg (.Call (.Name "range" p) [a] [] pos) (tI W G C Ew (.rng1 ma)) :=
  (pi_range1 hg hm (pa_cons ha pa_nil (star_plain he)) (star_plain he)).imp fun σ H R ⟨c, O, ρ, S, st, h⟩ => by
  rw [evI] at h
  refine rdO st ((Res.all_bind h).imp (fun x S1 h1 z H1 e1 st1 r1 => ?_) fun _ _ _ h => h)
  cases x <;> first | exact h1.elim | skip
  case int j =>
    cases r1.int
    simp only at h1
    split at h1
    · rename_i hj
      have hj := rngOk_iff.mp hj
      exact ⟨j, rfl, by omega, by omega, h1 H1 _ e1 st1.cup (.inr (.inr (.inl ⟨0, _, rfl, rfl⟩)))⟩
    · exact h1.elim
theorem i_rng2 {p : Pos} (hg : Gl X "range") (hm : X.mg "range" = none) (ha : PE X a (tO W G C Ew ma)) (hb : PE X b (tO W G C Ew mb)) (he : isStar a = false) (he2 : isStar b = false) : PI X tg (.Call (.Name "range" p) [a, b] [] pos) (tI W G C Ew (.rng2 ma mb)) :=
  (pi_range2 hg hm (pa_cons ha (pa_cons hb pa_nil (star_plain he2)) (star_plain he)) (by rw [star_plain he, star_plain he2]; rfl) (by rw [star_plain he2]; rfl)).imp fun σ H R ⟨c, O, ρ, S, st, h⟩ => by
  rw [evI] at h
  refine rdO st ((Res.all_bind h).imp (fun x S1 h1 z H1 e1 st1 r1 => ?_) fun _ _ _ h => h)
  refine rdO st1 ((Res.all_bind h1).imp (fun y S2 h2 z2 H2 e2 st2 r2 => ?_) fun _ _ _ h H' e => h H' (e1.trans e))
  cases x <;> first | exact h2.elim | skip
  case int i =>
    cases y <;> first | exact h2.elim | skip
    case int j =>
      cases r1.int; cases r2.int
      simp only at h2
      split at h2
      · rename_i hj
        have hj := And.intro (rngOk_iff.mp hj.1) (rngOk_iff.mp hj.2)
        exact ⟨i, j, rfl, ⟨by omega, by omega, by omega, by omega⟩, h2 H2 _ (e1.trans e2) st2.cup (.inr (.inr (.inl ⟨i, _, rfl, rfl⟩)))⟩
      · exact h2.elim
theorem i_enum {p tpos : Pos} {elts : List Expr} {kk : Nat} (hK : W.K = X.K) (hg : Gl X "enumerate") (hm : X.mg "enumerate" = none) (ha : PE X a (tO W G C Ew ma)) (he : isStar a = false) : PI X (.Tuple elts kk tpos) (.Call (.Name "enumerate" p) [a] [] pos) (tI W G C Ew (.enum ma)) :=
  (pi_enumA hg hm (pa_cons ha pa_nil (star_plain he)) (star_plain he)).imp fun σ H R ⟨c, O, ρ, S, st, h⟩ => by
  rw [evI] at h
  refine rdO st ((Res.all_bind h).imp (fun x S1 h1 z H1 e1 st1 r1 => ?_) fun _ _ _ h => h)
  cases x <;> first | exact h1.elim | skip
  case lst xs =>
    obtain ⟨p, vs, rfl, n, h2, l⟩ := r1.lst
    exact ⟨p, vs, rfl, .inl ⟨SqL.of h2, h1 H1 _ e1 st1.cup (.inr (.inr (.inr (.inl ⟨p, _, by rw [hK], r1, rfl⟩))))⟩⟩
  case tup xs =>
    obtain ⟨p, vs, rfl, n, m, h2, l⟩ := r1.tup
    rw [hK] at h2
    exact ⟨p, vs, rfl, .inr ⟨h2, h1 H1 _ e1 st1.cup (.inr (.inr (.inr (.inr (.inl ⟨p, _, by rw [hK], r1, rfl⟩)))))⟩⟩
theorem i_zip {p tpos : Pos} {elts : List Expr} {kk : Nat} (hK : W.K = X.K) (hg : Gl X "zip") (hm : X.mg "zip" = none) (ha : PE X a (tO W G C Ew ma)) (hb : PE X b (tO W G C Ew mb)) (he : isStar a = false) (he2 : isStar b = false) :
    PI X (.Tuple elts kk tpos) (.Call (.Name "zip" p) [a, b] [] pos) (tI W G C Ew (.zip2 ma mb)) :=
  (RZ.pi_zipA hg hm (pa_cons ha (pa_cons hb pa_nil (star_plain he2)) (star_plain he)) (star_plain he) (by rw [star_plain he2]; rfl)).imp fun σ H R ⟨c, O, ρ, S, st, h⟩ => by
  rw [evI] at h
  refine rdO st ((Res.all_bind h).imp (fun x S1 h1 z H1 e1 st1 r1 => ?_) fun _ _ _ h => h)
  refine rdO st1 ((Res.all_bind h1).imp (fun y S2 h2 z2 H2 e2 st2 r2 => ?_) fun _ _ _ h H' e => h H' (e1.trans e))
  have r1 := r1.ext e2
  cases x <;> first | exact h2.elim | skip
  case lst xs =>
    cases y <;> first | exact h2.elim | skip
    case lst ys =>
      obtain ⟨p, vs, rfl, n, h3, l⟩ := r1.lst
      obtain ⟨q, ws, rfl, n2, h4, l2⟩ := r2.lst
      exact ⟨p, q, vs, ws, rfl, .inl ⟨SqL.of h3, SqL.of h4, h2 H2 _ (e1.trans e2) st2.cup (.inr (.inr (.inr (.inr (.inr (.inl ⟨p, q, _, _, by rw [hK], r1, r2, rfl⟩))))))⟩⟩
  case tup xs =>
    cases y <;> first | exact h2.elim | skip
    case tup ys =>
      obtain ⟨p, vs, rfl, n, m, h3, l⟩ := r1.tup
      obtain ⟨q, ws, rfl, n2, m2, h4, l2⟩ := r2.tup
      rw [hK] at h3 h4
      exact ⟨p, q, vs, ws, rfl, .inr ⟨h3, h4, h2 H2 _ (e1.trans e2) st2.cup (.inr (.inr (.inr (.inr (.inr (.inr ⟨p, q, _, _, by rw [hK], r1, r2, rfl⟩))))))⟩⟩

/-! ### targets -/
theorem zip_le {α β : Type} {is : List α} {vs : List β} {p : α × β} (h : p ∈ is.zip vs) : p.1 ∈ is := (List.of_mem_zip h).1
def MT.ix : MT → List Nat
  | .one i => [i] | .tup is => is
theorem wipe_set (σ : L2.St) (i : Nat) (x : Option V) : ∀ (own : List Nat), i ∈ own → wipe (σ.set i x) own = wipe σ own
  | [], h => by cases h
  | j :: own, h => by
    unfold wipe
    by_cases e : i ∈ own
    · rw [wipe_set σ i x own e]
    · have hj : i = j := (List.mem_cons.mp h).resolve_right e
      subst hj
      have key : ∀ (own : List Nat), i ∉ own → wipe (σ.set i x) own = (wipe σ own).set i x := by
        intro own
        induction own with
        | nil => intro _; rfl
        | cons k own ih =>
          intro hk
          unfold wipe
          rw [ih (fun z => hk (List.mem_cons_of_mem _ z)), List.set_comm _ _ (fun z => hk (by rw [z]; exact List.mem_cons_self))]
      rw [key own e, List.set_set]
/-- the names of a target, each to its value -/
def setS (σ : L2.St) : List (Nat × V) → L2.St
  | [] => σ | p :: r => setS (σ.set p.1 (some p.2)) r
theorem setS_wipe (own : List Nat) : ∀ (ps : List (Nat × V)) (σ : L2.St), (∀ p ∈ ps, p.1 ∈ own) → wipe (setS σ ps) own = wipe σ own
  | [], _, _ => rfl
  | p :: r, σ, h => by rw [setS, setS_wipe own r _ fun q hq => h q (List.mem_cons_of_mem _ hq), wipe_set _ _ _ _ (h p List.mem_cons_self)]
theorem StR.set (st : StR W G c O σ H ρ S) {i : Nat} {pv : PV} {v : V} (hi : i ∉ G) (r : Rep W H O c pv v) : StR W G c O (σ.set i (some v)) H (ρ.set i (some pv)) S where
  len := by rw [List.length_set, List.length_set]; exact st.len
  gen := fun j qv hj hg => by
    by_cases e : i = j
    · subst e
      have hl : i < ρ.length := by
        rcases Nat.lt_or_ge i ρ.length with z | z
        · exact z
        · rw [List.getElem?_eq_none (by simpa using z)] at hj; cases hj
      rw [List.getElem?_set_self hl] at hj
      cases hj
      exact ⟨v, List.getElem?_set_self (by rw [st.len]; exact hl), r⟩
    · rw [List.getElem?_set_ne e] at hj
      obtain ⟨w, h1, h2⟩ := st.gen j qv hj hg
      exact ⟨w, by rw [List.getElem?_set_ne e]; exact h1, h2⟩
  own := fun j qv hj hg => by
    have e : i ≠ j := fun z => hi (z ▸ hg)
    rw [List.getElem?_set_ne e] at hj ⊢
    exact st.own j qv hj hg
  sep := fun j k p q x hj hk hjk h1 h2 h3 => by
    have e1 : i ≠ j := fun z => hi (z ▸ hj)
    have e2 : i ≠ k := fun z => hi (z ▸ hk)
    rw [List.getElem?_set_ne e1] at h1 h3
    rw [List.getElem?_set_ne e2] at h2 ⊢
    exact st.sep j k p q x hj hk hjk h1 h2 h3
  cup := st.cup
  tr := st.tr
  co := st.co
theorem StR.sets : ∀ (is : List Nat) (pvs : List PV) (vs : List V) {σ : L2.St} {ρ : Env}, StR W G c O σ H ρ S → (∀ i ∈ is, i ∉ G) → RepL W H O c pvs vs → StR W G c O (setS σ (is.zip vs)) H ((is.zip pvs).foldl (fun r p => r.set p.1 (some p.2)) ρ) S
  | [], _, _, _, _, st, _, _ => by simpa [setS] using st
  | i :: is, _, _, _, _, st, hi, .nil => by simpa [setS] using st
  | i :: is, _, _, _, _, st, hi, .cons r l => by
    rw [List.zip_cons_cons, List.zip_cons_cons, setS, List.foldl_cons]
    exact StR.sets is _ _ (st.set (hi i List.mem_cons_self) r) (fun j hj => hi j (List.mem_cons_of_mem _ hj)) l
def gT (W : Wd) (G : List Nat) (t : MT) : TG := fun v σ H Q => ∃ c O ρ S pv, StR W G c O σ H ρ S ∧ Rep W H O c pv v ∧ ∃ ρ', bindT t pv ρ = some ρ' ∧ ∀ σ', StR W G c O σ' H ρ' S → (∀ own : List Nat, (∀ i ∈ t.ix, i ∈ own) → wipe σ' own = wipe σ own) → (∀ j : Nat, j ∉ t.ix → σ'[j]? = σ[j]? ∧ ρ'[j]? = ρ[j]?) → Q σ' H
theorem setS_get {j : Nat} : ∀ (ps : List (Nat × V)) (σ : L2.St), (∀ p ∈ ps, p.1 ≠ j) → (setS σ ps)[j]? = σ[j]?
  | [], _, _ => rfl
  | p :: r, σ, h => by rw [setS, setS_get r _ fun q hq => h q (List.mem_cons_of_mem _ hq), List.getElem?_set_ne (h p List.mem_cons_self)]
theorem setE_get {j : Nat} : ∀ (ps : List (Nat × PV)) (ρ : Env), (∀ p ∈ ps, p.1 ≠ j) → (ps.foldl (fun r p => r.set p.1 (some p.2)) ρ)[j]? = ρ[j]?
  | [], _, _ => rfl
  | p :: r, ρ, h => by rw [List.foldl_cons, setE_get r _ fun q hq => h q (List.mem_cons_of_mem _ hq), List.getElem?_set_ne (h p List.mem_cons_self)]
theorem g_one {i : Nat} (h : PG X tg (gName i)) (hi : i ∉ G) : PG X tg (gT W G (.one i)) := h.imp fun v σ H Q ⟨c, O, ρ, S, pv, st, r, ρ', e, q⟩ => by
  cases e
  exact q _ (st.set hi r) (fun own ho => wipe_set _ _ _ _ (ho i (by simp [MT.ix]))) fun j hj => by
    have e : i ≠ j := fun z => hj (by simp [MT.ix, z])
    exact ⟨List.getElem?_set_ne e, List.getElem?_set_ne e⟩
def gNames (is : List Nat) : TGs := fun vs σ H Q => vs.length = is.length ∧ Q (setS σ (is.zip vs)) H
theorem g_names : ∀ {ts : List Expr} {is : List Nat}, Paired (fun t i => PG X t (gName i)) ts is → (∀ t ∈ ts, isStar t = false) → PGs X ts (gNames is)
  | _, _, .nil, _ => ⟨fun pins s σ H vs us Q I r h => pgs_nil.run pins s σ H vs us Q I r (by
      obtain ⟨hl, h⟩ := h
      have e : vs = [] := List.eq_nil_of_length_eq_zero hl
      subst e
      exact ⟨rfl, h⟩)⟩
  | t :: ts, i :: is, .cons g l, hs => ⟨fun pins s σ H vs us Q I r h => (pgs_cons g (g_names l fun t ht => hs t (List.mem_cons_of_mem _ ht)) (by
      have h1 := hs t List.mem_cons_self
      cases t <;> first | rfl | cases h1)).run pins s σ H vs us Q I r (by
      obtain ⟨hl, h⟩ := h
      cases vs with
      | nil => simp at hl
      | cons v vs => exact ⟨v, vs, rfl, by simpa using hl, h⟩)⟩
theorem g_tup {ts : List Expr} {is : List Nat} {k : Nat} {tpos : Pos} (hK : W.K = X.K) (hc : X.calm = true) (h : Paired (fun t i => PG X t (gName i)) ts is) (hs : ∀ t ∈ ts, isStar t = false) (hi : ∀ i ∈ is, i ∉ G)
    (hn : (assignEach ts X.env).length = is.length) (hst : (assignEach ts X.env).findIdx? (·.1) = none) : PG X (.Tuple ts k tpos) (gT W G (.tup is)) :=
  (pg_tup hc (g_names h hs) hn hst).imp fun v σ H Q ⟨c, O, ρ, S, pv, st, r, ρ', e, q⟩ => by
  cases pv <;> first | cases e | skip
  case tup xs =>
    simp only [bindT] at e
    split at e
    · rename_i hl
      cases e
      cases r with
      | tup t l =>
        have e1 := l.length
        refine ⟨_, _, rfl, by rw [← hK]; exact t.sq, by omega, by omega, ?_⟩
        exact q _ (StR.sets is xs _ st hi l) (fun own ho => setS_wipe own _ _ fun p hp => ho _ (zip_le hp)) fun j hj => ⟨setS_get _ _ fun p hp z => hj (z ▸ zip_le hp), setE_get _ _ fun p hp z => hj (z ▸ zip_le hp)⟩
    · cases e
end
end Py

set_option Elab.async false
set_option linter.all false
set_option maxRecDepth 100000
set_option maxHeartbeats 4000000
/-! Py: comprehensions. -/
namespace Py
@[local simp] theorem ub_J {α β : Type} (r : Res α) (f : α → Cup → Res β) : r.bind f = (match r with | .ok a S => f a S | .exn c l S => .exn c l S | .bad => .bad) := rfl
@[local simp] theorem uo_J {α : Type} (o : Option α) (S : Cup) : Res.of o S = (match o with | some a => .ok a S | none => .bad) := rfl
@[local simp] theorem uu_J {α : Type} (r : Res α) (f : α → Cup → Out) : r.out f = (match r with | .ok a S => f a S | .exn c l S => .exn c l S | .bad => .bad) := rfl
@[local simp] theorem us_J (o : Out) (f : Env → Cup → Out) : o.seq f = (match o with | .next ρ S => f ρ S | o => o) := rfl
open PySem PySem.Spec PyProof.Rows L2
def Ew0 : Wish := fun _ _ _ => False
theorem flatR_exn {f : PV → Cup → Res (List PV)} {n : Str} {l : Int} {S' : Cup} : ∀ (xs : List PV) (S : Cup), flatR f xs S ≠ .exn n l S'
  | [], S, h => by cases h
  | x :: xs, S, h => by
    unfold flatR at h
    split at h
    · split at h <;> cases h
    · cases h
theorem flatR_ok {f : PV → Cup → Res (List PV)} {x : PV} {xs zs : List PV} {S S2 : Cup} (h : flatR f (x :: xs) S = .ok zs S2) : ∃ y1 S1 z1, f x S = .ok y1 S1 ∧ flatR f xs S1 = .ok z1 S2 ∧ zs = y1 ++ z1 := by
  unfold flatR at h
  split at h
  · rename_i y1 S1 e1
    split at h
    · rename_i z1 S3 e2
      cases h
      exact ⟨y1, S1, z1, e1, e2, rfl⟩
    · cases h
  · cases h
theorem wipe_wipe (σ : L2.St) : ∀ (own : List Nat), wipe (wipe σ own) own = wipe σ own := by
  have key : ∀ (l own : List Nat) (σ : L2.St), (∀ i ∈ l, i ∈ own) → wipe (wipe σ l) own = wipe σ own := by
    intro l
    induction l with
    | nil => intro own σ _; rfl
    | cons i l ih =>
      intro own σ h
      show wipe ((wipe σ l).set i none) own = _
      rw [wipe_set _ _ _ _ (h i List.mem_cons_self), ih own σ fun j hj => h j (List.mem_cons_of_mem _ hj)]
  exact fun own => key own own σ fun _ h => h
section
variable {X : Cx} {W : Wd} {G : List Nat} {C : Calls} {Ew : Wish}
variable {σ : L2.St} {H H' H1 : Hp} {c : Cu} {O : List Addr} {ρ : Env} {S S' : Cup} {D : Addr}
theorem StR.wipe (st : StR W G c O σ H ρ S) : ∀ (own : List Nat), (∀ i ∈ own, i ∉ G) → StR W G c O (L2.wipe σ own) H (wipeE ρ own) S
  | [], _ => st
  | i :: own, h => by
    have ih := StR.wipe st own fun j hj => h j (List.mem_cons_of_mem _ hj)
    have hi := h i List.mem_cons_self
    show StR W G c O ((L2.wipe σ own).set i none) H ((wipeE ρ own).set i none) S
    refine ⟨by rw [List.length_set, List.length_set]; exact ih.len, fun j qv hj hg => ?_, fun j qv hj hg => ?_, fun j k p q x hj hk hjk h1 h2 h3 => ?_, ih.cup, ih.tr, ih.co⟩
    · by_cases e : i = j
      · subst e
        rw [List.getElem?_set] at hj
        split at hj
        · split at hj <;> cases hj
        · cases (show False from by simp_all)
      · rw [List.getElem?_set_ne e] at hj ⊢
        exact ih.gen j qv hj hg
    · have e : i ≠ j := fun z => hi (z ▸ hg)
      rw [List.getElem?_set_ne e] at hj ⊢
      exact ih.own j qv hj hg
    · have e1 : i ≠ j := fun z => hi (z ▸ hj)
      have e2 : i ≠ k := fun z => hi (z ▸ hk)
      rw [List.getElem?_set_ne e1] at h1 h3
      rw [List.getElem?_set_ne e2] at h2 ⊢
      exact ih.sep j k p q x hj hk hjk h1 h2 h3
theorem RepO.own' {x : PV} {v : V} (hn : H D = none) (r : RepO W H O c x v) : RepO W H (D :: O) c x v := by
  cases r with
  | of r => exact .of (r.own hn)
  | own n m h l => exact .own n (List.mem_cons_of_mem _ m) h (l.own hn)
/-- one more list that is owned -/
theorem StR.add (st : StR W G c O σ H ρ S) (hn : H D = none) (e : Ext c H H') (cu : CupIs W H' c S') (hD : H' D ≠ none) : StR W G c (D :: O) σ H' ρ S' where
  len := st.len
  gen := fun i pv hi hg => let ⟨v, a, b⟩ := st.gen i pv hi hg; ⟨v, a, (b.own hn).ext e⟩
  own := fun i pv hi hg => let ⟨xs, a, vs, h1, h2, h3, h4, h5⟩ := st.own i pv hi hg; ⟨xs, a, vs, h1, h2, List.mem_cons_of_mem _ h3, e.at (st.co a h3) h4, (h5.own hn).ext e⟩
  sep := st.sep
  cup := cu
  tr := fun a ha => by
    rcases List.mem_cons.mp ha with rfl | ha
    · exact hD
    · intro z
      cases q : H a with
      | none => exact st.tr a ha q
      | some o => rw [e.at (st.co a ha) q] at z; cases z
  co := fun a ha => by
    rcases List.mem_cons.mp ha with rfl | ha
    · exact st.cup.ne hn
    · exact st.co a ha
theorem Ext.past {o : HO} (e : Ext c H H') (hn : H D = none) : Ext c H (upd H' D o) := fun a u n m q => by
  rw [upd_ne (ne_of_none q hn)]; exact e a u n m q
theorem Ext.none (e : Ext c H H1) (n : c.No D) (h : H1 D = none) : H D = none := by
  cases q : H D with
  | none => rfl
  | some o => rw [e.at n q] at h; cases h
/-- a comprehension's items, as they come -/
theorem f_comp {elt tg iter : Expr} {ifs : List Expr} {scope : Scope} {own : List (Str × Nat)} {pos : Pos} {melt : ME} {t : MT} {mi : MI} {mo : MO} (hK : W.K = X.K) (hc : X.calm = true) (hN : X.N.Nodup) (hi : PI X tg iter (tI W G C Ew mi)) (ok : BlkOk X.N X.env.scope scope own)
    (hg : ∀ (s : Shared) (H : Hp) (C' : Addr) (cl : List (Str × Addr)) (fp : List Addr), PG (X.blk s H scope (compEnvC scope cl C' X.env) fp) tg (gT W G t)) (ht : ∀ (s : Shared) (H : Hp) (C' : Addr) (cl : List (Str × Addr)) (fp : List Addr), PTs (X.blk s H scope (compEnvC scope cl C' X.env) fp) ifs (tM W G C Ew0 mo))
    (he : ∀ (s : Shared) (H : Hp) (C' : Addr) (cl : List (Str × Addr)) (fp : List Addr), PE (X.blk s H scope (compEnvC scope cl C' X.env) fp) elt (tE W G C Ew0 melt)) (hs : ∀ x, foldedSetIterable iter X.env x = pure x)
    (hto : ∀ i ∈ t.ix, i ∈ own.map (·.2)) (hoG : ∀ i ∈ own.map (·.2), i ∉ G) : ∀ (σ : L2.St) (H : Hp) (Q : VK), tF W G C Ew (.comp (own.map (·.2)) melt t mi mo) σ H Q → tLc (tI W G C Ew mi) (gT W G t) (tM W G C Ew0 mo) (tE W G C Ew0 melt) (own.map (·.2)) σ H Q := by
  intro σ H Q ⟨c, O, ρ, S, st, h⟩
  rw [ev] at h
  generalize hw : own.map (·.2) = ow at *
  refine ⟨c, O, ρ, S, st, (Res.all_bind h).imp (fun items S1 h1 H1 J e1 c1 it D hD => ?_) fun _ _ _ h => h⟩
  generalize hf : (fun (x : PV) (S : Cup) => match bindT t x (wipeE ρ ow) with
      | Option.none => Res.bad
      | some ρ1 => (evT C mo ρ1 S).bind fun k S1 => if k = true then (ev C melt ρ1 S1).bind fun y S2 => Res.ok [y] S2 else Res.ok [] S1) = f at h1
  cases hfl : flatR f items S1 with
  | exn n l S' => exact absurd hfl (flatR_exn _ _)
  | bad => rw [hfl] at h1; exact h1.elim
  | ok ys S2 =>
    rw [hfl] at h1
    simp only [Res.bind] at h1
    split at h1
    case isFalse => exact h1.elim
    rename_i hlen
    have hcD : c.No D := c1.ne hD
    have st1 := st.ext e1 c1
    have hHD : H D = Option.none := Ext.none e1 hcD hD
    have Ph : ∀ {Hh : Hp} {Si : Cup}, Ext c H1 Hh → CupIs W Hh c Si → Hh D ≠ Option.none → StR W G c (D :: O) σ Hh ρ Si := fun e cu q => st1.add hD e cu q
    let Inv0 : Nat → Hp → Prop := fun i Hh => ∃ Si acc vs zs, Ext c H1 Hh ∧ CupIs W Hh c Si ∧ Hh D = some (.lst vs) ∧ RepL W Hh (D :: O) c acc vs ∧ flatR f (items.drop i) Si = .ok zs S2 ∧ acc ++ zs = ys
    refine ⟨fun i m Hh => m = items.length - i ∧ i ≤ items.length ∧ Inv0 i Hh, ⟨items.length, by omega, Nat.zero_le _, S1, [], [], ys, ExtO.new hD, c1.new hD, upd_same, .nil, by simpa using hfl, by simp⟩, ?_⟩
    rintro i m Hh ⟨rfl, hle, Si, acc, vs, zs, e2, c2, hDv, ra, hfr, hys⟩
    have stD := Ph e2 c2 (by rw [hDv]; simp)
    have itD : IterAt W.K (RepO W Hh (D :: O) c) J items := it.imp fun x v r => (r.own' hD).ext e2
    obtain ⟨hstop, hgo⟩ := iter_steps rfl stD.hit itD i
    rw [hK] at *
    by_cases hlt : i < items.length
    · refine .inr ⟨(hgo hlt).1, fun H' => Inv0 (i + 1) H', fun H' q => ⟨items.length - (i + 1), by omega, rfl, hlt, q⟩, fun x H' y => ?_⟩
      obtain ⟨pv, hpv, e3, c3, r3⟩ := (hgo hlt).2 x H' y
      have hdrop : items.drop i = pv :: items.drop (i + 1) := by
        rw [List.drop_eq_getElem_cons hlt]
        rw [List.getElem?_eq_getElem hlt] at hpv
        cases hpv; rfl
      rw [hdrop] at hfr
      obtain ⟨y1, Sn, z1, hf1, hf2, rfl⟩ := flatR_ok hfr
      have hf1' : f pv Si = .ok y1 Sn := hf1
      rw [← hf] at hf1'
      simp only at hf1'
      cases hb : bindT t pv (wipeE ρ ow) with
      | none => rw [hb] at hf1'; cases hf1'
      | some ρ1 =>
        rw [hb] at hf1'
        simp only at hf1'
        have stw := (stD.ext e3 c3).wipe ow hoG
        refine ⟨c, D :: O, wipeE ρ ow, Si, pv, stw, r3, ρ1, hb, fun σ2 st2 hw2 _ => ⟨?_, ?_⟩⟩
        · rw [hw2 ow hto, wipe_wipe]
        · refine ⟨c, D :: O, ρ1, Si, st2, ?_⟩
          cases hk : evT C mo ρ1 Si with
          | bad => rw [hk] at hf1'; cases hf1'
          | exn n l S' => rw [hk] at hf1'; cases hf1'
          | ok k S3 =>
            rw [hk] at hf1'
            simp only [Res.bind] at hf1'
            intro H3 e4 c4
            have st3 := st2.ext e4 c4
            cases k with
            | false =>
              simp only [Bool.false_eq_true, if_false] at hf1' ⊢
              cases hf1'
              have e5 : Ext c Hh H3 := e3.trans e4
              exact ⟨Sn, acc, vs, z1, e2.trans e5, c4, e5.at hcD hDv, ra.ext e5, hf2, hys⟩
            | true =>
              simp only [if_true] at hf1' ⊢
              refine ⟨c, D :: O, ρ1, S3, st3, ?_⟩
              cases hv : ev C melt ρ1 S3 with
              | bad => rw [hv] at hf1'; cases hf1'
              | exn n l S' => rw [hv] at hf1'; cases hf1'
              | ok yv S4 =>
                rw [hv] at hf1'
                simp only [Res.bind] at hf1'
                cases hf1'
                intro H4 z e5 c5 r5
                have e6 : Ext c Hh H4 := e3.trans (e4.trans e5)
                have hD4 := e6.at hcD hDv
                have hal := ra.length
                refine ⟨vs, hD4, ?_, Sn, acc ++ [yv], vs ++ [z], z1, Ext.past (e2.trans e6) hD, c5.upd hcD hD4, upd_same, ?_, hf2, ?_⟩
                · have : ys.length = acc.length + (1 + z1.length) := by rw [← hys]; simp; omega
                  rw [← lineN_eq]
                  show _ < 16777216
                  have h0 : ys.length ≤ 16777216 := hlen
                  omega
                · exact ((ra.ext e6).append (.cons r5 .nil)).extO (ExtO.ownd List.mem_cons_self)
                · rw [← hys]; simp
    · have hi : i = items.length := by omega
      subst hi
      refine .inl ⟨hstop rfl, ?_⟩
      rw [List.drop_length] at hfr
      cases hfr
      rw [List.append_nil] at hys
      subst hys
      exact h1 Hh D vs acc (e1.trans e2) c2 rfl hHD hDv ra
end
end Py

set_option Elab.async false
set_option linter.all false
set_option maxRecDepth 100000
set_option maxHeartbeats 4000000
/-! Py: statements. -/
namespace Py
@[local simp] theorem ub_K {α β : Type} (r : Res α) (f : α → Cup → Res β) : r.bind f = (match r with | .ok a S => f a S | .exn c l S => .exn c l S | .bad => .bad) := rfl
@[local simp] theorem uo_K {α : Type} (o : Option α) (S : Cup) : Res.of o S = (match o with | some a => .ok a S | none => .bad) := rfl
@[local simp] theorem uu_K {α : Type} (r : Res α) (f : α → Cup → Out) : r.out f = (match r with | .ok a S => f a S | .exn c l S => .exn c l S | .bad => .bad) := rfl
@[local simp] theorem us_K (o : Out) (f : Env → Cup → Out) : o.seq f = (match o with | .next ρ S => f ρ S | o => o) := rfl
open PySem PySem.Spec PyProof.Rows L2
/-- a def's frame: the cup's place, the lists that its callers own, the heap at its entry; whether its answer must be new -/
structure Fr where
  c0 : Cu
  O0 : List Addr
  H0 : Hp
  fr : Bool
  kp : List (PV × V)
def Fr.CC (F : Fr) (c : Cu) : Prop := c = F.c0 ∨ (F.c0.a = none ∧ c.T = F.c0.T ∧ ∃ p, c.a = some p ∧ F.H0 p = none)
structure StS (W : Wd) (G : List Nat) (F : Fr) (c : Cu) (O : List Addr) (σ : L2.St) (H : Hp) (ρ : Env) (S : Cup) : Prop where
  st : StR W G c O σ H ρ S
  sub : ∀ a ∈ F.O0, a ∈ O
  new : ∀ a ∈ O, a ∈ F.O0 ∨ F.H0 a = none
  ext : Ext F.c0 F.H0 H
  cc : F.CC c
  ofr : ∀ (i : Nat) (a : Addr) pv, i ∈ G → ρ[i]? = some (some pv) → σ[i]? = some (some (.ref a)) → a ∉ F.O0 ∧ F.H0 a = none
  kp : ∀ q ∈ F.kp, Rep W H O c q.1 q.2
/-- what a def's answer is -/
def RetOk (W : Wd) (F : Fr) (H : Hp) (S : Cup) (pv : PV) (z : V) : Prop := Ext F.c0 F.H0 H ∧ ∃ c, F.CC c ∧ CupIs W H c S ∧ Rep W H F.O0 c pv z ∧ (F.fr = true → ∃ p vs xs, pv = .lst xs ∧ z = .ref p ∧ F.H0 p = none ∧ H p = some (.lst vs) ∧ RepL W H (p :: F.O0) c xs vs)
def ExnOk (W : Wd) (F : Fr) (H : Hp) (S : Cup) : Prop := Ext F.c0 F.H0 H ∧ ∃ c, F.CC c ∧ CupIs W H c S
def OutOk (W : Wd) (G : List Nat) (F : Fr) (Ew : Wish) (D : Ends) : Out → Prop
  | .next ρ S => ∀ σ H c O, StS W G F c O σ H ρ S → D.nx σ H
  | .brk ρ S => ∀ σ H c O, StS W G F c O σ H ρ S → D.bk σ H
  | .cont ρ S => ∀ σ H c O, StS W G F c O σ H ρ S → D.ct σ H
  | .ret pv S => ∀ H z, RetOk W F H S pv z → D.rt z H
  | .exn n l S => ∀ H, ExnOk W F H S → Ew n l H
  | .bad => False
def tS (W : Wd) (G : List Nat) (C : Calls) (F : Fr) (Ew : Wish) (m : MS) : TS := fun D σ H => ∃ c O ρ S, StS W G F c O σ H ρ S ∧ OutOk W G F Ew D (run C m ρ S)
def tB (W : Wd) (G : List Nat) (C : Calls) (F : Fr) (Ew : Wish) (m : MB) : TS := fun D σ H => ∃ c O ρ S, StS W G F c O σ H ρ S ∧ OutOk W G F Ew D (runs C m ρ S)
theorem _root_.L2.PS.imp {X : Cx} {st : Stmt} {t t' : TS} (h : PS X st t) (f : ∀ D σ H, t' D σ H → t D σ H) : PS X st t' := ⟨fun pins s σ H D I q => h.run pins s σ H D I (f _ _ _ q)⟩
theorem _root_.L2.PSs.imp {X : Cx} {st : List Stmt} {t t' : TS} (h : PSs X st t) (f : ∀ D σ H, t' D σ H → t D σ H) : PSs X st t' := ⟨fun pins s σ H D I q => h.run pins s σ H D I (f _ _ _ q)⟩
section
variable {W : Wd} {G : List Nat} {F : Fr} {c : Cu} {O : List Addr} {σ : L2.St} {H H' : Hp} {ρ : Env} {S S' : Cup} {Ew : Wish} {D : Ends} {i : Nat}
theorem Fr.CC.ext {F : Fr} (cc : F.CC c) (e0 : Ext F.c0 F.H0 H) (e : Ext c H H') : Ext F.c0 F.H0 H' := by
  rcases cc with rfl | ⟨h0, hT, p, hc, hp⟩
  · exact e0.trans e
  · intro a o n m q
    refine e a o ⟨fun z => ?_, by rw [hT]; exact n.2⟩ m (e0 a o n m q)
    rw [hc] at z
    cases z
    rw [hp] at q; cases q
theorem StS.to (s : StS W G F c O σ H ρ S) (st : StR W G c O σ H' ρ S') (e : Ext c H H') : StS W G F c O σ H' ρ S' := ⟨st, s.sub, s.new, s.cc.ext s.ext e, s.cc, s.ofr, fun q hq => (s.kp q hq).ext e⟩
theorem StS.set (s : StS W G F c O σ H ρ S) {i : Nat} {pv : PV} {v : V} (hi : i ∉ G) (r : Rep W H O c pv v) : StS W G F c O (σ.set i (some v)) H (ρ.set i (some pv)) S :=
  ⟨s.st.set hi r, s.sub, s.new, s.ext, s.cc, fun j a qv hj h1 h2 => by
    have e : i ≠ j := fun z => hi (z ▸ hj)
    rw [List.getElem?_set_ne e] at h1 h2
    exact s.ofr j a qv hj h1 h2, s.kp⟩
theorem StS.sets (s : StS W G F c O σ H ρ S) : ∀ (is : List Nat) (pvs : List PV) (vs : List V) {σ : L2.St} {ρ : Env}, StS W G F c O σ H ρ S → (∀ i ∈ is, i ∉ G) → RepL W H O c pvs vs → StS W G F c O (setS σ (is.zip vs)) H ((is.zip pvs).foldl (fun r p => r.set p.1 (some p.2)) ρ) S
  | [], _, _, _, _, st, _, _ => by simpa [setS] using st
  | i :: is, _, _, _, _, st, hi, .nil => by simpa [setS] using st
  | i :: is, _, _, _, _, st, hi, .cons r l => by
    rw [List.zip_cons_cons, List.zip_cons_cons, setS, List.foldl_cons]
    exact StS.sets s is _ _ (st.set (hi i List.mem_cons_self) r) (fun j hj => hi j (List.mem_cons_of_mem _ hj)) l
/-- slot i is no longer an own one -/
def thaw (G : List Nat) (i : Nat) : List Nat := G.filter (· != i)
theorem mem_thaw {i j : Nat} : j ∈ thaw G i ↔ j ∈ G ∧ j ≠ i := by simp [thaw]
theorem StS.frz (s : StS W G F c O σ H ρ S) {i : Nat} (hi : i ∈ G) : ∃ O', StS W (thaw G i) F c O' σ H ρ S := by
  by_cases known : ∃ pv, ρ[i]? = some (some pv)
  · obtain ⟨pv, hpv⟩ := known
    obtain ⟨xs, a, vs, rfl, h2, h3, h4, h5⟩ := s.st.own i pv hpv hi
    have sb : ∀ b ∈ O.filter (· != a), b ∈ O := fun b hb => (List.mem_filter.mp hb).1
    have na : a ∉ O.filter (· != a) := fun hb => by simpa using (List.mem_filter.mp hb).2
    have inO : ∀ {b}, b ∈ O → b ≠ a → b ∈ O.filter (· != a) := fun hb hne => List.mem_filter.mpr ⟨hb, by simpa using hne⟩
    refine ⟨O.filter (· != a), ⟨s.st.len, fun j qv hj hg => ?_, fun j qv hj hg => ?_, fun j k qv rv b hj hk => s.st.sep j k qv rv b (mem_thaw.mp hj).1 (mem_thaw.mp hk).1, s.st.cup, fun b hb => s.st.tr b (sb b hb), fun b hb => s.st.co b (sb b hb)⟩, fun b hb => inO (s.sub b hb) fun z => (s.ofr i a _ hi hpv h2).1 (z ▸ hb), fun b hb => s.new b (sb b hb), s.ext, s.cc, fun j b qv hj => s.ofr j b qv (mem_thaw.mp hj).1, fun q hq => (s.kp q hq).sub sb⟩
    · by_cases e : j = i
      · subst e
        rw [hpv] at hj
        cases hj
        exact ⟨.ref a, h2, .lst (s.st.co a h3) na h4 (h5.sub sb)⟩
      · obtain ⟨v, q1, q2⟩ := s.st.gen j qv hj fun q => hg (mem_thaw.mpr ⟨q, e⟩)
        exact ⟨v, q1, q2.sub sb⟩
    · obtain ⟨g1, g2⟩ := mem_thaw.mp hg
      obtain ⟨ys, b, ws, q1, q2, q3, q4, q5⟩ := s.st.own j qv hj g1
      refine ⟨ys, b, ws, q1, q2, inO q3 fun z => ?_, q4, q5.sub sb⟩
      exact s.st.sep i j _ qv a hi g1 (Ne.symm g2) hpv hj h2 (z ▸ q2)
  · refine ⟨O, ⟨s.st.len, fun j qv hj hg => s.st.gen j qv hj fun q => hg (mem_thaw.mpr ⟨q, fun e => known ⟨qv, e ▸ hj⟩⟩), fun j qv hj hg => s.st.own j qv hj (mem_thaw.mp hg).1, fun j k qv rv b hj hk => s.st.sep j k qv rv b (mem_thaw.mp hj).1 (mem_thaw.mp hk).1, s.st.cup, s.st.tr, s.st.co⟩, s.sub, s.new, s.ext, s.cc, fun j b qv hj => s.ofr j b qv (mem_thaw.mp hj).1, s.kp⟩
theorem StS.thawed (s : StS W (thaw G i) F c O σ H ρ S) (hi : i ∈ G) : StS W G F c O σ H (ρ.set i none) S := by
  have ne : ∀ {j : Nat} {pv : PV}, (ρ.set i none)[j]? = some (some pv) → j ≠ i ∧ ρ[j]? = some (some pv) := fun {j pv} h => by
    by_cases e : j = i
    · subst e
      rw [List.getElem?_set] at h
      simp at h
    · rw [List.getElem?_set_ne (Ne.symm e)] at h
      exact ⟨e, h⟩
  refine ⟨⟨by rw [List.length_set]; exact s.st.len, fun j qv hj hg => ?_, fun j qv hj hg => ?_, fun j k qv rv b hj hk n h1 h2 => ?_, s.st.cup, s.st.tr, s.st.co⟩, s.sub, s.new, s.ext, s.cc, fun j b qv hj h1 => ?_, s.kp⟩
  · exact s.st.gen j qv (ne hj).2 fun q => hg (mem_thaw.mp q).1
  · exact s.st.own j qv (ne hj).2 (mem_thaw.mpr ⟨hg, (ne hj).1⟩)
  · exact s.st.sep j k qv rv b (mem_thaw.mpr ⟨hj, (ne h1).1⟩) (mem_thaw.mpr ⟨hk, (ne h2).1⟩) n (ne h1).2 (ne h2).2
  · exact s.ofr j b qv (mem_thaw.mpr ⟨hj, (ne h1).1⟩) (ne h1).2
theorem OutOk.thaw {o : Out} (h : OutOk W G F Ew D (o.forget i)) (hi : i ∈ G) : OutOk W (thaw G i) F Ew D o := by
  cases o with
  | next ρ S => exact fun σ H c O s => h σ H c O (s.thawed hi)
  | brk ρ S => exact fun σ H c O s => h σ H c O (s.thawed hi)
  | cont ρ S => exact fun σ H c O s => h σ H c O (s.thawed hi)
  | ret v S => exact h
  | exn n l S => exact h
  | bad => exact h
theorem tB_frz {C : Calls} {b : MB} (hi : i ∈ G) (h : tB W G C F Ew (.frz i b) D σ H) : tB W (Py.thaw G i) C F Ew b D σ H := by
  obtain ⟨c, O, ρ, S, s, q⟩ := h
  obtain ⟨O', s'⟩ := s.frz hi
  rw [runs] at q
  exact ⟨c, O', ρ, S, s', q.thaw hi⟩
/-- a new list becomes owned -/
theorem StS.own (s : StS W G F c O σ H ρ S) (e : Ext c H H') (cu : CupIs W H' c S') {p : Addr} {vs : List V} (hn : H p = none) (hp : H' p = some (.lst vs)) : StS W G F c (p :: O) σ H' ρ S' :=
  ⟨s.st.add hn e cu (by rw [hp]; simp), fun a ha => List.mem_cons_of_mem _ (s.sub a ha), fun a ha => by
    rcases List.mem_cons.mp ha with rfl | ha
    · right
      cases q : F.H0 a with
      | none => rfl
      | some o =>
        have hc : F.c0.No a := by
          rcases s.cc with z | ⟨z, zT, _⟩
          · rw [← z]; exact s.st.cup.ne hn
          · exact ⟨(by rw [z]; intro y; cases y), by rw [← zT]; exact (s.st.cup.ne hn).2⟩
        rw [s.ext.at hc q] at hn; cases hn
    · exact s.new a ha, s.cc.ext s.ext e, s.cc, s.ofr, fun q hq => ((s.kp q hq).own hn).ext e⟩
/-- an owned list is put into its slot -/
theorem StS.put (s : StS W G F c O σ H ρ S) {i : Nat} {p : Addr} {xs : List PV} {vs : List V} (hi : i ∈ G) (hO : p ∈ O) (h0 : p ∉ F.O0 ∧ F.H0 p = none) (hp : H p = some (.lst vs)) (r : RepL W H O c xs vs)
    (sep : ∀ j ∈ G, j ≠ i → ∀ pv, ρ[j]? = some (some pv) → σ[j]? ≠ some (some (.ref p))) : StS W G F c O (σ.set i (some (.ref p))) H (ρ.set i (some (.lst xs))) S := by
  refine ⟨⟨by rw [List.length_set, List.length_set]; exact s.st.len, fun j qv hj hg => ?_, fun j qv hj hg => ?_, fun j k pv qv x hj hk hjk h1 h2 h3 => ?_, s.st.cup, s.st.tr, s.st.co⟩, s.sub, s.new, s.ext, s.cc, fun j a qv hj h1 h2 => ?_, s.kp⟩
  · have e : i ≠ j := fun z => hg (z ▸ hi)
    rw [List.getElem?_set_ne e] at hj ⊢
    exact s.st.gen j qv hj hg
  · by_cases e : i = j
    · subst e
      have hl : i < ρ.length := by
        rcases Nat.lt_or_ge i ρ.length with z | z
        · exact z
        · rw [List.getElem?_eq_none (by simpa using z)] at hj; cases hj
      rw [List.getElem?_set_self hl] at hj
      cases hj
      exact ⟨xs, p, vs, rfl, List.getElem?_set_self (by rw [s.st.len]; exact hl), hO, hp, r⟩
    · rw [List.getElem?_set_ne e] at hj ⊢
      exact s.st.own j qv hj hg
  · by_cases e1 : i = j
    · subst e1
      rw [List.getElem?_set_ne hjk] at h2 ⊢
      have hl : i < σ.length := by
        rcases Nat.lt_or_ge i σ.length with z | z
        · exact z
        · rw [List.getElem?_eq_none (by simpa using z)] at h3; cases h3
      rw [List.getElem?_set_self hl] at h3
      cases h3
      exact sep k hk (Ne.symm hjk) qv h2
    · rw [List.getElem?_set_ne e1] at h1 h3
      by_cases e2 : i = k
      · subst e2
        intro q
        have hl : i < σ.length := by
          rcases Nat.lt_or_ge i σ.length with z | z
          · exact z
          · rw [List.getElem?_eq_none (by simpa using z)] at q; cases q
        rw [List.getElem?_set_self hl] at q
        cases q
        exact sep j hj (Ne.symm e1) pv h1 h3
      · rw [List.getElem?_set_ne e2] at h2 ⊢
        exact s.st.sep j k pv qv x hj hk hjk h1 h2 h3
  · by_cases e : i = j
    · subst e
      have hl : i < σ.length := by
        rcases Nat.lt_or_ge i σ.length with z | z
        · exact z
        · rw [List.getElem?_eq_none (by simpa using z)] at h2; cases h2
      rw [List.getElem?_set_self hl] at h2
      cases h2
      exact h0
    · rw [List.getElem?_set_ne e] at h1 h2
      exact s.ofr j a qv hj h1 h2
/-- an owned list is changed where it stands -/
theorem StS.chg (s : StS W G F c O σ H ρ S) {i : Nat} {p : Addr} {xs xs' : List PV} {vs' : List V} (hi : i ∈ G) (hr : ρ[i]? = some (some (.lst xs))) (hs : σ[i]? = some (some (.ref p))) (r : RepL W H O c xs' vs') :
    StS W G F c O σ (L2.upd H p (.lst vs')) (ρ.set i (some (.lst xs'))) S := by
  obtain ⟨xs0, a, vs0, e0, h2, h3, h4, h5⟩ := s.st.own i _ hr hi
  rw [hs] at h2
  cases h2
  have hOd : ExtO O c H (L2.upd H p (.lst vs')) := ExtO.ownd h3
  have hl : i < ρ.length := by
    rcases Nat.lt_or_ge i ρ.length with z | z
    · exact z
    · rw [List.getElem?_eq_none (by simpa using z)] at hr; cases hr
  have h0 := s.ofr i p _ hi hr hs
  refine ⟨⟨by rw [List.length_set]; exact s.st.len, fun j qv hj hg => ?_, fun j qv hj hg => ?_, fun j k pv qv x hj hk hjk h1 h2 h3 => ?_, s.st.cup.upd (s.st.co p h3) h4, fun a ha z => ?_, s.st.co⟩, s.sub, s.new, s.ext.past h0.2, s.cc, fun j a qv hj h1 h2 => ?_, fun q hq => (s.kp q hq).extO hOd⟩
  · have e : i ≠ j := fun z => hg (z ▸ hi)
    rw [List.getElem?_set_ne e] at hj
    obtain ⟨v, h1, h2⟩ := s.st.gen j qv hj hg
    exact ⟨v, h1, h2.extO hOd⟩
  · by_cases e : i = j
    · subst e
      rw [List.getElem?_set_self hl] at hj
      cases hj
      exact ⟨xs', p, vs', rfl, hs, h3, upd_same, r.extO hOd⟩
    · rw [List.getElem?_set_ne e] at hj
      obtain ⟨ys, b, ws, q1, q2, q3, q4, q5⟩ := s.st.own j qv hj hg
      have hb : b ≠ p := fun z => s.st.sep i j _ _ p hi hg e hr hj hs (z ▸ q2)
      exact ⟨ys, b, ws, q1, q2, q3, by rw [upd_ne hb]; exact q4, q5.extO hOd⟩
  · have g : ∀ (j : Nat) (pv : PV), (ρ.set i (some (.lst xs')))[j]? = some (some pv) → ∃ pv', ρ[j]? = some (some pv') := fun j pv q => by
      by_cases e : i = j
      · subst e; exact ⟨_, hr⟩
      · rw [List.getElem?_set_ne e] at q; exact ⟨_, q⟩
    obtain ⟨_, g1⟩ := g j pv h1
    obtain ⟨_, g2⟩ := g k qv h2
    exact s.st.sep j k _ _ x hj hk hjk g1 g2 h3
  · by_cases e : a = p
    · subst e; rw [upd_same] at z; cases z
    · rw [upd_ne e] at z; exact s.st.tr a ha z
  · by_cases e : i = j
    · subst e; exact s.ofr i a _ hi hr h2
    · rw [List.getElem?_set_ne e] at h1
      exact s.ofr j a qv hj h1 h2
/-- the cup is changed -/
theorem StS.fill {ab : Int × Int} (s : StS W G F c O σ H ρ (some ab)) {p : Addr} (hc : c.a = some p) {x y : Int} : StS W G F c O σ (L2.upd H p (.lst [.int x, .int y])) ρ (some (x, y)) := by
  have hOd : ExtO O c H (L2.upd H p (.lst [.int x, .int y])) := ExtO.cupd hc
  have ne : ∀ a ∈ O, a ≠ p := fun a ha z => (s.st.co a ha).1 (by rw [z]; exact hc)
  refine ⟨⟨s.st.len, fun j qv hj hg => ?_, fun j qv hj hg => ?_, s.st.sep, s.st.cup.fill (s' := (x, y)) hc, fun a ha => ?_, s.st.co⟩, s.sub, s.new, ?_, s.cc, s.ofr, fun q hq => (s.kp q hq).extO hOd⟩
  · obtain ⟨v, h1, h2⟩ := s.st.gen j qv hj hg
    exact ⟨v, h1, h2.extO hOd⟩
  · obtain ⟨ys, b, ws, q1, q2, q3, q4, q5⟩ := s.st.own j qv hj hg
    exact ⟨ys, b, ws, q1, q2, q3, by rw [upd_ne (ne b q3)]; exact q4, q5.extO hOd⟩
  · rw [upd_ne (ne a ha)]; exact s.st.tr a ha
  · exact s.cc.ext s.ext (ExtO.cupd hc)
theorem out_all {α : Type} {r : Res α} {f : α → Cup → Out} (h : OutOk W G F Ew D (r.out f)) : r.all (fun a S => OutOk W G F Ew D (f a S)) (fun n l S => ∀ H, ExnOk W F H S → Ew n l H) := by
  cases r with
  | ok a S => exact h
  | exn n l S => exact h
  | bad => exact h
theorem StS.exn (s : StS W G F c O σ H ρ S) (e : Ext c H H') (cu : CupIs W H' c S') : ExnOk W F H' S' := ⟨s.cc.ext s.ext e, c, s.cc, cu⟩
theorem out_ofR {α : Type} {o : Option α} {S : Cup} {f : α → Cup → Out} (h : OutOk W G F Ew D ((Res.of o S).out f)) : ∃ a, o = some a ∧ OutOk W G F Ew D (f a S) := by
  cases o with
  | none => exact h.elim
  | some a => exact ⟨a, rfl, h⟩
end
section
variable {X : Cx} {W : Wd} {G : List Nat} {C : Calls} {F : Fr} {Ew : Wish} {a b d : Expr} {ma mb md : ME} {ms : MEs} {es : List Expr} {pos : Pos} {st1 st2 : Stmt} {stl : List Stmt} {b1 b2 : MB}
variable {σ : L2.St} {H : Hp} {c : Cu} {O : List Addr} {ρ : Env} {S : Cup}
/-- an expression within a statement -/
theorem rsE (s : StS W G F c O σ H ρ S) {R : VK} (q : (ev C ma ρ S).all (fun pv S' => ∀ z H', StS W G F c O σ H' ρ S' → Rep W H' O c pv z → R z H') (fun n l S => ∀ H, ExnOk W F H S → Ew n l H)) : tE W G C Ew ma σ H R :=
  rdE s.st (q.imp (fun pv S' q z H' e st r => q z H' (s.to st e) r) fun n l S' q H' e cu => q H' (s.exn e cu))
theorem rsO (s : StS W G F c O σ H ρ S) {R : VK} (q : (ev C ma ρ S).all (fun pv S' => ∀ z H', StS W G F c O σ H' ρ S' → RepO W H' O c pv z → R z H') (fun n l S => ∀ H, ExnOk W F H S → Ew n l H)) : tO W G C Ew ma σ H R :=
  rdO s.st (q.imp (fun pv S' q z H' e st r => q z H' (s.to st e) r) fun n l S' q H' e cu => q H' (s.exn e cu))
theorem rsT (s : StS W G F c O σ H ρ S) {R : Bool → Hp → Prop} (q : ((ev C ma ρ S).bind fun x S1 => Res.of (truthV x) S1).all (fun k S' => ∀ H', StS W G F c O σ H' ρ S' → R k H') (fun n l S => ∀ H, ExnOk W F H S → Ew n l H)) : tT W G C Ew ma σ H R :=
  ⟨c, O, ρ, S, s.st, q.imp (fun k S' q H' e cu => q H' (s.to (s.st.ext e cu) e)) fun n l S' q H' e cu => q H' (s.exn e cu)⟩
theorem rsF (s : StS W G F c O σ H ρ S) {R : VK} (q : (ev C ma ρ S).all (fun pv S' => isLst pv = true → ∀ p H' xs vs, pv = .lst xs → F.H0 p = none → p ∉ F.O0 → (∀ j pv, ρ[j]? = some (some pv) → j ∈ G → σ[j]? ≠ some (some (.ref p))) → StS W G F c (p :: O) σ H' ρ S' → H' p = some (.lst vs) → RepL W H' (p :: O) c xs vs → R (.ref p) H') (fun n l S => ∀ H, ExnOk W F H S → Ew n l H)) : tF W G C Ew ma σ H R := by
  refine ⟨c, O, ρ, S, s.st, q.imp (fun pv S' q H' p vs xs e cu ex hn hp r => ?_) fun n l S' q H' e cu => q H' (s.exn e cu)⟩
  have s' := s.own e cu hn hp
  have hno : p ∉ O := fun m => s.st.tr p m hn
  refine q (by rw [ex]; rfl) p H' xs vs ex ?_ (fun m => hno (s.sub p m)) (fun j qv hj hg z => ?_) s' hp r
  · rcases s'.new p List.mem_cons_self with z | z
    · exact absurd (s.sub p z) hno
    · exact z
  · obtain ⟨ys, b, ws, q1, q2, q3, q4, q5⟩ := s.st.own j qv hj hg
    rw [z] at q2
    cases q2
    exact hno q3
theorem s_set {i : Nat} {te : TE} (hr : ∀ σ H Q, tE W G C Ew ma σ H Q → te σ H Q) (h : PS X st1 (tAsg te (gName i))) (hi : i ∉ G) : PS X st1 (tS W G C F Ew (.set i ma)) := h.imp fun D σ H ⟨c, O, ρ, S, s, q⟩ => by
  rw [run] at q
  refine hr _ _ _ (rsE s ((out_all q).imp (fun pv S1 q z H1 s1 r => ?_) fun _ _ _ h => h))
  exact q _ _ _ _ (s1.set hi r)
theorem s_setO {i : Nat} {te : TE} (hr : ∀ σ H Q, tF W G C Ew ma σ H Q → te σ H Q) (h : PS X st1 (tAsg te (gName i))) (hi : i ∈ G) : PS X st1 (tS W G C F Ew (.setO i ma)) := h.imp fun D σ H ⟨c, O, ρ, S, s, q⟩ => by
  rw [run] at q
  refine hr _ _ _ (rsF s ((out_all q).imp (fun pv S1 q hl p H1 xs vs ex h0 hO hj s1 hp r => ?_) fun _ _ _ h => h))
  rw [if_pos hl] at q
  subst ex
  exact q _ _ _ _ (s1.put hi List.mem_cons_self ⟨hO, h0⟩ hp r fun j hg _ qv hjr => hj j qv hjr hg)
theorem s_expr {te : TE} (hr : ∀ σ H Q, tE W G C Ew ma σ H Q → te σ H Q) (h : PS X st1 (tDrop te)) : PS X st1 (tS W G C F Ew (.expr ma)) := h.imp fun D σ H ⟨c, O, ρ, S, s, q⟩ => by
  rw [run] at q
  refine hr _ _ _ (rsE s ((out_all q).imp (fun pv S1 q z H1 s1 r => ?_) fun _ _ _ h => h))
  exact q _ _ _ _ s1
theorem s_pass : PS X (.Pass pos) (tS W G C F Ew .pass) := ps_pass.imp fun D σ H ⟨c, O, ρ, S, s, q⟩ => by
  rw [run] at q
  exact q _ _ _ _ s
theorem s_brk : PS X (.Break pos) (tS W G C F Ew .brk) := ps_break.imp fun D σ H ⟨c, O, ρ, S, s, q⟩ => by
  rw [run] at q
  exact q _ _ _ _ s
theorem s_cont : PS X (.Continue pos) (tS W G C F Ew .cont) := ps_continue.imp fun D σ H ⟨c, O, ρ, S, s, q⟩ => by
  rw [run] at q
  exact q _ _ _ _ s
theorem b_nil : PSs X [] (tB W G C F Ew .nil) := pss_nil.imp fun D σ H ⟨c, O, ρ, S, s, q⟩ => by
  rw [runs] at q
  exact q _ _ _ _ s
theorem b_cons {m : MS} (h1 : PS X st1 (tS W G C F Ew m)) (h2 : PSs X stl (tB W G C F Ew b1)) : PSs X (st1 :: stl) (tB W G C F Ew (.cons m b1)) := (pss_cons h1 h2).imp fun D σ H ⟨c, O, ρ, S, s, q⟩ => by
  rw [runs] at q
  refine ⟨c, O, ρ, S, s, ?_⟩
  cases hr : run C m ρ S with
  | next ρ1 S1 => rw [hr] at q; exact fun σ1 H1 c1 O1 s1 => ⟨c1, O1, ρ1, S1, s1, q⟩
  | ret v S1 => rw [hr] at q; exact q
  | brk ρ1 S1 => rw [hr] at q; exact q
  | cont ρ1 S1 => rw [hr] at q; exact q
  | exn n l S1 => rw [hr] at q; exact q
  | bad => rw [hr] at q; exact q
theorem s_ite (hd : PT X d (tT W G C Ew md)) (ha : PSs X stl (tB W G C F Ew b1)) {stl2 : List Stmt} (hb : PSs X stl2 (tB W G C F Ew b2)) : PS X (.If d stl stl2 pos) (tS W G C F Ew (.ite md b1 b2)) := (ps_if hd ha hb).imp fun D σ H ⟨c, O, ρ, S, s, q⟩ => by
  rw [run] at q
  refine rsT s ?_
  revert q
  cases ev C md ρ S with
  | bad => exact fun q => q
  | exn n l S1 => exact fun q => q
  | ok x S1 =>
    intro q
    obtain ⟨k, hk, q⟩ := out_ofR q
    simp only [Res.bind, Res.of, hk]
    intro H' s'
    cases k with
    | true => exact ⟨c, O, ρ, S1, s', q⟩
    | false => exact ⟨c, O, ρ, S1, s', q⟩
/-- return of a value -/
theorem s_ret {te : TE} (hr : ∀ σ H Q, tE W G C Ew ma σ H Q → te σ H Q) (h : PS X st1 (tRet te)) (hf : F.fr = false) : PS X st1 (tS W G C F Ew (.ret ma)) := h.imp fun D σ H ⟨c, O, ρ, S, s, q⟩ => by
  rw [run] at q
  refine hr _ _ _ (rsE s ((out_all q).imp (fun pv S1 q z H1 s1 r => ?_) fun _ _ _ h => h))
  exact q H1 z ⟨s1.ext, c, s1.cc, s1.st.cup, r.sub s1.sub, fun z => by rw [hf] at z; cases z⟩
theorem s_retN (hf : F.fr = false) : PS X (.Return none pos) (tS W G C F Ew .retN) := ps_retN.imp fun D σ H ⟨c, O, ρ, S, s, q⟩ => by
  rw [run] at q
  exact q H .non ⟨s.ext, c, s.cc, s.st.cup, .non, fun z => by rw [hf] at z; cases z⟩
/-- what is never reached -/
theorem s_never : PS X st1 (tS W G C F Ew .never) := ps_never.imp fun D σ H ⟨c, O, ρ, S, s, q⟩ => by
  rw [run] at q
  exact q
/-- .. of an owned list -/
theorem s_retO {i : Nat} {x : Str} {p : Pos} (h : PE X (.Name x p) (tVar i)) (hf : F.fr = false) (hi : i ∈ G) : PS X (.Return (some (.Name x p)) pos) (tS W G C F Ew (.ret (.own i))) := (ps_ret h).imp fun D σ H ⟨c, O, ρ, S, s, q⟩ => by
  rw [run] at q
  have q := out_all q
  rw [ev] at q
  split at q
  · rename_i v hv
    obtain ⟨xs, a, vs, rfl, h2, h3, h4, h5⟩ := s.st.own i v hv hi
    exact ⟨_, h2, q H _ ⟨s.ext, c, s.cc, s.st.cup, .lst (s.st.co a h3) (s.ofr i a _ hi hv h2).1 h4 (h5.sub s.sub), fun z => by rw [hf] at z; cases z⟩⟩
  · exact q.elim
/-- .. of a new list -/
theorem s_retF {te : TE} (hr : ∀ σ H Q, tF W G C Ew ma σ H Q → te σ H Q) (h : PS X st1 (tRet te)) : PS X st1 (tS W G C F Ew (.retF ma)) := h.imp fun D σ H ⟨c, O, ρ, S, s, q⟩ => by
  rw [run] at q
  refine hr _ _ _ (rsF s ((out_all q).imp (fun pv S1 q hl p H1 xs vs ex h0 hO hj s1 hp r => ?_) fun _ _ _ h => h))
  rw [if_pos hl] at q
  have rs : RepL W H1 (p :: F.O0) c xs vs := r.sub fun a ha => by
    rcases List.mem_cons.mp ha with rfl | ha
    · exact List.mem_cons_self
    · exact s1.sub a ha
  exact q H1 _ ⟨s1.ext, c, s1.cc, s1.st.cup, by rw [ex]; exact .lst (s1.st.co p List.mem_cons_self) hO hp (rs.sub fun a ha => List.mem_cons_of_mem _ ha), fun _ => ⟨p, vs, xs, ex, rfl, h0, hp, rs⟩⟩
/-- .. of an owned list, as a new one -/
theorem s_retFO {i : Nat} {x : Str} {p : Pos} (h : PE X (.Name x p) (tVar i)) (hi : i ∈ G) : PS X (.Return (some (.Name x p)) pos) (tS W G C F Ew (.retF (.own i))) := (ps_ret h).imp fun D σ H ⟨c, O, ρ, S, s, q⟩ => by
  rw [run] at q
  have q := out_all q
  rw [ev] at q
  split at q
  · rename_i v hv
    obtain ⟨xs, a, vs, rfl, h2, h3, h4, h5⟩ := s.st.own i v hv hi
    obtain ⟨n1, n2⟩ := s.ofr i a _ hi hv h2
    have q : OutOk W G F Ew D (.ret (.lst xs) S) := q
    have rs : RepL W H (a :: F.O0) c xs vs := h5.sub fun b hb => by
      rcases List.mem_cons.mp hb with rfl | hb
      · exact h3
      · exact s.sub b hb
    exact ⟨_, h2, q H _ ⟨s.ext, c, s.cc, s.st.cup, .lst (s.st.co a h3) n1 h4 (h5.sub s.sub), fun _ => ⟨a, vs, xs, rfl, rfl, n2, h4, rs⟩⟩⟩
  · exact q.elim

/-! ### several targets -/
theorem s_unp {is : List Nat} {te : TE} {g : TG} {tg : Expr} (hr : ∀ σ H Q, tE W G C Ew ma σ H Q → te σ H Q) (h : PS X st1 (tAsg te g)) (hg : ∀ v σ H Q, gT W G (.tup is) v σ H Q → g v σ H Q) (hi : ∀ i ∈ is, i ∉ G) : PS X st1 (tS W G C F Ew (.unp is ma)) := h.imp fun D σ H ⟨c, O, ρ, S, s, q⟩ => by
  rw [run] at q
  refine hr _ _ _ (rsE s ((out_all q).imp (fun pv S1 q z H1 s1 r => ?_) fun _ _ _ h => h))
  cases hb : bindT (.tup is) pv ρ with
  | none => rw [hb] at q; exact q.elim
  | some ρ1 =>
    rw [hb] at q
    refine hg _ _ _ _ ⟨c, O, ρ, S1, pv, s1.st, r, ρ1, hb, fun σ' st' _ hs => q _ _ _ _ ⟨st', s1.sub, s1.new, s1.ext, s1.cc, fun i a qv hG h1 h2 => ?_, s1.kp⟩⟩
    have hn : i ∉ (MT.tup is).ix := fun z => hi i z hG
    rw [(hs i hn).1] at h2
    rw [(hs i hn).2] at h1
    exact s1.ofr i a qv hG h1 h2
/-- what stands for several answers, some of them new lists (at ps) -/
inductive RepPs (W : Wd) (H : Hp) (O : List Addr) (c : Cu) (G : List Nat) : List (Nat × Bool) → List PV → List V → List Addr → Prop
  | nil : RepPs W H O c G [] [] [] []
  | gen {t : Nat} {ts : List (Nat × Bool)} {x : PV} {v : V} {xs : List PV} {vs : List V} {ps : List Addr} : t ∉ G → Rep W H O c x v → RepPs W H O c G ts xs vs ps → RepPs W H O c G ((t, false) :: ts) (x :: xs) (v :: vs) ps
  | own {t : Nat} {ts : List (Nat × Bool)} {p : Addr} {ys : List PV} {ws : List V} {xs : List PV} {vs : List V} {ps : List Addr} : t ∈ G → p ∈ O → H p = some (.lst ws) → RepL W H O c ys ws →
      p ∉ ps → RepPs W H O c G ts xs vs ps → RepPs W H O c G ((t, true) :: ts) (.lst ys :: xs) (.ref p :: vs) (p :: ps)
def tPs (W : Wd) (G : List Nat) (C : Calls) (F : Fr) (Ew : Wish) (ts : List (Nat × Bool)) (ms : MEs) : TA := fun σ H Q => ∃ c O ρ S, StS W G F c O σ H ρ S ∧ (evs C ms ρ S).all (fun xs S' => (∀ q ∈ ts.zip xs, q.1.2 = true → isLst q.2 = true) → ∀ H' O' zs ps, StS W G F c O' σ H' ρ S' → Ext c H H' → (∀ a ∈ O, a ∈ O') → (∀ x v, Rep W H O c x v → Rep W H' O' c x v) → (∀ q ∈ ps, H q = none) → RepPs W H' O' c G ts xs zs ps → Q zs H') (fun n l S => ∀ H, ExnOk W F H S → Ew n l H)
theorem keepL {H' : Hp} {O' : List Addr} (k : ∀ x v, Rep W H O c x v → Rep W H' O' c x v) : ∀ {xs : List PV} {vs : List V}, RepL W H O c xs vs → RepL W H' O' c xs vs
  | _, _, .nil => .nil
  | _, _, .cons a b => .cons (k _ _ a) (keepL k b)
theorem p_nil : PA X [] (tPs W G C F Ew [] .nil) := by
  refine ⟨fun pos pins s σ H Q I ⟨c, O, ρ, S, st, h⟩ => pa_nil.run pos pins s σ H Q I ?_⟩
  rw [evs] at h
  exact h (fun q hq => by cases hq) H O [] [] st ExtO.refl (fun _ h => h) (fun _ _ h => h) (fun _ h => nomatch h) .nil
theorem p_gen {t : Nat} {ts : List (Nat × Bool)} (ht : t ∉ G) (ha : PE X a (tE W G C Ew ma)) (hr : PA X es (tPs W G C F Ew ts ms)) (hs : isStar a = false) : PA X (a :: es) (tPs W G C F Ew ((t, false) :: ts) (.cons ma ms)) := by
  refine ⟨fun pos pins s σ H Q I ⟨c, O, ρ, S, st, h⟩ => (pa_cons ha hr (star_plain hs)).run pos pins s σ H Q I ?_⟩
  rw [evs] at h
  refine ⟨c, O, ρ, S, st.st, (Res.all_bind h).imp (fun x S1 h1 H1 z e1 cu1 r1 => ?_) fun n l S' q H' e cu => q H' (st.exn e cu)⟩
  have s1 := st.to (st.st.ext e1 cu1) e1
  refine ⟨c, O, ρ, S1, s1, (Res.all_bind h1).imp (fun xs S2 h2 hl H2 O2 zs ps s2 e2 ho k hp r2 => ?_) fun _ _ _ h => h⟩
  refine h2 (fun q hq => ?_) H2 O2 (z :: zs) ps s2 (e1.trans e2) ho (fun x v r => k _ _ (r.ext e1)) (fun q hq => Ext.none e1 (s1.st.cup.ne (hp q hq)) (hp q hq)) (.gen ht (k _ _ r1) r2)
  rcases List.mem_cons.mp (show q ∈ ((t, false), x) :: ts.zip xs from hq) with rfl | hq
  · intro z; cases z
  · exact hl q hq
theorem p_own {t : Nat} {ts : List (Nat × Bool)} {te : TE} (ht : t ∈ G) (ha : PE X a te) (hre : ∀ σ H Q, tF W G C Ew ma σ H Q → te σ H Q) (hr : PA X es (tPs W G C F Ew ts ms)) (hs : isStar a = false) : PA X (a :: es) (tPs W G C F Ew ((t, true) :: ts) (.cons ma ms)) := by
  refine ⟨fun pos pins s σ H Q I ⟨c, O, ρ, S, st, h⟩ => (pa_cons ha hr (star_plain hs)).run pos pins s σ H Q I (hre _ _ _ ?_)⟩
  rw [evs] at h
  refine ⟨c, O, ρ, S, st.st, (Res.all_bind h).imp (fun x S1 h1 H1 p ws ys e1 cu1 ex hn hp r1 => ?_) fun n l S' q H' e cu => q H' (st.exn e cu)⟩
  subst ex
  have s1 := st.own e1 cu1 hn hp
  refine ⟨c, p :: O, ρ, S1, s1, (Res.all_bind h1).imp (fun xs S2 h2 hl H2 O2 zs ps s2 e2 ho k hps r2 => ?_) fun _ _ _ h => h⟩
  have hcp := s1.st.co p List.mem_cons_self
  refine h2 (fun q hq => ?_) H2 O2 (.ref p :: zs) (p :: ps) s2 (e1.trans e2) (fun a ha => ho a (List.mem_cons_of_mem _ ha)) (fun x v r => k _ _ ((r.own hn).ext e1)) (fun q hq => ?_) (.own ht (ho p List.mem_cons_self) (e2.at hcp hp) (keepL k r1) (fun m => ?_) r2)
  · rcases List.mem_cons.mp (show q ∈ ((t, true), PV.lst ys) :: ts.zip xs from hq) with rfl | hq
    · intro z; rfl
    · exact hl q hq
  · rcases List.mem_cons.mp hq with rfl | hq
    · exact hn
    · exact Ext.none e1 (s1.st.cup.ne (hps q hq)) (hps q hq)
  · have := hps p m
    rw [hp] at this; cases this
theorem StS.puts : ∀ {ts : List (Nat × Bool)} {xs : List PV} {zs : List V} {ps : List Addr} {σ : L2.St} {ρ : Env}, StS W G F c O σ H ρ S → RepPs W H O c G ts xs zs ps → (∀ q ∈ ps, q ∉ F.O0 ∧ F.H0 q = none ∧ ∀ j ∈ G, ∀ pv, ρ[j]? = some (some pv) → σ[j]? ≠ some (some (.ref q))) →
    StS W G F c O (setS σ ((ts.map (·.1)).zip zs)) H ((ts.zip xs).foldl (fun r p => r.set p.1.1 (some p.2)) ρ) S
  | _, _, _, _, _, _, s, .nil, _ => by simpa [setS] using s
  | _, _, _, _, _, _, s, .gen (t := t) ht r l, h => by
    rw [List.map_cons, List.zip_cons_cons, List.zip_cons_cons, setS, List.foldl_cons]
    refine StS.puts (s.set ht r) l fun q hq => ⟨(h q hq).1, (h q hq).2.1, fun j hj pv h1 => ?_⟩
    have e : t ≠ j := fun z => ht (z ▸ hj)
    replace h1 : (List.set _ t (some _))[j]? = some (some pv) := h1
    rw [List.getElem?_set_ne e] at h1
    show (List.set _ t (some _))[j]? ≠ _
    rw [List.getElem?_set_ne e]
    exact (h q hq).2.2 j hj pv h1
  | _, _, _, _, σ, ρ, s, .own (t := t) (p := p) ht hO hp r hn l, h => by
    rw [List.map_cons, List.zip_cons_cons, List.zip_cons_cons, setS, List.foldl_cons]
    have hq0 := h p List.mem_cons_self
    refine StS.puts (s.put ht hO ⟨hq0.1, hq0.2.1⟩ hp r fun j hj _ pv h1 => hq0.2.2 j hj pv h1) l fun q hq => ⟨(h q (List.mem_cons_of_mem _ hq)).1, (h q (List.mem_cons_of_mem _ hq)).2.1, fun j hj pv h1 => ?_⟩
    have hqp : q ≠ p := fun z => hn (z ▸ hq)
    by_cases e : t = j
    · subst e
      intro z
      have hl : t < σ.length := by
        rcases Nat.lt_or_ge t σ.length with y | y
        · exact y
        · rw [List.getElem?_eq_none (by simpa using y)] at z; cases z
      rw [List.getElem?_set_self hl] at z
      cases z
      exact hqp rfl
    · replace h1 : (List.set _ t (some _))[j]? = some (some pv) := h1
      rw [List.getElem?_set_ne e] at h1
      show (List.set _ t (some _))[j]? ≠ _
      rw [List.getElem?_set_ne e]
      exact (h q (List.mem_cons_of_mem _ hq)).2.2 j hj pv h1
theorem RepPs.len : ∀ {ts : List (Nat × Bool)} {xs : List PV} {zs : List V} {ps : List Addr}, RepPs W H O c G ts xs zs ps → ts.length = xs.length ∧ ts.length = zs.length
  | _, _, _, _, .nil => ⟨rfl, rfl⟩
  | _, _, _, _, .gen _ _ l => by
    have := l.len
    simp only [List.length_cons]; omega
  | _, _, _, _, .own _ _ _ _ _ l => by
    have := l.len
    simp only [List.length_cons]; omega
/-- a, b, .. = x, y, ..: from what the statement asks of the values -/
theorem par_r {ts : List (Nat × Bool)} {D : Ends} (σ : L2.St) (H : Hp) (h : tS W G C F Ew (.par ts ms) D σ H) : tPs W G C F Ew ts ms σ H (fun zs H1 => zs.length = ts.length ∧ ∀ H2, (∀ a o, H1 a = some o → H2 a = some o) → D.nx (setS σ ((ts.map (·.1)).zip zs)) H2) := by
  obtain ⟨c, O, ρ, S, s, q⟩ := h
  rw [run] at q
  refine ⟨c, O, ρ, S, s, (out_all q).imp (fun xs S1 q hl H1 O1 zs ps s1 e1 ho k hp r => ⟨r.len.2.symm, fun H2 hk => ?_⟩) fun _ _ _ h => h⟩
  rw [if_pos ⟨r.len.1, hl⟩] at q
  have e2 : Ext c H1 H2 := fun a o _ _ h => hk a o h
  have cu2 : CupIs W H2 c S1 := s1.st.cup.keep hk
  refine q _ _ _ _ ((StS.puts s1 r fun q' hq => ?_).to ?_ e2)
  · have hno : q' ∉ O := fun m => s.st.tr q' m (hp q' hq)
    refine ⟨fun m => hno (s.sub q' m), ?_, fun j hj pv h1 h2 => ?_⟩
    · have key : ∀ {ts : List (Nat × Bool)} {xs : List PV} {zs : List V} {ps : List Addr}, RepPs W H1 O1 c G ts xs zs ps → q' ∈ ps → q' ∈ O1 := by
        intro ts xs zs ps r
        induction r with
        | nil => intro h; cases h
        | gen _ _ _ ih => exact ih
        | own _ hO _ _ _ _ ih =>
          intro h
          rcases List.mem_cons.mp h with rfl | h
          · exact hO
          · exact ih h
      rcases s1.new q' (key r hq) with z | z
      · exact absurd (s.sub q' z) hno
      · exact z
    · obtain ⟨ys, b, ws, q1, q2, q3, q4, q5⟩ := s.st.own j pv h1 hj
      rw [h2] at q2
      cases q2
      exact hno q3
  · exact (StS.puts s1 r fun q' hq => by
      have hno : q' ∉ O := fun m => s.st.tr q' m (hp q' hq)
      refine ⟨fun m => hno (s.sub q' m), ?_, fun j hj pv h1 h2 => ?_⟩
      · have key : ∀ {ts : List (Nat × Bool)} {xs : List PV} {zs : List V} {ps : List Addr}, RepPs W H1 O1 c G ts xs zs ps → q' ∈ ps → q' ∈ O1 := by
          intro ts xs zs ps r
          induction r with
          | nil => intro h; cases h
          | gen _ _ _ ih => exact ih
          | own _ hO _ _ _ _ ih =>
            intro h
            rcases List.mem_cons.mp h with rfl | h
            · exact hO
            · exact ih h
        rcases s1.new q' (key r hq) with z | z
        · exact absurd (s.sub q' z) hno
        · exact z
      · obtain ⟨ys, b, ws, q1, q2, q3, q4, q5⟩ := s.st.own j pv h1 hj
        rw [h2] at q2
        cases q2
        exact hno q3).st.ext e2 cu2
end
end Py

set_option Elab.async false
set_option linter.all false
set_option maxRecDepth 100000
set_option maxHeartbeats 4000000
/-! Py: statements, further; calls of defs. -/
namespace Py
@[local simp] theorem ub_L {α β : Type} (r : Res α) (f : α → Cup → Res β) : r.bind f = (match r with | .ok a S => f a S | .exn c l S => .exn c l S | .bad => .bad) := rfl
@[local simp] theorem uo_L {α : Type} (o : Option α) (S : Cup) : Res.of o S = (match o with | some a => .ok a S | none => .bad) := rfl
@[local simp] theorem uu_L {α : Type} (r : Res α) (f : α → Cup → Out) : r.out f = (match r with | .ok a S => f a S | .exn c l S => .exn c l S | .bad => .bad) := rfl
@[local simp] theorem us_L (o : Out) (f : Env → Cup → Out) : o.seq f = (match o with | .next ρ S => f ρ S | o => o) := rfl
open PySem PySem.Spec PyProof.Rows L2
section
variable {X : Cx} {W : Wd} {G : List Nat} {C : Calls} {F : Fr} {Ew : Wish} {a b d : Expr} {ma mb md : ME} {ms : MEs} {es : List Expr} {pos : Pos} {st1 st2 : Stmt} {stl : List Stmt} {b1 b2 : MB}
variable {σ : L2.St} {H H' : Hp} {c : Cu} {O : List Addr} {ρ : Env} {S : Cup}
theorem tPs.mono {ts : List (Nat × Bool)} {Q Q' : List V → Hp → Prop} (h : tPs W G C F Ew ts ms σ H Q) (k : ∀ zs H', Q zs H' → Q' zs H') : tPs W G C F Ew ts ms σ H Q' := by
  obtain ⟨c, O, ρ, S, s, q⟩ := h
  exact ⟨c, O, ρ, S, s, q.imp (fun xs S' q hl H' O' zs ps a b c d e f => k _ _ (q hl H' O' zs ps a b c d e f)) fun _ _ _ q => q⟩
theorem s_par2 {i j : Nat} {f1 f2 : Bool} {x y : Str} {px py pt pt2 : Pos} {kt k2} (hc : X.calm = true) (hN : X.N.Nodup) (hi : X.N[i]? = some x) (hj : X.N[j]? = some y) (hij : i ≠ j)
    (hx : X.env.scope.names.lookup x = some .local) (hy : X.env.scope.names.lookup y = some .local) (ha : PA X [a, b] (tPs W G C F Ew [(i, f1), (j, f2)] ms))
    (hw : swappedStores [.Tuple [.Name x px, .Name y py] kt pt] (.Tuple [a, b] k2 pt2) X.env = pure (some [x, y])) :
    PS X (.Assign [.Tuple [.Name x px, .Name y py] kt pt] (.Tuple [a, b] k2 pt2) pos) (tS W G C F Ew (.par [(i, f1), (j, f2)] ms)) :=
  (ps_par hc hN hi hj hij hx hy ha hw).imp fun D σ H h => (par_r σ H h).mono fun zs H1 ⟨hl, q⟩ => by
    match zs, hl with
    | [v, w], _ => exact ⟨v, w, rfl, q H1 fun _ _ h => h⟩
theorem s_par3 {i j l : Nat} {f1 f2 f3 : Bool} {x y z : Str} {px py pz pt pt2 : Pos} {kt k2} (hc : X.calm = true) (hN : X.N.Nodup) (hi : X.N[i]? = some x) (hj : X.N[j]? = some y) (hl : X.N[l]? = some z) (hij : i ≠ j) (hil : i ≠ l) (hjl : j ≠ l)
    (hx : X.env.scope.names.lookup x = some .local) (hy : X.env.scope.names.lookup y = some .local) (hz : X.env.scope.names.lookup z = some .local) (ha : PA X [a, b, d] (tPs W G C F Ew [(i, f1), (j, f2), (l, f3)] ms))
    (hw : swappedStores [.Tuple [.Name x px, .Name y py, .Name z pz] kt pt] (.Tuple [a, b, d] k2 pt2) X.env = pure (some [x, y, z])) :
    PS X (.Assign [.Tuple [.Name x px, .Name y py, .Name z pz] kt pt] (.Tuple [a, b, d] k2 pt2) pos) (tS W G C F Ew (.par [(i, f1), (j, f2), (l, f3)] ms)) :=
  (ps_par3 hc hN hi hj hl hij hil hjl hx hy hz ha hw).imp fun D σ H h => (par_r σ H h).mono fun zs H1 ⟨hl, q⟩ => by
    match zs, hl with
    | [u, v, w], _ => exact ⟨u, v, w, rfl, q H1 fun _ _ h => h⟩
/-- through a tuple -/
theorem s_parN {ts : List (Nat × Bool)} {tgs : List Expr} {k k2 : Nat} {tpos pt2 : Pos} (hts : ts.length ≤ 1000) (hc : X.calm = true) (ha : PA X es (tPs W G C F Ew ts ms)) (h : Paired (fun t i => PG X t (gName i)) tgs (ts.map (·.1))) (hs : ∀ t ∈ tgs, isStar t = false)
    (hn : (assignEach tgs X.env).length = ts.length) (hst : (assignEach tgs X.env).findIdx? (·.1) = none) (hw : swappedStores [.Tuple tgs k tpos] (.Tuple es k2 pt2) X.env = pure none) :
    PS X (.Assign [.Tuple tgs k tpos] (.Tuple es k2 pt2) pos) (tS W G C F Ew (.par ts ms)) :=
  (ps_asg (pe_tup ha) (pg_tup hc (g_names h hs) hn hst) (hw := hw)).imp fun D σ H h => by
    have h' := (par_r σ H h)
    obtain ⟨c, O, ρ, S, s, q⟩ := h'
    refine ⟨c, O, ρ, S, s, q.imp (fun xs S' q hl H' O' zs ps a b c d e f => ?_) fun _ _ _ q => q⟩
    obtain ⟨q1, q2⟩ := q hl H' O' zs ps a b c d e f
    refine ⟨?_, fun p hp => ?_⟩
    · rw [q1, ← lineN_eq]; show _ ≤ 16777216; omega
    · refine ⟨p, zs, rfl, SqT.of upd_same, by omega, by rw [List.length_map]; omega, q2 _ fun a o h => ?_⟩
      rw [upd_ne (ne_of_none h hp)]; exact h
theorem set_same {σ : L2.St} {i : Nat} {v : Option V} (h : σ[i]? = some v) : σ.set i v = σ := by
  apply List.ext_getElem?
  intro j
  by_cases e : i = j
  · subst e
    have hl := (List.getElem?_eq_some_iff.mp h).1
    rw [List.getElem?_set_self hl, h]
  · rw [List.getElem?_set_ne e]
theorem s_augAdd {i : Nat} {x : Str} {p : Pos} (hN : X.N.Nodup) (hx : X.N[i]? = some x) (hl : Loc X.env.scope x) (hf : X.fn x = true ∨ X.env.scope.names.lookup x = some .local) (he : PE X a (tE W G C Ew ma)) (hi : i ∉ G) : PS X (.AugAssign (.Name x p) .Add a pos) (tS W G C F Ew (.aug i .Add ma)) :=
  (ps_aug hN hx hl he iop_add hf).imp fun D σ H ⟨c, O, ρ, S, s, q⟩ => by
  rw [run] at q
  split at q
  case h_2 => exact q.elim
  rename_i xv hx
  obtain ⟨v, h1, h2⟩ := s.st.gen i _ hx hi
  refine ⟨v, h1, rsE s ((out_all q).imp (fun y S1 q z H1 s1 r => ?_) fun _ _ _ h => h)⟩
  obtain ⟨zv, hz, q⟩ := out_ofR q
  cases xv <;> first | cases hz | skip
  cases y <;> first | cases hz | skip
  cases h2
  cases r
  exact ⟨_, _, rfl, rfl, q _ _ _ _ (s1.set hi (.int _))⟩
theorem s_augSub {i : Nat} {x : Str} {p : Pos} (hN : X.N.Nodup) (hx : X.N[i]? = some x) (hl : Loc X.env.scope x) (hf : X.fn x = true ∨ X.env.scope.names.lookup x = some .local) (he : PE X a (tE W G C Ew ma)) (hi : i ∉ G) : PS X (.AugAssign (.Name x p) .Sub a pos) (tS W G C F Ew (.aug i .Sub ma)) :=
  (ps_aug hN hx hl he iop_sub hf).imp fun D σ H ⟨c, O, ρ, S, s, q⟩ => by
  rw [run] at q
  split at q
  case h_2 => exact q.elim
  rename_i xv hx
  obtain ⟨v, h1, h2⟩ := s.st.gen i _ hx hi
  refine ⟨v, h1, rsE s ((out_all q).imp (fun y S1 q z H1 s1 r => ?_) fun _ _ _ h => h)⟩
  obtain ⟨zv, hz, q⟩ := out_ofR q
  cases xv <;> first | cases hz | skip
  cases y <;> first | cases hz | skip
  cases h2
  cases r
  exact ⟨_, _, rfl, rfl, q _ _ _ _ (s1.set hi (.int _))⟩
theorem s_augO {i : Nat} {x : Str} {p : Pos} {te : TE} (hN : X.N.Nodup) (hx : X.N[i]? = some x) (hl : Loc X.env.scope x) (hf : X.fn x = true ∨ X.env.scope.names.lookup x = some .local) (he : PE X a te) (hr : ∀ σ H Q, tE W G C Ew ma σ H Q → te σ H Q) (hi : i ∈ G) : PS X (.AugAssign (.Name x p) .Add a pos) (tS W G C F Ew (.augO i ma)) :=
  (ps_aug hN hx hl he iop_ext hf).imp fun D σ H ⟨c, O, ρ, S, s, q⟩ => by
  rw [run] at q
  split at q
  case h_2 => exact q.elim
  rename_i xs hx
  obtain ⟨xs', p, vs, e0, h2, h3, h4, h5⟩ := s.st.own i _ hx hi
  cases e0
  refine ⟨_, h2, hr _ _ _ (rsE s ((out_all q).imp (fun y S1 q z H1 s1 r => ?_) fun _ _ _ h => h))⟩
  cases y <;> first | exact q.elim | skip
  case lst ys =>
    simp only at q
    split at q
    · rename_i hlen
      obtain ⟨xs', p', vs', e0, h2', h3', h4', h5'⟩ := s1.st.own i _ hx hi
      cases e0
      rw [h2] at h2'
      cases h2'
      cases r with
      | lst n m hq lq =>
        refine ⟨p, _, vs', _, rfl, rfl, h4', hq, ?_, ?_⟩
        · have e1 := h5'.length
          have e2 := lq.length
          rw [← lineN_eq]; omega
        · show D.nx (σ.set i (some (.ref p))) _
          rw [set_same h2]
          exact q _ _ _ _ (s1.chg hi hx h2 (h5'.append lq))
    · exact q.elim
theorem s_app {i : Nat} {te : TE} (h : PS X st1 (tDrop (tBM X.K "list" rAppend (tVar i) (tCons te tNil)))) (hr : ∀ σ H Q, tE W G C Ew ma σ H Q → te σ H Q) (hi : i ∈ G) : PS X st1 (tS W G C F Ew (.app i ma)) := h.imp fun D σ H ⟨c, O, ρ, S, s, q⟩ => by
  rw [run] at q
  split at q
  case h_2 => exact q.elim
  rename_i xs hx
  obtain ⟨xs', p, vs, e0, h2, h3, h4, h5⟩ := s.st.own i _ hx hi
  cases e0
  refine ⟨_, h2, .inl ⟨rfl, _, SqL.of h4⟩, hr _ _ _ (rsE s ((out_all q).imp (fun y S1 q z H1 s1 r => ?_) fun _ _ _ h => h))⟩
  split at q
  · rename_i hlen
    obtain ⟨xs', p', vs', e0, h2', h3', h4', h5'⟩ := s1.st.own i _ hx hi
    cases e0
    rw [h2] at h2'
    cases h2'
    refine ⟨p, vs', z, rfl, rfl, h4', ?_, ?_⟩
    · rw [← h5'.length, ← lineN_eq]; exact hlen
    · exact q _ _ _ _ (s1.chg hi hx h2 (h5'.append (.cons r .nil)))
  · exact q.elim
theorem s_setIx {i : Nat} {te tk : TE} (h : PS X st1 (tAsg te (gSub (tVar i) tk rSetL))) (hr : ∀ σ H Q, tE W G C Ew ma σ H Q → te σ H Q) (hk : ∀ σ H Q, tE W G C Ew mb σ H Q → tk σ H Q) (hi : i ∈ G) : PS X st1 (tS W G C F Ew (.setIx i mb ma)) := h.imp fun D σ H ⟨c, O, ρ, S, s, q⟩ => by
  rw [run] at q
  refine hr _ _ _ (rsE s ((out_all q).imp (fun y S1 q z H1 s1 r => ?_) fun _ _ _ h => h))
  split at q
  case h_2 => exact q.elim
  rename_i xs hx
  obtain ⟨xs', p, vs, e0, h2, h3, h4, h5⟩ := s1.st.own i _ hx hi
  cases e0
  refine ⟨_, h2, hk _ _ _ ⟨c, O, ρ, S1, s1.st, (out_all q).imp (fun k S2 q H2 zk e2 cu2 rk => ?_) fun n l S' q H' e cu => q H' (s1.exn e cu)⟩⟩
  have s2 := s1.to (s1.st.ext e2 cu2) e2
  cases k <;> first | exact q.elim | skip
  case int j =>
    simp only at q
    split at q
    · rename_i n hn
      obtain ⟨xs', p', vs', e0, h2', h3', h4', h5'⟩ := s2.st.own i _ hx hi
      cases e0
      rw [h2] at h2'
      cases h2'
      cases rk
      refine ⟨p, vs', j, n, rfl, rfl, h4', by rw [← h5'.length]; exact hn, ?_⟩
      exact q _ _ _ _ (s2.chg hi hx h2 (RepL.set (r.ext e2) n h5'))
    · exact q.elim
theorem s_setCup {i k : Nat} {te : TE} (h : PS X st1 (tAsg te (gSub (tVar i) (tC (.int k)) rSetL))) (hr : ∀ σ H Q, tE W G C Ew ma σ H Q → te σ H Q) (hi : i ∉ G) : PS X st1 (tS W G C F Ew (.setCup i k ma)) := h.imp fun D σ H ⟨c, O, ρ, S, s, q⟩ => by
  rw [run] at q
  refine hr _ _ _ (rsE s ((out_all q).imp (fun y S1 q z H1 s1 r => ?_) fun _ _ _ h => h))
  split at q
  case h_2 => exact q.elim
  rename_i j a b hx
  obtain ⟨v, h1, h2⟩ := s1.st.gen i _ hx hi
  cases h2 with
  | cup hc =>
    rename_i p
    cases r
    have hcup : H1 p = some (.lst [.int a, .int b]) := s1.st.cup.at hc
    refine ⟨_, h1, p, _, (k : Int), k, rfl, rfl, hcup, ?_, ?_⟩
    · by_cases h0 : k = 0
      · subst h0; rfl
      · by_cases h1 : k = 1
        · subst h1; rfl
        · simp only [if_neg h0, if_neg h1] at q
          exact q.elim
    · by_cases h0 : k = 0
      · subst h0
        rw [if_pos rfl] at q
        exact q _ _ _ _ (s1.fill hc)
      · by_cases h1 : k = 1
        · subst h1
          rw [if_neg h0, if_pos rfl] at q
          exact q _ _ _ _ (s1.fill hc)
        · simp only [if_neg h0, if_neg h1] at q
          exact q.elim
end
end Py

set_option Elab.async false
set_option linter.all false
set_option maxRecDepth 100000
set_option maxHeartbeats 4000000
/-! Py: loops. -/
namespace Py
@[local simp] theorem ub_M {α β : Type} (r : Res α) (f : α → Cup → Res β) : r.bind f = (match r with | .ok a S => f a S | .exn c l S => .exn c l S | .bad => .bad) := rfl
@[local simp] theorem uo_M {α : Type} (o : Option α) (S : Cup) : Res.of o S = (match o with | some a => .ok a S | none => .bad) := rfl
@[local simp] theorem uu_M {α : Type} (r : Res α) (f : α → Cup → Out) : r.out f = (match r with | .ok a S => f a S | .exn c l S => .exn c l S | .bad => .bad) := rfl
@[local simp] theorem us_M (o : Out) (f : Env → Cup → Out) : o.seq f = (match o with | .next ρ S => f ρ S | o => o) := rfl
open PySem PySem.Spec PyProof.Rows L2
/-- what is walked, where nothing owned is walked -/
def tIg (W : Wd) (G : List Nat) (C : Calls) (Ew : Wish) (m : MI) : TI := fun σ H R => ∃ c O ρ S, StR W G c O σ H ρ S ∧ (evI C m ρ S).all (fun items S' => ∀ H' J, Ext c H H' → CupIs W H' c S' → IterAt W.K (Rep W H' O c) J items → R J H') (fun n l S' => ∀ H', Ext c H H' → CupIs W H' c S' → Ew n l H')
section
variable {X : Cx} {W : Wd} {G : List Nat} {C : Calls} {F : Fr} {Ew : Wish} {a b d tg : Expr} {ma mb md : ME} {ms : MEs} {es : List Expr} {pos : Pos} {st1 st2 : Stmt} {stl : List Stmt} {b1 b2 : MB}
variable {σ : L2.St} {H H' : Hp} {c : Cu} {O : List Addr} {ρ : Env} {S : Cup}
theorem gi_seq (hK : W.K = X.K) (ha : PE X a (tE W G C Ew ma)) : PI X tg a (tIg W G C Ew (.seq ma)) := (pi_seq ha).imp fun σ H R ⟨c, O, ρ, S, st, h⟩ => by
  rw [evI] at h
  refine rdE st ((Res.all_bind h).imp (fun x S1 h1 z H1 e1 st1 r1 => ?_) fun _ _ _ h => h)
  obtain ⟨xs, hx, h1⟩ := Res.all_of h1
  cases x <;> first | cases hx | skip
  case lst xs =>
    obtain ⟨p, vs, rfl, n, h2, l⟩ := (RepO.of r1).lst
    exact ⟨p, rfl, .inl ⟨vs, SqL.of h2, h1 H1 _ e1 st1.cup (.inl ⟨p, by rw [hK], r1⟩)⟩⟩
  case tup xs =>
    obtain ⟨p, vs, rfl, n, m, h2, l⟩ := (RepO.of r1).tup
    rw [hK] at h2
    exact ⟨p, rfl, .inr ⟨vs, h2, h1 H1 _ e1 st1.cup (.inr (.inl ⟨p, by rw [hK], r1⟩))⟩⟩
theorem gi_rng1 {p : Pos} (hg : Gl X "range") (hm : X.mg "range" = none) (ha : PE X a (tE W G C Ew ma)) (he : isStar a = false) : PI X tg (.Call (.Name "range" p) [a] [] pos) (tIg W G C Ew (.rng1 ma)) :=
  (pi_range1 hg hm (pa_cons ha pa_nil (star_plain he)) (star_plain he)).imp fun σ H R ⟨c, O, ρ, S, st, h⟩ => by
  rw [evI] at h
  refine rdE st ((Res.all_bind h).imp (fun x S1 h1 z H1 e1 st1 r1 => ?_) fun _ _ _ h => h)
  cases x <;> first | exact h1.elim | skip
  case int j =>
    cases r1
    simp only at h1
    split at h1
    · rename_i hj
      have hj := rngOk_iff.mp hj
      exact ⟨j, rfl, by omega, by omega, h1 H1 _ e1 st1.cup (.inr (.inr (.inl ⟨0, _, rfl, rfl⟩)))⟩
    · exact h1.elim
theorem gi_rng2 {p : Pos} (hg : Gl X "range") (hm : X.mg "range" = none) (ha : PE X a (tE W G C Ew ma)) (hb : PE X b (tE W G C Ew mb)) (he : isStar a = false) (he2 : isStar b = false) : PI X tg (.Call (.Name "range" p) [a, b] [] pos) (tIg W G C Ew (.rng2 ma mb)) :=
  (pi_range2 hg hm (pa_cons ha (pa_cons hb pa_nil (star_plain he2)) (star_plain he)) (by rw [star_plain he, star_plain he2]; rfl) (by rw [star_plain he2]; rfl)).imp fun σ H R ⟨c, O, ρ, S, st, h⟩ => by
  rw [evI] at h
  refine rdE st ((Res.all_bind h).imp (fun x S1 h1 z H1 e1 st1 r1 => ?_) fun _ _ _ h => h)
  refine rdE st1 ((Res.all_bind h1).imp (fun y S2 h2 z2 H2 e2 st2 r2 => ?_) fun _ _ _ h H' e => h H' (e1.trans e))
  cases x <;> first | exact h2.elim | skip
  case int i =>
    cases y <;> first | exact h2.elim | skip
    case int j =>
      cases r1; cases r2
      simp only at h2
      split at h2
      · rename_i hj
        have hj := And.intro (rngOk_iff.mp hj.1) (rngOk_iff.mp hj.2)
        exact ⟨i, j, rfl, ⟨by omega, by omega, by omega, by omega⟩, h2 H2 _ (e1.trans e2) st2.cup (.inr (.inr (.inl ⟨i, _, rfl, rfl⟩)))⟩
      · exact h2.elim
theorem gi_enum {p tpos : Pos} {elts : List Expr} {kk : Nat} (hK : W.K = X.K) (hg : Gl X "enumerate") (hm : X.mg "enumerate" = none) (ha : PE X a (tE W G C Ew ma)) (he : isStar a = false) : PI X (.Tuple elts kk tpos) (.Call (.Name "enumerate" p) [a] [] pos) (tIg W G C Ew (.enum ma)) :=
  (pi_enumA hg hm (pa_cons ha pa_nil (star_plain he)) (star_plain he)).imp fun σ H R ⟨c, O, ρ, S, st, h⟩ => by
  rw [evI] at h
  refine rdE st ((Res.all_bind h).imp (fun x S1 h1 z H1 e1 st1 r1 => ?_) fun _ _ _ h => h)
  cases x <;> first | exact h1.elim | skip
  case lst xs =>
    obtain ⟨p, vs, rfl, n, h2, l⟩ := (RepO.of r1).lst
    exact ⟨p, vs, rfl, .inl ⟨SqL.of h2, h1 H1 _ e1 st1.cup (.inr (.inr (.inr (.inl ⟨p, _, by rw [hK], r1, rfl⟩))))⟩⟩
  case tup xs =>
    obtain ⟨p, vs, rfl, n, m, h2, l⟩ := (RepO.of r1).tup
    rw [hK] at h2
    exact ⟨p, vs, rfl, .inr ⟨h2, h1 H1 _ e1 st1.cup (.inr (.inr (.inr (.inr (.inl ⟨p, _, by rw [hK], r1, rfl⟩)))))⟩⟩
theorem gi_zip {p tpos : Pos} {elts : List Expr} {kk : Nat} (hK : W.K = X.K) (hg : Gl X "zip") (hm : X.mg "zip" = none) (ha : PE X a (tE W G C Ew ma)) (hb : PE X b (tE W G C Ew mb)) (he : isStar a = false) (he2 : isStar b = false) :
    PI X (.Tuple elts kk tpos) (.Call (.Name "zip" p) [a, b] [] pos) (tIg W G C Ew (.zip2 ma mb)) :=
  (RZ.pi_zipA hg hm (pa_cons ha (pa_cons hb pa_nil (star_plain he2)) (star_plain he)) (star_plain he) (by rw [star_plain he2]; rfl)).imp fun σ H R ⟨c, O, ρ, S, st, h⟩ => by
  rw [evI] at h
  refine rdE st ((Res.all_bind h).imp (fun x S1 h1 z H1 e1 st1 r1 => ?_) fun _ _ _ h => h)
  refine rdE st1 ((Res.all_bind h1).imp (fun y S2 h2 z2 H2 e2 st2 r2 => ?_) fun _ _ _ h H' e => h H' (e1.trans e))
  have r1 := r1.ext e2
  cases x <;> first | exact h2.elim | skip
  case lst xs =>
    cases y <;> first | exact h2.elim | skip
    case lst ys =>
      obtain ⟨p, vs, rfl, n, h3, l⟩ := (RepO.of r1).lst
      obtain ⟨q, ws, rfl, n2, h4, l2⟩ := (RepO.of r2).lst
      exact ⟨p, q, vs, ws, rfl, .inl ⟨SqL.of h3, SqL.of h4, h2 H2 _ (e1.trans e2) st2.cup (.inr (.inr (.inr (.inr (.inr (.inl ⟨p, q, _, _, by rw [hK], r1, r2, rfl⟩))))))⟩⟩
  case tup xs =>
    cases y <;> first | exact h2.elim | skip
    case tup ys =>
      obtain ⟨p, vs, rfl, n, m, h3, l⟩ := (RepO.of r1).tup
      obtain ⟨q, ws, rfl, n2, m2, h4, l2⟩ := (RepO.of r2).tup
      rw [hK] at h3 h4
      exact ⟨p, q, vs, ws, rfl, .inr ⟨h3, h4, h2 H2 _ (e1.trans e2) st2.cup (.inr (.inr (.inr (.inr (.inr (.inr ⟨p, q, _, _, by rw [hK], r1, r2, rfl⟩))))))⟩⟩


theorem IterAt.pick {K : PySem.W.Frag} {R : PV → V → Prop} {J : It} {items : List PV} (h : IterAt K R J items) : ∃ ps : List (PV × V), (∀ q ∈ ps, R q.1 q.2) ∧ IterAt K (fun x v => (x, v) ∈ ps) J items := by
  have one : ∀ {x : PV} {v : V}, R x v → ∀ q ∈ [(x, v)], R q.1 q.2 := fun r q hq => by
    obtain rfl := List.mem_singleton.mp hq; exact r
  rcases h with ⟨a, h1, h2⟩ | ⟨a, h1, h2⟩ | h | ⟨a, xs, h1, h2, h3⟩ | ⟨a, xs, h1, h2, h3⟩ | ⟨a, b, xs, ys, h1, h2, h3, h4⟩ | ⟨a, b, xs, ys, h1, h2, h3, h4⟩
  · exact ⟨_, one h2, .inl ⟨a, h1, List.mem_singleton.mpr rfl⟩⟩
  · exact ⟨_, one h2, .inr (.inl ⟨a, h1, List.mem_singleton.mpr rfl⟩)⟩
  · exact ⟨[], fun q hq => by (cases hq), .inr (.inr (.inl h))⟩
  · exact ⟨_, one h2, .inr (.inr (.inr (.inl ⟨a, xs, h1, List.mem_singleton.mpr rfl, h3⟩)))⟩
  · exact ⟨_, one h2, .inr (.inr (.inr (.inr (.inl ⟨a, xs, h1, List.mem_singleton.mpr rfl, h3⟩))))⟩
  · refine ⟨[(.lst xs, .ref a), (.lst ys, .ref b)], fun q hq => ?_, .inr (.inr (.inr (.inr (.inr (.inl ⟨a, b, xs, ys, h1, by simp, by simp, h4⟩)))))⟩
    rcases List.mem_cons.mp hq with rfl | hq
    · exact h2
    · obtain rfl := List.mem_singleton.mp hq; exact h3
  · refine ⟨[(.tup xs, .ref a), (.tup ys, .ref b)], fun q hq => ?_, .inr (.inr (.inr (.inr (.inr (.inr ⟨a, b, xs, ys, h1, by simp, by simp, h4⟩)))))⟩
    rcases List.mem_cons.mp hq with rfl | hq
    · exact h2
    · obtain rfl := List.mem_singleton.mp hq; exact h3
/-- the frame within a loop -/
abbrev Fr.more (F : Fr) (ps : List (PV × V)) : Fr := { F with kp := ps ++ F.kp }
theorem StS.more {ps : List (PV × V)} (s : StS W G F c O σ H ρ S) (h : ∀ q ∈ ps, Rep W H O c q.1 q.2) : StS W G (F.more ps) c O σ H ρ S :=
  ⟨s.st, s.sub, s.new, s.ext, s.cc, s.ofr, fun q hq => (List.mem_append.mp hq).elim (h q) (s.kp q)⟩
theorem StS.less {ps : List (PV × V)} (s : StS W G (F.more ps) c O σ H ρ S) : StS W G F c O σ H ρ S :=
  ⟨s.st, s.sub, s.new, s.ext, s.cc, s.ofr, fun q hq => s.kp q (List.mem_append_right _ hq)⟩
theorem s_for {iter : Expr} {body : List Stmt} {t : MT} {mi : MI} {mb : MB} (hK : W.K = X.K) (hp : PassesOwn (model X.prog X.w) X.A X.env X.xe) (hc : X.calm = true) (hi : PI X tg iter (tIg W G C Ew mi)) (hg : PG X tg (gT W G t)) (hb : ∀ ps, PSs X body (tB W G C (F.more ps) Ew mb))
    (hs : ∀ x, foldedSetIterable iter X.env x = pure x) (hti : ∀ i ∈ t.ix, i ∉ G) : PS X (.For tg iter body [] pos) (tS W G C F Ew (.loop t mi mb)) := by
  -- the reading of the body is chosen with what is walked: over all of them at once
  have hb' : PSs X body (fun D σ H => ∃ ps, tB W G C (F.more ps) Ew mb D σ H) := ⟨fun pins s σ H D I ⟨ps, q⟩ => (hb ps).run pins s σ H D I q⟩
  refine (ps_for hp hc hi hg hb' hs).imp fun D σ H ⟨c, O, ρ, S, s, q⟩ => ?_
  rw [run] at q
  refine ⟨c, O, ρ, S, s.st, (out_all q).imp (fun items S1 q H1 J e1 cu1 it => ?_) fun n l S' q H' e cu => q H' (s.exn e cu)⟩
  have s1 := s.to (s.st.ext e1 cu1) e1
  obtain ⟨ps, hps, itp⟩ := it.pick
  have sm := s1.more hps
  generalize hf : (fun (x : PV) (ρ : Env) (S : Cup) => match bindT t x ρ with
      | Option.none => Out.bad
      | some ρ1 => runs C mb ρ1 S) = f at q
  generalize hfin : forR f items ρ S1 = fo at q
  let P0 : Nat → L2.St → Hp → Prop := fun i σ H => ∃ c O ρ S, StS W G (F.more ps) c O σ H ρ S ∧ forR f (items.drop i) ρ S = fo
  refine ⟨fun i m σ H => m = items.length - i ∧ i ≤ items.length ∧ P0 i σ H, ⟨items.length, by omega, Nat.zero_le _, c, O, ρ, S1, sm, by simpa using hfin⟩, ?_⟩
  rintro i m σ2 H2 ⟨rfl, hle, c2, O2, ρ2, S2, s2, hfr⟩
  have itO : IterAt W.K (RepO W H2 O2 c2) J items := itp.imp fun x v hm => .of (s2.kp (x, v) (List.mem_append_left _ hm))
  obtain ⟨hstop, hgo⟩ := iter_steps rfl s2.st.hit itO i
  by_cases hlt : i < items.length
  · refine .inr ⟨(hgo hlt).1, P0 (i + 1), fun σ' H' p => ⟨items.length - (i + 1), by omega, rfl, hlt, p⟩, fun x H' y => ?_⟩
    obtain ⟨pv, hpv, e3, c3, r3⟩ := (hgo hlt).2 x H' y
    have hdrop : items.drop i = pv :: items.drop (i + 1) := by
      rw [List.drop_eq_getElem_cons hlt]
      rw [List.getElem?_eq_getElem hlt] at hpv
      cases hpv; rfl
    rw [hdrop] at hfr
    have s3 := s2.to (s2.st.ext e3 c3) e3
    cases hb0 : bindT t pv ρ2 with
    | none =>
      have : f pv ρ2 S2 = .bad := by rw [← hf]; simp only [hb0]
      simp only [forR, this] at hfr
      rw [← hfr] at q
      exact q.elim
    | some ρ3 =>
      have hfx : f pv ρ2 S2 = runs C mb ρ3 S2 := by rw [← hf]; simp only [hb0]
      simp only [forR, hfx] at hfr
      refine ⟨c2, O2, ρ2, S2, pv, s3.st, r3, ρ3, hb0, fun σ' st' _ hsame => ?_⟩
      have s4 : StS W G (F.more ps) c2 O2 σ' H' ρ3 S2 := ⟨st', s3.sub, s3.new, s3.ext, s3.cc, fun j a qv hG h1 h2 => by
        have hn : j ∉ t.ix := fun z => hti j z hG
        rw [(hsame j hn).1] at h2
        rw [(hsame j hn).2] at h1
        exact s3.ofr j a qv hG h1 h2, s3.kp⟩
      refine ⟨ps, c2, O2, ρ3, S2, s4, ?_⟩
      cases hr : runs C mb ρ3 S2 with
      | bad => rw [hr] at hfr; simp only at hfr; rw [← hfr] at q; exact q.elim
      | next ρ4 S4 => rw [hr] at hfr; simp only at hfr; exact fun σ5 H5 c5 O5 s5 => ⟨c5, O5, ρ4, S4, s5, hfr⟩
      | cont ρ4 S4 => rw [hr] at hfr; simp only at hfr; exact fun σ5 H5 c5 O5 s5 => ⟨c5, O5, ρ4, S4, s5, hfr⟩
      | brk ρ4 S4 => rw [hr] at hfr; simp only at hfr; rw [← hfr] at q; exact fun σ5 H5 c5 O5 s5 => q σ5 H5 c5 O5 s5.less
      | ret v S4 => rw [hr] at hfr; simp only at hfr; rw [← hfr] at q; exact q
      | exn n l S4 => rw [hr] at hfr; simp only at hfr; rw [← hfr] at q; exact q
  · have hi : i = items.length := by omega
    subst hi
    rw [List.drop_length] at hfr
    refine .inl ⟨hstop rfl, ?_⟩
    rw [← hfr] at q
    exact q _ _ _ _ s2.less
/-- while -/
theorem s_whl {body : List Stmt} {mb : MB} (hp : PassesOwn (model X.prog X.w) X.A X.env X.xe) (hd : PT X d (tT W G C Ew md)) (hb : PSs X body (tB W G C F Ew mb)) : PS X (.While d body [] pos) (tS W G C F Ew (.whl md mb)) :=
  (ps_while hp hd hb).imp fun D σ H ⟨c, O, ρ, S, s, q⟩ => by
  rw [run] at q
  generalize hcf : (fun (ρ : Env) (S : Cup) => (ev C md ρ S).bind fun x S1 => Res.of (truthV x) S1) = cf at q
  generalize hfin : whlR cf (fun ρ S => runs C mb ρ S) 100000 ρ S = fo at q
  refine ⟨fun m σ H => ∃ c O ρ S, StS W G F c O σ H ρ S ∧ whlR cf (fun ρ S => runs C mb ρ S) m ρ S = fo, ⟨100000, c, O, ρ, S, s, hfin⟩, ?_⟩
  rintro m σ1 H1 ⟨c1, O1, ρ1, S1, s1, hw⟩
  cases m with
  | zero =>
    have : fo = .bad := hw.symm
    rw [this] at q; exact q.elim
  | succ m =>
    have hw' : ((cf ρ1 S1).out fun k S2 => if k = true then match runs C mb ρ1 S2 with
      | .next ρ3 S3 => whlR cf (fun ρ S => runs C mb ρ S) m ρ3 S3
      | .cont ρ3 S3 => whlR cf (fun ρ S => runs C mb ρ S) m ρ3 S3
      | .brk ρ3 S3 => .next ρ3 S3
      | o => o else .next ρ1 S2) = fo := hw
    refine rsT s1 ?_
    have hc1 : cf ρ1 S1 = (ev C md ρ1 S1).bind fun x S1 => Res.of (truthV x) S1 := by rw [← hcf]
    rw [← hc1]
    cases hk : cf ρ1 S1 with
    | bad => rw [hk] at hw'; rw [← hw'] at q; exact q
    | exn n l S2 => rw [hk] at hw'; rw [← hw'] at q; exact q
    | ok k S2 =>
      rw [hk] at hw'
      intro H2 s2
      cases k with
      | false =>
        simp only [Bool.false_eq_true, if_false, Res.out] at hw' ⊢
        rw [← hw'] at q
        exact q _ _ _ _ s2
      | true =>
        simp only [if_true, Res.out] at hw' ⊢
        refine ⟨fun σ' H' => ∃ c O ρ S, StS W G F c O σ' H' ρ S ∧ whlR cf (fun ρ S => runs C mb ρ S) m ρ S = fo, fun σ' H' h => ⟨m, Nat.lt_succ_self _, h⟩, c1, O1, ρ1, S2, s2, ?_⟩
        cases hr : runs C mb ρ1 S2 with
        | bad => rw [hr] at hw'; simp only at hw'; rw [← hw'] at q; exact q
        | next ρ4 S4 => rw [hr] at hw'; simp only at hw'; exact fun σ5 H5 c5 O5 s5 => ⟨c5, O5, ρ4, S4, s5, hw'⟩
        | cont ρ4 S4 => rw [hr] at hw'; simp only at hw'; exact fun σ5 H5 c5 O5 s5 => ⟨c5, O5, ρ4, S4, s5, hw'⟩
        | brk ρ4 S4 => rw [hr] at hw'; simp only at hw'; rw [← hw'] at q; exact fun σ5 H5 c5 O5 s5 => q σ5 H5 c5 O5 s5
        | ret v S4 => rw [hr] at hw'; simp only at hw'; rw [← hw'] at q; exact q
        | exn n l S4 => rw [hr] at hw'; simp only at hw'; rw [← hw'] at q; exact q
end
end Py

set_option Elab.async false
set_option linter.all false
set_option maxRecDepth 100000
set_option maxHeartbeats 4000000
/-! Py: chains, calls of defs, defs. -/
namespace Py
@[local simp] theorem ub_N {α β : Type} (r : Res α) (f : α → Cup → Res β) : r.bind f = (match r with | .ok a S => f a S | .exn c l S => .exn c l S | .bad => .bad) := rfl
@[local simp] theorem uo_N {α : Type} (o : Option α) (S : Cup) : Res.of o S = (match o with | some a => .ok a S | none => .bad) := rfl
@[local simp] theorem uu_N {α : Type} (r : Res α) (f : α → Cup → Out) : r.out f = (match r with | .ok a S => f a S | .exn c l S => .exn c l S | .bad => .bad) := rfl
@[local simp] theorem us_N (o : Out) (f : Env → Cup → Out) : o.seq f = (match o with | .next ρ S => f ρ S | o => o) := rfl
open PySem PySem.Spec PyProof.Rows L2
/-- what a def promises: what the evaluator tells -/
def spF (W : Wd) (P : Prog) (d : Nat) (fd : FDef) : Sp := fun vs H Q E => ∃ c O S args, vs.length = fd.np ∧ RepL W H O c args vs ∧ Hit W O c H S ∧ (∀ a ∈ O, c.No a) ∧
  (evCall P d fd.name args S).all (fun pv S' => ∀ H' z, Ext c H H' → CupIs W H' c S' → Rep W H' O c pv z → (fd.fresh = true → ∃ p vs xs, pv = .lst xs ∧ z = .ref p ∧ H p = none ∧ H' p = some (.lst vs) ∧ RepL W H' (p :: O) c xs vs) → Q z H')
    (fun n l S' => ∀ H', Ext c H H' → CupIs W H' c S' → ∀ a, W.mg n = some (.ref a) → E (.ref a) none H')
def EwX (W : Wd) (Ew : Wish) : XK := fun cls d H => d = none ∧ ∃ n l a, W.mg n = some (.ref a) ∧ cls = .ref a ∧ Ew n l H
section
variable {X : Cx} {W : Wd} {G : List Nat} {C : Calls} {F : Fr} {Ew : Wish} {a b d e3 : Expr} {ma mb md m3 : ME} {ms : MEs} {es : List Expr} {pos : Pos} {st1 st2 : Stmt} {stl : List Stmt} {b1 b2 : MB}
variable {σ : L2.St} {H H' : Hp} {c : Cu} {O : List Addr} {ρ : Env} {S : Cup}
theorem e_chain {op op' : CmpOp} (hK : W.K = X.K) (hu : X.A.units + 65 < cLine) (ha : PE X a (tO W G C Ew ma)) (hb : PE X b (tO W G C Ew mb)) (hd : PE X e3 (tO W G C Ew m3)) (hm : lastMarks [op, op'] [b, e3] = false) :
    PE X (.Compare a [op, op'] [b, e3] pos) (tE W G C Ew (.chain op op' ma mb m3)) := by
  refine ⟨fun pins s σ H Q I ⟨c, O, ρ, S, st, h⟩ => ?_⟩
  rw [ev] at h
  refine Compare_chain (runO ha I st ((Res.all_bind h).imp (fun x S1 h1 v s1 z H1 I1 rz e1 st1 r1 => ?_) fun _ _ _ h => h)) hm
  refine chain_link (runO hb I1 st1 ((Res.all_bind h1).imp (fun y S2 h2 u s2 z2 H2 I2 rz2 e2 st2 r2 => ?_) fun _ _ _ h H' e => h H' (e1.trans e)))
  obtain ⟨k, hk, h2⟩ := Res.all_of (Res.all_bind h2)
  have hk' : cmpV op x y = some (.bl k) := by unfold cmpV; rw [hk]; rfl
  refine thn (ok_cmp hu op _ s2 σ H2 O c S2 x y z z2 v u _ (st2.sit I2 hK) (r1.ext e2) r2 rz rz2 hk') fun cv s3 ⟨z3, H3, I3, rz3, e3', cu3, r3⟩ => ?_
  cases r3
  cases rz3
  have st3 := st2.ext e3' cu3
  refine wpAny_truthy_bool ?_
  cases k with
  | false => exact ite_ff ⟨.bl false, H3, I3, rfl, h2 H3 _ (e1.trans (e2.trans e3')) cu3 (.bl _)⟩
  | true =>
    refine ite_tt (chain_last (runO hd I3 st3 ((Res.all_bind h2).imp (fun w S4 h4 wv s4 z4 H4 I4 rz4 e4 st4 r4 => ?_) fun _ _ _ h H' e => h H' (e1.trans (e2.trans (e3'.trans e))))))
    obtain ⟨pv, hp, h4⟩ := Res.all_of h4
    exact fin (ok_cmp hu op' _ s4 σ H4 O c S4 y w z2 z4 u wv pv (st4.sit I4 hK) (r2.ext (e3'.trans e4)) r4 rz2 rz4 hp) (e1.trans (e2.trans (e3'.trans e4))) h4
theorem t_chain {op op' : CmpOp} (hK : W.K = X.K) (hu : X.A.units + 65 < cLine) (ha : PE X a (tO W G C Ew ma)) (hb : PE X b (tO W G C Ew mb)) (hd : PE X e3 (tO W G C Ew m3)) (hm : lastMarks [op, op'] [b, e3] = false) :
    PT X (.Compare a [op, op'] [b, e3] pos) (tT W G C Ew (.chain op op' ma mb m3)) := by
  refine ⟨fun pins s σ H Q I ⟨c, O, ρ, S, st, h⟩ => ?_⟩
  rw [ev] at h
  have h := Res.all_bind h
  refine isTrue_chain (runO ha I st ((Res.all_bind h).imp (fun x S1 h1 v s1 z H1 I1 rz e1 st1 r1 => ?_) fun _ _ _ h => h)) hm
  refine test_link (runO hb I1 st1 ((Res.all_bind h1).imp (fun y S2 h2 u s2 z2 H2 I2 rz2 e2 st2 r2 => ?_) fun _ _ _ h H' e => h H' (e1.trans e)))
  obtain ⟨k, hk, h2⟩ := Res.all_of (Res.all_bind h2)
  have hk' : cmpV op x y = some (.bl k) := by unfold cmpV; rw [hk]; rfl
  refine thn (ok_cmp hu op _ s2 σ H2 O c S2 x y z z2 v u _ (st2.sit I2 hK) (r1.ext e2) r2 rz rz2 hk') fun cv s3 ⟨z3, H3, I3, rz3, e3', cu3, r3⟩ => ?_
  cases r3
  cases rz3
  have st3 := st2.ext e3' cu3
  refine wpAny_truthy_bool ?_
  cases k with
  | false => exact ite_ff ⟨H3, I3, h2 H3 (e1.trans (e2.trans e3')) cu3⟩
  | true =>
    refine ite_tt (test_last (runO hd I3 st3 ((Res.all_bind h2).imp (fun w S4 h4 wv s4 z4 H4 I4 rz4 e4 st4 r4 => ?_) fun _ _ _ h H' e => h H' (e1.trans (e2.trans (e3'.trans e))))))
    obtain ⟨pv, hp, h4⟩ := Res.all_of h4
    obtain ⟨k2, hk2, h4⟩ := Res.all_of h4
    refine thn (ok_cmp hu op' _ s4 σ H4 O c S4 y w z2 z4 u wv pv (st4.sit I4 hK) (r2.ext (e3'.trans e4)) r4 rz2 rz4 hp) fun r s5 ⟨z5, H5, I5, rz5, e5, cu5, r5⟩ => ?_
    exact truth_ok ⟨I5, hK, cu5, (st4.ext e5 cu5).tr⟩ (.of r5) rz5 hk2 fun s' I' => ⟨H5, I', h4 H5 (e1.trans (e2.trans (e3'.trans (e4.trans e5)))) cu5⟩

/-! ### calls of defs -/
theorem call_r {P : Prog} {dd : Nat} {fd : FDef} {f : Str} (hC : ∀ args S, C f args S = evCall P dd fd.name args S) (hnp : ∀ (xs : List PV) S, fd.np ≠ xs.length → evCall P dd fd.name xs S = .bad) (σ : L2.St) (H : Hp) (Q : VK) (h : tE W G C Ew (.call f ms) σ H Q) :
    tCall (spF W P dd fd) [] (EwX W Ew) (tEs W G C Ew ms) σ H Q := by
  obtain ⟨c, O, ρ, S, st, h⟩ := h
  rw [ev] at h
  refine rdEs st ((Res.all_bind h).imp (fun xs S1 h1 zs H1 e1 st1 r1 => ?_) fun _ _ _ h => h)
  have h1' : (evCall P dd fd.name xs S1).all (fun pv S' => ∀ H' z, Ext c H H' → CupIs W H' c S' → Rep W H' O c pv z → Q z H') (fun n l S' => ∀ H', Ext c H H' → CupIs W H' c S' → Ew n l H') := by
    rw [← hC]; exact h1
  have hnp' : fd.np = xs.length := by
    refine Classical.byContradiction fun z => ?_
    rw [hnp xs S1 z] at h1'
    exact h1'
  refine ⟨c, O, S1, xs, by rw [List.append_nil, ← r1.length]; exact hnp'.symm, by rw [List.append_nil]; exact r1, st1.hit, st1.co, h1'.imp (fun pv S' h H' z e cu r _ => h H' z (e1.trans e) cu r) fun n l S' h H' e cu a ha => ⟨rfl, n, l, a, ha, rfl, h H' (e1.trans e) cu⟩⟩
theorem e_call {CX : CXT} {P : Prog} {dd k : Nat} {fd : FDef} {x : Str} {p : Pos} {f : Addr} {fdata : FuncData} {ps : List Str} (Fk : FnOk X.prog X.w X.K X.mg X.base CX k f fdata ps (spF W P dd fd)) (hr : Room k X.A) (hg : Gl X x) (hm : X.mg x = some (.ref f)) (hk : PySem.W.keepIn X.K (.ref f) = true) (hb : Binds X.K fdata ps [])
    (hx : Passes CX X (EwX W Ew)) (hC : ∀ args S, C x args S = evCall P dd fd.name args S) (hnp : ∀ (xs : List PV) S, fd.np ≠ xs.length → evCall P dd fd.name xs S = .bad) (ha : PA X (a :: es) (tEs W G C Ew ms)) (hdb : (x == ("__debug__" : Str)) = false) (he : isStar a = false) (hpl : es.all (fun e => !isStar e) = true) :
    PE X (.Call (.Name x p) (a :: es) [] pos) (tE W G C Ew (.call x ms)) :=
  (pe_call Fk hr hg hm hk hb .nil hx ha hdb (star_plain he) (plain_args hpl)).imp fun σ H Q h => call_r hC hnp σ H Q h
theorem e_call0 {CX : CXT} {P : Prog} {dd k : Nat} {fd : FDef} {x : Str} {p : Pos} {f : Addr} {fdata : FuncData} {ps : List Str} (Fk : FnOk X.prog X.w X.K X.mg X.base CX k f fdata ps (spF W P dd fd)) (hr : Room k X.A) (hg : Gl X x) (hm : X.mg x = some (.ref f)) (hk : PySem.W.keepIn X.K (.ref f) = true) (hb : Binds X.K fdata ps [])
    (hx : Passes CX X (EwX W Ew)) (hC : ∀ args S, C x args S = evCall P dd fd.name args S) (hnp : ∀ (xs : List PV) S, fd.np ≠ xs.length → evCall P dd fd.name xs S = .bad) (hdb : (x == ("__debug__" : Str)) = false) :
    PE X (.Call (.Name x p) [] [] pos) (tE W G C Ew (.call x .nil)) :=
  (pe_call0 Fk hr hg hm hk hb .nil hx hdb).imp fun σ H Q h => by
    obtain ⟨c, O, ρ, S, st, q⟩ := call_r hC hnp σ H Q h
    rw [evs] at q
    exact q H [] ExtO.refl st.cup .nil
mutual
/-- the cup comes to stand where nothing was -/
theorem Rep.cupd {p : Addr} (hc : c.a = none) (hn : H p = none) : ∀ {x : PV} {v : V}, Rep W H O c x v → Rep W H O ⟨some p, c.T⟩ x v
  | _, _, .non => .non
  | _, _, .bl b => .bl b
  | _, _, .int i => .int i
  | _, _, .str x => .str x
  | _, _, .tup n l => .tup (n.elim (fun q => .inl ⟨⟨fun z => (by cases z; exact rd_ne hn q.2.2 rfl), q.1.2⟩, q.2⟩) .inr) (RepL.cupd hc hn l)
  | _, _, .lst n m s l => .lst ⟨fun z => (by cases z; exact rd_ne hn (.inl s) rfl), n.2⟩ m s (RepL.cupd hc hn l)
  | _, _, .scr ns n => .scr ns (n.elim (fun q => .inl ⟨⟨fun z => (by cases z; exact rd_ne hn q.2.2 rfl), q.1.2⟩, q.2⟩) .inr)
  | _, _, .cup n => (by rw [hc] at n; cases n)
  | _, _, .fn n => .fn n
theorem RepL.cupd {p : Addr} (hc : c.a = none) (hn : H p = none) : ∀ {xs : List PV} {vs : List V}, RepL W H O c xs vs → RepL W H O ⟨some p, c.T⟩ xs vs
  | _, _, .nil => .nil
  | _, _, .cons a b => .cons (Rep.cupd hc hn a) (RepL.cupd hc hn b)
end
/-- cup = f(..), f a def whose answer is new -/
theorem s_mkCup {P : Prog} {dd i : Nat} {fd : FDef} {x : Str} (h : PS X st1 (tAsg (tCall (spF W P dd fd) [] (EwX W Ew) (tEs W G C Ew ms)) (gName i))) (hfr : fd.fresh = true) (hC : ∀ args S, C x args S = evCall P dd fd.name args S) (hnp : ∀ (xs : List PV) S, fd.np ≠ xs.length → evCall P dd fd.name xs S = .bad) (hi : i ∉ G) :
    PS X st1 (tS W G C F Ew (.mkCup i x ms)) := h.imp fun D σ H ⟨c, O, ρ, S, s, q⟩ => by
  cases S with
  | some ab => rw [run] at q; exact q.elim
  | none =>
    rw [run] at q
    have hc : c.a = none := by
      have cu := s.st.cup.1
      cases h : c.a with
      | none => rfl
      | some p => rw [h] at cu; exact cu.elim
    have hcc : c = F.c0 := by
      rcases s.cc with z | ⟨_, _, p, z, _⟩
      · exact z
      · rw [hc] at z; cases z
    have hc0 : F.c0.a = none := by rw [← hcc]; exact hc
    refine ⟨c, O, ρ, none, s.st, (out_all q).imp (fun xs S1 q H1 zs e1 cu1 r1 => ?_) fun n l S' q H' e cu => q H' (s.exn e cu)⟩
    have s1 := s.to (s.st.ext e1 cu1) e1
    have hnp' : fd.np = xs.length := by
      refine Classical.byContradiction fun z => ?_
      rw [hC, hnp xs S1 z] at q
      exact q.elim
    refine ⟨c, O, S1, xs, by rw [List.append_nil, ← r1.length]; exact hnp'.symm, by rw [List.append_nil]; exact r1, s1.st.hit, s1.st.co, ?_⟩
    rw [← hC]
    split at q
    case h_2 => exact q.elim
    rename_i a b hcall
    rw [hcall]
    intro H2 z e2 cu2 r2 fr
    obtain ⟨p, vs, ys, e3, rfl, hn, hp, ry⟩ := fr hfr
    cases e3
    obtain ⟨rfl⟩ : vs = [.int a, .int b] := by
      cases ry with
      | cons x1 l1 =>
        cases x1
        cases l1 with
        | cons x2 l2 =>
          cases x2
          cases l2
          rfl
    have e2' : Ext ⟨some p, c.T⟩ H1 H2 := fun a o n m h => e2 a o ⟨(by rw [hc]; intro z; cases z), n.2⟩ m h
    have h0 : F.H0 p = none := by
      cases q : F.H0 p with
      | none => rfl
      | some o => rw [s1.ext.at (by rw [← hcc]; exact s1.st.cup.ne hn) q] at hn; cases hn
    have hO : ∀ a ∈ O, a ≠ p := fun a ha z => s1.st.tr a ha (by rw [z]; exact hn)
    refine q (σ.set i (some (.ref p))) H2 ⟨some p, c.T⟩ O ?_
    have st2 : StR W G ⟨some p, c.T⟩ O σ H2 ρ (some (a, b)) := by
      refine ⟨s1.st.len, fun j qv hj hg => ?_, fun j qv hj hg => ?_, s1.st.sep, ⟨hp, cu2.2.1, cu2.2.2⟩, fun a ha z => ?_, fun a ha => ⟨fun z => ?_, (s1.st.co a ha).2⟩⟩
      · obtain ⟨v, q1, q2⟩ := s1.st.gen j qv hj hg
        exact ⟨v, q1, (q2.cupd hc hn).ext e2'⟩
      · obtain ⟨xs, a, vs, q1, q2, q3, q4, q5⟩ := s1.st.own j qv hj hg
        exact ⟨xs, a, vs, q1, q2, q3, e2.at (s1.st.co a q3) q4, (q5.cupd hc hn).ext e2'⟩
      · cases q' : H1 a with
        | none => exact s1.st.tr a ha q'
        | some o => rw [e2.at (s1.st.co a ha) q'] at z; cases z
      · cases z; exact hO p ha rfl
    have s2 : StS W G F ⟨some p, c.T⟩ O σ H2 ρ (some (a, b)) := ⟨st2, s1.sub, s1.new, by have := s1.ext; rw [← hcc] at this ⊢; exact ExtO.trans this e2, .inr ⟨hc0, by rw [hcc], p, rfl, h0⟩, s1.ofr, fun q hq => ((s1.kp q hq).cupd hc hn).ext e2'⟩
    exact s2.set hi (.cup rfl)
end
end Py

set_option Elab.async false
set_option linter.all false
set_option maxRecDepth 100000
set_option maxHeartbeats 4000000
/-! Py: fresh lists. -/
namespace Py
@[local simp] theorem ub_O {α β : Type} (r : Res α) (f : α → Cup → Res β) : r.bind f = (match r with | .ok a S => f a S | .exn c l S => .exn c l S | .bad => .bad) := rfl
@[local simp] theorem uo_O {α : Type} (o : Option α) (S : Cup) : Res.of o S = (match o with | some a => .ok a S | none => .bad) := rfl
@[local simp] theorem uu_O {α : Type} (r : Res α) (f : α → Cup → Out) : r.out f = (match r with | .ok a S => f a S | .exn c l S => .exn c l S | .bad => .bad) := rfl
@[local simp] theorem us_O (o : Out) (f : Env → Cup → Out) : o.seq f = (match o with | .next ρ S => f ρ S | o => o) := rfl
open PySem PySem.Spec PyProof.Rows L2
section
variable {X : Cx} {W : Wd} {G : List Nat} {C : Calls} {F : Fr} {Ew : Wish} {a b d e3 : Expr} {ma mb md m3 : ME} {ms : MEs} {es : List Expr} {pos : Pos} {st1 st2 : Stmt} {stl : List Stmt} {b1 b2 : MB}
variable {pins : List (Addr × Obj)} {s : Shared} {σ : L2.St} {H H' : Hp} {c : Cu} {O : List Addr} {ρ : Env} {S : Cup}
/-- always a list, when it comes to something -/
def lstE : ME → Bool
  | .lst _ => true | .comp .. => true | .comp2 .. => true | .cat .. => true | .callF .. => true
  | .blt .list1 _ => true | .blt .sorted1 _ => true
  | .ite _ a b => lstE a && lstE b
  | _ => false
theorem Res.bind_ok {α β : Type} {r : Res α} {f : α → Cup → Res β} {v : β} {S' : Cup} (h : r.bind f = .ok v S') : ∃ x S1, r = .ok x S1 ∧ f x S1 = .ok v S' := by
  cases r with
  | ok x S1 => exact ⟨x, S1, rfl, h⟩
  | exn c l S => cases h
  | bad => cases h
theorem Res.of_ok {α : Type} {o : Option α} {S S' : Cup} {v : α} (h : Res.of o S = .ok v S') : o = some v := by
  cases o with
  | none => cases h
  | some a => cases h; rfl
theorem lstE_ok : ∀ {m : ME} {ρ : Env} {S : Cup} {v : PV} {S' : Cup}, lstE m = true → ev C m ρ S = .ok v S' → isLst v = true := by
  intro m
  induction m using ME.rec (motive_2 := fun _ => True) (motive_3 := fun _ => True) (motive_4 := fun _ => True) with
  | lst es _ => 
    intro ρ S v S' _ h
    rw [ev] at h
    obtain ⟨x, S1, h1, h⟩ := Res.bind_ok h
    split at h <;> cases h; rfl
  | comp own elt t it ifs _ _ _ =>
    intro ρ S v S' _ h
    rw [ev] at h
    obtain ⟨x, S1, h1, h⟩ := Res.bind_ok h
    obtain ⟨x, S1, h1, h⟩ := Res.bind_ok h
    split at h <;> cases h; rfl
  | comp2 own elt t it own2 t2 it2 _ _ _ =>
    intro ρ S v S' _ h
    rw [ev] at h
    obtain ⟨x, S1, h1, h⟩ := Res.bind_ok h
    obtain ⟨x, S1, h1, h⟩ := Res.bind_ok h
    split at h <;> cases h; rfl
  | cat a b _ _ =>
    intro ρ S v S' _ h
    rw [ev] at h
    obtain ⟨x, S1, h1, h⟩ := Res.bind_ok h
    obtain ⟨y, S2, h2, h⟩ := Res.bind_ok h
    split at h
    · split at h <;> cases h; rfl
    · cases h
  | callF f es _ =>
    intro ρ S v S' _ h
    rw [ev] at h
    obtain ⟨x, S1, h1, h⟩ := Res.bind_ok h
    obtain ⟨y, S2, h2, h⟩ := Res.bind_ok h
    split at h
    · cases h; assumption
    · cases h
  | blt b es _ =>
    intro ρ S v S' hb h
    rw [ev] at h
    obtain ⟨x, S1, h1, h⟩ := Res.bind_ok h
    have h := Res.of_ok h
    cases b <;> simp [lstE] at hb
    · unfold bltV at h
      split at h <;> first | cases h | skip
      all_goals first | rfl | skip
      all_goals simp_all
    · have hs : ∀ ys : List PV, sortV ys = some v → isLst v = true := fun ys e => by
        unfold sortV at e
        split at e
        · cases e; rfl
        · cases e
      have h : bltV .sorted1 x = some v := h
      cases x with
      | nil => cases h
      | cons a r =>
        cases r with
        | nil =>
          have h : (seqOf a).bind sortV = some v := h
          rw [Option.bind_eq_some_iff] at h
          obtain ⟨ys, _, e⟩ := h
          exact hs ys e
        | cons b r => cases a <;> cases h
  | ite c a b _ iha ihb =>
    intro ρ S v S' hb h
    simp only [lstE, Bool.and_eq_true] at hb
    rw [ev] at h
    obtain ⟨x, S1, h1, h⟩ := Res.bind_ok h
    obtain ⟨y, S2, h2, h⟩ := Res.bind_ok h
    split at h
    · exact iha hb.1 h
    · exact ihb hb.2 h
  | _ => first | trivial | (intro ρ S v S' hb; simp [lstE] at hb)
theorem runF (h : PE X a (tF W G C Ew ma)) (I : Inv X pins σ H s) (st : StR W G c O σ H ρ S) {Q : Value → Shared → Prop}
    (q : (ev C ma ρ S).all (fun pv S' => ∀ v s' p xs vs H', Inv X pins σ H' s' → RelV (.ref p) v → Ext c H H' → CupIs W H' c S' → pv = .lst xs → H p = none → H' p = some (.lst vs) → RepL W H' (p :: O) c xs vs → Q v s') (fun n l S' => ∀ H', Ext c H H' → CupIs W H' c S' → Ew n l H')) :
    wpAny (model X.prog X.w) X.A (eval a X.env) Q X.xe s := by
  refine thn (h.run pins s σ H (fun z H' => ∀ v s', Inv X pins σ H' s' → RelV z v → Q v s') I ⟨c, O, ρ, S, st, q.imp (fun pv S' h H' p vs xs e cu ex hn hp r v s' I' rv => h v s' p xs vs H' I' rv e cu ex hn hp r) fun _ _ _ h => h⟩) fun v s' ⟨z, H', I', rv, k⟩ => k v s' I' rv
theorem f_ite (hd : PT X d (tT W G C Ew md)) (ha : PE X a (tF W G C Ew ma)) (hb : PE X b (tF W G C Ew mb)) : PE X (.IfExp d a b pos) (tF W G C Ew (.ite md ma mb)) := by
  refine ⟨fun pins s σ H Q I ⟨c, O, ρ, S, st, h⟩ => ?_⟩
  rw [ev] at h
  refine wpAny_IfExp (runT hd I st ?_)
  revert h
  cases ev C md ρ S with
  | ok x S1 =>
    cases hx : truthV x with
    | none => exact fun h => by simp [Res.all, hx] at h
    | some k =>
      intro h
      simp only [Res.bind, Res.of, hx] at h ⊢
      intro s' H' I' e st'
      have nn : ∀ {p : Addr}, H' p = none → H p = none := fun {p} hn => by
        cases q : H p with
        | none => rfl
        | some o => exact absurd (e.at (st'.cup.ne hn) q) (by rw [hn]; intro z; cases z)
      cases k with
      | true => exact runF ha I' st' (h.imp (fun y S2 h2 u s2 p xs vs H2 I2 rz2 e2 cu ex hn hp r2 => ⟨.ref p, H2, I2, rz2, h2 H2 p vs xs (e.trans e2) cu ex (nn hn) hp r2⟩) fun _ _ _ h H' e2 => h H' (e.trans e2))
      | false => exact runF hb I' st' (h.imp (fun y S2 h2 u s2 p xs vs H2 I2 rz2 e2 cu ex hn hp r2 => ⟨.ref p, H2, I2, rz2, h2 H2 p vs xs (e.trans e2) cu ex (nn hn) hp r2⟩) fun _ _ _ h H' e2 => h H' (e.trans e2))
  | exn n l S1 => exact fun h => h
  | bad => exact fun h => h
theorem f_cat (hK : W.K = X.K) (ha : PE X a (tO W G C Ew ma)) (hb : PE X b (tO W G C Ew mb)) : PE X (.BinOp a .Add b pos) (tF W G C Ew (.cat ma mb)) := by
  refine ⟨fun pins s σ H Q I ⟨c, O, ρ, S, st, h⟩ => ?_⟩
  rw [ev] at h
  refine wpAny_BinOp (runO ha I st ((Res.all_bind h).imp (fun x S1 h1 v s1 z H1 I1 rz e1 st1 r1 => ?_) fun _ _ _ h => h))
  refine runO hb I1 st1 ((Res.all_bind h1).imp (fun y S2 h2 u s2 z2 H2 I2 rz2 e2 st2 r2 => ?_) fun _ _ _ h H' e => h H' (e1.trans e))
  split at h2
  case h_2 => exact h2.elim
  rename_i xs ys
  split at h2
  case isFalse => exact h2.elim
  rename_i hl
  obtain ⟨p, vs, rfl, n1, h1, l1⟩ := (r1.ext e2).lst
  obtain ⟨q, ws, rfl, n2, h2', l2⟩ := r2.lst
  have q1 := l1.length
  have q2 := l2.length
  have e12 : Ext c H H2 := ExtO.trans e1 e2
  refine op_cat pins s2 σ H2 _ _ v u _ I2 rz rz2 ⟨p, q, vs, ws, rfl, rfl, h1, h2', by rw [← lineN_eq]; omega, fun p hp => ?_⟩
  have hn : H p = none := by
    cases q : H p with
    | none => rfl
    | some o => have hc := st2.cup.ne hp; rw [Ext.at e12 hc q] at hp; cases hp
  exact h2 _ p _ _ (e12.trans (ExtO.new hp)) (st2.cup.new hp) rfl hn upd_same (((l1.append l2).own hp).ext (ExtO.new hp))
/-- list(x) -/
theorem f_list1 {p : Pos} (hK : W.K = X.K) (hg : Gl X "list") (hm : X.mg "list" = none) (ha : PA X (a :: es) (tOs W G C Ew ms)) (hs : isStar a = false) (hpl : es.all (fun e => !isStar e) = true) : PE X (.Call (.Name "list" p) (a :: es) [] pos) (tF W G C Ew (.blt .list1 ms)) :=
  (pe_callTy call_list_of hg hm rfl ha (by decide) (by decide) (star_plain hs) (plain_args hpl)).imp fun σ H Q ⟨c, O, ρ, S, st, h⟩ => by
    rw [ev] at h
    refine rdOs st ((Res.all_bind h).imp (fun xs S1 h1 zs H1 e1 st1 r1 => ?_) fun _ _ _ h => h)
    obtain ⟨pv, hp, h2⟩ := Res.all_of h1
    clear h1
    obtain ⟨x, rfl⟩ := blt_one hp ⟨by decide, by decide⟩
    obtain ⟨z, rfl, r⟩ := r1.one
    have nn : ∀ {p : Addr}, H1 p = none → H p = none := fun {p} hn => by
      cases q : H p with
      | none => rfl
      | some o => have hc := st1.cup.ne hn; rw [e1.at hc q] at hn; cases hn
    have done : ∀ {xs : List PV} {vs : List V}, pv = .lst xs → RepL W H1 O c xs vs → ∀ l, H1 l = none → Q (.ref l) (upd H1 l (.lst vs)) := fun ex r l hl =>
      h2 _ l _ _ (e1.trans (ExtO.new hl)) (st1.cup.new hl) ex (nn hl) upd_same ((r.own hl).ext (ExtO.new hl))
    cases x <;> first | cases hp | skip
    case lst xs =>
      obtain ⟨p, vs, rfl, n, h, l⟩ := r.lst
      exact ⟨p, vs, rfl, .inl (SqL.of h), done rfl l⟩
    case tup xs =>
      obtain ⟨p, vs, rfl, n, m, h, l⟩ := r.tup
      rw [hK] at h
      exact ⟨p, vs, rfl, .inr h, done rfl l⟩
    case scr _ =>
      rename_i ns
      obtain ⟨p, rfl, h⟩ := r.scr
      rw [hK] at h
      exact ⟨p, _, rfl, .inl h, done rfl (RepL.ints ns)⟩
/-- a call of a def whose answer is new -/
theorem callF_r {P : Prog} {dd : Nat} {fd : FDef} {f : Str} (hfr : fd.fresh = true) (hC : ∀ args S, C f args S = evCall P dd fd.name args S) (hnp : ∀ (xs : List PV) S, fd.np ≠ xs.length → evCall P dd fd.name xs S = .bad) (σ : L2.St) (H : Hp) (Q : VK) (h : tF W G C Ew (.callF f ms) σ H Q) :
    tCall (spF W P dd fd) [] (EwX W Ew) (tEs W G C Ew ms) σ H Q := by
  obtain ⟨c, O, ρ, S, st, h⟩ := h
  rw [ev] at h
  refine rdEs st ((Res.all_bind h).imp (fun xs S1 h1 zs H1 e1 st1 r1 => ?_) fun _ _ _ h => h)
  have h1 := Res.all_bind h1
  rw [hC] at h1
  have hnp' : fd.np = xs.length := by
    refine Classical.byContradiction fun z => ?_
    rw [hnp xs S1 z] at h1
    exact h1
  refine ⟨c, O, S1, xs, by rw [List.append_nil, ← r1.length]; exact hnp'.symm, by rw [List.append_nil]; exact r1, st1.hit, st1.co, h1.imp (fun pv S' h H' z e cu r fr => ?_) fun n l S' h H' e cu a ha => ⟨rfl, n, l, a, ha, rfl, h H' (e1.trans e) cu⟩⟩
  obtain ⟨p, vs, ys, rfl, rfl, hn, hp, ry⟩ := fr hfr
  have nn : H p = none := by
    cases q : H p with
    | none => rfl
    | some o => have hc := st1.cup.ne hn; rw [e1.at hc q] at hn; cases hn
  exact h H' p vs ys (e1.trans e) cu rfl nn hp ry
end
end Py

set_option Elab.async false
set_option linter.all false
set_option maxRecDepth 100000
set_option maxHeartbeats 4000000
/-! Py: a comprehension with two walks. -/
namespace Py
open PySem PySem.Spec PyProof.Rows L2
section
variable {X : Cx} {W : Wd} {G : List Nat} {C : Calls} {Ew : Wish}
/-- the list that grows may change where it stands, if no slot holds it -/
theorem StR.extD {c : Cu} {O : List Addr} {σ : L2.St} {H H' : Hp} {ρ : Env} {S S' : Cup} {D : Addr} (st : StR W G c (D :: O) σ H ρ S) (e : ExtO [D] c H H') (cu : CupIs W H' c S') (hD : H' D ≠ none) (nD : ∀ i ∈ G, ∀ pv, ρ[i]? = some (some pv) → σ[i]? ≠ some (some (.ref D))) : StR W G c (D :: O) σ H' ρ S' where
  len := st.len
  gen := fun i pv hi hg => let ⟨v, a, b⟩ := st.gen i pv hi hg; ⟨v, a, b.extO (e.wide fun x hx => by simp at hx; simp [hx])⟩
  own := fun i pv hi hg => by
    obtain ⟨xs, a, vs, h1, h2, h3, h4, h5⟩ := st.own i pv hi hg
    have ha : a ≠ D := fun z => nD i hg pv hi (by rw [h2, z])
    exact ⟨xs, a, vs, h1, h2, h3, e a _ (st.co a h3) (by simpa using ha) h4, h5.extO (e.wide fun x hx => by simp at hx; simp [hx])⟩
  sep := st.sep
  cup := cu
  tr := fun a ha z => by
    by_cases q : a = D
    · rw [q] at z; exact hD z
    · cases r : H a with
      | none => exact st.tr a ha r
      | some o => rw [e a o (st.co a ha) (by simpa using q) r] at z; cases z
  co := st.co
theorem wipeE_get {j : Nat} : ∀ (own : List Nat) (ρ : Env), j ∉ own → (wipeE ρ own)[j]? = ρ[j]?
  | [], _, _ => rfl
  | v :: vs, ρ, h => by
    rw [wipeE, List.getElem?_set_ne (fun z => h (by rw [z]; exact List.mem_cons_self)), wipeE_get vs ρ fun z => h (List.mem_cons_of_mem _ z)]
theorem wipe_get {j : Nat} : ∀ (own : List Nat) (σ : L2.St), j ∉ own → (L2.wipe σ own)[j]? = σ[j]?
  | [], _, _ => rfl
  | v :: vs, σ, h => by
    rw [L2.wipe, List.getElem?_set_ne (fun z => h (by rw [z]; exact List.mem_cons_self)), wipe_get vs σ fun z => h (List.mem_cons_of_mem _ z)]
theorem bindT_get {t : MT} {v : PV} {ρ ρ' : Env} {j : Nat} (h : bindT t v ρ = some ρ') (hj : j ∉ t.ix) : ρ'[j]? = ρ[j]? := by
  cases t with
  | one i =>
    cases h
    exact List.getElem?_set_ne (fun z => hj (by rw [← z]; exact List.mem_singleton.mpr rfl))
  | tup is =>
    cases v <;> first | (cases h; done) | skip
    rename_i vs
    simp only [bindT] at h
    split at h
    · cases h
      have key : ∀ (ps : List (Nat × PV)) (ρ : Env), (∀ p ∈ ps, p.1 ≠ j) → (ps.foldl (fun r p => r.set p.1 (some p.2)) ρ)[j]? = ρ[j]? := by
        intro ps
        induction ps with
        | nil => intro ρ _; rfl
        | cons p ps ih =>
          intro ρ hp
          rw [List.foldl_cons, ih _ fun q hq => hp q (List.mem_cons_of_mem _ hq), List.getElem?_set_ne (hp p List.mem_cons_self)]
      exact key _ _ fun p hp z => hj (by rw [← z]; exact (List.of_mem_zip hp).1)
    · cases h
theorem f_comp2 {own : List (Str × Nat)} {melt : ME} {t t2 : MT} {mi mi2 : MI} {vs1 : List Nat} (hK : W.K = X.K)
    (hto : ∀ i ∈ t.ix, i ∈ own.map (·.2)) (hoG : ∀ i ∈ own.map (·.2), i ∉ G) (hv : ∀ i ∈ vs1, i ∈ own.map (·.2)) (ht2 : ∀ i ∈ t2.ix, i ∈ vs1) : ∀ (σ : L2.St) (H : Hp) (Q : VK), tF W G C Ew (.comp2 (own.map (·.2)) melt t mi vs1 t2 mi2) σ H Q →
      tLc2 (tI W G C Ew mi) (gT W G t) (tM W G C Ew0 .no) (tIg W G C Ew0 mi2) (gT W G t2) (tM W G C Ew0 .no) (tE W G C Ew0 melt) (own.map (·.2)) vs1 σ H Q := by
  intro σ H Q ⟨c, O, ρ, S, st, h⟩
  rw [ev] at h
  generalize hw : own.map (·.2) = ow at *
  refine ⟨c, O, ρ, S, st, (Res.all_bind h).imp (fun items S1 h1 H1 J e1 c1 it D hD => ?_) fun _ _ _ h => h⟩
  generalize hf : (fun (x : PV) (S : Cup) => match bindT t x (wipeE ρ ow) with
      | Option.none => Res.bad
      | some ρ1 => (evI C mi2 ρ1 S).bind fun ys S1 => flatR (fun y S => match bindT t2 y (wipeE ρ1 vs1) with
        | Option.none => Res.bad
        | some ρ2 => (ev C melt ρ2 S).bind fun z S2 => Res.ok [z] S2) ys S1) = f at h1
  cases hfl : flatR f items S1 with
  | exn n l S' => exact absurd hfl (flatR_exn _ _)
  | bad => rw [hfl] at h1; exact h1.elim
  | ok ys S2 =>
    rw [hfl] at h1
    simp only [Res.bind] at h1
    split at h1
    case isFalse => exact h1.elim
    rename_i hlen
    have hcD : c.No D := c1.ne hD
    have st1 := st.ext e1 c1
    have hHD : H D = Option.none := Ext.none e1 hcD hD
    have Ph : ∀ {Hh : Hp} {Si : Cup}, Ext c H1 Hh → CupIs W Hh c Si → Hh D ≠ Option.none → StR W G c (D :: O) σ Hh ρ Si := fun e cu q => st1.add hD e cu q
    let Inv0 : Nat → Hp → Prop := fun i Hh => ∃ Si acc vs zs, Ext c H1 Hh ∧ CupIs W Hh c Si ∧ Hh D = some (.lst vs) ∧ RepL W Hh (D :: O) c acc vs ∧ flatR f (items.drop i) Si = .ok zs S2 ∧ acc ++ zs = ys
    refine ⟨fun i m Hh => m = items.length - i ∧ i ≤ items.length ∧ Inv0 i Hh, ⟨items.length, by omega, Nat.zero_le _, S1, [], [], ys, ExtO.new hD, c1.new hD, upd_same, .nil, by simpa using hfl, by simp⟩, ?_⟩
    rintro i m Hh ⟨rfl, hle, Si, acc, vs, zs, e2, c2, hDv, ra, hfr, hys⟩
    have stD := Ph e2 c2 (by rw [hDv]; simp)
    have itD : IterAt W.K (RepO W Hh (D :: O) c) J items := it.imp fun x v r => (r.own' hD).ext e2
    obtain ⟨hstop, hgo⟩ := iter_steps rfl stD.hit itD i
    by_cases hlt : i < items.length
    · refine .inr ⟨(hgo hlt).1, fun H' => Inv0 (i + 1) H', fun H' q => ⟨items.length - (i + 1), by omega, rfl, hlt, q⟩, fun x H' y => ?_⟩
      obtain ⟨pv, hpv, e3, c3, r3⟩ := (hgo hlt).2 x H' y
      have hdrop : items.drop i = pv :: items.drop (i + 1) := by
        rw [List.drop_eq_getElem_cons hlt]
        rw [List.getElem?_eq_getElem hlt] at hpv
        cases hpv; rfl
      rw [hdrop] at hfr
      obtain ⟨y1, Sn, z1, hf1, hf2, rfl⟩ := flatR_ok hfr
      have hf1' : f pv Si = .ok y1 Sn := hf1
      rw [← hf] at hf1'
      simp only at hf1'
      cases hb : bindT t pv (wipeE ρ ow) with
      | none => rw [hb] at hf1'; cases hf1'
      | some ρ1 =>
        rw [hb] at hf1'
        simp only at hf1'
        have stw := (stD.ext e3 c3).wipe ow hoG
        refine ⟨c, D :: O, wipeE ρ ow, Si, pv, stw, r3, ρ1, hb, fun σ2 st2 hw2 hσ2 => ⟨?_, ?_⟩⟩
        · rw [hw2 ow hto, wipe_wipe]
        · refine ⟨c, D :: O, ρ1, Si, st2, ?_⟩
          rw [evT]
          intro H3 e4 c4
          have st3 := st2.ext e4 c4
          rw [if_pos rfl]
          cases hk : evI C mi2 ρ1 Si with
          | bad => rw [hk] at hf1'; cases hf1'
          | exn n l S' => rw [hk] at hf1'; cases hf1'
          | ok jts Sj =>
            rw [hk] at hf1'
            simp only [Res.bind] at hf1'
            refine ⟨c, D :: O, ρ1, Si, st3, ?_⟩
            rw [hk]
            intro H4 J1 e5 c5 it1
            have e15 : Ext c H1 H4 := e2.trans (e3.trans (e4.trans e5))
            have hD4 : H4 D = some (.lst vs) := (show Ext c Hh H4 from e3.trans (e4.trans e5)).at hcD hDv
            have ra4 := ra.ext (show Ext c Hh H4 from e3.trans (e4.trans e5))
            have st4 := st3.ext e5 c5
            have nD : ∀ i ∈ G, ∀ pv, ρ1[i]? = some (some pv) → σ2[i]? ≠ some (some (.ref D)) := fun i hi pv hp z => by
              have ho : i ∉ ow := fun q => hoG i q hi
              have ht : i ∉ t.ix := fun q => ho (hto i q)
              rw [bindT_get hb ht, wipeE_get ow ρ ho] at hp
              rw [(hσ2 i ht).1, wipe_get ow σ ho] at z
              obtain ⟨_, a, vs, _, q2, _, q4, _⟩ := st1.own i pv hp hi
              rw [q2] at z
              cases z
              rw [hD] at q4; cases q4
            obtain ⟨f2, hf2'⟩ : ∃ f2, f2 = (fun (y : PV) (S : Cup) => match bindT t2 y (wipeE ρ1 vs1) with
              | Option.none => Res.bad
              | some ρ2 => (ev C melt ρ2 S).bind fun z S2 => Res.ok [z] S2) := ⟨_, rfl⟩
            have hf1'' : flatR f2 jts Sj = .ok y1 Sn := by rw [hf2']; exact hf1'
            have ra0 := ra4
            let Inv1 : Nat → Hp → Prop := fun j Hh => ∃ Sk acc' vs' zs', Ext c H1 Hh ∧ ExtO [D] c H4 Hh ∧ CupIs W Hh c Sk ∧ Hh D = some (.lst vs') ∧ RepL W Hh (D :: O) c acc' vs' ∧ flatR f2 (jts.drop j) Sk = .ok zs' Sn ∧ acc' ++ (zs' ++ z1) = ys
            refine ⟨fun j m Hh => m = jts.length - j ∧ j ≤ jts.length ∧ Inv1 j Hh, ⟨jts.length, by omega, Nat.zero_le _, Sj, acc, vs, y1, e15, ExtO.refl, c5, hD4, ra4, by simpa using hf1'', hys⟩, ?_⟩
            rintro j m Hk ⟨rfl, hle1, Sk, acc', vs', zs', d1, d2, d3, d4, d5, d6, d7⟩
            have stk := st4.extD d2 d3 (by rw [d4]; simp) nD
            have itk : IterAt W.K (RepO W Hk (D :: O) c) J1 jts := it1.imp fun x v r => .of (r.extO (d2.wide fun x hx => by simp at hx; simp [hx]))
            obtain ⟨hstop1, hgo1⟩ := iter_steps rfl stk.hit itk j
            by_cases hlt1 : j < jts.length
            · refine .inr ⟨(hgo1 hlt1).1, fun H' => Inv1 (j + 1) H', fun H' q => ⟨jts.length - (j + 1), by omega, rfl, hlt1, q⟩, fun x1 H5 yy => ?_⟩
              obtain ⟨pv1, hpv1, e6, c6, r6⟩ := (hgo1 hlt1).2 x1 H5 yy
              have hdrop1 : jts.drop j = pv1 :: jts.drop (j + 1) := by
                rw [List.drop_eq_getElem_cons hlt1]
                rw [List.getElem?_eq_getElem hlt1] at hpv1
                cases hpv1; rfl
              rw [hdrop1] at d6
              obtain ⟨w1, Sm, w2, g1, g2, rfl⟩ := flatR_ok d6
              have g1' : f2 pv1 Sk = .ok w1 Sm := g1
              rw [hf2'] at g1'
              simp only at g1'
              cases hb2 : bindT t2 pv1 (wipeE ρ1 vs1) with
              | none => rw [hb2] at g1'; cases g1'
              | some ρ2 =>
                rw [hb2] at g1'
                simp only at g1'
                have hvG : ∀ i ∈ vs1, i ∉ G := fun i hi => hoG i (hv i hi)
                have stw1 := (stk.ext e6 c6).wipe vs1 hvG
                refine ⟨c, D :: O, wipeE ρ1 vs1, Sk, pv1, stw1, r6, ρ2, hb2, fun σ3 st5 hw3 _ => ⟨?_, ?_⟩⟩
                · rw [hw3 vs1 ht2, wipe_wipe]
                · refine ⟨c, D :: O, ρ2, Sk, st5, ?_⟩
                  rw [evT]
                  intro H6 e7 c7
                  have st6 := st5.ext e7 c7
                  rw [if_pos rfl]
                  refine ⟨c, D :: O, ρ2, Sk, st6, ?_⟩
                  cases hvv : ev C melt ρ2 Sk with
                  | bad => rw [hvv] at g1'; cases g1'
                  | exn n l S' => rw [hvv] at g1'; cases g1'
                  | ok yv S4 =>
                    rw [hvv] at g1'
                    simp only [Res.bind] at g1'
                    cases g1'
                    intro H7 z e8 c8 r8
                    have e9 : Ext c Hk H7 := e6.trans (e7.trans e8)
                    have hD7 := e9.at hcD d4
                    have hal := d5.length
                    refine ⟨vs', hD7, ?_, Sm, acc' ++ [yv], vs' ++ [z], w2, Ext.past (d1.trans e9) hD, ?_, c8.upd hcD hD7, upd_same, ?_, g2, ?_⟩
                    · have : ys.length = acc'.length + (1 + (w2.length + z1.length)) := by rw [← d7]; simp; omega
                      rw [← lineN_eq]
                      show _ < 16777216
                      have h0 : ys.length ≤ 16777216 := hlen
                      omega
                    · exact (d2.trans e9.all).trans (ExtO.ownd (by simp))
                    · exact ((d5.ext e9).append (.cons r8 .nil)).extO (ExtO.ownd List.mem_cons_self)
                    · rw [← d7]; simp
            · have hj : j = jts.length := by omega
              subst hj
              refine .inl ⟨hstop1 rfl, ?_⟩
              rw [List.drop_length] at d6
              cases d6
              exact ⟨Sn, acc', vs', z1, d1, d3, d4, d5, hf2, by simpa using d7⟩
    · have hi : i = items.length := by omega
      subst hi
      refine .inl ⟨hstop rfl, ?_⟩
      rw [List.drop_length] at hfr
      cases hfr
      rw [List.append_nil] at hys
      subst hys
      exact h1 Hh D vs acc (e1.trans e2) c2 rfl hHD hDv ra
end
end Py

set_option Elab.async false
set_option linter.all false
set_option maxRecDepth 100000
set_option maxHeartbeats 4000000
/-! Py: the checker of expressions: that a small expression is the reading of one of the text. -/
namespace Py
@[local simp] theorem ub_P {α β : Type} (r : Res α) (f : α → Cup → Res β) : r.bind f = (match r with | .ok a S => f a S | .exn c l S => .exn c l S | .bad => .bad) := rfl
@[local simp] theorem uo_P {α : Type} (o : Option α) (S : Cup) : Res.of o S = (match o with | some a => .ok a S | none => .bad) := rfl
@[local simp] theorem uu_P {α : Type} (r : Res α) (f : α → Cup → Out) : r.out f = (match r with | .ok a S => f a S | .exn c l S => .exn c l S | .bad => .bad) := rfl
@[local simp] theorem us_P (o : Out) (f : Env → Cup → Out) : o.seq f = (match o with | .next ρ S => f ρ S | o => o) := rfl
open PySem PySem.Spec PyProof.Rows L2

structure Ck where
  N : List Str
  sc : Scope
  G : List Nat
  glb : List (Str × PV)
  blt : List String
  fns : List (Str × Bool)
  fr : Bool
  kds : List (Str × Stmt × List Str)
  lam : Bool
abbrev Ck.blk (ck : Ck) (scope : Scope) : Ck := { ck with sc := relS scope ck.sc, lam := false }
abbrev Ck.frz (ck : Ck) (i : Nat) : Ck := { ck with G := thaw ck.G i }
inductive Md where
  | E | O | F | T
def okNm (x : Str) : Bool := !(x == ("__debug__" : Str)) && !(x == ("__classdict__" : Str))
def visB (sc : Scope) (x : Str) : Bool := match sc.names.lookup x with
  | some .local => true | some .cell => true | some .free => true | _ => false
def locB (sc : Scope) (x : Str) : Bool := match sc.names.lookup x with
  | some .local => true | some .cell => true | _ => false
def glB (sc : Scope) (x : Str) : Bool := match sc.names.lookup x with
  | some .globalImplicit => true | _ => false
def nmB (ck : Ck) (i : Nat) : Expr → Bool
  | .Name x _ => decide (ck.N[i]? = some x) && visB ck.sc x && okNm x
  | _ => false
def cstB : PV → Const → Bool
  | .non, .none => true | .bl a, .bool b => a == b | .int a, .int b => decide (a = b) | .str a, .str b => decide (a = b) | _, _ => false
mutual
def PV.same : PV → PV → Bool
  | .non, .non => true | .bl a, .bl b => a == b | .int a, .int b => decide (a = b) | .str a, .str b => decide (a = b)
  | .tup a, .tup b => sameL a b | .lst a, .lst b => sameL a b | _, _ => false
def sameL : List PV → List PV → Bool
  | [], [] => true | a :: r, b :: t => PV.same a b && sameL r t | _, _ => false
end
mutual
theorem PV.same_eq : ∀ {a b : PV}, PV.same a b = true → a = b
  | .non, b, h => by cases b <;> simp [PV.same] at h <;> rfl
  | .bl x, b, h => by cases b <;> simp [PV.same] at h <;> rw [h]
  | .int x, b, h => by cases b <;> simp [PV.same] at h <;> rw [h]
  | .str x, b, h => by cases b <;> simp [PV.same] at h <;> rw [h]
  | .tup x, b, h => by cases b <;> simp only [PV.same] at h <;> first | rw [sameL_eq h] | cases h
  | .lst x, b, h => by cases b <;> simp only [PV.same] at h <;> first | rw [sameL_eq h] | cases h
  | .cup, b, h => by cases b <;> simp [PV.same] at h
  | .scr x, b, h => by cases b <;> simp [PV.same] at h
  | .fn x, b, h => by cases b <;> simp [PV.same] at h
  | .dict _ _, b, h => by cases b <;> simp [PV.same] at h
  | .exn _ _, b, h => by cases b <;> simp [PV.same] at h
  | .lam _ _, b, h => by cases b <;> simp [PV.same] at h
theorem sameL_eq : ∀ {a b : List PV}, sameL a b = true → a = b
  | [], b, h => by cases b <;> simp [sameL] at h <;> rfl
  | x :: r, b, h => by
    cases b with
    | nil => simp [sameL] at h
    | cons y t =>
      simp only [sameL, Bool.and_eq_true] at h
      rw [PV.same_eq h.1, sameL_eq h.2]
end
def glbB (ck : Ck) (x : Str) (v : PV) : Bool := match ck.glb.lookup x with
  | some u => PV.same u v | none => false
def fnB (ck : Ck) (x : Str) (fr : Bool) : Bool := ck.fns.any fun p => decide (p.1 = x) && (!fr || p.2)
/-- a test that is a value's truth -/
def plainTest : Expr → Bool
  | .UnaryOp .. => false | .BoolOp .. => false | .IfExp .. => false | .Compare .. => false | _ => true
def notSet : Expr → Bool
  | .Set .. => false | _ => true
def notSlice : Expr → Bool
  | .Slice .. => false | _ => true
def md3 (md : Md) (e : Expr) (b : Bool) : Bool := match md with
  | .E => b | .O => b | .T => b && plainTest e | .F => false
def mdF (md : Md) (e : Expr) (b : Bool) : Bool := match md with
  | .E => b | .O => b | .T => b && plainTest e | .F => b
def splitB (op : BoolOp) : Expr → Option (Expr × Expr)
  | .BoolOp op' [x, y] _ => if op = op' then some (x, y) else none
  | .BoolOp op' (x :: y :: z :: r) p => if op = op' then some (x, .BoolOp op' (y :: z :: r) p) else none
  | _ => none
/-- built-ins by name: whether it is a type -/
def bltI : Blt → Option (String × Bool)
  | .len => some ("len", false) | .abs => some ("abs", false) | .sum => some ("sum", false) | .max1 => some ("max", false) | .min1 => some ("min", false) | .max2 => some ("max", false) | .min2 => some ("min", false)
  | .all1 => some ("all", false) | .any1 => some ("any", false) | .int1 => some ("int", true) | .str1 => some ("str", true) | .list1 => some ("list", true) | .tuple1 => some ("tuple", true) | .sorted1 => some ("sorted", false)
  | _ => none
def isList1 : Blt → Bool
  | .list1 => true | _ => false
def bltB (ck : Ck) (nm : String) (x : Str) : Bool := decide (x = Str.ofString nm) && glB ck.sc x && ck.blt.contains nm
def bltC (ck : Ck) (b : Blt) (e : Expr) (f : List Expr → Bool) : Bool := match e with
  | .Call (.Name x _) args [] _ => (match bltI b with | some (nm, _) => bltB ck nm x && !args.isEmpty && f args | none => false)
  | _ => false
/-- a target's names -/
def tgN (N : List Str) (ok : Str → Bool) (i : Nat) : Expr → Bool
  | .Name x _ => decide (N[i]? = some x) && ok x
  | _ => false
def tgNs (N : List Str) (ok : Str → Bool) : List Nat → List Expr → Bool
  | [], [] => true
  | i :: is, e :: es => tgN N ok i e && tgNs N ok is es
  | _, _ => false
def tgB (N : List Str) (ok : Str → Bool) : MT → Expr → Bool
  | .one i, e => tgN N ok i e
  | .tup is, .Tuple ts _ _ => tgNs N ok is ts
  | _, _ => false
def isTup : Expr → Bool
  | .Tuple .. => true | _ => false
def ownP (N : List Str) (own : List Nat) : List (Str × Nat) := own.map fun i => (N.getD i "", i)
def compB (ck : Ck) (own : List Nat) (t : MT) (scope : Scope) (g : Comprehension) (fI : Expr → Expr → Bool) (fQ : List Expr → Bool) (b : Bool) : Bool := match g with
  | ⟨tg, iter, ifs, asy⟩ => asy == 0 && blkC ck.N ck.sc scope (ownP ck.N own) && tgB ck.N (locB scope) t tg && own.all (fun i => !ck.G.contains i) && t.ix.all (fun i => own.contains i) && notSet iter && fI tg iter && fQ ifs && b
def comp2B (ck : Ck) (own : List Nat) (t : MT) (own2 : List Nat) (t2 : MT) (scope : Scope) (g g2 : Comprehension) (fI fI2 : Expr → Expr → Bool) (b : Bool) : Bool := match g, g2 with
  | ⟨tg, iter, [], asy⟩, ⟨tg2, iter2, [], asy2⟩ => asy == 0 && asy2 == 0 && blkC ck.N ck.sc scope (ownP ck.N own) && tgB ck.N (locB scope) t tg && tgB ck.N (locB scope) t2 tg2 && own.all (fun i => !ck.G.contains i) && t.ix.all (fun i => own.contains i) && own2.all (fun i => own.contains i) && t2.ix.all (fun i => own2.contains i) && notSet iter && notSet iter2 && fI tg iter && fI2 tg2 iter2 && b
  | _, _ => false
def kdB1 (st : Stmt) (ps : List Str) (glb : List (Str × PV)) (key : KX) : Bool := match defBody st, ps with
  | [.Return (some e) _], [p1, p2] => pscB [p1, p2] (defScope st) && kxB [p1, p2] (defScope st) glb key e
  | _, _ => false
def kdB (ck : Ck) (g : Str) (key : KX) : Bool := ck.kds.any fun p => decide (p.1 = g) && kdB1 p.2.1 p.2.2 ck.glb key
def lamB (sc scope : Scope) (r x1 g : Str) : Bool := (match scope.kind with | .function => true | _ => false) && !scope.isCoroutine && !scope.isGenerator && scope.names.all (fun y => match y.2 with | .cell => false | _ => true) &&
  scope.names.all (fun y => match y.2 with | .free => decide (sc.names.lookup y.1 = some .cell) || decide (sc.names.lookup y.1 = some .free) | _ => true) && decide (scope.names.lookup r = some .local) && decide (scope.names.lookup x1 = some .free) && decide (scope.names.lookup g = some .globalImplicit) && okNm' r && okNm' x1 && okNm' g
def sortKB (ck : Ck) (c : Nat) (f : Str) (key : KX) (e : Expr) (fa : Expr → Bool) : Bool := match e with
  | .Call (.Name sx _) [x] [⟨some kw, .Lambda params (.Call (.Name g _) [.Name x1 _, .Name r _] [] _) scope _, _⟩] _ =>
    decide (kw = "key") && bltB ck "sorted" sx && !isStar x && fa x && decide (g = f) && kdB ck g key && lamB ck.sc scope r x1 g && oneB params r && decide (ck.N[c]? = some x1) && !ck.G.contains c && ck.lam
  | _ => false
mutual
def chk (ck : Ck) (md : Md) (m : ME) (e : Expr) : Bool := match m with
  | .var i => md3 md e (!ck.G.contains i && nmB ck i e)
  | .own i => (match md with | .O => nmB ck i e | .T => nmB ck i e && plainTest e | _ => false)
  | .cst v => md3 md e (match e with | .Constant c _ _ => cstB v c | _ => false)
  | .glb x v => md3 md e (match e with | .Name y _ => decide (y = x) && glB ck.sc y && okNm y && glbB ck y v | _ => false)
  | .bin op a b => md3 md e (match e with | .BinOp x op' y _ => decide (op' = op) && chk ck .O a x && chk ck .O b y | _ => false)
  | .cat a b => mdF md e (match e with | .BinOp x op' y _ => decide (op' = .Add) && chk ck .O a x && chk ck .O b y | _ => false)
  | .neg a => md3 md e (match e with | .UnaryOp op x _ => decide (op = .USub) && chk ck .O a x | _ => false)
  | .not a => (match e with | .UnaryOp op x _ => decide (op = .Not) && (match md with | .T => chk ck .T a x | .F => false | _ => chk ck .O a x) | _ => false)
  | .and a b => (match splitB .And e with | some (x, y) => (match md with | .T => chk ck .T a x && chk ck .T b y | .F => false | _ => chk ck .E a x && chk ck .E b y) | none => false)
  | .or a b => (match splitB .Or e with | some (x, y) => (match md with | .T => chk ck .T a x && chk ck .T b y | .F => false | _ => chk ck .E a x && chk ck .E b y) | none => false)
  | .cmp op a b => (match e with | .Compare x [op'] [y] _ => decide (op' = op) && !behindInMarks op' y && chk ck .O a x && chk ck .O b y && (match md with | .F => false | _ => true) | _ => false)
  | .chain op op2 a b c => (match e with | .Compare x [op', op2'] [y, z] _ => decide (op' = op) && decide (op2' = op2) && !lastMarks [op', op2'] [y, z] && chk ck .O a x && chk ck .O b y && chk ck .O c z && (match md with | .F => false | _ => true) | _ => false)
  | .ite c a b => (match e with | .IfExp d x y _ => chk ck .T c d && (match md with | .T => false | .F => chk ck .F a x && chk ck .F b y | _ => chk ck .E a x && chk ck .E b y) | _ => false)
  | .tup es => md3 md e (match e with | .Tuple xs _ _ => chks ck false es xs | _ => false)
  | .lst es => mdF md e (match e with | .List xs _ => chks ck false es xs | _ => false)
  | .idx a b => md3 md e (match e with | .Subscript x y _ => notSlice y && chk ck .O a x && chk ck .O b y | _ => false)
  | .slc a lo hi => md3 md e (match e with | .Subscript x y _ => (match y with | .Slice l h none _ => chk ck .O a x && chkP ck lo l && chkP ck hi h | _ => false) | _ => false)
  | .rev a => md3 md e (match e with | .Subscript x (.Slice none none (some (.UnaryOp op (.Constant c _ _) _)) _) _ => decide (op = .USub) && decide (c = .int 1) && chk ck .O a x | _ => false)
  | .callF f es => mdF md e (match e with | .Call (.Name x _) args [] _ => decide (x = f) && glB ck.sc x && okNm x && fnB ck x true && chks ck false es args | _ => false)
  | .call f es => md3 md e (match e with | .Call (.Name x _) args [] _ => decide (x = f) && glB ck.sc x && okNm x && fnB ck x false && chks ck false es args | _ => false)
  | .blt b es => (match md with | .F => isList1 b | _ => true) && mdF md e (bltC ck b e (fun args => chks ck true es args))
  | .isin a t => md3 md e (match e with | .Call (.Name f _) [x, .Name nm _] [] _ => bltB ck "isinstance" f && bltB ck t.nm nm && !isStar x && chk ck .O a x | _ => false)
  | .comp own elt t it ifs => mdF md e (match e with
      | .ListComp el [g] scope _ => compB ck own t scope g (fun tg iter => chkI ck true it tg iter) (fun l => chkQ (ck.blk scope) ifs l) (chk (ck.blk scope) .E elt el)
      | _ => false)
  | .sortK a c f key => md3 md e (sortKB ck c f key e (fun x => chk ck .O a x))
  | .comp2 own elt t it own2 t2 it2 => mdF md e (match e with
      | .ListComp el [g, g2] scope _ => comp2B ck own t own2 t2 scope g g2 (fun tg iter => chkI ck true it tg iter) (fun tg iter => chkI (ck.blk scope) false it2 tg iter) (chk (ck.blk scope) .E elt el)
      | _ => false)
  | .minK .. => false | .sset _ => false | .lset _ => false
termination_by structural m
def chks (ck : Ck) (o : Bool) (ms : MEs) (es : List Expr) : Bool := match ms with
  | .nil => es.isEmpty
  | .cons m r => (match es with | e :: t => !isStar e && chk ck (if o then .O else .E) m e && chks ck o r t | [] => false)
termination_by structural ms
def chkP (ck : Ck) (m : MO) (e : Option Expr) : Bool := match m with
  | .no => e.isNone
  | .yes m => (match e with | some e => chk ck .O m e | none => false)
termination_by structural m
def chkQ (ck : Ck) (m : MO) (es : List Expr) : Bool := match m with
  | .no => es.isEmpty
  | .yes m => (match es with | [e] => chk ck .T m e | _ => false)
termination_by structural m
def chkI (ck : Ck) (o : Bool) (m : MI) (tg e : Expr) : Bool := match m with
  | .seq m => chk ck (if o then .O else .E) m e
  | .rng1 a => (match e with | .Call (.Name f _) [x] [] _ => bltB ck "range" f && !isStar x && chk ck (if o then .O else .E) a x | _ => false)
  | .rng2 a b => (match e with | .Call (.Name f _) [x, y] [] _ => bltB ck "range" f && !isStar x && !isStar y && chk ck (if o then .O else .E) a x && chk ck (if o then .O else .E) b y | _ => false)
  | .enum a => isTup tg && (match e with | .Call (.Name f _) [x] [] _ => bltB ck "enumerate" f && !isStar x && chk ck (if o then .O else .E) a x | _ => false)
  | .zip2 a b => isTup tg && (match e with | .Call (.Name f _) [x, y] [] _ => bltB ck "zip" f && !isStar x && !isStar y && chk ck (if o then .O else .E) a x && chk ck (if o then .O else .E) b y | _ => false)
  | .zip3 .. => false
termination_by structural m
end
end Py

set_option Elab.async false
set_option linter.all false
set_option maxRecDepth 100000
set_option maxHeartbeats 4000000
/-! Py: the checker of expressions tells the truth. -/
namespace Py
@[local simp] theorem ub_Q {α β : Type} (r : Res α) (f : α → Cup → Res β) : r.bind f = (match r with | .ok a S => f a S | .exn c l S => .exn c l S | .bad => .bad) := rfl
@[local simp] theorem uo_Q {α : Type} (o : Option α) (S : Cup) : Res.of o S = (match o with | some a => .ok a S | none => .bad) := rfl
@[local simp] theorem uu_Q {α : Type} (r : Res α) (f : α → Cup → Out) : r.out f = (match r with | .ok a S => f a S | .exn c l S => .exn c l S | .bad => .bad) := rfl
@[local simp] theorem us_Q (o : Out) (f : Env → Cup → Out) : o.seq f = (match o with | .next ρ S => f ρ S | o => o) := rfl
open PySem PySem.Spec PyProof.Rows L2

def FnHas (X : Cx) (W : Wd) (C : Calls) (x : Str) (fr : Bool) : Prop :=
  ∃ (P : Prog) (dd : Nat) (fd : FDef) (f : Addr) (fdata : FuncData) (ps : List Str) (k : Nat), FnOk X.prog X.w X.K X.mg X.base L2.CX0 k f fdata ps (spF W P dd fd) ∧ Room k X.A ∧ X.mg x = some (.ref f) ∧ PySem.W.keepIn X.K (.ref f) = true ∧ Binds X.K fdata ps [] ∧
    (∀ args S, C x args S = evCall P dd fd.name args S) ∧ (∀ (xs : List PV) S, fd.np ≠ xs.length → evCall P dd fd.name xs S = .bad) ∧ (fr = true → fd.fresh = true)
structure CkOk (X : Cx) (W : Wd) (C : Calls) (ck : Ck) : Prop where
  K : W.K = X.K
  nd : X.N.Nodup
  N : X.N = ck.N
  sc : X.env.scope = ck.sc
  calm : X.calm = true
  un : X.A.units + 65 < cLine
  glb : ∀ x v, ck.glb.lookup x = some v → ∃ z u, X.mg x = some u ∧ RelV z u ∧ ∀ H O c, Rep W H O c v z
  blt : ∀ x ∈ ck.blt, X.mg (Str.ofString x) = none
  fns : ∀ p ∈ ck.fns, FnHas X W C p.1 p.2
  dp : X.A.depth + 4 < recursionLimit
  kds : ∀ p ∈ ck.kds, ∃ fa fdata, Fun X.K p.1 p.1 p.2.1 fa fdata ∧ X.mg p.1 = some (.ref fa) ∧ Binds X.K fdata p.2.2 []
  lam : ck.lam = true → LTab X W
section
variable {X : Cx} {W : Wd} {C : Calls} {Ew : Wish} {ck : Ck}
theorem CkOk.blk (k : CkOk X W C ck) (s : Shared) (H : Hp) (scope : Scope) (C' : Addr) (cl : List (Str × Addr)) (fp : List Addr) : CkOk (X.blk s H scope (compEnvC scope cl C' X.env) fp) W C (ck.blk scope) :=
  ⟨k.K, k.nd, k.N, by show relS scope X.env.scope = relS scope ck.sc; rw [k.sc], k.calm, k.un, k.glb, k.blt, k.fns, k.dp, k.kds, fun h => (by cases h)⟩
theorem kd_ok (k : CkOk X W C ck) {g : Str} {key : KX} (h : kdB ck g key = true) : KDef X ck.glb g key := by
  unfold kdB at h
  rw [List.any_eq_true] at h
  obtain ⟨p, hp, h⟩ := h
  simp only [Bool.and_eq_true, decide_eq_true_eq] at h
  obtain ⟨rfl, h⟩ := h
  obtain ⟨fa, fdata, F, hm, hb⟩ := k.kds p hp
  unfold kdB1 at h
  split at h
  · rename_i e rp p1 p2 e1 e2
    simp only [Bool.and_eq_true] at h
    obtain ⟨oc, od, kV, doc, pm, an, cdv, ct, osl, rfl, lk, hcd⟩ := F.ex
    rw [e1] at lk hb
    rw [e2] at hb
    exact ⟨fa, oc, od, an, osl, _, e, rp, _, _, kV, doc, pm, cdv, ct, p1, p2, lk, hcd, pscB_ok h.1, hb, hm, F.kp, h.2⟩
  · cases h
theorem lamB_ok {sc scope : Scope} {r x1 g : Str} (h : lamB sc scope r x1 g = true) : LamK sc scope r x1 g := by
  unfold lamB at h
  simp only [Bool.and_eq_true, Bool.not_eq_true', List.all_eq_true, decide_eq_true_eq] at h
  obtain ⟨⟨⟨⟨⟨⟨⟨⟨⟨⟨h1, h2⟩, h3⟩, h4⟩, h5⟩, h6⟩, h7⟩, h8⟩, h9⟩, h10⟩, h11⟩ := h
  refine ⟨?_, h2, h3, fun y hy z => ?_, fun y hy z => ?_, h6, h7, h8, h9, h10, h11⟩
  · cases hk : scope.kind <;> rw [hk] at h1 <;> first | rfl | cases h1
  · have := h4 y hy
    rw [z] at this; cases this
  · have := h5 y hy
    rw [z] at this
    simpa using this
theorem visB_ok {sc : Scope} {x : Str} (h : visB sc x = true) : Vis sc x := by
  unfold visB at h
  split at h
  · exact .inl ‹_›
  · exact .inr (.inl ‹_›)
  · exact .inr (.inr ‹_›)
  · cases h
theorem locB_ok {sc : Scope} {x : Str} (h : locB sc x = true) : Loc sc x := by
  unfold locB at h
  split at h
  · exact .inl ‹_›
  · exact .inr ‹_›
  · cases h
theorem glB_ok (k : CkOk X W C ck) {x : Str} (h : glB ck.sc x = true) : Gl X x := by
  unfold glB at h
  split at h
  · show X.env.scope.names.lookup x = _
    rw [k.sc]; assumption
  · cases h
theorem okNm_ok {x : Str} (h : okNm x = true) : (x == ("__debug__" : Str)) = false ∧ (x == ("__classdict__" : Str)) = false := by
  unfold okNm at h
  simpa using h
theorem nm_ok (k : CkOk X W C ck) {i : Nat} {e : Expr} (h : nmB ck i e = true) : PE X e (tVar i) := by
  unfold nmB at h
  split at h
  · simp only [Bool.and_eq_true, decide_eq_true_eq] at h
    obtain ⟨⟨h1, h2⟩, h3⟩ := h
    obtain ⟨h4, h5⟩ := okNm_ok h3
    exact pe_var (by rw [k.N]; exact h1) (by rw [k.sc]; exact visB_ok h2) h4 h5
  · cases h
theorem nmB_name {i : Nat} {e : Expr} (h : nmB ck i e = true) : ∃ x p, e = .Name x p := by
  unfold nmB at h
  split at h
  · exact ⟨_, _, rfl⟩
  · cases h
theorem plainTest_ok {e : Expr} (h : plainTest e = true) (env : PySem.Env) (whole : Sem Value) : isTrue e env whole = (do let v ← whole; standAt e.pos; holding [v] (truthy v)) := by
  cases e <;> first | (simp [plainTest] at h; done) | rfl | (rw [isTrue]; simp)
theorem notSet_ok {e : Expr} (h : notSet e = true) (env : PySem.Env) (x : Value) : foldedSetIterable e env x = pure x := by
  cases e <;> first | (simp [notSet] at h; done) | rfl
theorem notSlice_ok {e : Expr} (h : notSlice e = true) : PlainIx e := by
  intro o i
  cases e <;> first | (simp [notSlice] at h; done) | rfl
def Rd (X : Cx) (W : Wd) (G : List Nat) (C : Calls) (Ew : Wish) (md : Md) (m : ME) (e : Expr) : Prop := match md with
  | .E => PE X e (tE W G C Ew m) | .O => PE X e (tO W G C Ew m) | .F => PE X e (tF W G C Ew m) | .T => PT X e (tT W G C Ew m)
theorem rd3 (k : CkOk X W C ck) {md : Md} {m : ME} {e : Expr} {b : Bool} (h : md3 md e b = true) (f : b = true → PE X e (tE W ck.G C Ew m)) : Rd X W ck.G C Ew md m e := by
  cases md with
  | E => exact f h
  | O => exact tE.op (f h)
  | T =>
    simp only [md3, Bool.and_eq_true] at h
    exact t_val k.K (tE.op (f h.1)) (plainTest_ok h.2 _)
  | F => cases h
theorem rdF (k : CkOk X W C ck) {md : Md} {m : ME} {e : Expr} {b : Bool} (h : mdF md e b = true) (hl : lstE m = true) (f : b = true → PE X e (tF W ck.G C Ew m)) : Rd X W ck.G C Ew md m e := by
  have g : b = true → PE X e (tE W ck.G C Ew m) := fun hb => tF.e k.K (f hb) fun ρ S v S' => lstE_ok hl
  cases md with
  | E => exact g h
  | O => exact tE.op (g h)
  | T =>
    simp only [mdF, Bool.and_eq_true] at h
    exact t_val k.K (tE.op (g h.1)) (plainTest_ok h.2 _)
  | F => exact f h
theorem cst_ok {v : PV} {c : Const} {i : Nat} {pos : Pos} (h : cstB v c = true) : PE X (.Constant c i pos) (tE W ck.G C Ew (.cst v)) := by
  cases v <;> cases c <;> simp only [cstB] at h <;> first | cases h | skip
  · exact e_cst pe_non (fun _ _ => rfl) fun _ _ _ => .non
  · rw [beq_iff_eq] at h; subst h; exact e_cst pe_bl (fun _ _ => rfl) fun _ _ _ => .bl _
  · rw [decide_eq_true_eq] at h; subst h; exact e_cst pe_int (fun _ _ => rfl) fun _ _ _ => .int _
  · rw [decide_eq_true_eq] at h; subst h; exact e_cst pe_str (fun _ _ => rfl) fun _ _ _ => .str _
theorem glb_ok (k : CkOk X W C ck) {v : PV} {x : Str} {pos : Pos} (hg : glB ck.sc x = true) (hn : okNm x = true) (h : glbB ck x v = true) : PE X (.Name x pos) (tE W ck.G C Ew (.glb x v)) := by
  unfold glbB at h
  split at h
  · rename_i u hu
    obtain rfl := PV.same_eq h
    obtain ⟨z, w, h1, h2, h3⟩ := k.glb x _ hu
    exact e_cst (pe_glob (glB_ok k hg) h1 h2 (okNm_ok hn).1) (fun _ _ => rfl) h3
  · cases h
theorem fn_ok (k : CkOk X W C ck) {x : Str} {fr : Bool} (h : fnB ck x fr = true) : FnHas X W C x fr := by
  unfold fnB at h
  rw [List.any_eq_true] at h
  obtain ⟨p, hp, h⟩ := h
  simp only [Bool.and_eq_true, decide_eq_true_eq, Bool.or_eq_true, Bool.not_eq_true'] at h
  obtain ⟨rfl, h⟩ := h
  obtain ⟨P, dd, fd, f, fdata, ps, kk, q1, q2, q3, q4, q5, q6, q7, q8⟩ := k.fns p hp
  refine ⟨P, dd, fd, f, fdata, ps, kk, q1, q2, q3, q4, q5, q6, q7, fun z => ?_⟩
  rcases h with h | h
  · rw [h] at z; cases z
  · exact q8 h
theorem bltB_ok (k : CkOk X W C ck) {nm : String} {x : Str} (h : bltB ck nm x = true) : x = Str.ofString nm ∧ Gl X x ∧ X.mg x = none := by
  unfold bltB at h
  simp only [Bool.and_eq_true, decide_eq_true_eq] at h
  obtain ⟨⟨h1, h2⟩, h3⟩ := h
  refine ⟨h1, glB_ok k h2, ?_⟩
  rw [h1]
  exact k.blt nm (by simpa using h3)
theorem blt_cok (hK : W.K = X.K) (hc : X.calm = true) (hu : X.A.units + 65 < cLine) {bb : Blt} {nm : String} {ty : Bool} (h : bltI bb = some (nm, ty)) : CallOk X W (if ty then .type nm else .builtin nm) (bltV bb) := by
  cases bb <;> simp only [bltI] at h <;> cases h
  · exact ok_len
  · exact ok_abs
  · exact ok_sum hc
  · exact ok_max1 hc
  · exact ok_min1 hc
  · exact ok_max2 hc
  · exact ok_min2 hc
  · exact ok_int
  · exact ok_str
  · exact ok_list
  · exact ok_tuple
  · exact ok_sorted hu
  · exact ok_all hc
  · exact ok_any hc
theorem blt_boot {bb : Blt} {nm : String} {ty : Bool} (h : bltI bb = some (nm, ty)) : bootBuiltins (Str.ofString nm) = some (if ty then .type nm else .builtin nm) ∧ Str.ofString nm ≠ "__name__" ∧ ((Str.ofString nm) == ("__debug__" : Str)) = false := by
  cases bb <;> simp only [bltI] at h <;> cases h <;> exact ⟨rfl, by decide, by decide⟩
theorem ty_boot (t : Ty) : bootBuiltins (Str.ofString t.nm) = some (.type t.nm) ∧ Str.ofString t.nm ≠ "__name__" ∧ ((Str.ofString t.nm) == ("__debug__" : Str)) = false := by
  cases t <;> exact ⟨rfl, by decide, by decide⟩
theorem splitB_and {e x y : Expr} {op : BoolOp} (h : splitB op e = some (x, y)) : (∃ p, e = .BoolOp op [x, y] p) ∨ (∃ z u r p, y = .BoolOp op (z :: u :: r) p ∧ e = .BoolOp op (x :: z :: u :: r) p) := by
  unfold splitB at h
  split at h
  · split at h
    · cases h; subst_vars; exact .inl ⟨_, rfl⟩
    · cases h
  · split at h
    · cases h; subst_vars; exact .inr ⟨_, _, _, _, rfl, rfl⟩
    · cases h
  · cases h
theorem pw_bool {op : BoolOp} {vs : List Expr} {p : Pos} {t : TT} (h : PT X (.BoolOp op vs p) t) : PW X (.BoolOp op vs p) t := by
  refine ⟨fun whole pins s σ H Q I hw => ?_⟩
  have := h.run pins s σ H Q I hw
  rw [PySem.isTrue] at this ⊢
  exact this
theorem tgN_ok (hN : X.N.Nodup) (eN : X.N = ck.N) {ok : Str → Bool} (hok : ∀ x, ok x = true → Loc X.env.scope x ∧ (X.fn x = true ∨ X.env.scope.names.lookup x = some .local)) {i : Nat} {e : Expr} (h : tgN ck.N ok i e = true) : PG X e (gName i) := by
  unfold tgN at h
  split at h
  · simp only [Bool.and_eq_true, decide_eq_true_eq] at h
    obtain ⟨h1, h2⟩ := hok _ h.2
    exact pg_name hN (by rw [eN]; exact h.1) h1 h2
  · cases h
theorem tgN_star {N : List Str} {ok : Str → Bool} {i : Nat} {e : Expr} (h : tgN N ok i e = true) : isStar e = false := by
  unfold tgN at h
  split at h
  · rfl
  · cases h
theorem tgNs_ok (hN : X.N.Nodup) (eN : X.N = ck.N) {ok : Str → Bool} (hok : ∀ x, ok x = true → Loc X.env.scope x ∧ (X.fn x = true ∨ X.env.scope.names.lookup x = some .local)) : ∀ {is : List Nat} {es : List Expr}, tgNs ck.N ok is es = true →
    Paired (fun t i => PG X t (gName i)) es is ∧ (∀ t ∈ es, isStar t = false) ∧ es.length = is.length ∧ ∀ env, (assignEach es env).length = is.length ∧ (assignEach es env).findIdx? (·.1) = none
  | [], [], _ => ⟨.nil, fun _ h => (by cases h), rfl, fun env => ⟨rfl, rfl⟩⟩
  | [], e :: es, h => by simp [tgNs] at h
  | i :: is, [], h => by simp [tgNs] at h
  | i :: is, e :: es, h => by
    simp only [tgNs, Bool.and_eq_true] at h
    obtain ⟨q1, q2, q4, q3⟩ := tgNs_ok hN eN hok h.2
    have hs := tgN_star h.1
    refine ⟨.cons (tgN_ok hN eN hok h.1) q1, fun t ht => ?_, by simp [q4], fun env => ?_⟩
    · rcases List.mem_cons.mp ht with rfl | ht
      · exact hs
      · exact q2 t ht
    · have ee : assignEach (e :: es) env = (false, assign e env) :: assignEach es env := by
        cases e <;> first | rfl | cases hs
      rw [ee]
      refine ⟨by simp [(q3 env).1], ?_⟩
      rw [List.findIdx?_cons]
      simp [(q3 env).2]
theorem tg_ok (hK : W.K = X.K) (hc : X.calm = true) (hN : X.N.Nodup) (eN : X.N = ck.N) {ok : Str → Bool} (hok : ∀ x, ok x = true → Loc X.env.scope x ∧ (X.fn x = true ∨ X.env.scope.names.lookup x = some .local)) {t : MT} {e : Expr} (h : tgB ck.N ok t e = true) (hi : ∀ i ∈ t.ix, i ∉ ck.G) : PG X e (gT W ck.G t) := by
  cases t with
  | one i => exact g_one (tgN_ok hN eN hok h) (hi i (by simp [MT.ix]))
  | tup is =>
    unfold tgB at h
    split at h
    · rename_i h'; cases h'
    · rename_i h'; cases h'
      obtain ⟨q1, q2, _, q3⟩ := tgNs_ok hN eN hok h
      exact g_tup hK hc q1 q2 (fun i hi' => hi i (by simp [MT.ix, hi'])) (q3 _).1 (q3 _).2
    · cases h
theorem ownP_map (N : List Str) (own : List Nat) : (ownP N own).map (·.2) = own := by
  unfold ownP
  rw [List.map_map]
  exact List.map_id' own
theorem t_isM {e : Expr} {m : ME} (h : PT X e (tT W ck.G C Ew m)) : PTs X [e] (tM W ck.G C Ew (.yes m)) := (pts_one h).imp fun σ H Q ⟨c, O, ρ, S, st, q⟩ => ⟨c, O, ρ, S, st, q⟩
theorem t_noM : PTs X [] (tM W ck.G C Ew .no) := pts_nil.imp fun σ H Q ⟨c, O, ρ, S, st, q⟩ => by
  exact q H ExtO.refl st.cup
/-- the parts of a comprehension -/
theorem comp_ok (k : CkOk X W C ck) {own : List Nat} {elt : ME} {t : MT} {it : MI} {ifs : MO} {scope : Scope} {g : Comprehension} {el : Expr} {pos : Pos} {fI : Expr → Expr → Bool} {fQ : List Expr → Bool} {b : Bool} (h : compB ck own t scope g fI fQ b = true)
    (hI : ∀ {tg iter}, fI tg iter = true → PI X tg iter (tI W ck.G C Ew it)) (hQ : ∀ {l} {X' : Cx}, CkOk X' W C (ck.blk scope) → fQ l = true → PTs X' l (tM W ck.G C Ew0 ifs)) (hE : ∀ {X' : Cx}, CkOk X' W C (ck.blk scope) → b = true → PE X' el (tE W ck.G C Ew0 elt)) :
    PE X (.ListComp el [g] scope pos) (tF W ck.G C Ew (.comp own elt t it ifs)) ∧
    ∀ (i : Nat) (y : Str) (py spos : Pos), X.N[i]? = some y → X.env.scope.names.lookup y = some .local → swapsWith (.ListComp el [g] scope pos) (some (.Name y py)) spos.line X.env = pure true →
      ∃ te, (∀ σ H Q, tF W ck.G C Ew (.comp own elt t it ifs) σ H Q → te σ H Q) ∧ PS X (.Assign [.Name y py] (.ListComp el [g] scope pos) spos) (tAsg te (gName i)) := by
  obtain ⟨tg, iter, ifl, asy⟩ := g
  simp only [compB, Bool.and_eq_true, beq_iff_eq, List.all_eq_true] at h
  obtain ⟨⟨⟨⟨⟨⟨⟨⟨h0, h1⟩, h2⟩, h3⟩, h4⟩, h5⟩, h6⟩, h7⟩, h8⟩ := h
  have h0 : asy = 0 := by simpa using h0
  subst h0
  have hG : ∀ i ∈ own, i ∉ ck.G := fun i hi => by simpa using h3 i hi
  have hx : ∀ i ∈ t.ix, i ∈ own := fun i hi => by simpa using h4 i hi
  have ok : BlkOk X.N X.env.scope scope (ownP ck.N own) := by rw [k.N, k.sc]; exact blkOk_by h1
  have pg : ∀ (s : Shared) (H : Hp) (C' : Addr) (cl : List (Str × Addr)) (fp : List Addr), PG (X.blk s H scope (compEnvC scope cl C' X.env) fp) tg (gT W ck.G t) := fun s H C' cl fp =>
    tg_ok (X := X.blk s H scope (compEnvC scope cl C' X.env) fp) (ck := ck) k.K k.calm k.nd k.N (ok := locB scope) (fun x hx => by
      unfold locB at hx
      split at hx
      · rename_i e
        have q : (relS scope X.env.scope).names.lookup x = some .local := lookup_relS_keep (by decide) e
        exact ⟨.inl q, .inr q⟩
      · rename_i e
        have q : (relS scope X.env.scope).names.lookup x = some .cell := lookup_relS_keep (by decide) e
        refine ⟨.inr q, .inl ?_⟩
        show (scope.names.lookup x == some .cell) = true
        rw [e]; rfl
      · cases hx) h2 fun i hi => hG i (hx i hi)
  have kb := fun (s : Shared) (H : Hp) (C' : Addr) (cl : List (Str × Addr)) (fp : List Addr) => k.blk s H scope C' cl fp
  have ht := fun (s : Shared) (H : Hp) (C' : Addr) (cl : List (Str × Addr)) (fp : List Addr) => hQ (kb s H C' cl fp) h7
  have he := fun (s : Shared) (H : Hp) (C' : Addr) (cl : List (Str × Addr)) (fp : List Addr) => hE (kb s H C' cl fp) h8
  have hs : ∀ x, foldedSetIterable iter X.env x = pure x := notSet_ok h5 _
  have hto : ∀ i ∈ t.ix, i ∈ (ownP ck.N own).map (·.2) := by rw [ownP_map]; exact hx
  have hoG : ∀ i ∈ (ownP ck.N own).map (·.2), i ∉ ck.G := by rw [ownP_map]; exact hG
  have key := f_comp (pos := pos) k.K k.calm k.nd (hI h6) ok pg ht he hs hto hoG
  have key' : ∀ (σ : L2.St) (H : Hp) (Q : VK), tF W ck.G C Ew (.comp own elt t it ifs) σ H Q → tLc (tI W ck.G C Ew it) (gT W ck.G t) (tM W ck.G C Ew0 ifs) (tE W ck.G C Ew0 elt) ((ownP ck.N own).map (·.2)) σ H Q := fun σ H Q q => key σ H Q (by rw [ownP_map]; exact q)
  refine ⟨(pe_lc k.calm k.nd (hI h6) ok pg ht he hs).imp key', fun i y py spos hy hl hsw => ⟨_, key', ps_setLc k.calm k.nd hy hl hsw (hI h6) ok pg ht he hs⟩⟩
/-- the parts of a comprehension of two walks -/
theorem comp2_ok (k : CkOk X W C ck) {own own2 : List Nat} {elt : ME} {t t2 : MT} {it it2 : MI} {scope : Scope} {g g2 : Comprehension} {el : Expr} {pos : Pos} {fI fI2 : Expr → Expr → Bool} {b : Bool} (h : comp2B ck own t own2 t2 scope g g2 fI fI2 b = true)
    (hI : ∀ {tg iter}, fI tg iter = true → PI X tg iter (tI W ck.G C Ew it)) (hI2 : ∀ {tg iter} {X' : Cx}, CkOk X' W C (ck.blk scope) → fI2 tg iter = true → PI X' tg iter (tIg W ck.G C Ew0 it2)) (hE : ∀ {X' : Cx}, CkOk X' W C (ck.blk scope) → b = true → PE X' el (tE W ck.G C Ew0 elt)) :
    PE X (.ListComp el [g, g2] scope pos) (tF W ck.G C Ew (.comp2 own elt t it own2 t2 it2)) ∧
    ∀ (i : Nat) (y : Str) (py spos : Pos), X.N[i]? = some y → X.env.scope.names.lookup y = some .local → swapsWith (.ListComp el [g, g2] scope pos) (some (.Name y py)) spos.line X.env = pure true →
      ∃ te, (∀ σ H Q, tF W ck.G C Ew (.comp2 own elt t it own2 t2 it2) σ H Q → te σ H Q) ∧ PS X (.Assign [.Name y py] (.ListComp el [g, g2] scope pos) spos) (tAsg te (gName i)) := by
  obtain ⟨tg, iter, ifl, asy⟩ := g
  obtain ⟨tg2, iter2, ifl2, asy2⟩ := g2
  cases ifl with
  | cons _ _ => simp [comp2B] at h
  | nil =>
  cases ifl2 with
  | cons _ _ => simp [comp2B] at h
  | nil =>
  simp only [comp2B, Bool.and_eq_true, beq_iff_eq, List.all_eq_true] at h
  obtain ⟨⟨⟨⟨⟨⟨⟨⟨⟨⟨⟨⟨⟨h0, h0'⟩, h1⟩, h2⟩, h2'⟩, h3⟩, h4⟩, hv⟩, hv2⟩, h5⟩, h5'⟩, h6⟩, h7⟩, h8⟩ := h
  have h0 : asy = 0 := by simpa using h0
  have h0' : asy2 = 0 := by simpa using h0'
  subst h0 h0'
  have hG : ∀ i ∈ own, i ∉ ck.G := fun i hi => by simpa using h3 i hi
  have hx : ∀ i ∈ t.ix, i ∈ own := fun i hi => by simpa using h4 i hi
  have hv : ∀ i ∈ own2, i ∈ own := fun i hi => by simpa using hv i hi
  have hx2 : ∀ i ∈ t2.ix, i ∈ own2 := fun i hi => by simpa using hv2 i hi
  have ok : BlkOk X.N X.env.scope scope (ownP ck.N own) := by rw [k.N, k.sc]; exact blkOk_by h1
  have pgs : ∀ (tt : MT) (tge : Expr), tgB ck.N (locB scope) tt tge = true → (∀ i ∈ tt.ix, i ∉ ck.G) → ∀ (s : Shared) (H : Hp) (C' : Addr) (cl : List (Str × Addr)) (fp : List Addr), PG (X.blk s H scope (compEnvC scope cl C' X.env) fp) tge (gT W ck.G tt) := fun tt tge h2 hi s H C' cl fp =>
    tg_ok (X := X.blk s H scope (compEnvC scope cl C' X.env) fp) (ck := ck) k.K k.calm k.nd k.N (ok := locB scope) (fun x hx => by
      unfold locB at hx
      split at hx
      · rename_i e
        have q : (relS scope X.env.scope).names.lookup x = some .local := lookup_relS_keep (by decide) e
        exact ⟨.inl q, .inr q⟩
      · rename_i e
        have q : (relS scope X.env.scope).names.lookup x = some .cell := lookup_relS_keep (by decide) e
        refine ⟨.inr q, .inl ?_⟩
        show (scope.names.lookup x == some .cell) = true
        rw [e]; rfl
      · cases hx) h2 hi
  have pg := pgs t tg h2 fun i hi => hG i (hx i hi)
  have pg2 := pgs t2 tg2 h2' fun i hi => hG i (hv i (hx2 i hi))
  have kb := fun (s : Shared) (H : Hp) (C' : Addr) (cl : List (Str × Addr)) (fp : List Addr) => k.blk s H scope C' cl fp
  have ht : ∀ (s : Shared) (H : Hp) (C' : Addr) (cl : List (Str × Addr)) (fp : List Addr), PTs (X.blk s H scope (compEnvC scope cl C' X.env) fp) [] (tM W ck.G C Ew0 .no) := fun s H C' cl fp => t_noM
  have hi2 := fun (s : Shared) (H : Hp) (C' : Addr) (cl : List (Str × Addr)) (fp : List Addr) => hI2 (kb s H C' cl fp) h7
  have he := fun (s : Shared) (H : Hp) (C' : Addr) (cl : List (Str × Addr)) (fp : List Addr) => hE (kb s H C' cl fp) h8
  have hs : ∀ x, foldedSetIterable iter X.env x = pure x := notSet_ok h5 _
  have hs2 : ∀ env x, foldedSetIterable iter2 env x = pure x := fun env => notSet_ok h5' _
  have hto : ∀ i ∈ t.ix, i ∈ (ownP ck.N own).map (·.2) := by rw [ownP_map]; exact hx
  have hoG : ∀ i ∈ (ownP ck.N own).map (·.2), i ∉ ck.G := by rw [ownP_map]; exact hG
  have hvv : ∀ i ∈ own2, i ∈ (ownP ck.N own).map (·.2) := by rw [ownP_map]; exact hv
  have key' : ∀ (σ : L2.St) (H : Hp) (Q : VK), tF W ck.G C Ew (.comp2 own elt t it own2 t2 it2) σ H Q → tLc2 (tI W ck.G C Ew it) (gT W ck.G t) (tM W ck.G C Ew0 .no) (tIg W ck.G C Ew0 it2) (gT W ck.G t2) (tM W ck.G C Ew0 .no) (tE W ck.G C Ew0 elt) ((ownP ck.N own).map (·.2)) own2 σ H Q := fun σ H Q q => f_comp2 k.K hto hoG hvv hx2 σ H Q (by rw [ownP_map]; exact q)
  refine ⟨(pe_lc2 k.calm k.nd (hI h6) ok hvv pg ht hi2 pg2 ht he hs hs2).imp key', fun i y py spos hy hl hsw => ⟨_, key', ps_setLc2 k.calm k.nd hy hl hsw (hI h6) ok hvv pg ht hi2 pg2 ht he hs hs2⟩⟩
end
end Py

set_option Elab.async false
set_option linter.all false
set_option maxRecDepth 100000
set_option maxHeartbeats 4000000
/-! Py: the checker of expressions tells the truth: the walk over the small expression. -/
namespace Py
@[local simp] theorem ub_R {α β : Type} (r : Res α) (f : α → Cup → Res β) : r.bind f = (match r with | .ok a S => f a S | .exn c l S => .exn c l S | .bad => .bad) := rfl
@[local simp] theorem uo_R {α : Type} (o : Option α) (S : Cup) : Res.of o S = (match o with | some a => .ok a S | none => .bad) := rfl
@[local simp] theorem uu_R {α : Type} (r : Res α) (f : α → Cup → Out) : r.out f = (match r with | .ok a S => f a S | .exn c l S => .exn c l S | .bad => .bad) := rfl
@[local simp] theorem us_R (o : Out) (f : Env → Cup → Out) : o.seq f = (match o with | .next ρ S => f ρ S | o => o) := rfl
open PySem PySem.Spec PyProof.Rows L2
section
variable {W : Wd} {C : Calls}
def RdS (X : Cx) (W : Wd) (G : List Nat) (C : Calls) (Ew : Wish) (o : Bool) (ms : MEs) (es : List Expr) : Prop := match o with
  | true => PA X es (tOs W G C Ew ms) | false => PA X es (tEs W G C Ew ms)
def RdI (X : Cx) (W : Wd) (G : List Nat) (C : Calls) (Ew : Wish) (o : Bool) (m : MI) (tg e : Expr) : Prop := match o with
  | true => PI X tg e (tI W G C Ew m) | false => PI X tg e (tIg W G C Ew m)
theorem chks_star {ck : Ck} {o : Bool} : ∀ {ms : MEs} {es : List Expr}, chks ck o ms es = true → es.all (fun e => !isStar e) = true
  | .nil, es, h => by
    rw [chks.eq_def] at h
    cases es with
    | nil => rfl
    | cons _ _ => cases h
  | .cons m r, es, h => by
    rw [chks.eq_def] at h
    cases es with
    | nil => rfl
    | cons e t =>
      simp only [Bool.and_eq_true] at h
      rw [List.all_cons, Bool.and_eq_true]
      exact ⟨h.1.1, chks_star h.2⟩
theorem chks_nil {ck : Ck} {o : Bool} {ms : MEs} (h : chks ck o ms [] = true) : ms = .nil := by
  cases ms with
  | nil => rfl
  | cons m r => rw [chks.eq_def] at h; cases h
theorem call_parts {X : Cx} {ck : Ck} {Ew : Wish} (k : CkOk X W C ck) {x : Str} {fr : Bool} {p pos : Pos} {args : List Expr} {es : MEs} (hg : glB ck.sc x = true) (hn : okNm x = true) (hf : fnB ck x fr = true) (hs : chks ck false es args = true) (ha : PA X args (tEs W ck.G C Ew es)) :
    PE X (.Call (.Name x p) args [] pos) (tE W ck.G C Ew (.call x es)) ∧ (fr = true → PE X (.Call (.Name x p) args [] pos) (tF W ck.G C Ew (.callF x es))) ∧
    (fr = true → ∃ (P : Prog) (dd : Nat) (fd : FDef), PE X (.Call (.Name x p) args [] pos) (tCall (spF W P dd fd) [] (EwX W Ew) (tEs W ck.G C Ew es)) ∧ fd.fresh = true ∧ (∀ args S, C x args S = evCall P dd fd.name args S) ∧ (∀ (xs : List PV) S, fd.np ≠ xs.length → evCall P dd fd.name xs S = .bad)) := by
  obtain ⟨P, dd, fd, fa, fdata, ps, kk, q1, q2, q3, q4, q5, q6, q7, q8⟩ := fn_ok k hf
  have hx : Passes L2.CX0 X (EwX W Ew) := fun _ _ _ _ _ _ _ h => h.elim
  have hd := (okNm_ok hn).1
  have hG := glB_ok k hg
  have key : PE X (.Call (.Name x p) args [] pos) (tCall (spF W P dd fd) [] (EwX W Ew) (tEs W ck.G C Ew es)) := by
    cases args with
    | nil =>
      obtain rfl := chks_nil hs
      refine (pe_call0 q1 q2 hG q3 q4 q5 .nil hx hd).imp fun σ H Q ⟨c, O, ρ, S, st, q⟩ => ?_
      rw [evs] at q
      exact q H [] ExtO.refl st.cup .nil
    | cons a es' =>
      have hs := chks_star hs
      rw [List.all_cons, Bool.and_eq_true] at hs
      exact pe_call q1 q2 hG q3 q4 q5 .nil hx ha hd (star_plain (by simpa using hs.1)) (plain_args hs.2)
  exact ⟨key.imp fun σ H Q h => call_r q6 q7 σ H Q h, fun hfr => key.imp fun σ H Q h => callF_r (q8 hfr) q6 q7 σ H Q h, fun hfr => ⟨P, dd, fd, key, q8 hfr, q6, q7⟩⟩
theorem logic_ok {X : Cx} {ck : Ck} {Ew : Wish} (k : CkOk X W C ck) {md : Md} {a b : ME} {x y e : Expr} {fT : Bool} {fE : Bool} (hs : splitB .And e = some (x, y)) (h : (match md with | .T => fT | .F => false | _ => fE) = true)
    (hT : fT = true → PT X x (tT W ck.G C Ew a) ∧ PT X y (tT W ck.G C Ew b)) (hE : fE = true → PE X x (tE W ck.G C Ew a) ∧ PE X y (tE W ck.G C Ew b)) : Rd X W ck.G C Ew md (.and a b) e := by
  have E1 : fE = true → PE X e (tE W ck.G C Ew (.and a b)) := fun hh => by
    obtain ⟨ha, hb⟩ := hE hh
    rcases splitB_and hs with ⟨p, rfl⟩ | ⟨z, u, r, p, rfl, rfl⟩
    · exact e_and k.K ha (e_one hb)
    · exact e_and k.K ha hb
  cases md with
  | E => exact E1 h
  | O => exact tE.op (E1 h)
  | F => cases h
  | T =>
    obtain ⟨ha, hb⟩ := hT h
    rcases splitB_and hs with ⟨p, rfl⟩ | ⟨z, u, r, p, rfl, rfl⟩
    · exact (t_and ha (t_and1 hb)).pt
    · exact (t_and ha (pw_bool hb)).pt
theorem logic_or {X : Cx} {ck : Ck} {Ew : Wish} (k : CkOk X W C ck) {md : Md} {a b : ME} {x y e : Expr} {fT : Bool} {fE : Bool} (hs : splitB .Or e = some (x, y)) (h : (match md with | .T => fT | .F => false | _ => fE) = true)
    (hT : fT = true → PT X x (tT W ck.G C Ew a) ∧ PT X y (tT W ck.G C Ew b)) (hE : fE = true → PE X x (tE W ck.G C Ew a) ∧ PE X y (tE W ck.G C Ew b)) : Rd X W ck.G C Ew md (.or a b) e := by
  have E1 : fE = true → PE X e (tE W ck.G C Ew (.or a b)) := fun hh => by
    obtain ⟨ha, hb⟩ := hE hh
    rcases splitB_and hs with ⟨p, rfl⟩ | ⟨z, u, r, p, rfl, rfl⟩
    · exact e_or k.K ha (e_one hb)
    · exact e_or k.K ha hb
  cases md with
  | E => exact E1 h
  | O => exact tE.op (E1 h)
  | F => cases h
  | T =>
    obtain ⟨ha, hb⟩ := hT h
    rcases splitB_and hs with ⟨p, rfl⟩ | ⟨z, u, r, p, rfl, rfl⟩
    · exact (t_or ha (t_or1 hb)).pt
    · exact (t_or ha (pw_bool hb)).pt
mutual
theorem chk_ok : ∀ (m : ME) {X : Cx} {ck : Ck} {Ew : Wish} {md : Md} {e : Expr}, CkOk X W C ck → chk ck md m e = true → Rd X W ck.G C Ew md m e
  | .var i, X, ck, Ew, md, e, k, h => by
    rw [chk.eq_def] at h
    refine rd3 k h fun h => ?_
    simp only [Bool.and_eq_true, Bool.not_eq_true'] at h
    obtain ⟨x, p, rfl⟩ := nmB_name h.2
    exact e_var (nm_ok k h.2) (by simpa using h.1)
  | .own i, X, ck, Ew, md, e, k, h => by
    rw [chk.eq_def] at h
    cases md <;> simp only at h <;> first | cases h | skip
    · obtain ⟨x, p, rfl⟩ := nmB_name h
      exact e_own (nm_ok k h)
    · rw [Bool.and_eq_true] at h
      obtain ⟨x, p, rfl⟩ := nmB_name h.1
      exact t_val k.K (e_own (nm_ok k h.1)) (plainTest_ok h.2 _)
  | .cst v, X, ck, Ew, md, e, k, h => by
    rw [chk.eq_def] at h
    refine rd3 k h fun h => ?_
    split at h
    · exact cst_ok h
    · cases h
  | .glb x v, X, ck, Ew, md, e, k, h => by
    rw [chk.eq_def] at h
    refine rd3 k h fun h => ?_
    split at h
    · simp only [Bool.and_eq_true, decide_eq_true_eq] at h
      obtain ⟨⟨⟨rfl, h1⟩, h2⟩, h3⟩ := h
      exact glb_ok k h1 h2 h3
    · cases h
  | .bin op a b, X, ck, Ew, md, e, k, h => by
    rw [chk.eq_def] at h
    refine rd3 k h fun h => ?_
    split at h
    · simp only [Bool.and_eq_true, decide_eq_true_eq] at h
      obtain ⟨⟨rfl, h1⟩, h2⟩ := h
      exact e_bin k.K (chk_ok a k h1) (chk_ok b k h2)
    · cases h
  | .cat a b, X, ck, Ew, md, e, k, h => by
    rw [chk.eq_def] at h
    refine rdF k h rfl fun h => ?_
    split at h
    · simp only [Bool.and_eq_true, decide_eq_true_eq] at h
      obtain ⟨⟨rfl, h1⟩, h2⟩ := h
      exact f_cat k.K (chk_ok a k h1) (chk_ok b k h2)
    · cases h
  | .neg a, X, ck, Ew, md, e, k, h => by
    rw [chk.eq_def] at h
    refine rd3 k h fun h => ?_
    split at h
    · simp only [Bool.and_eq_true, decide_eq_true_eq] at h
      obtain ⟨rfl, h1⟩ := h
      exact e_neg (chk_ok a k h1)
    · cases h
  | .not a, X, ck, Ew, md, e, k, h => by
    rw [chk.eq_def] at h
    simp only at h
    split at h
    · simp only [Bool.and_eq_true, decide_eq_true_eq] at h
      obtain ⟨rfl, h1⟩ := h
      cases md <;> simp only at h1 <;> first | cases h1; done | skip
      · exact e_not k.K (chk_ok a k h1)
      · exact tE.op (e_not k.K (chk_ok a k h1))
      · exact t_not (chk_ok a k h1)
    · cases h
  | .and a b, X, ck, Ew, md, e, k, h => by
    rw [chk.eq_def] at h
    simp only at h
    split at h
    · rename_i x y hs
      exact logic_ok k hs (fT := chk ck .T a x && chk ck .T b y) (fE := chk ck .E a x && chk ck .E b y) h (fun h => by rw [Bool.and_eq_true] at h; exact ⟨chk_ok a k h.1, chk_ok b k h.2⟩) (fun h => by rw [Bool.and_eq_true] at h; exact ⟨chk_ok a k h.1, chk_ok b k h.2⟩)
    · cases h
  | .or a b, X, ck, Ew, md, e, k, h => by
    rw [chk.eq_def] at h
    simp only at h
    split at h
    · rename_i x y hs
      exact logic_or k hs (fT := chk ck .T a x && chk ck .T b y) (fE := chk ck .E a x && chk ck .E b y) h (fun h => by rw [Bool.and_eq_true] at h; exact ⟨chk_ok a k h.1, chk_ok b k h.2⟩) (fun h => by rw [Bool.and_eq_true] at h; exact ⟨chk_ok a k h.1, chk_ok b k h.2⟩)
    · cases h
  | .cmp op a b, X, ck, Ew, md, e, k, h => by
    rw [chk.eq_def] at h
    simp only at h
    split at h
    · simp only [Bool.and_eq_true, decide_eq_true_eq, Bool.not_eq_true'] at h
      obtain ⟨⟨⟨⟨rfl, h1⟩, h2⟩, h3⟩, h4⟩ := h
      cases md <;> simp only at h4 <;> first | cases h4; done | skip
      · exact e_cmp k.K k.un (chk_ok a k h2) (chk_ok b k h3) h1
      · exact tE.op (e_cmp k.K k.un (chk_ok a k h2) (chk_ok b k h3) h1)
      · exact t_cmp k.K k.un (chk_ok a k h2) (chk_ok b k h3) h1
    · cases h
  | .chain op op2 a b c, X, ck, Ew, md, e, k, h => by
    rw [chk.eq_def] at h
    simp only at h
    split at h
    · simp only [Bool.and_eq_true, decide_eq_true_eq, Bool.not_eq_true'] at h
      obtain ⟨⟨⟨⟨⟨⟨rfl, rfl⟩, h1⟩, h2⟩, h3⟩, h5⟩, h4⟩ := h
      cases md <;> simp only at h4 <;> first | cases h4; done | skip
      · exact e_chain k.K k.un (chk_ok a k h2) (chk_ok b k h3) (chk_ok c k h5) h1
      · exact tE.op (e_chain k.K k.un (chk_ok a k h2) (chk_ok b k h3) (chk_ok c k h5) h1)
      · exact t_chain k.K k.un (chk_ok a k h2) (chk_ok b k h3) (chk_ok c k h5) h1
    · cases h
  | .ite c a b, X, ck, Ew, md, e, k, h => by
    rw [chk.eq_def] at h
    simp only at h
    split at h
    · simp only [Bool.and_eq_true] at h
      obtain ⟨h0, h1⟩ := h
      cases md <;> simp only at h1 <;> first | cases h1; done | skip
      · rw [Bool.and_eq_true] at h1
        exact e_ite (chk_ok c k h0) (chk_ok a k h1.1) (chk_ok b k h1.2)
      · rw [Bool.and_eq_true] at h1
        exact tE.op (e_ite (chk_ok c k h0) (chk_ok a k h1.1) (chk_ok b k h1.2))
      · rw [Bool.and_eq_true] at h1
        exact f_ite (chk_ok c k h0) (chk_ok a k h1.1) (chk_ok b k h1.2)
    · cases h
  | .tup es, X, ck, Ew, md, e, k, h => by
    rw [chk.eq_def] at h
    refine rd3 k h fun h => ?_
    split at h
    · exact e_tup (chks_ok es k h)
    · cases h
  | .lst es, X, ck, Ew, md, e, k, h => by
    rw [chk.eq_def] at h
    refine rdF k h rfl fun h => ?_
    split at h
    · exact f_lst (chks_ok es k h)
    · cases h
  | .idx a b, X, ck, Ew, md, e, k, h => by
    rw [chk.eq_def] at h
    refine rd3 k h fun h => ?_
    split at h
    · simp only [Bool.and_eq_true] at h
      exact e_idx k.K (chk_ok a k h.1.2) (chk_ok b k h.2) (notSlice_ok h.1.1)
    · cases h
  | .slc a lo hi, X, ck, Ew, md, e, k, h => by
    rw [chk.eq_def] at h
    refine rd3 k h fun h => ?_
    split at h
    · split at h
      · simp only [Bool.and_eq_true] at h
        exact e_slc k.K (chk_ok a k h.1.1) (chkP_ok lo k h.1.2) (chkP_ok hi k h.2)
      · cases h
    · cases h
  | .rev a, X, ck, Ew, md, e, k, h => by
    rw [chk.eq_def] at h
    refine rd3 k h fun h => ?_
    split at h
    · simp only [Bool.and_eq_true, decide_eq_true_eq] at h
      obtain ⟨⟨rfl, rfl⟩, h3⟩ := h
      exact e_rev k.K (chk_ok a k h3)
    · cases h
  | .callF f es, X, ck, Ew, md, e, k, h => by
    rw [chk.eq_def] at h
    refine rdF k h rfl fun h => ?_
    split at h
    · simp only [Bool.and_eq_true, decide_eq_true_eq] at h
      obtain ⟨⟨⟨⟨rfl, h1⟩, h2⟩, h3⟩, h4⟩ := h
      exact (call_parts k h1 h2 h3 h4 (chks_ok es k h4)).2.1 rfl
    · cases h
  | .call f es, X, ck, Ew, md, e, k, h => by
    rw [chk.eq_def] at h
    refine rd3 k h fun h => ?_
    split at h
    · simp only [Bool.and_eq_true, decide_eq_true_eq] at h
      obtain ⟨⟨⟨⟨rfl, h1⟩, h2⟩, h3⟩, h4⟩ := h
      exact (call_parts k h1 h2 h3 h4 (chks_ok es k h4)).1
    · cases h
  | .blt b es, X, ck, Ew, md, e, k, h => by
    rw [chk.eq_def] at h
    simp only [Bool.and_eq_true] at h
    obtain ⟨h0, h⟩ := h
    have key : bltC ck b e (fun args => chks ck true es args) = true →
        ∃ x p a r pos nm ty, e = .Call (.Name x p) (a :: r) [] pos ∧ bltI b = some (nm, ty) ∧ x = Str.ofString nm ∧ Gl X x ∧ X.mg x = none ∧ PA X (a :: r) (tOs W ck.G C Ew es) ∧ isStar a = false ∧ r.all (fun e => !isStar e) = true := by
      intro hb
      unfold bltC at hb
      split at hb
      · rename_i x p args pos
        split at hb
        · rename_i nm ty hi
          simp only [Bool.and_eq_true] at hb
          obtain ⟨⟨h1, h2⟩, h3⟩ := hb
          obtain ⟨q1, q2, q3⟩ := bltB_ok k h1
          have hst := chks_star h3
          have ha := chks_ok es (Ew := Ew) k h3
          match args, h2, hst, ha with
          | a :: r, _, hst, ha =>
            rw [List.all_cons, Bool.and_eq_true] at hst
            exact ⟨x, p, a, r, pos, nm, ty, rfl, hi, q1, q2, q3, ha, by simpa using hst.1, hst.2⟩
        · cases hb
      · cases hb
    have kE : bltC ck b e (fun args => chks ck true es args) = true → PE X e (tE W ck.G C Ew (.blt b es)) := fun hb => by
      obtain ⟨x, p, a, r, pos, nm, ty, rfl, hi, rfl, q2, q3, ha, q5, q6⟩ := key hb
      obtain ⟨b1, b2, b3⟩ := blt_boot hi
      have hc := blt_cok (W := W) k.K k.calm k.un hi
      cases ty with
      | false => exact e_bltB k.K hc q2 q3 b1 ha b2 b3 q5 q6
      | true => exact e_bltT k.K hc q2 q3 b1 ha b2 b3 q5 q6
    cases md with
    | E => exact kE h
    | O => exact tE.op (kE h)
    | T =>
      simp only [mdF, Bool.and_eq_true] at h
      exact t_val k.K (tE.op (kE h.1)) (plainTest_ok h.2 _)
    | F =>
      obtain ⟨x, p, a, r, pos, nm, ty, rfl, hi, hx, q2, q3, ha, q5, q6⟩ := key h
      cases b <;> simp only [isList1] at h0 <;> first | cases h0; done | skip
      simp only [bltI] at hi
      cases hi
      rw [hx] at q2 q3 ⊢
      exact f_list1 k.K q2 q3 ha q5 q6
  | .isin a t, X, ck, Ew, md, e, k, h => by
    rw [chk.eq_def] at h
    refine rd3 k h fun h => ?_
    split at h
    · simp only [Bool.and_eq_true, Bool.not_eq_true'] at h
      obtain ⟨⟨⟨h1, h2⟩, h3⟩, h4⟩ := h
      obtain ⟨rfl, q2, q3⟩ := bltB_ok k h1
      obtain ⟨rfl, u2, u3⟩ := bltB_ok k h2
      obtain ⟨v1, v2, v3⟩ := ty_boot t
      exact e_isin (x := Str.ofString "") k.K q2 q3 rfl (chk_ok a k h4) (pe_bltn u2 u3 v1 rfl v2 v3) h3
    · cases h
  | .comp own elt t it ifs, X, ck, Ew, md, e, k, h => by
    rw [chk.eq_def] at h
    refine rdF k h rfl fun h => ?_
    split at h
    · rename_i el g scope _ pos
      exact (comp_ok k h (fun hh => chkI_ok it k hh) (fun {l X'} k' hh => chkQ_ok (X := X') (ck := ck.blk scope) ifs k' hh) (fun {X'} k' hh => chk_ok (X := X') (ck := ck.blk scope) elt k' hh)).1
    · cases h
  | .comp2 own elt t it own2 t2 it2, X, ck, Ew, md, e, k, h => by
    rw [chk.eq_def] at h
    refine rdF k h rfl fun h => ?_
    split at h
    · rename_i el g g2 scope _ p
      exact (comp2_ok k h (fun hh => chkI_ok it k hh) (fun {tg iter X'} k' hh => chkI_ok (X := X') (ck := ck.blk scope) it2 k' hh) (fun {X'} k' hh => chk_ok (X := X') (ck := ck.blk scope) elt k' hh)).1
    · cases h
  | .sortK a c f key, X, ck, Ew, md, e, k, h => by
    rw [chk.eq_def] at h
    refine rd3 k h fun h => ?_
    unfold sortKB at h
    split at h
    · simp only [Bool.and_eq_true, Bool.not_eq_true', decide_eq_true_eq] at h
      obtain ⟨⟨⟨⟨⟨⟨⟨⟨⟨⟨rfl, h2⟩, h3⟩, h4⟩, rfl⟩, h6⟩, h7⟩, h8⟩, h9⟩, h10⟩, h11⟩ := h
      obtain ⟨rfl, q2, q3⟩ := bltB_ok k h2
      exact e_sortK k.K k.un q2 q3 rfl (by decide) (by decide) (chk_ok a k h4) h3 k.glb (kd_ok k h6) (by rw [k.sc]; exact lamB_ok h7) h8 (by rw [k.N]; exact h9) (by simpa using h10) k.dp (k.lam h11)
    · cases h
  | .minK .., X, ck, Ew, md, e, k, h => by rw [chk.eq_def] at h; cases h
  | .sset _, X, ck, Ew, md, e, k, h => by rw [chk.eq_def] at h; cases h
  | .lset _, X, ck, Ew, md, e, k, h => by rw [chk.eq_def] at h; cases h
termination_by structural m => m
theorem chks_ok : ∀ (ms : MEs) {X : Cx} {ck : Ck} {Ew : Wish} {o : Bool} {es : List Expr}, CkOk X W C ck → chks ck o ms es = true → RdS X W ck.G C Ew o ms es
  | .nil, X, ck, Ew, o, es, k, h => by
    rw [chks.eq_def] at h
    cases es with
    | cons _ _ => cases h
    | nil =>
      cases o with
      | true => exact o_nil
      | false => exact a_nil
  | .cons m r, X, ck, Ew, o, es, k, h => by
    rw [chks.eq_def] at h
    cases es with
    | nil => cases h
    | cons e t =>
      simp only [Bool.and_eq_true, Bool.not_eq_true'] at h
      obtain ⟨⟨h1, h2⟩, h3⟩ := h
      cases o with
      | true => exact o_cons (chk_ok m k h2) (chks_ok r k h3) h1
      | false => exact a_cons (chk_ok m k h2) (chks_ok r k h3) h1
termination_by structural ms => ms
theorem chkP_ok : ∀ (m : MO) {X : Cx} {ck : Ck} {Ew : Wish} {e : Option Expr}, CkOk X W C ck → chkP ck m e = true → PO X e (tP W ck.G C Ew m)
  | .no, X, ck, Ew, e, k, h => by
    rw [chkP.eq_def] at h
    cases e with
    | none => exact p_none
    | some _ => cases h
  | .yes m, X, ck, Ew, e, k, h => by
    rw [chkP.eq_def] at h
    cases e with
    | none => cases h
    | some e => exact p_some (chk_ok m k h)
termination_by structural m => m
theorem chkQ_ok : ∀ (m : MO) {X : Cx} {ck : Ck} {Ew : Wish} {es : List Expr}, CkOk X W C ck → chkQ ck m es = true → PTs X es (tM W ck.G C Ew m)
  | .no, X, ck, Ew, es, k, h => by
    rw [chkQ.eq_def] at h
    cases es with
    | nil => exact t_noM
    | cons _ _ => cases h
  | .yes m, X, ck, Ew, es, k, h => by
    rw [chkQ.eq_def] at h
    simp only at h
    split at h
    · exact t_isM (chk_ok m k h)
    · cases h
termination_by structural m => m
theorem chkI_ok : ∀ (m : MI) {X : Cx} {ck : Ck} {Ew : Wish} {o : Bool} {tg e : Expr}, CkOk X W C ck → chkI ck o m tg e = true → RdI X W ck.G C Ew o m tg e
  | .seq m, X, ck, Ew, o, tg, e, k, h => by
    rw [chkI.eq_def] at h
    cases o with
    | true => exact i_seq k.K (chk_ok m k h)
    | false => exact gi_seq k.K (chk_ok m k h)
  | .rng1 a, X, ck, Ew, o, tg, e, k, h => by
    rw [chkI.eq_def] at h
    simp only at h
    split at h
    · simp only [Bool.and_eq_true, Bool.not_eq_true'] at h
      obtain ⟨⟨h1, h2⟩, h3⟩ := h
      obtain ⟨rfl, q2, q3⟩ := bltB_ok k h1
      cases o with
      | true => exact i_rng1 q2 q3 (chk_ok a k h3) h2
      | false => exact gi_rng1 q2 q3 (chk_ok a k h3) h2
    · cases h
  | .rng2 a b, X, ck, Ew, o, tg, e, k, h => by
    rw [chkI.eq_def] at h
    simp only at h
    split at h
    · simp only [Bool.and_eq_true, Bool.not_eq_true'] at h
      obtain ⟨⟨⟨⟨h1, h2⟩, h2'⟩, h3⟩, h4⟩ := h
      obtain ⟨rfl, q2, q3⟩ := bltB_ok k h1
      cases o with
      | true => exact i_rng2 q2 q3 (chk_ok a k h3) (chk_ok b k h4) h2 h2'
      | false => exact gi_rng2 q2 q3 (chk_ok a k h3) (chk_ok b k h4) h2 h2'
    · cases h
  | .enum a, X, ck, Ew, o, tg, e, k, h => by
    rw [chkI.eq_def] at h
    simp only [Bool.and_eq_true] at h
    obtain ⟨h0, h⟩ := h
    cases tg <;> simp only [isTup] at h0 <;> first | cases h0; done | skip
    split at h
    · simp only [Bool.and_eq_true, Bool.not_eq_true'] at h
      obtain ⟨⟨h1, h2⟩, h3⟩ := h
      obtain ⟨rfl, q2, q3⟩ := bltB_ok k h1
      cases o with
      | true => exact i_enum k.K q2 q3 (chk_ok a k h3) h2
      | false => exact gi_enum k.K q2 q3 (chk_ok a k h3) h2
    · cases h
  | .zip2 a b, X, ck, Ew, o, tg, e, k, h => by
    rw [chkI.eq_def] at h
    simp only [Bool.and_eq_true] at h
    obtain ⟨h0, h⟩ := h
    cases tg <;> simp only [isTup] at h0 <;> first | cases h0; done | skip
    split at h
    · simp only [Bool.and_eq_true, Bool.not_eq_true'] at h
      obtain ⟨⟨⟨⟨h1, h2⟩, h2'⟩, h3⟩, h4⟩ := h
      obtain ⟨rfl, q2, q3⟩ := bltB_ok k h1
      cases o with
      | true => exact i_zip k.K q2 q3 (chk_ok a k h3) (chk_ok b k h4) h2 h2'
      | false => exact gi_zip k.K q2 q3 (chk_ok a k h3) (chk_ok b k h4) h2 h2'
    · cases h
  | .zip3 .., X, ck, Ew, o, tg, e, k, h => by rw [chkI.eq_def] at h; cases h
termination_by structural m => m
end
end
end Py

set_option Elab.async false
set_option linter.all false
set_option maxRecDepth 100000
set_option maxHeartbeats 4000000
/-! Py: the checker of statements, and that it tells the truth. -/
namespace Py
@[local simp] theorem ub_S {α β : Type} (r : Res α) (f : α → Cup → Res β) : r.bind f = (match r with | .ok a S => f a S | .exn c l S => .exn c l S | .bad => .bad) := rfl
@[local simp] theorem uo_S {α : Type} (o : Option α) (S : Cup) : Res.of o S = (match o with | some a => .ok a S | none => .bad) := rfl
@[local simp] theorem uu_S {α : Type} (r : Res α) (f : α → Cup → Out) : r.out f = (match r with | .ok a S => f a S | .exn c l S => .exn c l S | .bad => .bad) := rfl
@[local simp] theorem us_S (o : Out) (f : Env → Cup → Out) : o.seq f = (match o with | .next ρ S => f ρ S | o => o) := rfl
open PySem PySem.Spec PyProof.Rows L2

def notComp : Expr → Bool
  | .ListComp .. => false | .SetComp .. => false | .DictComp .. => false | _ => true
def isLocB (sc : Scope) (y : Str) : Bool := match sc.names.lookup y with
  | some .local => true | _ => false
def isCellB (sc : Scope) (y : Str) : Bool := match sc.names.lookup y with
  | some .cell => true | _ => false
/-- y = value: the value, and what the swap asks -/
def setB (ck : Ck) (md : Md) (e : ME) (v : Expr) (y : Str) (py : Pos) : Bool :=
  ((notComp v || isCellB ck.sc y) && chk ck md e v) || (match v with
    | .ListComp el [g] scope p => isLocB ck.sc y && (py.line == p.line) && !(scope.names.any fun (n, k) => n == y && (k == .local || k == .cell)) && (match md with | .E => true | .F => true | _ => false) && (match e with
      | .comp own elt t it ifs => compB ck own t scope g (fun tg iter => chkI ck true it tg iter) (fun l => chkQ (ck.blk scope) ifs l) (chk (ck.blk scope) .E elt el)
      | _ => false)
    | .ListComp el [g, g2] scope p => isLocB ck.sc y && (py.line == p.line) && !(scope.names.any fun (n, k) => n == y && (k == .local || k == .cell)) && (match md with | .E => true | .F => true | _ => false) && (match e with
      | .comp2 own elt t it own2 t2 it2 => comp2B ck own t own2 t2 scope g g2 (fun tg iter => chkI ck true it tg iter) (fun tg iter => chkI (ck.blk scope) false it2 tg iter) (chk (ck.blk scope) .E elt el)
      | _ => false)
    | _ => false)
def parB (ck : Ck) : List (Nat × Bool) → MEs → List Expr → Bool
  | [], .nil, [] => true
  | (t, fl) :: ts, .cons m ms, e :: es => !isStar e && (if fl then ck.G.contains t && chk ck .F m e else !ck.G.contains t && chk ck .E m e) && parB ck ts ms es
  | _, _, _ => false
/-- which names a pair's stores swap, as far as this tells -/
def swB (kind : Str → Option NameKind) (ts vs : List Expr) : Option (Option (List Str)) :=
  if !(ts.length == 2 || ts.length == 3) then some none else
  if vs.length != ts.length || vs.any isStar then none else
  let line := (ts.head?.map (·.pos.line)).getD 0
  let names := ts.filterMap fun
    | .Name id pos => if kind id == some .local && pos.line == line then some id else none
    | _ => none
  if names.length != ts.length || names.eraseDups.length != names.length then some none else
  if vs.all (foldedForSure 8) then some none else
  if vs.all (constantsAlone 8) then none else some (some names)
def nmG (ck : Ck) (i : Nat) (e : Expr) : Bool := tgN ck.N (locB ck.sc) i e
mutual
def chkS (ck : Ck) (m : MS) (st : Stmt) : Bool := match m with
  | .set i e => (match st with | .Assign [.Name y py] v _ => !ck.G.contains i && nmG ck i (.Name y py) && setB ck .E e v y py | _ => false)
  | .setO i e => (match st with | .Assign [.Name y py] v _ => ck.G.contains i && nmG ck i (.Name y py) && setB ck .F e v y py | _ => false)
  | .keepO .. => false
  | .par ts es => (match st with
    | .Assign [.Tuple tgs _ _] (.Tuple vs _ _) _ => decide (ts.length ≤ 1000) && tgNs ck.N (locB ck.sc) (ts.map (·.1)) tgs && parB ck ts es vs && (match swB (fun x => ck.sc.names.lookup x) tgs vs with
      | none => false
      | some none => true
      | some (some _) => decide (ts.map (·.1)).Nodup && tgs.all (fun e => match e with | .Name y _ => isLocB ck.sc y | _ => false) && (ts.length == 2 || ts.length == 3))
    | _ => false)
  | .unp is e => (match st with | .Assign [.Tuple tgs _ _] v _ => !isTup v && is.all (fun i => !ck.G.contains i) && tgNs ck.N (locB ck.sc) is tgs && chk ck .E e v | _ => false)
  | .aug i op e => (match st with | .AugAssign (.Name y py) op' v _ => decide (op' = op) && (decide (op = .Add) || decide (op = .Sub)) && !ck.G.contains i && nmG ck i (.Name y py) && chk ck .E e v | _ => false)
  | .augO i e => (match st with | .AugAssign (.Name y py) op' v _ => decide (op' = .Add) && ck.G.contains i && nmG ck i (.Name y py) && chk ck .E e v | _ => false)
  | .app i e => (match st with | .Expr (.Call (.Attribute (.Name y py) a ap) [v] [] cp) _ => decide (a = "append") && (ap.endLine == cp.line) && ck.G.contains i && nmB ck i (.Name y py) && !isStar v && chk ck .E e v | _ => false)
  | .setIx i kx e => (match st with | .Assign [.Subscript (.Name y py) ix _] v _ => notSlice ix && ck.G.contains i && nmB ck i (.Name y py) && chk ck .E kx ix && chk ck .E e v | _ => false)
  | .setCup i k e => (match st with | .Assign [.Subscript (.Name y py) (.Constant c _ _) _] v _ => decide (c = .int k) && !ck.G.contains i && nmB ck i (.Name y py) && chk ck .E e v | _ => false)
  | .mkCup i f es => (match st with | .Assign [.Name y py] (.Call (.Name x _) args [] _) _ => decide (x = f) && !ck.G.contains i && nmG ck i (.Name y py) && glB ck.sc x && okNm x && fnB ck x true && chks ck false es args | _ => false)
  | .expr e => (match st with | .Expr v _ => notComp v && chk ck .E e v | _ => false)
  | .ite c a b => (match st with | .If d x y _ => chk ck .T c d && chkB ck a x && chkB ck b y | _ => false)
  | .loop t it b => (match st with | .For tg iter body [] _ => notSet iter && tgB ck.N (locB ck.sc) t tg && t.ix.all (fun i => !ck.G.contains i) && chkI ck false it tg iter && chkB ck b body | _ => false)
  | .whl c b => (match st with | .While d body [] _ => chk ck .T c d && chkB ck b body | _ => false)
  | .ret e => (match st with | .Return (some v) _ => !ck.fr && ((match e with | .own i => ck.G.contains i && nmB ck i v | _ => false) || chk ck .E e v) | _ => false)
  | .retF e => (match st with | .Return (some v) _ => (match e with | .own i => ck.G.contains i && nmB ck i v | _ => false) || chk ck .F e v | _ => false)
  | .retN => (match st with | .Return none _ => !ck.fr | _ => false)
  | .never => true
  | .raise _ => false
  | .pass => (match st with | .Pass _ => true | _ => false)
  | .brk => (match st with | .Break _ => true | _ => false)
  | .cont => (match st with | .Continue _ => true | _ => false)
termination_by structural m
def chkB (ck : Ck) (b : MB) (sts : List Stmt) : Bool := match b with
  | .nil => sts.isEmpty
  | .cons m r => (match sts with | st :: t => chkS ck m st && chkB ck r t | [] => false)
  | .frz i r => ck.G.contains i && chkB (ck.frz i) r sts
termination_by structural b
end

section
variable {X : Cx} {W : Wd} {C : Calls} {Ew : Wish} {ck : Ck}
/-- where statements stand -/
structure CkS (X : Cx) (W : Wd) (C : Calls) (ck : Ck) : Prop extends CkOk X W C ck where
  fn : ∀ x, X.fn x = true
  own : PassesOwn (model X.prog X.w) X.A X.env X.xe
  kind : X.env.scope.kind = .function
theorem tE_tF {G : List Nat} {m : ME} (σ : L2.St) (H : Hp) (Q : VK) (h : tE W G C Ew m σ H Q) : tF W G C Ew m σ H Q := by
  obtain ⟨c, O, ρ, S, st, q⟩ := h
  refine ⟨c, O, ρ, S, st, q.imp (fun pv S' q H' p vs xs e h ex hn hp r => ?_) fun _ _ _ h => h⟩
  subst ex
  exact q H' _ e h (.lst (st.cup.ne hn) (fun m => st.tr p m hn) hp (r.sub fun a ha => List.mem_cons_of_mem _ ha))
theorem CkS.tok (k : CkS X W C ck) : ∀ x, locB ck.sc x = true → Loc X.env.scope x ∧ (X.fn x = true ∨ X.env.scope.names.lookup x = some .local) := fun x h => by
  rw [k.sc]; exact ⟨locB_ok h, .inl (k.fn x)⟩
theorem notComp_sw {v : Expr} (h : notComp v = true) (tg : Option Expr) (l : Nat) (env : PySem.Env) : swapsWith v tg l env = pure false := by
  cases v <;> first | rfl | cases h
theorem isCellB_ok {sc : Scope} {y : Str} (h : isCellB sc y = true) : sc.names.lookup y = some .cell := by
  unfold isCellB at h
  split at h
  · assumption
  · cases h
theorem cell_sw {v : Expr} {y : Str} {py : Pos} {l : Nat} {env : PySem.Env} (h : env.scope.names.lookup y = some .cell) : swapsWith v (some (.Name y py)) l env = pure false := by
  have e : env.kindOf y = some .cell := h
  have n : ((some NameKind.cell) == some NameKind.local) = false := by decide
  cases v <;> first | rfl | (unfold swapsWith; simp only [e, n, Bool.and_false, Bool.false_and]; done)
theorem nmG_ok (k : CkS X W C ck) {i : Nat} {y : Str} {py : Pos} (h : nmG ck i (.Name y py) = true) : X.N[i]? = some y ∧ Loc X.env.scope y := by
  unfold nmG tgN at h
  simp only [Bool.and_eq_true, decide_eq_true_eq] at h
  exact ⟨by rw [k.N]; exact h.1, by rw [k.sc]; exact locB_ok h.2⟩
theorem isLocB_ok {sc : Scope} {y : Str} (h : isLocB sc y = true) : sc.names.lookup y = some .local := by
  unfold isLocB at h
  split at h
  · assumption
  · cases h
/-- name = value -/
theorem set_any (k : CkS X W C ck) {md : Md} {e : ME} {v : Expr} {i : Nat} {y : Str} {py pos : Pos} (hn : nmG ck i (.Name y py) = true) (h : setB ck md e v y py = true) :
    (md = .E → ∃ te, (∀ σ H Q, tE W ck.G C Ew e σ H Q → te σ H Q) ∧ PS X (.Assign [.Name y py] v pos) (tAsg te (gName i))) ∧
    (md = .F → ∃ te, (∀ σ H Q, tF W ck.G C Ew e σ H Q → te σ H Q) ∧ PS X (.Assign [.Name y py] v pos) (tAsg te (gName i))) := by
  obtain ⟨hi, hl⟩ := nmG_ok k hn
  unfold setB at h
  rw [Bool.or_eq_true] at h
  rcases h with h | h
  · rw [Bool.and_eq_true, Bool.or_eq_true] at h
    have hs : swapsWith v (some (.Name y py)) pos.line X.env = pure false := h.1.elim (fun z => notComp_sw z _ _ _) fun z => cell_sw (by rw [k.sc]; exact isCellB_ok z)
    have c := chk_ok e (Ew := Ew) k.toCkOk h.2
    refine ⟨fun z => ?_, fun z => ?_⟩
    · subst z; exact ⟨_, fun σ H Q q => q, ps_set k.nd hi hl c hs (.inl (k.fn _))⟩
    · subst z; exact ⟨_, fun σ H Q q => q, ps_set k.nd hi hl c hs (.inl (k.fn _))⟩
  · split at h
    case h_3 => cases h
    case h_2 =>
      rename_i el g g2 scope p
      simp only [Bool.and_eq_true, Bool.not_eq_true'] at h
      obtain ⟨⟨⟨⟨h1, h2⟩, h3⟩, h4⟩, h5⟩ := h
      split at h5
      case h_2 => cases h5
      rename_i own elt t it own2 t2 it2
      have q := (comp2_ok (Ew := Ew) (pos := p) k.toCkOk h5 (fun hh => chkI_ok it k.toCkOk hh) (fun {tg iter X'} k' hh => chkI_ok (X := X') (ck := ck.blk scope) it2 k' hh) (fun {X'} k' hh => chk_ok (X := X') (ck := ck.blk scope) elt k' hh)).2
      have hy : X.env.scope.names.lookup y = some .local := by rw [k.sc]; exact isLocB_ok h1
      obtain ⟨te, q1, q2⟩ := q i y py pos hi hy (sw_true k.kind hy h2 h3)
      exact ⟨fun _ => ⟨te, fun σ H Q z => q1 σ H Q (tE_tF σ H Q z), q2⟩, fun _ => ⟨te, q1, q2⟩⟩
    rename_i el g scope p
    simp only [Bool.and_eq_true, Bool.not_eq_true'] at h
    obtain ⟨⟨⟨⟨h1, h2⟩, h3⟩, h4⟩, h5⟩ := h
    split at h5
    case h_2 => cases h5
    rename_i own elt t it ifs
    have q := (comp_ok (Ew := Ew) (pos := p) k.toCkOk h5 (fun hh => chkI_ok it k.toCkOk hh) (fun {l X'} k' hh => chkQ_ok (X := X') (ck := ck.blk scope) ifs k' hh) (fun {X'} k' hh => chk_ok (X := X') (ck := ck.blk scope) elt k' hh)).2
    have hy : X.env.scope.names.lookup y = some .local := by rw [k.sc]; exact isLocB_ok h1
    obtain ⟨te, q1, q2⟩ := q i y py pos hi hy (sw_true k.kind hy h2 h3)
    exact ⟨fun _ => ⟨te, fun σ H Q z => q1 σ H Q (tE_tF σ H Q z), q2⟩, fun _ => ⟨te, q1, q2⟩⟩
theorem par_parts (k : CkS X W C ck) {F : Fr} : ∀ {ts : List (Nat × Bool)} {ms : MEs} {es : List Expr}, parB ck ts ms es = true → PA X es (tPs W ck.G C F Ew ts ms)
  | [], .nil, [], _ => p_nil
  | (t, fl) :: ts, .cons m ms, e :: es, h => by
    simp only [parB, Bool.and_eq_true, Bool.not_eq_true'] at h
    obtain ⟨⟨h1, h2⟩, h3⟩ := h
    cases fl with
    | true =>
      simp only [if_true, Bool.and_eq_true] at h2
      exact p_own (by simpa using h2.1) (chk_ok m k.toCkOk h2.2) (fun _ _ _ q => q) (par_parts k h3) h1
    | false =>
      simp only [Bool.false_eq_true, if_false, Bool.and_eq_true, Bool.not_eq_true'] at h2
      exact p_gen (by simpa using h2.1) (chk_ok m k.toCkOk h2.2) (par_parts k h3) h1
  | [], .nil, _ :: _, h => by cases h
  | [], .cons _ _, _, h => by cases h
  | _ :: _, .nil, _, h => by cases h
  | _ :: _, .cons _ _, [], h => by cases h
theorem sw_ok {env : PySem.Env} (hk : env.scope.kind = .function) {ts vs : List Expr} {r : Option (List Str)} {kt k2 : Nat} {pt pt2 : Pos} (h : swB env.kindOf ts vs = some r) : swappedStores [.Tuple ts kt pt] (.Tuple vs k2 pt2) env = pure r := by
  have hb : env.blockKind = .function := by unfold Env.blockKind; rw [hk]; rfl
  unfold swappedStores
  simp only [hb]
  unfold swB at h
  split at h
  · rename_i h1; cases h; simp only [h1, Bool.true_or, if_true]
  rename_i h1
  split at h
  · cases h
  rename_i h2
  have h1' : (!(ts.length == 2 || ts.length == 3)) = false := by simpa using h1
  simp only [Bool.or_eq_true, not_or, Bool.not_eq_true] at h2
  have h3 : (vs.any fun | .Starred .. => true | _ => false) = false := by
    have e : (fun (e : Expr) => match e with | .Starred .. => true | _ => false) = isStar := by
      funext e
      cases e <;> rfl
    rw [e]
    exact h2.2
  have e0 : ((ScopeKind.function : ScopeKind) != .function) = false := rfl
  simp only [h1', h2.1, e0, Bool.false_or, Bool.false_eq_true, if_false]
  refine (if_neg (fun z => by have := h3.symm.trans z; cases this)).trans ?_
  dsimp only at h
  split at h
  · rename_i h4
    cases h
    exact (if_pos h4).trans rfl
  rename_i h4
  refine (if_neg h4).trans ?_
  split at h
  · rename_i h5; cases h; exact (if_pos h5).trans rfl
  rename_i h5
  refine (if_neg h5).trans ?_
  split at h
  · cases h
  rename_i h6
  cases h
  refine (if_neg h6).trans rfl
end
end Py

set_option Elab.async false
set_option linter.all false
set_option maxRecDepth 100000
set_option maxHeartbeats 4000000
/-! Py: the checker of statements tells the truth. -/
namespace Py
@[local simp] theorem ub_T {α β : Type} (r : Res α) (f : α → Cup → Res β) : r.bind f = (match r with | .ok a S => f a S | .exn c l S => .exn c l S | .bad => .bad) := rfl
@[local simp] theorem uo_T {α : Type} (o : Option α) (S : Cup) : Res.of o S = (match o with | some a => .ok a S | none => .bad) := rfl
@[local simp] theorem uu_T {α : Type} (r : Res α) (f : α → Cup → Out) : r.out f = (match r with | .ok a S => f a S | .exn c l S => .exn c l S | .bad => .bad) := rfl
@[local simp] theorem us_T (o : Out) (f : Env → Cup → Out) : o.seq f = (match o with | .next ρ S => f ρ S | o => o) := rfl
open PySem PySem.Spec PyProof.Rows L2
section
variable {W : Wd} {C : Calls} {Ew : Wish}
theorem mem_of {G : List Nat} {i : Nat} (h : G.contains i = true) : i ∈ G := by simpa using h
theorem nmem_of {G : List Nat} {i : Nat} (h : (!G.contains i) = true) : i ∉ G := by simpa using h
theorem asg_one {tg : Expr} {env : PySem.Env} (h : isStar tg = false) : (assignEach [tg] env).map (·.2) = [assign tg env] := by
  cases tg <;> first | rfl | cases h
theorem swSole {tg v : Expr} {l : Nat} {env : PySem.Env} (h : (match tg with | .Name .. => false | _ => true) = true) : swapsWithSole [tg] v l env = pure false := by
  cases v <;> first | rfl | (cases tg <;> first | rfl | cases h)
theorem swNone {ts : List Expr} {k : Nat} {p : Pos} {v : Expr} {env : PySem.Env} (h : isTup v = false) : swappedStores [.Tuple ts k p] v env = pure none := by
  cases v <;> first | rfl | cases h
theorem swSub {o i v : Expr} {p : Pos} {env : PySem.Env} : swappedStores [.Subscript o i p] v env = pure none := by
  cases v <;> rfl
theorem app_few {v : Expr} {cp : Pos} {env : PySem.Env} (h : isStar v = false) : starEach [v] env = [(false, eval v env)] := by
  cases v <;> first | rfl | cases h
theorem asgSub {o i : Expr} {pos : Pos} {env : PySem.Env} (h : notSlice i = true) : ∀ v, assign (.Subscript o i pos) env v = (do
      let ov ← holding [v] (eval o env)
      let iv ← holding [v, ov] (eval i env)
      standAt pos
      holding [v, ov, iv] (setItem ov iv v)
      release [v, ov, iv] []) := by
  intro v
  cases i <;> first | rfl | cases h
theorem attrName {y a : Str} {py : Pos} {env : PySem.Env} {w : Sem Value} : attributeBase (.Name y py) a env w = w := rfl
theorem isNm {sc : Scope} {e : Expr} (h : (match e with | .Name y _ => isLocB sc y | _ => false) = true) : ∃ x p, e = .Name x p ∧ sc.names.lookup x = some .local := by
  split at h
  · exact ⟨_, _, rfl, isLocB_ok h⟩
  · cases h
theorem par_len {ck : Ck} : ∀ {ts : List (Nat × Bool)} {ms : MEs} {vs : List Expr}, parB ck ts ms vs = true → vs.length = ts.length
  | [], .nil, [], _ => rfl
  | (t, fl) :: ts, .cons m ms, e :: es, h => by
    simp only [parB, Bool.and_eq_true] at h
    simp [par_len h.2]
  | [], .nil, _ :: _, h => by cases h
  | [], .cons _ _, _, h => by cases h
  | _ :: _, .nil, _, h => by cases h
  | _ :: _, .cons _ _, [], h => by cases h
theorem names2 {kind : Str → Option NameKind} {n : Nat} {x y : Str} {px py : Pos} {names : List Str} (hr : names = [Expr.Name x px, Expr.Name y py].filterMap fun e => match e with
          | .Name id p => if kind id == some .local && p.line == n then some id else none
          | _ => none) (hl : names.length = [Expr.Name x px, Expr.Name y py].length) : names = [x, y] := by
  subst hr
  simp only [List.filterMap_cons, List.filterMap_nil] at hl ⊢
  split at hl <;> split at hl <;> simp_all
theorem names3 {kind : Str → Option NameKind} {n : Nat} {x y z : Str} {px py pz : Pos} {names : List Str} (hr : names = [Expr.Name x px, Expr.Name y py, Expr.Name z pz].filterMap fun e => match e with
          | .Name id p => if kind id == some .local && p.line == n then some id else none
          | _ => none) (hl : names.length = [Expr.Name x px, Expr.Name y py, Expr.Name z pz].length) : names = [x, y, z] := by
  subst hr
  simp only [List.filterMap_cons, List.filterMap_nil] at hl ⊢
  split at hl <;> split at hl <;> split at hl <;> simp_all
mutual
theorem chkS_ok : ∀ (m : MS) {X : Cx} {ck : Ck} {F : Fr} {st : Stmt}, CkS X W C ck → F.fr = ck.fr → chkS ck m st = true → PS X st (tS W ck.G C F Ew m)
  | .set i e, X, ck, F, st, k, hf, h => by
    rw [chkS.eq_def] at h
    simp only at h
    split at h
    · simp only [Bool.and_eq_true] at h
      obtain ⟨⟨h1, h2⟩, h3⟩ := h
      obtain ⟨te, q1, q2⟩ := (set_any (Ew := Ew) k h2 h3).1 rfl
      exact s_set q1 q2 (nmem_of h1)
    · cases h
  | .setO i e, X, ck, F, st, k, hf, h => by
    rw [chkS.eq_def] at h
    simp only at h
    split at h
    · simp only [Bool.and_eq_true] at h
      obtain ⟨⟨h1, h2⟩, h3⟩ := h
      obtain ⟨te, q1, q2⟩ := (set_any (Ew := Ew) k h2 h3).2 rfl
      exact s_setO q1 q2 (mem_of h1)
    · cases h
  | .keepO .., X, ck, F, st, k, hf, h => by rw [chkS.eq_def] at h; cases h
  | .par ts es, X, ck, F, st, k, hf, h => by
    rw [chkS.eq_def] at h
    simp only at h
    split at h
    case h_2 => cases h
    rename_i tgs kt pt vs k2 pt2 pos
    simp only [Bool.and_eq_true, decide_eq_true_eq] at h
    obtain ⟨⟨⟨h0, h1⟩, h2⟩, h3⟩ := h
    have hvl := par_len h2
    have pa := par_parts (Ew := Ew) k (F := F) h2
    obtain ⟨g1, g2, g4, g3⟩ := tgNs_ok (ck := ck) k.nd k.N k.tok h1
    have hk : X.env.kindOf = fun x => ck.sc.names.lookup x := by
      funext x
      show X.env.scope.names.lookup x = _
      rw [k.sc]
    split at h3
    · cases h3
    · rename_i hsw
      rw [← hk] at hsw
      have hw := sw_ok (kt := kt) (k2 := k2) (pt := pt) (pt2 := pt2) k.kind hsw
      exact s_parN h0 k.calm pa g1 g2 (by rw [(g3 X.env).1, List.length_map]) (g3 X.env).2 hw
    · rename_i names hsw
      have hsw0 := hsw
      rw [← hk] at hsw
      have hw := sw_ok (kt := kt) (k2 := k2) (pt := pt) (pt2 := pt2) k.kind hsw
      simp only [Bool.and_eq_true, decide_eq_true_eq, Bool.or_eq_true, beq_iff_eq] at h3
      obtain ⟨⟨hnd, hl⟩, hlen⟩ := h3
      rw [List.all_eq_true] at hl
      have hnames : ∀ r, swB X.env.kindOf tgs vs = some (some r) → r = tgs.filterMap fun e => match e with
          | .Name id p => if X.env.kindOf id == some .local && p.line == (tgs.head?.map (·.pos.line)).getD 0 then some id else none
          | _ => none := by
        intro r hr
        unfold swB at hr
        split at hr
        · cases hr
        split at hr
        · cases hr
        dsimp only at hr
        split at hr
        · cases hr
        split at hr
        · cases hr
        split at hr
        · cases hr
        cases hr; rfl
      have hn2 : names.length = tgs.length := by
        unfold swB at hsw
        split at hsw
        · cases hsw
        split at hsw
        · cases hsw
        dsimp only at hsw
        split at hsw
        · cases hsw
        rename_i hc
        split at hsw
        · cases hsw
        split at hsw
        · cases hsw
        cases hsw
        simp only [Bool.or_eq_true, not_or, bne_iff_ne, ne_eq, Classical.not_not] at hc
        exact hc.1
      have hr := hnames _ hsw
      clear hnames hsw hsw0 h2
      rcases hlen with hlen | hlen
      · match ts, hlen, pa, g4, hnd, h1, hw, hvl with
        | [(i, f1), (j, f2)], _, pa, g4, hnd, h1, hw, hvl =>
          match tgs, g4, hl, hn2, hr, h1, hw, pa with
          | [a, b], _, hl, hn2, hr, h1, hw, pa =>
            obtain ⟨x, px, rfl, lx⟩ := isNm (hl a (by simp))
            obtain ⟨y, py, rfl, ly⟩ := isNm (hl b (by simp))
            obtain rfl := names2 hr hn2
            simp only [List.map_cons, List.map_nil, tgNs, Bool.and_eq_true] at h1
            obtain ⟨q1, q2, _⟩ := h1
            obtain ⟨i1, _⟩ := nmG_ok k q1
            obtain ⟨i2, _⟩ := nmG_ok k q2
            match vs, hvl, pa, hw with
            | [u, v], _, pa, hw => exact s_par2 k.calm k.nd i1 i2 (by simp at hnd; exact hnd) (by rw [k.sc]; exact lx) (by rw [k.sc]; exact ly) pa hw
      · match ts, hlen, pa, g4, hnd, h1, hw, hvl with
        | [(i, f1), (j, f2), (l, f3)], _, pa, g4, hnd, h1, hw, hvl =>
          match tgs, g4, hl, hn2, hr, h1, hw, pa with
          | [a, b, c], _, hl, hn2, hr, h1, hw, pa =>
            obtain ⟨x, px, rfl, lx⟩ := isNm (hl a (by simp))
            obtain ⟨y, py, rfl, ly⟩ := isNm (hl b (by simp))
            obtain ⟨z, pz, rfl, lz⟩ := isNm (hl c (by simp))
            obtain rfl := names3 hr hn2
            simp only [List.map_cons, List.map_nil, tgNs, Bool.and_eq_true] at h1
            obtain ⟨q1, q2, q3, _⟩ := h1
            obtain ⟨i1, _⟩ := nmG_ok k q1
            obtain ⟨i2, _⟩ := nmG_ok k q2
            obtain ⟨i3, _⟩ := nmG_ok k q3
            simp at hnd
            match vs, hvl, pa, hw with
            | [u, v, w], _, pa, hw => exact s_par3 k.calm k.nd i1 i2 i3 hnd.1.1 hnd.1.2 hnd.2 (by rw [k.sc]; exact lx) (by rw [k.sc]; exact ly) (by rw [k.sc]; exact lz) pa hw
  | .unp is e, X, ck, F, st, k, hf, h => by
    rw [chkS.eq_def] at h
    simp only at h
    split at h
    · simp only [Bool.and_eq_true, Bool.not_eq_true', List.all_eq_true] at h
      obtain ⟨⟨⟨h1, h2⟩, h3⟩, h4⟩ := h
      obtain ⟨g1, g2, g4, g3⟩ := tgNs_ok (ck := ck) k.nd k.N k.tok h3
      have hG : ∀ i ∈ is, i ∉ ck.G := fun i hi => by simpa using h2 i hi
      have c : PE X _ (tE W ck.G C Ew e) := chk_ok e (Ew := Ew) k.toCkOk h4
      exact s_unp (tg := .Name "" ⟨0, 0, 0, 0⟩) (fun _ _ _ q => q) (ps_asg c (g_tup k.K k.calm g1 g2 hG (g3 X.env).1 (g3 X.env).2) (swSole rfl) (swNone h1) (asg_one rfl)) (fun _ _ _ _ q => q) hG
    · cases h
  | .aug i op e, X, ck, F, st, k, hf, h => by
    rw [chkS.eq_def] at h
    simp only at h
    split at h
    · simp only [Bool.and_eq_true, decide_eq_true_eq, Bool.or_eq_true] at h
      obtain ⟨⟨⟨⟨rfl, h1⟩, h2⟩, h3⟩, h4⟩ := h
      obtain ⟨hi, hl⟩ := nmG_ok k h3
      have c : PE X _ (tE W ck.G C Ew e) := chk_ok e (Ew := Ew) k.toCkOk h4
      rcases h1 with rfl | rfl
      · exact s_augAdd k.nd hi hl (.inl (k.fn _)) c (nmem_of h2)
      · exact s_augSub k.nd hi hl (.inl (k.fn _)) c (nmem_of h2)
    · cases h
  | .augO i e, X, ck, F, st, k, hf, h => by
    rw [chkS.eq_def] at h
    simp only at h
    split at h
    · simp only [Bool.and_eq_true, decide_eq_true_eq] at h
      obtain ⟨⟨⟨rfl, h2⟩, h3⟩, h4⟩ := h
      obtain ⟨hi, hl⟩ := nmG_ok k h3
      have c : PE X _ (tE W ck.G C Ew e) := chk_ok e (Ew := Ew) k.toCkOk h4
      exact s_augO k.nd hi hl (.inl (k.fn _)) c (fun _ _ _ q => q) (mem_of h2)
    · cases h
  | .app i e, X, ck, F, st, k, hf, h => by
    rw [chkS.eq_def] at h
    simp only at h
    split at h
    · simp only [Bool.and_eq_true, decide_eq_true_eq, Bool.not_eq_true'] at h
      obtain ⟨⟨⟨⟨⟨rfl, h1⟩, h2⟩, h3⟩, h4⟩, h5⟩ := h
      have c : PE X _ (tE W ck.G C Ew e) := chk_ok e (Ew := Ew) k.toCkOk h5
      have hs := app_few (cp := ⟨0, 0, 0, 0⟩) (env := X.env) h4
      exact s_app (ps_expr (pe_bm PySem.F.plainAttrs_list PySem.F.slot_list_append PySem.F.type_list_append mt_append (nm_ok k.toCkOk h3) (pa_cons c pa_nil (star_plain h4)) rfl (by rw [hs]; rfl) h1 (star_plain h4) rfl) rfl) (fun _ _ _ q => q) (mem_of h2)
    · cases h
  | .setIx i kx e, X, ck, F, st, k, hf, h => by
    rw [chkS.eq_def] at h
    simp only at h
    split at h
    · simp only [Bool.and_eq_true] at h
      obtain ⟨⟨⟨⟨h1, h2⟩, h3⟩, h4⟩, h5⟩ := h
      have c : PE X _ (tE W ck.G C Ew e) := chk_ok e (Ew := Ew) k.toCkOk h5
      have d : PE X _ (tE W ck.G C Ew kx) := chk_ok kx (Ew := Ew) k.toCkOk h4
      exact s_setIx (ps_asg c (pg_sub (nm_ok k.toCkOk h3) d set_list (asgSub h1)) (swSole rfl) swSub (asg_one rfl)) (fun _ _ _ q => q) (fun _ _ _ q => q) (mem_of h2)
    · cases h
  | .setCup i kx e, X, ck, F, st, k, hf, h => by
    rw [chkS.eq_def] at h
    simp only at h
    split at h
    · simp only [Bool.and_eq_true, decide_eq_true_eq] at h
      obtain ⟨⟨⟨rfl, h2⟩, h3⟩, h4⟩ := h
      have c : PE X _ (tE W ck.G C Ew e) := chk_ok e (Ew := Ew) k.toCkOk h4
      exact s_setCup (ps_asg c (pg_sub (nm_ok k.toCkOk h3) pe_int set_list (asgSub rfl)) (swSole rfl) swSub (asg_one rfl)) (fun _ _ _ q => q) (nmem_of h2)
    · cases h
  | .mkCup i f es, X, ck, F, st, k, hf, h => by
    rw [chkS.eq_def] at h
    simp only at h
    split at h
    · simp only [Bool.and_eq_true, decide_eq_true_eq] at h
      obtain ⟨⟨⟨⟨⟨⟨rfl, h1⟩, h2⟩, h3⟩, h4⟩, h5⟩, h6⟩ := h
      obtain ⟨hi, hl⟩ := nmG_ok k h2
      obtain ⟨P, dd, fd, q1, q2, q3, q4⟩ := (call_parts k.toCkOk h3 h4 h5 h6 (chks_ok es (Ew := Ew) k.toCkOk h6)).2.2 rfl
      exact s_mkCup (ps_set k.nd hi hl q1 rfl (.inl (k.fn _))) q2 q3 q4 (nmem_of h1)
    · cases h
  | .expr e, X, ck, F, st, k, hf, h => by
    rw [chkS.eq_def] at h
    simp only at h
    split at h
    · simp only [Bool.and_eq_true] at h
      have c : PE X _ (tE W ck.G C Ew e) := chk_ok e (Ew := Ew) k.toCkOk h.2
      exact s_expr (fun _ _ _ q => q) (ps_expr c (notComp_sw h.1 _ _ _))
    · cases h
  | .ite c a b, X, ck, F, st, k, hf, h => by
    rw [chkS.eq_def] at h
    simp only at h
    split at h
    · simp only [Bool.and_eq_true] at h
      exact s_ite (chk_ok c k.toCkOk h.1.1) (chkB_ok a k hf h.1.2) (chkB_ok b k hf h.2)
    · cases h
  | .loop t it b, X, ck, F, st, k, hf, h => by
    rw [chkS.eq_def] at h
    simp only at h
    split at h
    · simp only [Bool.and_eq_true, List.all_eq_true] at h
      obtain ⟨⟨⟨⟨h1, h2⟩, h3⟩, h4⟩, h5⟩ := h
      have hG : ∀ i ∈ t.ix, i ∉ ck.G := fun i hi => by simpa using h3 i hi
      exact s_for k.K k.own k.calm (chkI_ok it k.toCkOk h4) (tg_ok k.K k.calm k.nd k.N k.tok h2 hG) (fun ps => chkB_ok b k hf h5) (notSet_ok h1 _) hG
    · cases h
  | .whl c b, X, ck, F, st, k, hf, h => by
    rw [chkS.eq_def] at h
    simp only at h
    split at h
    · simp only [Bool.and_eq_true] at h
      exact s_whl k.own (chk_ok c k.toCkOk h.1) (chkB_ok b k hf h.2)
    · cases h
  | .ret e, X, ck, F, st, k, hf, h => by
    rw [chkS.eq_def] at h
    simp only at h
    split at h
    · simp only [Bool.and_eq_true, Bool.not_eq_true', Bool.or_eq_true] at h
      obtain ⟨h1, h2⟩ := h
      have hfr : F.fr = false := hf.trans h1
      rcases h2 with h2 | h2
      · split at h2
        · rw [Bool.and_eq_true] at h2
          obtain ⟨x, p, rfl⟩ := nmB_name h2.2
          exact s_retO (nm_ok k.toCkOk h2.2) hfr (mem_of h2.1)
        · cases h2
      · have c : PE X _ (tE W ck.G C Ew e) := chk_ok e (Ew := Ew) k.toCkOk h2
        exact s_ret (fun _ _ _ q => q) (ps_ret c) hfr
    · cases h
  | .retF e, X, ck, F, st, k, hf, h => by
    rw [chkS.eq_def] at h
    simp only at h
    split at h
    · rw [Bool.or_eq_true] at h
      rcases h with h2 | h
      · split at h2
        · rw [Bool.and_eq_true] at h2
          obtain ⟨x, p, rfl⟩ := nmB_name h2.2
          exact s_retFO (nm_ok k.toCkOk h2.2) (mem_of h2.1)
        · cases h2
      · have c : PE X _ (tF W ck.G C Ew e) := chk_ok e (Ew := Ew) k.toCkOk h
        exact s_retF (fun _ _ _ q => q) (ps_ret c)
    · cases h
  | .retN, X, ck, F, st, k, hf, h => by
    rw [chkS.eq_def] at h
    simp only at h
    split at h
    · exact s_retN (hf.trans (by simpa using h))
    · cases h
  | .never, X, ck, F, st, k, hf, h => s_never
  | .raise _, X, ck, F, st, k, hf, h => by rw [chkS.eq_def] at h; cases h
  | .pass, X, ck, F, st, k, hf, h => by
    rw [chkS.eq_def] at h
    simp only at h
    split at h
    · exact s_pass
    · cases h
  | .brk, X, ck, F, st, k, hf, h => by
    rw [chkS.eq_def] at h
    simp only at h
    split at h
    · exact s_brk
    · cases h
  | .cont, X, ck, F, st, k, hf, h => by
    rw [chkS.eq_def] at h
    simp only at h
    split at h
    · exact s_cont
    · cases h
termination_by structural m => m
theorem chkB_ok : ∀ (b : MB) {X : Cx} {ck : Ck} {F : Fr} {sts : List Stmt}, CkS X W C ck → F.fr = ck.fr → chkB ck b sts = true → PSs X sts (tB W ck.G C F Ew b)
  | .nil, X, ck, F, sts, k, hf, h => by
    rw [chkB.eq_def] at h
    cases sts with
    | nil => exact b_nil
    | cons _ _ => cases h
  | .cons m r, X, ck, F, sts, k, hf, h => by
    rw [chkB.eq_def] at h
    cases sts with
    | nil => cases h
    | cons st t =>
      simp only [Bool.and_eq_true] at h
      exact b_cons (chkS_ok m k hf h.1) (chkB_ok r k hf h.2)
  | .frz i r, X, ck, F, sts, k, hf, h => by
    rw [chkB.eq_def] at h
    simp only [Bool.and_eq_true] at h
    have k' : CkS X W C (ck.frz i) := ⟨⟨k.K, k.nd, k.N, k.sc, k.calm, k.un, k.glb, k.blt, k.fns, k.dp, k.kds, k.lam⟩, k.fn, k.own, k.kind⟩
    exact (chkB_ok r (ck := ck.frz i) k' hf h.2).imp fun D σ H q => tB_frz (by simpa using h.1) q
termination_by structural b => b
end
end
end Py

set_option Elab.async false
set_option linter.all false
set_option maxRecDepth 100000
set_option maxHeartbeats 4000000
/-! Py: the defs of a text do what the evaluator tells. -/
namespace Py
@[local simp] theorem ub_U {α β : Type} (r : Res α) (f : α → Cup → Res β) : r.bind f = (match r with | .ok a S => f a S | .exn c l S => .exn c l S | .bad => .bad) := rfl
@[local simp] theorem uo_U {α : Type} (o : Option α) (S : Cup) : Res.of o S = (match o with | some a => .ok a S | none => .bad) := rfl
@[local simp] theorem uu_U {α : Type} (r : Res α) (f : α → Cup → Out) : r.out f = (match r with | .ok a S => f a S | .exn c l S => .exn c l S | .bad => .bad) := rfl
@[local simp] theorem us_U (o : Out) (f : Env → Cup → Out) : o.seq f = (match o with | .next ρ S => f ρ S | o => o) := rfl
open PySem PySem.Spec PyProof.Rows L2
/-- a def of the text: its small form, its text, its slots, its parameters -/
structure Df where
  fd : FDef
  st : Stmt
  N : List Str
  ps : List Str
  lam : Bool := false
def fnsOf (L : List Df) : List (Str × Bool) := L.map fun D => (D.fd.name, D.fd.fresh)
def Df.ck (L : List Df) (g : List (Str × PV)) (b : List String) (D : Df) : Ck := { N := D.N, sc := defScope D.st, G := D.fd.own, glb := g, blt := b, fns := fnsOf L, fr := D.fd.fresh, kds := L.map fun D => (D.fd.name, D.st, D.ps), lam := D.lam }
def scB (N ps : List Str) (sc : Scope) : Bool := (match sc.kind with | .function => true | _ => false) && !sc.isCoroutine && !sc.isGenerator && decide N.Nodup && decide (N.take ps.length = ps) && ps.all (fun x => locB sc x) && sc.names.all (fun y => match y.2 with | .free => false | _ => true)
def Df.okB (L : List Df) (g : List (Str × PV)) (b : List String) (D : Df) : Bool := scB D.N D.ps (defScope D.st) && decide (D.fd.nl = D.N.length) && decide (D.fd.np = D.ps.length) && D.fd.own.all (fun i => decide (D.fd.np ≤ i)) && chkB (D.ck L g b) D.fd.body (defBody D.st)
def progOf (L : List Df) : Prog := L.map (·.fd)
theorem scB_ok {N ps : List Str} {sc : Scope} (h : scB N ps sc = true) : FnScope N ps sc := by
  unfold scB at h
  simp only [Bool.and_eq_true, decide_eq_true_eq, Bool.not_eq_true', List.all_eq_true] at h
  obtain ⟨⟨⟨⟨⟨⟨h1, h2⟩, h3⟩, h4⟩, h5⟩, h6⟩, h7⟩ := h
  refine ⟨?_, h2, h3, h4, h5, fun x hx => locB_ok (h6 x hx), fun y hy e => ?_⟩
  · split at h1
    · assumption
    · cases h1
  · have q := h7 y hy
    rw [e] at q
    cases q
theorem find_of : ∀ {P : Prog} {fd : FDef}, (P.map (·.name)).Nodup → fd ∈ P → find P fd.name = some fd
  | [], fd, _, h => by cases h
  | a :: P, fd, hn, h => by
    unfold find
    rw [List.find?_cons]
    rw [List.map_cons, List.nodup_cons] at hn
    rcases List.mem_cons.mp h with rfl | h
    · simp
    · have ne : (a.name == fd.name) = false := by
        rw [beq_eq_false_iff_ne]
        intro e
        exact hn.1 (by rw [e]; exact List.mem_map_of_mem h)
      rw [ne]
      exact find_of hn.2 h
structure DfIn (K : PySem.W.Frag) (mg : Str → Option Value) (D : Df) (f : Addr) (fdata : FuncData) : Prop where
  fn : Fun K D.fd.name D.fd.name D.st f fdata
  mg : mg D.fd.name = some (.ref f)
  bd : Binds K fdata D.ps []
section
variable {Pg : Program} {w : World} {K : PySem.W.Frag} {mg : Str → Option Value} {base : Heap} {W : Wd} {L : List Df} {g : List (Str × PV)} {b : List String}
theorem start_get {N : List Str} {vs : List V} {i : Nat} {v : V} : (L2.start N vs)[i]? = some (some v) ↔ vs[i]? = some v := by
  unfold L2.start
  rw [List.getElem?_append]
  split
  · rw [List.getElem?_map]
    cases vs[i]? <;> simp
  · rename_i h
    rw [List.length_map] at h
    rw [List.getElem?_eq_none (show vs.length ≤ i by omega)]
    rw [List.getElem?_replicate]
    split <;> simp
theorem startE_get {n : Nat} {xs : List PV} {i : Nat} {v : PV} : (Py.start n xs)[i]? = some (some v) ↔ xs[i]? = some v := by
  unfold Py.start
  rw [List.getElem?_append]
  split
  · rw [List.getElem?_map]
    cases xs[i]? <;> simp
  · rename_i h
    rw [List.length_map] at h
    rw [List.getElem?_eq_none (show xs.length ≤ i by omega)]
    rw [List.getElem?_replicate]
    split <;> simp
theorem spF_len {P : Prog} {d : Nat} {fd : FDef} {vs : List V} {H : Hp} {Q : VK} {E : XK} (h : spF W P d fd vs H Q E) : vs.length = fd.np := by
  obtain ⟨c, O, S, args, h1, _⟩ := h
  exact h1
theorem cup_none {H : Hp} {c : Cu} (h : CupIs W H c none) : c.a = none := by
  have h1 := h.1
  cases e : c.a with
  | none => rfl
  | some p => rw [e] at h1; exact h1.elim
theorem cup_some {H : Hp} {c : Cu} {ab : Int × Int} (h : CupIs W H c (some ab)) : ∃ p, c.a = some p := by
  have h1 := h.1
  cases e : c.a with
  | none => rw [e] at h1; exact h1.elim
  | some p => exact ⟨p, rfl⟩
theorem cc_none {F : Fr} {c : Cu} (cc : F.CC c) (h : c.a = none) : c = F.c0 := by
  rcases cc with z | ⟨_, _, p, z, _⟩
  · exact z
  · rw [h] at z; cases z
theorem cc_T {F : Fr} {c : Cu} (cc : F.CC c) : c.T = F.c0.T := by
  rcases cc with z | ⟨_, z, _⟩
  · rw [z]
  · exact z
/-- from the end of a body to the def's answer -/
theorem end_ok {G : List Nat} {F : Fr} {Q : VK} {S : Cup} {o : Out} (hcu : CupIs W F.H0 F.c0 S) (h : (endR F.fr S o).all (fun pv S' => ∀ H' z, Ext F.c0 F.H0 H' → CupIs W H' F.c0 S' → Rep W H' F.O0 F.c0 pv z → (F.fr = true → ∃ p vs xs, pv = .lst xs ∧ z = .ref p ∧ F.H0 p = none ∧ H' p = some (.lst vs) ∧ RepL W H' (p :: F.O0) F.c0 xs vs) → Q z H') (fun _ _ _ => True)) :
    OutOk W G F (fun _ _ _ => True) { nx := fun _ H' => Q .non H', rt := Q } o := by
  cases S with
  | some ab =>
    obtain ⟨p, hp⟩ := cup_some hcu
    have hc : ∀ {c'}, F.CC c' → c' = F.c0 := fun z => by
      rcases z with z | ⟨z, _⟩
      · exact z
      · rw [z] at hp; cases hp
    cases o with
    | ret v S' =>
      intro H' z ⟨e, c', cc, cu, r, fr⟩
      obtain rfl := hc cc
      exact h H' z e cu r fr
    | next ρ S' =>
      intro σ H' c O st
      obtain rfl := hc st.cc
      simp only [endR] at h
      split at h
      · exact h.elim
      · rename_i hf
        exact h H' .non st.ext st.st.cup .non fun z => absurd z hf
    | brk _ _ => exact h.elim
    | cont _ _ => exact h.elim
    | exn n l S' => exact fun _ _ => trivial
    | bad => exact h.elim
  | none =>
    have hp := cup_none hcu
    cases o with
    | ret v S' =>
      intro H' z ⟨e, c', cc, cu, r, fr⟩
      cases S' with
      | none =>
        obtain rfl := cc_none cc (cup_none cu)
        exact h H' z e cu r fr
      | some ab =>
        cases v <;> first | exact h.elim | skip
        cases r
        refine h H' _ e ⟨by rw [hp]; exact trivial, hcu.2.1, by rw [← cc_T cc]; exact cu.2.2⟩ (.bl _) fun z => ?_
        obtain ⟨_, _, _, q, _⟩ := fr z
        cases q
    | next ρ S' =>
      intro σ H' c O st
      cases S' with
      | some _ => exact h.elim
      | none =>
        simp only [endR] at h
        split at h
        · exact h.elim
        · rename_i hf
          have e := st.ext
          have cu := st.st.cup
          obtain rfl := cc_none st.cc (cup_none cu)
          exact h H' .non e cu .non fun z => absurd z hf
    | brk _ _ => exact h.elim
    | cont _ _ => exact h.elim
    | exn n l S' =>
      intro _ _
      trivial
    | bad => exact h.elim
theorem hnp_ok {L : List Df} {D : Df} (hD : D ∈ L) (hn : ((progOf L).map (·.name)).Nodup) : ∀ (d : Nat) (xs : List PV) (S : Cup), D.fd.np ≠ xs.length → evCall (progOf L) d D.fd.name xs S = .bad
  | 0, _, _, _ => rfl
  | d + 1, xs, S, h => by
    rw [evCall, find_of hn (List.mem_map_of_mem hD)]
    exact if_neg fun e => h e.symm
/-- what holds of a text's K and names -/
structure TxtOk (K : PySem.W.Frag) (mg : Str → Option Value) (W : Wd) (L : List Df) (g : List (Str × PV)) (b : List String) : Prop where
  hK : W.K = K
  nd : ((progOf L).map (·.name)).Nodup
  ok : ∀ D ∈ L, D.okB L g b = true
  glb : ∀ x v, g.lookup x = some v → ∃ z u, mg x = some u ∧ RelV z u ∧ ∀ H O c, Rep W H O c v z
  blt : ∀ x ∈ b, mg (Str.ofString x) = none
  dfs : ∀ D ∈ L, ∃ f fdata, DfIn K mg D f fdata
/-- where the lambdas' code of a def is told -/
def LamIn (base : Heap) (mg : Str → Option Value) (W : Wd) (D : Df) (fdata : FuncData) : Prop := ∃ c P, LamX.TabB base mg c P ∧ fdata.code = .ref c ∧ (P, (D.fd.name ++ ".<locals>.") ++ "<lambda>") ∈ W.T ∧ ∀ p ∈ W.T, p.1 = P → p.2 = (D.fd.name ++ ".<locals>.") ++ "<lambda>"
theorem fns_ok (T : TxtOk K mg W L g b) (TL : ∀ D ∈ L, D.lam = true → ∀ f fdata, DfIn K mg D f fdata → LamIn base mg W D fdata) : ∀ (d : Nat) (D : Df) (f : Addr) (fdata : FuncData), D ∈ L → DfIn K mg D f fdata → FnOk Pg w K mg base L2.CX0 d f fdata D.ps (spF W (progOf L) d D.fd)
  | 0, D, f, fdata, hD, hf => by
    have no : ∀ {vs : List V} {H : Hp} {Q : VK} {E : XK}, ¬ spF W (progOf L) 0 D.fd vs H Q E := fun {vs H Q E} h => by
      obtain ⟨c, O, S, args, _, _, _, _, h⟩ := h
      exact h
    exact ⟨fun vs H Q E h => (no h).elim, fun A outer s H args us vs Q E _ _ _ _ h => (no h).elim⟩
  | d + 1, D, f, fdata, hD, hf => by
    have hb := T.ok D hD
    unfold Df.okB at hb
    simp only [Bool.and_eq_true, decide_eq_true_eq, List.all_eq_true] at hb
    obtain ⟨⟨⟨⟨h1, h2⟩, h3⟩, h4⟩, h5⟩ := hb
    have S := scB_ok h1
    have hlam := TL D hD
    replace hlam := fun q => hlam q f fdata hf
    obtain ⟨oc, od, kV, doc, pm, an, cdv, ct, osl, rfl, lk, hcd⟩ := hf.fn.ex
    refine L2.fn_of lk hcd S (fun vs H Q E h => (spF_len h).trans h3) fun A outer s H vs Q E hr h => ?_
    suffices hh : ∃ t, PSs (cxOf L2.CX0 Pg w K mg base D.N D.fd.name (defScope D.st) f cdv A outer s H E).nox (defBody D.st) t ∧ t { nx := fun _ H' => Q .non H', rt := Q } (L2.start D.N vs) H by
      obtain ⟨t, z1, z2⟩ := hh
      exact ⟨t, z1.nox, z2⟩
    obtain ⟨c, O, Sc, args, hl, ra, hit, co, hall⟩ := h
    rw [evCall, find_of T.nd (List.mem_map_of_mem hD)] at hall
    have hla : args.length = D.fd.np := ra.length.trans hl
    simp only [hla, if_true] at hall
    let X := (cxOf L2.CX0 Pg w K mg base D.N D.fd.name (defScope D.st) f cdv A outer s H E).nox
    have hu : X.A.units + 65 < cLine := by have := hr.un; show (A.deeper _).units + 65 < cLine; omega
    have k : CkS X W (evCall (progOf L) d) (D.ck L g b) := by
      refine ⟨⟨T.hK, S.nd, rfl, rfl, rfl, hu, T.glb, T.blt, fun p hp => ?_, by have := hr.dp; show (A.deeper _).depth + 4 < _; omega, fun p hp => ?_, fun q => ?_⟩, fun _ => rfl, PassesOwn.never, S.kind⟩
      case refine_2 =>
        obtain ⟨D', hD', rfl⟩ := List.mem_map.mp (show p ∈ L.map fun D => (D.fd.name, D.st, D.ps) from hp)
        obtain ⟨f', fdata', hf'⟩ := T.dfs D' hD'
        exact ⟨f', fdata', hf'.fn, hf'.mg, hf'.bd⟩
      case refine_3 =>
        obtain ⟨c, P, z1, z2, z3, z4⟩ := hlam q
        exact ⟨c, P, z1, z2, z3, z4⟩
      obtain ⟨D', hD', rfl⟩ := List.mem_map.mp (show p ∈ fnsOf L from hp)
      obtain ⟨f', fdata', hf'⟩ := T.dfs D' hD'
      exact ⟨progOf L, d, D'.fd, f', fdata', D'.ps, d, fns_ok T TL d D' f' fdata' hD' hf', hr, hf'.mg, hf'.fn.kp, hf'.bd, fun _ _ => rfl, hnp_ok hD' T.nd d, fun z => z⟩
    let F : Fr := ⟨c, O, H, D.fd.fresh, []⟩
    refine ⟨_, chkB_ok (Ew := fun _ _ _ => True) (F := F) D.fd.body k rfl h5, c, O, Py.start D.fd.nl args, Sc, ?_, end_ok (F := F) (S := Sc) hit.cup (hall.imp (fun _ _ q => q) fun _ _ _ _ => trivial)⟩
    have hG : ∀ i ∈ D.fd.own, ∀ pv, (Py.start D.fd.nl args)[i]? ≠ some (some pv) := fun i hi pv e => by
      rw [startE_get] at e
      have := (List.getElem?_eq_some_iff.mp e).1
      have := h4 i hi
      omega
    refine ⟨⟨?_, fun i pv e hi => ?_, fun i pv e hi => (hG i hi pv e).elim, fun i j pv qv a hi hj _ e => (hG i hi pv e).elim, hit.cup, hit.tr, co⟩, fun a ha => ha, fun a ha => .inl ha, ExtO.refl, .inl rfl, fun i a pv hi e => (hG i hi pv e).elim, fun q hq => by cases hq⟩
    · unfold L2.start Py.start
      simp only [List.length_append, List.length_map, List.length_replicate, h2, hl, hla]
    · rw [startE_get] at e
      obtain ⟨v, q1, q2⟩ := ra.get e
      exact ⟨v, start_get.mpr q1, q2⟩
end
end Py

set_option Elab.async false
set_option linter.all false
set_option maxRecDepth 100000
set_option maxHeartbeats 4000000
/-! Py: from the law's def to the statement. -/
namespace Py
open PySem PySem.Spec PyProof.Rows L2
/-- what the written part tells of a def -/
inductive DfsK (K : PySem.W.Frag) : List Df → Prop
  | nil : DfsK K []
  | cons {D : Df} {L : List Df} (x : Str) (st : Stmt) {f : Addr} {oc : Value} {od an : Option Addr} {osl : Array (Option Value)} {kV doc pm cdv ct : Value} (hx : D.fd.name = x) (hst : D.st = st)
      (a : PySem.W.nsIn K mainGlobals x = some (some (.ref f))) (l : K.lookup f = some ⟨oc, od, .func (PySem.W.fnOf x x (defArgs st) (defBody st) (defScope st) .none kV doc pm an cdv ct), osl⟩)
      (c : PySem.W.codeIn K cdv x = true) (k : PySem.W.keepIn K (.ref f) = true) (r : DfsK K L) : DfsK K (D :: L)
inductive BltsK (K : PySem.W.Frag) : List String → Prop
  | nil : BltsK K []
  | cons {n : String} {L : List String} (x : Str) (hx : Str.ofString n = x) (a : PySem.W.nsIn K mainGlobals x = some none) (r : BltsK K L) : BltsK K (n :: L)
mutual
inductive ValK (K : PySem.W.Frag) : PV → Value → Prop
  | non : ValK K .non .none
  | bl {b : Bool} : ValK K (.bl b) (.bool b)
  | int {i : Int} {t} : ValK K (.int i) (.int i t)
  | str {x : Str} {t} : ValK K (.str x) (.str x t)
  | tup {a : Addr} {xs : List PV} {o : Obj} {its : Array Value} {n : Nat} (l : K.lookup a = some o) (c : o.cls = .type "tuple") (d : o.data = .seq its n) (z : its.size ≤ sizeLine) (r : ValsK K xs its.toList) : ValK K (.tup xs) (.ref a)
inductive ValsK (K : PySem.W.Frag) : List PV → List Value → Prop
  | nil : ValsK K [] []
  | cons {x : PV} {v : Value} {xs : List PV} {vs : List Value} : ValK K x v → ValsK K xs vs → ValsK K (x :: xs) (v :: vs)
end
inductive GlbsK (K : PySem.W.Frag) : List (Str × PV) → Prop
  | nil : GlbsK K []
  | cons {y : Str} {v : PV} {u : Value} {L : List (Str × PV)} (x : Str) (hx : y = x) (a : PySem.W.nsIn K mainGlobals x = some (some u)) (vk : ValK K v u) (r : GlbsK K L) : GlbsK K ((y, v) :: L)
def BdOk (D : Df) : Prop := ∀ (kV doc pm : Value) (an : Option Addr) (cdv ct : Value) (us : List Value), us.length = D.ps.length → bindArgs (PySem.W.fnOf D.fd.name D.fd.name (defArgs D.st) (defBody D.st) (defScope D.st) .none kV doc pm an cdv ct) ⟨us, []⟩ = pure (D.ps.zip us)
inductive BdsOk : List Df → Prop
  | nil : BdsOk []
  | cons {D : Df} {L : List Df} (h : BdOk D) (r : BdsOk L) : BdsOk (D :: L)
section
variable {K : PySem.W.Frag} {mg : Str → Option Value} {W : Wd} {L : List Df} {g : List (Str × PV)} {b : List String}
mutual
theorem valK_ok (hK : W.K = K) : ∀ {v : PV} {u : Value}, ValK K v u → ∃ z, RelV z u ∧ ∀ H O c, Rep W H O c v z
  | _, _, .non => ⟨.non, rfl, fun _ _ _ => .non⟩
  | _, _, .bl (b := b) => ⟨.bl b, rfl, fun _ _ _ => .bl b⟩
  | _, _, .int (i := i) (t := t) => ⟨.int i, ⟨t, rfl⟩, fun _ _ _ => .int i⟩
  | _, _, .str (x := x) (t := t) => ⟨.str x, ⟨t, rfl⟩, fun _ _ _ => .str x⟩
  | _, _, .tup (o := o) (its := its) (n := n) l c d z r => by
    obtain ⟨zs, q1, q2⟩ := valsK_ok hK r
    exact ⟨.ref _, rfl, fun H O c' => .tup (.inr ⟨o, its, n, by rw [hK]; exact l, c, d, z, q1⟩) (q2 H O c')⟩
theorem valsK_ok (hK : W.K = K) : ∀ {xs : List PV} {us : List Value}, ValsK K xs us → ∃ zs, Vals zs us ∧ ∀ H O c, RepL W H O c xs zs
  | _, _, .nil => ⟨[], .nil, fun _ _ _ => .nil⟩
  | _, _, .cons a r => by
    obtain ⟨z, q1, q2⟩ := valK_ok hK a
    obtain ⟨zs, q3, q4⟩ := valsK_ok hK r
    exact ⟨z :: zs, .cons q1 q3, fun H O c => .cons (q2 H O c) (q4 H O c)⟩
end
theorem glbsK_ok {h : Heap} (X : K.In h) (G : h.Ns mainGlobals mg) (hK : W.K = K) : ∀ {g : List (Str × PV)}, GlbsK K g → ∀ x v, g.lookup x = some v → ∃ z u, mg x = some u ∧ RelV z u ∧ ∀ H O c, Rep W H O c v z
  | _, .nil, x, v, e => by cases e
  | _, .cons y hy a vk r, x, v, e => by
    rw [List.lookup_cons] at e
    split at e
    · rename_i hxy
      cases e
      obtain ⟨z, q1, q2⟩ := valK_ok hK vk
      have : x = y := by rw [← hy]; exact eq_of_beq hxy
      exact ⟨z, _, by rw [this]; exact PySem.W.mg_of X G a, q1, q2⟩
    · exact glbsK_ok X G hK r x v e
theorem bltsK_ok {h : Heap} (X : K.In h) (G : h.Ns mainGlobals mg) : ∀ {b : List String}, BltsK K b → ∀ x ∈ b, mg (Str.ofString x) = none
  | _, .nil, x, e => by cases e
  | _, .cons y hy a r, x, e => by
    rcases List.mem_cons.mp e with rfl | e
    · rw [hy]; exact PySem.W.mg_none_of X G a
    · exact bltsK_ok X G r x e
theorem dfsK_ok {h : Heap} (X : K.In h) (G : h.Ns mainGlobals mg) : ∀ {L : List Df}, DfsK K L → BdsOk L → ∀ D ∈ L, ∃ f fdata, DfIn K mg D f fdata ∧ ∀ (s : Shared) (us : List Value), us.length = D.ps.length → BindsTo s fdata ⟨us, []⟩ (D.ps.zip us)
  | _, .nil, _, D, hD => by cases hD
  | _, .cons (D := D0) x st hx hst a l c k r, .cons hb rb, D, hD => by
    rcases List.mem_cons.mp hD with rfl | hD
    · subst hx hst
      have F := fun_mk l c k
      exact ⟨_, _, ⟨F, PySem.W.mg_of X G a, F.binds hb⟩, fun s us hl => .of_eq (hb _ _ _ _ _ _ us hl)⟩
    · exact dfsK_ok X G r rb D hD
/-- what the written part tells of a def that makes lambdas: its code, the table of it -/
inductive LamsK (K : PySem.W.Frag) : List (Str × Addr × Addr) → Prop
  | nil : LamsK K []
  | cons {L : List (Str × Addr × Addr)} (x : Str) {f c P : Addr} {oc : Value} {od an : Option Addr} {osl : Array (Option Value)} {pa : Arguments} {bd : List Stmt} {sc : Scope} {dV kV doc pm ct : Value} (a : PySem.W.nsIn K mainGlobals x = some (some (.ref f)))
      (l : K.lookup f = some ⟨oc, od, .func (PySem.W.fnOf x x pa bd sc dV kV doc pm an (.ref c) ct), osl⟩) {ec : Value} {dc : Option Addr} {vs : Array Value} {slc : Array (Option Value)} (lc : K.lookup c = some ⟨ec, dc, .fields vs, slc⟩) (h11 : vs[11]? = some (.ref P)) (hc : PySem.W.codeHdIn K c P = true) (hP : K.lookup P = none) (r : LamsK K L) : LamsK K ((x, c, P) :: L)
theorem codeHd_at {K : PySem.W.Frag} {c P : Addr} (h : PySem.W.codeHdIn K c P = true) : ∃ e dd vs sl, K.lookup c = some ⟨e, dd, .fields vs, sl⟩ ∧ vs[11]? = some (.ref P) := by
  unfold PySem.W.codeHdIn at h
  split at h
  · rename_i dd vs sl hk
    simp only [Bool.and_eq_true] at h
    have h1 := h.1.1.1.1.1
    split at h1
    · rename_i P' h11
      rw [beq_iff_eq] at h1
      subst h1
      exact ⟨_, _, _, _, hk, h11⟩
    · cases h1
  · cases h
theorem lamsK_mem {K : PySem.W.Frag} : ∀ {L : List (Str × Addr × Addr)}, LamsK K L → ∀ p ∈ L, ∃ (f : Addr) (oc : Value) (od an : Option Addr) (osl : Array (Option Value)) (pa : Arguments) (bd : List Stmt) (sc : Scope) (dV kV doc pm ct : Value),
    PySem.W.nsIn K mainGlobals p.1 = some (some (.ref f)) ∧ K.lookup f = some ⟨oc, od, .func (PySem.W.fnOf p.1 p.1 pa bd sc dV kV doc pm an (.ref p.2.1) ct), osl⟩ ∧ PySem.W.codeHdIn K p.2.1 p.2.2 = true ∧ K.lookup p.2.2 = none
  | _, .nil, p, hp => by cases hp
  | _, .cons x a l lc h11 hc hP r, p, hp => by
    rcases List.mem_cons.mp hp with rfl | hp
    · exact ⟨_, _, _, _, _, _, _, _, _, _, _, _, _, a, l, hc, hP⟩
    · exact lamsK_mem r p hp
/-- the law is called; the tables of some defs are empty as yet -/
theorem walk_tabs {l : PySem.W.OpenLaw} {n k : Nat} {q : Program} {loose : List Str} {XP : (Str → Option Value) → Heap → Prop} {YP : World → Heap → Prop} {d : DefRec} {K : Params → PySem.W.Frag} {CX : World → CXT} {x : Str} (lams : List Str)
    (hn : l.most = some n) (hn2 : n ≤ sizeLine) (hdf : d.params.defaults = []) (hr : Room k callerA) (hrec : ∀ y ∈ lams, ((recsOf q).any fun e => e.name == y) = true) (hY : ∀ (w : World) (h : Heap), YP w h → (K w.params).In h)
    (F : ∀ (w : World) (mg : Str → Option Value) (fa : Addr) (h : Heap), YP w h → (K w.params).In h → h.Ns mainGlobals mg → mg d.name = some (.ref fa) → (∀ y ∈ lams, ∀ fb, mg y = some (.ref fb) → LamX.OwnTab (K w.params) fb h) → LamX.LawAtS l w (K w.params) (CX w) k n x mg fa h)
    (hCX : ∀ (w : World) (H : Hp) (s : Shared) (e : Value) (s' : Shared), CX w [] H s (fun _ _ _ => False) e s' → False) : PySem.W.WalkO q loose XP YP l.row.toRowW d [] (fun f vs => PySem.call f vs) := by
  refine Att.attach_callB hn hdf fun w t0 t1 mg mb fa ob pm cd doc a vs ns G Y z1 z2 z3 z4 z5 z6 z7 z8 z9 => ?_
  have KX := hY w _ Y
  obtain ⟨fd, cs, sp, hT, nT, Cd, hb, hsp, hF⟩ := F w mg fa _ Y KX G.T.g z4 fun y hy fb hfb c P o1 fd1 e dd vs1 sl k1 k2 k3 k4 k5 => by
    obtain ⟨dL, hm, hnm⟩ := List.any_eq_true.mp (hrec y hy)
    obtain ⟨a', o', fd', c', P', g1, g2, g3, g4, g5, ⟨oc, vc, e1, _, e3, e4⟩, hP⟩ := G.T.tab dL hm
    rw [show dL.name = y from beq_iff_eq.mp hnm, hfb] at g1
    cases g1
    rw [KX _ _ k1] at g2; cases g2
    rw [k2] at g3; cases g3
    rw [k3] at g4; cases g4
    rw [KX _ _ k4] at e1; cases e1
    cases e3
    rw [k5] at e4; cases e4
    exact hP
  exact LamX.law_callTs KX G.T.g G.T.b G.T.builtins G.T.nolimit z9 hT nT Cd G.T.bmain z5 z6 (Nat.le_trans z7 hn2) hr hF hb (fun H hH hS => hsp H a ns z7 z8 hH hS) fun H e s' => hCX w H t1 e s'
def tabsOf (lams : List (Str × Addr × Addr)) : List (Addr × Str) := lams.map fun p => (p.2.2, (p.1 ++ (".<locals>." : Str)) ++ ("<lambda>" : Str))
/-- the law's promise -/
def spLaw (K : PySem.W.Frag) (T : List (Str × Addr × Addr)) : Sp := fun vs H Q _ => ∃ (a : Addr) (ns : List Int), vs = [.ref a] ∧ SqL K H a (ns.map V.int) ∧ ns.length ≤ 63 ∧ (∀ z ∈ ns, Builtin.Int.intBits z ≤ 1048576) ∧ (∀ p ∈ T, H p.2.2 = some (.tbl #[])) ∧ ∀ H', Q (.bl true) H'
theorem law_end {l : PySem.W.OpenLaw} {q : Program} {loose : List Str} {XP : (Str → Option Value) → Heap → Prop} {YP : World → Heap → Prop} {d : DefRec} {K : Params → PySem.W.Frag} {L : List Df} {g : List (Str × PV)} {b : List String} {D : Df} {k : Nat} {lams : List (Str × Addr × Addr)}
    (hn : l.most = some 63) (hdf : d.params.defaults = []) (hr : Room k callerA) (hY : ∀ (w : World) (h : Heap), YP w h → (K w.params).In h) (hD : D ∈ L) (hdn : d.name = D.fd.name) (hps : D.ps = [("script" : Str)]) (hnp : D.fd.np = 1) (hfr : D.fd.fresh = false)
    (hok : (L.all fun D => D.okB L g b) = true) (nd : ((progOf L).map (·.name)).Nodup) (hbd : BdsOk L)
    (ev : ∀ ns : List Int, ns.length ≤ 63 → (∀ z ∈ ns, Builtin.Int.intBits z ≤ 1048576) → evCall (progOf L) k D.fd.name [.scr ns] none = .ok (.bl true) none)
    (hrec : ((lams.map (·.1)).all fun y => (recsOf q).any fun e => e.name == y) = true) (hlam : (L.all fun D => !D.lam || lams.any fun p => decide (p.1 = D.fd.name)) = true) (hsep : (lams.all fun p => lams.all fun r => decide (p.2.2 ≠ r.2.2) || decide (p.1 = r.1)) = true)
    (KF : ∀ (w : World) (h : Heap), (K w.params).In h → DfsK (K w.params) L ∧ BltsK (K w.params) b ∧ GlbsK (K w.params) g ∧ LamsK (K w.params) lams) :
    PySem.W.WalkO q loose XP YP l.row.toRowW d [] (fun f vs => PySem.call f vs) := by
  refine walk_tabs (n := 63) (k := k) (x := "script") (CX := fun _ => L2.CX0) (lams.map (·.1)) hn (by decide) hdf hr (fun y hy => List.all_eq_true.mp hrec y hy) hY ?_ fun _ _ _ _ _ z => z
  intro w mg fa h Y KX G hmg own
  obtain ⟨k1, k2, k3, k4⟩ := KF w h KX
  have all := dfsK_ok KX G k1 hbd
  have lm := lamsK_mem k4
  obtain ⟨f, fdata, df, hb⟩ := all D hD
  rw [hdn, df.mg] at hmg
  cases hmg
  have T : TxtOk (K w.params) mg ⟨K w.params, mg, tabsOf lams⟩ L g b := ⟨rfl, nd, fun D hD => List.all_eq_true.mp hok D hD, glbsK_ok KX G rfl k3, bltsK_ok KX G k2, fun D hD => by obtain ⟨f, fd, q, _⟩ := all D hD; exact ⟨f, fd, q⟩⟩
  refine ⟨fdata, lams.map (·.2), spLaw (K w.params) lams, fun p hp => ?_, fun p hp => ?_, fun p hp => ?_, fun s u => by have := hb s [u] (by rw [hps]; rfl); rw [hps] at this; exact this, fun H a ns hl hbits hH hS => ⟨a, ns, rfl, hS, hl, hbits, fun p hp => hH p.2 (List.mem_map.mpr ⟨p, hp, rfl⟩), fun _ => rfl⟩, fun base KX' G' TB => ?_⟩
  · obtain ⟨r, hr', rfl⟩ := List.mem_map.mp hp
    obtain ⟨fb, oc, od, an, osl, pa, bd, sc, dV, kV, doc, pm, ct, q1, q2, q3, q4⟩ := lm r hr'
    obtain ⟨e, dd, vs, sl, e1, e2⟩ := codeHd_at q3
    exact own r.1 (List.mem_map.mpr ⟨r, hr', rfl⟩) fb (PySem.W.mg_of KX G q1) _ _ _ _ _ _ _ _ q2 rfl rfl e1 e2
  · obtain ⟨r, hr', rfl⟩ := List.mem_map.mp hp
    obtain ⟨fb, oc, od, an, osl, pa, bd, sc, dV, kV, doc, pm, ct, q1, q2, q3, q4⟩ := lm r hr'
    exact q4
  · obtain ⟨r, hr', rfl⟩ := List.mem_map.mp hp
    obtain ⟨fb, oc, od, an, osl, pa, bd, sc, dV, kV, doc, pm, ct, q1, q2, q3, q4⟩ := lm r hr'
    exact PySem.W.codeHd_of_K KX q3
  · have F := fns_ok (Pg := l.prog) (w := w) (base := base) T (fun D' hD' hl f' fdata' df' => ?_) k D _ fdata hD df
    · rw [hps] at F
      refine F.imp fun vs H Q E hs => ?_
      obtain ⟨a, ns, rfl, hS, hl, hbits, hT, hQ⟩ := hs
      have nTab : ∀ q ∈ tabsOf lams, ∀ vs, L2.Rd H a (.lst vs) → q.1 ≠ a := fun q hq vs hrd z => by
        obtain ⟨r, hr', rfl⟩ := List.mem_map.mp hq
        have := hT r hr'
        rw [show r.2.2 = a from z] at this
        rcases hrd with hrd | ⟨o, hrd⟩ <;> rw [this] at hrd <;> cases hrd
      refine ⟨⟨none, tabsOf lams⟩, [], none, [.scr ns], by rw [hnp]; rfl, .cons (.scr ns ?_) .nil, ⟨⟨trivial, rfl, fun q hq => ?_⟩, fun a ha => (by cases ha)⟩, fun a ha => (by cases ha), ?_⟩
      · rcases hS with hS | hS
        · exact .inl ⟨⟨by simp, fun q hq => nTab q hq _ hS⟩, by simp, hS⟩
        · exact .inr hS
      · obtain ⟨r, hr', rfl⟩ := List.mem_map.mp hq
        exact LamX.TabS.nil (hT r hr')
      · rw [ev ns hl hbits]
        intro H' z _ _ r _
        cases r
        exact hQ H'
    · have := List.all_eq_true.mp hlam D' hD'
      rw [hl] at this
      simp only [Bool.not_true, Bool.false_or, List.any_eq_true, decide_eq_true_eq] at this
      obtain ⟨p, hp, hpn⟩ := this
      obtain ⟨fb, oc, od, an, osl, pa, bd, sc, dV, kV, doc, pm, ct, q1, q2, q3, q4⟩ := lm p hp
      have m1 := PySem.W.mg_of KX G q1
      rw [hpn, df'.mg] at m1
      cases m1
      obtain ⟨oc', od', kV', doc', pm', an', cdv', ct', osl', rfl, lk', _⟩ := df'.fn.ex
      rw [hpn] at q2
      rw [q2] at lk'
      have hcode : cdv' = .ref p.2.1 := by
        have e1 := congrArg (fun o : Option Obj => match o with | some ⟨_, _, .func fd, _⟩ => fd.code | _ => .none) lk'
        exact e1.symm
      refine ⟨p.2.1, p.2.2, TB _ (List.mem_map.mpr ⟨p, hp, rfl⟩), hcode, List.mem_map.mpr ⟨p, hp, by rw [hpn]⟩, fun r hr' e => ?_⟩
      obtain ⟨r', hr'', rfl⟩ := List.mem_map.mp hr'
      have := List.all_eq_true.mp (List.all_eq_true.mp hsep r' hr'') p hp
      simp only [Bool.or_eq_true, decide_eq_true_eq] at this
      rcases this with z | z
      · exact absurd e z
      · show (r'.1 ++ _) ++ _ = _
        rw [z, hpn]
end
end Py

set_option Elab.async false
set_option linter.all false
set_option maxRecDepth 100000
set_option maxHeartbeats 4000000
/-! Py: rules for reckoning with the evaluator; the defs that all laws share. -/
namespace Py
open PySem L2
theorem evc {P : Prog} {x : Str} {fd : FDef} (h : find P x = some fd) {d : Nat} (hd : 0 < d) {args : List PV} {S : Cup} (hl : args.length = fd.np) : evCall P d x args S = endR fd.fresh S (runs (evCall P (d - 1)) fd.body (start fd.nl args) S) := by
  cases d with
  | zero => cases hd
  | succ d =>
    rw [evCall, h]
    exact if_pos hl
@[simp] theorem bind_okS {α β : Type} (a : α) (S : Cup) (f : α → Cup → Res β) : (Res.ok a S).bind f = f a S := (rfl)
@[simp] theorem bind_bind {α β γ : Type} (r : Res α) (f : α → Cup → Res β) (g : β → Cup → Res γ) : (r.bind f).bind g = r.bind fun a S => (f a S).bind g := by cases r <;> rfl
@[simp] theorem bind_out {α β : Type} (r : Res α) (f : α → Cup → Res β) (g : β → Cup → Out) : (r.bind f).out g = r.out fun a S => (f a S).out g := by cases r <;> rfl
@[simp] theorem out_seq {α : Type} (r : Res α) (f : α → Cup → Out) (g : Env → Cup → Out) : (r.out f).seq g = r.out fun a S => (f a S).seq g := by cases r <;> rfl
@[simp] theorem seq_seq (o : Out) (f g : Env → Cup → Out) : (o.seq f).seq g = o.seq fun ρ S => (f ρ S).seq g := by cases o <;> rfl
@[simp] theorem ite_bind {α β : Type} (c : Prop) [Decidable c] (a b : Res α) (f : α → Cup → Res β) : (if c then a else b).bind f = if c then a.bind f else b.bind f := by split <;> rfl
@[simp] theorem ite_out {α : Type} (c : Prop) [Decidable c] (a b : Res α) (f : α → Cup → Out) : (if c then a else b).out f = if c then a.out f else b.out f := by split <;> rfl
@[simp] theorem ite_seq (c : Prop) [Decidable c] (a b : Out) (f : Env → Cup → Out) : (if c then a else b).seq f = if c then a.seq f else b.seq f := by split <;> rfl
@[simp] theorem bv_len (xs : List PV) : bltV .len [.lst xs] = some (.int xs.length) := (rfl)
@[simp] theorem bv_lenT (xs : List PV) : bltV .len [.tup xs] = some (.int xs.length) := (rfl)
@[simp] theorem bv_abs (i : Int) : bltV .abs [.int i] = some (.int (if i < 0 then -i else i)) := (rfl)
@[simp] theorem bv_sum (xs : List PV) : bltV .sum [.lst xs] = (intsOf xs).map fun ns => .int ns.sum := (rfl)
@[simp] theorem bv_max2 (i j : Int) : bltV .max2 [.int i, .int j] = some (.int (if j > i then j else i)) := (rfl)
@[simp] theorem bv_min2 (i j : Int) : bltV .min2 [.int i, .int j] = some (.int (if j < i then j else i)) := (rfl)
@[simp] theorem bv_int (i : Int) : bltV .int1 [.int i] = some (.int i) := (rfl)
@[simp] theorem bv_intB (b : Bool) : bltV .int1 [.bl b] = some (.int (if b then 1 else 0)) := (rfl)
@[simp] theorem bv_str (x : Str) : bltV .str1 [.str x] = some (.str x) := (rfl)
@[simp] theorem bv_list (xs : List PV) : bltV .list1 [.lst xs] = some (.lst xs) := (rfl)
@[simp] theorem bv_listT (xs : List PV) : bltV .list1 [.tup xs] = some (.lst xs) := (rfl)
@[simp] theorem bv_listS (ns : List Int) : bltV .list1 [.scr ns] = some (.lst (ns.map PV.int)) := (rfl)
@[simp] theorem bv_tup (xs : List PV) : bltV .tuple1 [.lst xs] = some (.tup xs) := (rfl)
@[simp] theorem bv_tupT (xs : List PV) : bltV .tuple1 [.tup xs] = some (.tup xs) := (rfl)
@[simp] theorem bv_all (xs : List PV) : bltV .all1 [.lst xs] = (blsOf xs).map fun bs => .bl (bs.all id) := (rfl)
@[simp] theorem bv_any (xs : List PV) : bltV .any1 [.lst xs] = (blsOf xs).map fun bs => .bl (bs.any id) := (rfl)
@[simp] theorem of_some {α : Type} (a : α) (S : Cup) : Res.of (some a) S = Res.ok a S := (rfl)
@[simp] theorem out_ok {α : Type} (a : α) (S : Cup) (f : α → Cup → Out) : (Res.ok a S).out f = f a S := (rfl)
@[simp] theorem seq_next (ρ : Env) (S : Cup) (f : Env → Cup → Out) : (Out.next ρ S).seq f = f ρ S := (rfl)
@[simp] theorem seq_ret (v : PV) (S : Cup) (f : Env → Cup → Out) : (Out.ret v S).seq f = Out.ret v S := (rfl)
theorem rngOk_nat {n : Nat} (h : n ≤ 16777216) : rngOk (n : Int) = true := rngOk_iff.mpr ⟨by omega, by omega⟩
@[simp] theorem le_lineN {n : Nat} (h : n ≤ 16777216) : n ≤ lineN := h
theorem lt_lineN {n : Nat} (h : n < 16777216) : n < lineN := h
theorem flatR_map {f : PV → Cup → Res (List PV)} {g : PV → List PV} {S : Cup} : ∀ {xs : List PV}, (∀ x ∈ xs, f x S = .ok (g x) S) → flatR f xs S = .ok (xs.flatMap g) S
  | [], _ => rfl
  | x :: xs, h => by
    rw [flatR, h x List.mem_cons_self]
    simp only
    rw [flatR_map fun y hy => h y (List.mem_cons_of_mem _ hy)]
    rfl
theorem flatR_one {f : PV → Cup → Res (List PV)} {g : PV → PV} {S : Cup} {xs : List PV} (h : ∀ x ∈ xs, f x S = .ok [g x] S) : flatR f xs S = .ok (xs.map g) S := by
  rw [flatR_map (g := fun x => [g x]) h]
  congr 1
  induction xs with
  | nil => rfl
  | cons a r ih => simp [List.flatMap_cons, ih fun x hx => h x (List.mem_cons_of_mem _ hx)]
/-- a walk whose state moves -/
theorem flatR_inv {f : PV → Cup → Res (List PV)} (I : Nat → Cup → List PV → Prop) : ∀ {xs : List PV} {S : Cup} {n : Nat} {acc : List PV}, I n S acc → (∀ i x S acc, xs[i]? = some x → I (n + i) S acc → ∃ ys S', f x S = .ok ys S' ∧ I (n + i + 1) S' (acc ++ ys)) →
    ∃ ys S', flatR f xs S = .ok ys S' ∧ I (n + xs.length) S' (acc ++ ys)
  | [], S, n, acc, h, _ => ⟨[], S, rfl, by simpa using h⟩
  | x :: xs, S, n, acc, h, hs => by
    obtain ⟨ys, S1, e1, h1⟩ := hs 0 x S acc rfl h
    obtain ⟨zs, S2, e2, h2⟩ := flatR_inv I (xs := xs) (n := n + 1) h1 fun i y S a hy hI => by
      have := hs (i + 1) y S a (by simpa using hy) (by rw [show n + (i + 1) = n + 1 + i by omega]; exact hI)
      rw [show n + (i + 1) + 1 = n + 1 + i + 1 by omega] at this
      exact this
    refine ⟨ys ++ zs, S2, ?_, ?_⟩
    · rw [flatR, e1]
      simp only
      rw [e2]
    · rw [List.length_cons, show n + (xs.length + 1) = n + 1 + xs.length by omega, ← List.append_assoc]
      exact h2
theorem forR_inv {f : PV → Env → Cup → Out} (I : Nat → Env → Cup → Prop) : ∀ {xs : List PV} {ρ : Env} {S : Cup} {n : Nat}, I n ρ S → (∀ i x ρ S, xs[i]? = some x → I (n + i) ρ S → ∃ ρ' S', (f x ρ S = .next ρ' S' ∨ f x ρ S = .cont ρ' S') ∧ I (n + i + 1) ρ' S') →
    ∃ ρ' S', forR f xs ρ S = .next ρ' S' ∧ I (n + xs.length) ρ' S'
  | [], ρ, S, n, h, _ => ⟨ρ, S, rfl, by simpa using h⟩
  | x :: xs, ρ, S, n, h, hs => by
    obtain ⟨ρ1, S1, e1, h1⟩ := hs 0 x ρ S rfl h
    obtain ⟨ρ2, S2, e2, h2⟩ := forR_inv I (xs := xs) (n := n + 1) h1 fun i y ρ S hy hI => by
      have := hs (i + 1) y ρ S (by simpa using hy) (by rw [show n + (i + 1) = n + 1 + i by omega]; exact hI)
      rw [show n + (i + 1) + 1 = n + 1 + i + 1 by omega] at this
      exact this
    refine ⟨ρ2, S2, ?_, ?_⟩
    · rw [forR]
      rcases e1 with e1 | e1 <;> rw [e1] <;> exact e2
    · rw [List.length_cons, show n + (xs.length + 1) = n + 1 + xs.length by omega]
      exact h2

/-! ### statements, one by one (walks stand as they are) -/
section
variable {C : Calls} {ρ : Env} {S : Cup}
@[simp] theorem r_set (i : Nat) (e : ME) : run C (.set i e) ρ S = (ev C e ρ S).out fun v S1 => .next (ρ.set i (some v)) S1 := (rfl)
@[simp] theorem r_setO (i : Nat) (e : ME) : run C (.setO i e) ρ S = (ev C e ρ S).out fun v S1 => if isLst v then .next (ρ.set i (some v)) S1 else .bad := (rfl)
@[simp] theorem r_par (ts : List (Nat × Bool)) (es : MEs) : run C (.par ts es) ρ S = (evs C es ρ S).out fun vs S1 => if ts.length = vs.length ∧ (∀ q ∈ ts.zip vs, q.1.2 = true → isLst q.2 = true) then .next ((ts.zip vs).foldl (fun r p => r.set p.1.1 (some p.2)) ρ) S1 else .bad := (rfl)
@[simp] theorem r_unp (is : List Nat) (e : ME) : run C (.unp is e) ρ S = (ev C e ρ S).out fun v S1 => match bindT (.tup is) v ρ with
    | some ρ1 => .next ρ1 S1
    | none => .bad := (rfl)
@[simp] theorem r_aug (i : Nat) (op : Operator) (e : ME) : run C (.aug i op e) ρ S = match ρ[i]? with
    | some (some x) => (ev C e ρ S).out fun y S1 => (Res.of (augV op x y) S1).out fun z S2 => .next (ρ.set i (some z)) S2
    | _ => .bad := (rfl)
@[simp] theorem r_augO (i : Nat) (e : ME) : run C (.augO i e) ρ S = match ρ[i]? with
    | some (some (.lst xs)) => (ev C e ρ S).out fun y S1 => match y with
      | .lst ys => if xs.length + ys.length ≤ lineN then .next (ρ.set i (some (.lst (xs ++ ys)))) S1 else .bad
      | _ => .bad
    | _ => .bad := (rfl)
@[simp] theorem r_app (i : Nat) (e : ME) : run C (.app i e) ρ S = match ρ[i]? with
    | some (some (.lst xs)) => (ev C e ρ S).out fun y S1 => if xs.length < lineN then .next (ρ.set i (some (.lst (xs ++ [y])))) S1 else .bad
    | _ => .bad := (rfl)
@[simp] theorem r_setIx (i : Nat) (k e : ME) : run C (.setIx i k e) ρ S = (ev C e ρ S).out fun y S1 => match ρ[i]? with
    | some (some (.lst xs)) => (ev C k ρ S1).out fun z S2 => match z with
      | .int j => match ixN xs.length j with
        | some n => .next (ρ.set i (some (.lst (xs.set n y)))) S2
        | none => .bad
      | _ => .bad
    | _ => .bad := (rfl)
@[simp] theorem r_setCup (i : Nat) (k : Nat) (e : ME) : run C (.setCup i k e) ρ S = (ev C e ρ S).out fun y S1 => match ρ[i]?, y, S1 with
    | some (some .cup), .int j, some (a, b) => if k = 0 then .next ρ (some (j, b)) else if k = 1 then .next ρ (some (a, j)) else .bad
    | _, _, _ => .bad := (rfl)
@[simp] theorem r_expr (e : ME) : run C (.expr e) ρ S = (ev C e ρ S).out fun _ S1 => .next ρ S1 := (rfl)
@[simp] theorem r_ite (c : ME) (a b : MB) : run C (.ite c a b) ρ S = (ev C c ρ S).out fun x S1 => (Res.of (truthV x) S1).out fun k S2 => if k then runs C a ρ S2 else runs C b ρ S2 := (rfl)
@[simp] theorem r_ret (e : ME) : run C (.ret e) ρ S = (ev C e ρ S).out fun v S1 => .ret v S1 := (rfl)
@[simp] theorem r_retF (e : ME) : run C (.retF e) ρ S = (ev C e ρ S).out fun v S1 => if isLst v then .ret v S1 else .bad := (rfl)
@[simp] theorem r_retN : run C .retN ρ S = .ret .non S := (rfl)
@[simp] theorem r_pass : run C .pass ρ S = .next ρ S := (rfl)
@[simp] theorem r_brk : run C .brk ρ S = .brk ρ S := (rfl)
@[simp] theorem r_cont : run C .cont ρ S = .cont ρ S := (rfl)
@[simp] theorem rs_frz (i : Nat) (b : MB) : runs C (.frz i b) ρ S = (runs C b ρ S).forget i := (rfl)
@[simp] theorem fg_next {i : Nat} : (Out.next ρ S).forget i = .next (ρ.set i none) S := (rfl)
@[simp] theorem fg_brk {i : Nat} : (Out.brk ρ S).forget i = .brk (ρ.set i none) S := (rfl)
@[simp] theorem fg_cont {i : Nat} : (Out.cont ρ S).forget i = .cont (ρ.set i none) S := (rfl)
@[simp] theorem fg_ret {i : Nat} {v : PV} : (Out.ret v S).forget i = .ret v S := (rfl)
@[simp] theorem rs_nil : runs C .nil ρ S = .next ρ S := (rfl)
@[simp] theorem rs_cons (s : MS) (b : MB) : runs C (.cons s b) ρ S = (run C s ρ S).seq fun ρ1 S1 => runs C b ρ1 S1 := (rfl)
@[simp] theorem seq_brk (f : Env → Cup → Out) : (Out.brk ρ S).seq f = Out.brk ρ S := (rfl)
@[simp] theorem seq_cont (f : Env → Cup → Out) : (Out.cont ρ S).seq f = Out.cont ρ S := (rfl)
theorem loop_then {P : Out → Prop} {t : MT} {it : MI} {b : MB} {xs : List PV} {S1 : Cup} {k : Env → Cup → Out} (I : Nat → Env → Cup → Prop) (hI : evI C it ρ S = .ok xs S1) (h0 : I 0 ρ S1)
    (hs : ∀ (i : Nat) x ρ S, xs[i]? = some x → I i ρ S → ∃ ρ1 ρ' S', bindT t x ρ = some ρ1 ∧ (runs C b ρ1 S = .next ρ' S' ∨ runs C b ρ1 S = .cont ρ' S') ∧ I (i + 1) ρ' S') (hk : ∀ ρ' S', I xs.length ρ' S' → P (k ρ' S')) :
    P ((run C (.loop t it b) ρ S).seq k) := by
  obtain ⟨ρ', S', e, h⟩ := forR_inv (n := 0) (f := fun x ρ S => match bindT t x ρ with
      | none => .bad
      | some ρ1 => runs C b ρ1 S) (xs := xs) (ρ := ρ) (S := S1) I h0 fun i x ρ S hx h => by
    rw [Nat.zero_add] at h ⊢
    obtain ⟨ρ1, ρ', S', e1, e2, h3⟩ := hs i x ρ S hx h
    exact ⟨ρ', S', by rw [e1]; exact e2, h3⟩
  rw [Nat.zero_add] at h
  have e' : run C (.loop t it b) ρ S = Out.next ρ' S' := by
    rw [run, hI]
    exact e
  rw [e']
  exact hk ρ' S' h
theorem r_mkCup (i : Nat) (f : Str) (es : MEs) : run C (.mkCup i f es) ρ none = (evs C es ρ none).out fun xs S1 => match C f xs S1 with
      | .ok (.lst [.int a, .int b]) none => .next (ρ.set i (some .cup)) (some (a, b))
      | _ => .bad := (rfl)
/-- a turn ends well -/
def Nx (I : Nat → Env → Cup → Prop) (n : Nat) (o : Out) : Prop := ∃ ρ S, (o = .next ρ S ∨ o = .cont ρ S) ∧ I n ρ S
theorem nx_next {I : Nat → Env → Cup → Prop} {n : Nat} (h : I n ρ S) : Nx I n (.next ρ S) := ⟨ρ, S, .inl rfl, h⟩
theorem nx_cont {I : Nat → Env → Cup → Prop} {n : Nat} (h : I n ρ S) : Nx I n (.cont ρ S) := ⟨ρ, S, .inr rfl, h⟩
theorem loop_nx {P : Out → Prop} {t : MT} {it : MI} {b : MB} {xs : List PV} {S1 : Cup} {k : Env → Cup → Out} (I : Nat → Env → Cup → Prop) (hI : evI C it ρ S = .ok xs S1) (h0 : I 0 ρ S1)
    (hs : ∀ (i : Nat) x ρ S, xs[i]? = some x → I i ρ S → ∃ ρ1, bindT t x ρ = some ρ1 ∧ Nx I (i + 1) (runs C b ρ1 S)) (hk : ∀ ρ' S', I xs.length ρ' S' → P (k ρ' S')) :
    P ((run C (.loop t it b) ρ S).seq k) :=
  loop_then I hI h0 (fun i x ρ S hx h => by
    obtain ⟨ρ1, e, ρ', S', e2, h2⟩ := hs i x ρ S hx h
    exact ⟨ρ1, ρ', S', e, e2, h2⟩) hk
end

/-! ### the shared defs -/
def someDef : FDef := { name := "_law_some", np := 2, nl := 2, own := [], fresh := false, body := (.cons (.ret (.idx (.var 1) (.call "_law_roll" (.cons (.var 0) (.cons (.blt .len (.cons (.var 1) .nil)) .nil))))) .nil) }
def cupDef (a b c d e : Int) : FDef := { name := "_law_cup", np := 1, nl := 2, own := [], fresh := true, body := (.cons (.set 1 (.blt .abs (.cons (.idx (.cat (.blt .list1 (.cons (.var 0) .nil)) (.lst (.cons (.cst (.int 0)) .nil))) (.cst (.int 0))) .nil)))
    (.cons (.retF (.lst (.cons (.ite (.cmp .GtE (.var 1) (.bin .Pow (.cst (.int 10)) (.cst (.int 18)))) (.bin .FloorDiv (.var 1) (.cst (.int a))) (.cst (.int 0))) (.cons (.bin .Add (.bin .Mod (.blt .int1 (.cons (.bin .Add (.bin .Mult (.var 1) (.cst (.int b))) (.cst (.int c))) .nil)) (.cst (.int d))) (.cst (.int e))) .nil))))
    .nil)) }
def rollDef (a b c d e f : Int) : FDef := { name := "_law_roll", np := 2, nl := 4, own := [], fresh := false, body := (.cons (.ite (.cmp .Gt (.idx (.var 0) (.cst (.int 0))) (.cst (.int 0)))
    (.cons (.set 3 (.bin .Mod (.blt .int1 (.cons (.idx (.var 0) (.cst (.int 0))) .nil)) (.var 1)))
    (.cons (.setCup 0 0 (.bin .FloorDiv (.idx (.var 0) (.cst (.int 0))) (.var 1)))
    (.cons (.ret (.var 3))
    .nil)))
    .nil)
    (.cons (.setCup 0 1 (.bin .Mod (.blt .int1 (.cons (.bin .Add (.bin .Mult (.idx (.var 0) (.cst (.int 1))) (.cst (.int a))) (.cst (.int b))) .nil)) (.cst (.int c))))
    (.cons (.set 2 (.bin .Mod (.blt .int1 (.cons (.bin .Mult (.idx (.var 0) (.cst (.int 1))) (.bin .Add (.idx (.var 0) (.cst (.int 1))) (.cst (.int d)))) .nil)) (.cst (.int e))))
    (.cons (.ret (.bin .Mod (.blt .int1 (.cons (.bin .FloorDiv (.var 2) (.cst (.int f))) .nil)) (.var 1)))
    .nil)))) }
def sameDef : FDef := { name := "_law_same", np := 2, nl := 3, own := [], fresh := false, body := (.cons (.ite (.isin (.var 1) .tuple)
    (.cons (.ite (.or (.not (.isin (.var 0) .tuple)) (.cmp .NotEq (.blt .len (.cons (.var 0) .nil)) (.blt .len (.cons (.var 1) .nil))))
    (.cons (.ret (.cst (.bl false)))
    .nil)
    .nil)
    (.cons (.ret (.blt .all1 (.cons (.comp [2] (.call "_law_same" (.cons (.idx (.var 0) (.var 2)) (.cons (.idx (.var 1) (.var 2)) .nil))) (.one 2) (.rng1 (.blt .len (.cons (.var 1) .nil))) .no) .nil)))
    .nil))
    .nil)
    (.cons (.ite (.cmp .Is (.var 1) (.cst .non))
    (.cons (.ret (.cmp .Is (.var 0) (.cst .non)))
    .nil)
    .nil)
    (.cons (.ite (.isin (.var 1) .bool)
    (.cons (.ret (.ite (.var 1) (.cmp .Is (.var 0) (.cst (.bl true))) (.cmp .Is (.var 0) (.cst (.bl false)))))
    .nil)
    .nil)
    (.cons (.ite (.isin (.var 1) .int)
    (.cons (.ret (.and (.isin (.var 0) .int) (.and (.not (.isin (.var 0) .bool)) (.cmp .Eq (.blt .int1 (.cons (.var 0) .nil)) (.var 1)))))
    .nil)
    .nil)
    (.cons (.ret (.and (.isin (.var 0) .str) (.cmp .Eq (.blt .str1 (.cons (.var 0) .nil)) (.var 1))))
    .nil))))) }
/-- the cup is good -/
def CG (S : Cup) : Prop := ∃ a b : Int, S = some (a, b) ∧ 0 ≤ a ∧ 0 ≤ b ∧ b < 1099511627776
theorem bits40 {i : Int} (h0 : 0 ≤ i) (h : i < 1099511627776) : Builtin.Int.intBits i ≤ 40 := by
  rw [PySem.intBits_le_iff]
  omega
theorem mulOk_of {i j : Int} {m n : Nat} (h1 : Builtin.Int.intBits i ≤ m) (h2 : Builtin.Int.intBits j ≤ n) (h : m + n ≤ 134217728) : mulOk i j = true := by
  unfold mulOk
  rw [decide_eq_true_eq]
  omega
theorem shp_int (i : Int) : shp (.int i) = true := rfl
theorem shp_bl (i : Bool) : shp (.bl i) = true := rfl
theorem eqv_int (i j : Int) : eqv (.int i) (.int j) = (i == j) := by simp [eqv, toD, PyData.eqv]
theorem eqv_str (i j : Str) : eqv (.str i) (.str j) = (i == j) := by simp [eqv, toD, PyData.eqv]
@[simp] theorem eqB_int (i j : Int) : eqB (.int i) (.int j) = some (i == j) := by simp [eqB, shp_int, eqv_int]
theorem eqB_str {i j : Str} (h1 : shp (.str i) = true) (h2 : shp (.str j) = true) : eqB (.str i) (.str j) = some (i == j) := by simp [eqB, h1, h2, eqv_str]
@[simp] theorem bin_add (i j : Int) : binV .Add (.int i) (.int j) = some (.int (i + j)) := (rfl)
@[simp] theorem bin_sub (i j : Int) : binV .Sub (.int i) (.int j) = some (.int (i - j)) := (rfl)
theorem bin_cat {xs ys : List PV} (h : xs.length + ys.length ≤ 16777216) : binV .Add (.tup xs) (.tup ys) = some (.tup (xs ++ ys)) := if_pos h
@[simp] theorem tv_bl (b : Bool) : truthV (.bl b) = some b := (rfl)
@[simp] theorem tv_non : truthV .non = some false := (rfl)
@[simp] theorem tv_int (i : Int) : truthV (.int i) = some (i != 0) := (rfl)
theorem cut_lo {xs : List PV} {i : Nat} (h : i ≤ xs.length) : cutP xs none (some (i : Int)) = xs.take i := by
  unfold cutP
  rw [HT.sIx_none, HT.sIx_nat, List.drop_zero, Nat.min_eq_left h, Nat.sub_zero]
theorem cut_hi {xs : List PV} {i : Nat} : cutP xs (some (i : Int)) none = xs.drop i := by
  unfold cutP
  rw [HT.sIx_none, HT.sIx_nat]
  by_cases h : i ≤ xs.length
  · rw [Nat.min_eq_left h, List.take_of_length_le (by simp)]
  · rw [Nat.min_eq_right (by omega), Nat.sub_self, List.take_zero, List.drop_eq_nil_of_le (by omega)]
@[simp] theorem blsOf_rep (n : Nat) (b : Bool) : blsOf (List.replicate n (PV.bl b)) = some (List.replicate n b) := by
  induction n with
  | zero => rfl
  | succ n ih => simp [List.replicate_succ, blsOf, ih]
theorem allT {f : PV → Cup → Res (List PV)} {xs : List PV} {S : Cup} (h : ∀ x ∈ xs, f x S = .ok [.bl true] S) : flatR f xs S = .ok (List.replicate xs.length (PV.bl true)) S := by
  rw [flatR_one (g := fun _ => .bl true) h, List.map_const']
theorem mem_zipL : ∀ {xs ys : List PV} {z : PV}, z ∈ zipL xs ys → ∃ (i : Nat) (x y : PV), xs[i]? = some x ∧ ys[i]? = some y ∧ z = .tup [x, y]
  | [], _, z, h => by simp [zipL] at h
  | x :: xs, [], z, h => by simp [zipL] at h
  | x :: xs, y :: ys, z, h => by
    simp only [zipL, List.mem_cons] at h
    rcases h with rfl | h
    · exact ⟨0, x, y, rfl, rfl, rfl⟩
    · obtain ⟨i, a, b, h1, h2, h3⟩ := mem_zipL h
      exact ⟨i + 1, a, b, by simpa using h1, by simpa using h2, h3⟩
theorem roll_ok {P : Prog} {a b c d e f : Int} (hf : find P "_law_roll" = some (rollDef a b c d e f)) (ha : 0 ≤ a ∧ a < 1099511627776) (hc : 0 < c ∧ c < 1099511627776) (hd : 0 ≤ d ∧ d < 1099511627776) (he : 0 < e) (hff : 0 < f ∧ f < 1073741824)
    {n : Nat} (hn : 0 < n) {S : Cup} (hS : CG S) {m : Int} (hm : 0 < m) (hm2 : m < 1073741824) : ∃ r S', evCall P n "_law_roll" [.cup, .int m] S = .ok (.int r) S' ∧ 0 ≤ r ∧ r < m ∧ CG S' := by
  obtain ⟨x, y, rfl, hx, hy, hy2⟩ := hS
  rw [evc hf hn rfl]
  by_cases h0 : 0 < x
  · refine ⟨x % m, some (x / m, y), ?_, Int.emod_nonneg _ (by omega), Int.emod_lt_of_pos _ hm, x / m, y, rfl, Int.ediv_nonneg hx (by omega), hy, hy2⟩
    simp [rollDef, start, runs, run, ev, evs, idxV, atI, ixN, cmpV, cmpB, h0, binV, modV, divV, hm, hm2, endR]
  · have ab : Builtin.Int.intBits a ≤ 40 := bits40 ha.1 ha.2
    have yb : Builtin.Int.intBits y ≤ 40 := bits40 hy hy2
    have k1 : mulOk y a = true := mulOk_of yb ab (by decide)
    have z0 : 0 ≤ (y * a + b) % c := Int.emod_nonneg _ (by omega)
    have z1 : (y * a + b) % c < c := Int.emod_lt_of_pos _ hc.1
    have k2 : mulOk ((y * a + b) % c) ((y * a + b) % c + d) = true := mulOk_of (m := 40) (n := 42) (bits40 z0 (by omega)) (by
      rw [PySem.intBits_le_iff]
      omega) (by decide)
    refine ⟨(((y * a + b) % c) * ((y * a + b) % c + d)) % e / f % m, some (x, (y * a + b) % c), ?_, Int.emod_nonneg _ (by omega), Int.emod_lt_of_pos _ hm, x, _, rfl, hx, z0, by omega⟩
    simp [rollDef, start, runs, run, ev, evs, idxV, atI, ixN, cmpV, cmpB, h0, binV, modV, divV, addV, mulV, k1, k2, hc.1, he, hff.1, hff.2, hm, hm2, endR]
theorem cup_ok {P : Prog} {a b c d e : Int} (hf : find P "_law_cup" = some (cupDef a b c d e)) (ha : 0 < a ∧ a < 1073741824) (hb : 0 ≤ b ∧ b < 1099511627776) (hd : 0 < d ∧ d < 4294967296) (he : 0 ≤ e ∧ e < 4294967296)
    {n : Nat} (hn : 0 < n) {ns : List Int} (hl : ns.length ≤ 63) (hbits : ∀ z ∈ ns, Builtin.Int.intBits z ≤ 1048576) : ∃ x y, evCall P n "_law_cup" [.scr ns] none = .ok (.lst [.int x, .int y]) none ∧ CG (some (x, y)) := by
  rw [evc hf hn rfl]
  have key : ∀ z : Int, Builtin.Int.intBits z ≤ 1048576 → (∃ zs : List PV, ns.map PV.int ++ [PV.int 0] = PV.int z :: zs) → ∃ x y, endR (cupDef a b c d e).fresh none (runs (evCall P (n - 1)) (cupDef a b c d e).body (start (cupDef a b c d e).nl [.scr ns]) none) = .ok (.lst [.int x, .int y]) none ∧ CG (some (x, y)) := by
    intro z hz ⟨zs, ez⟩
    have h1 : ns.length + 1 ≤ lineN := by unfold lineN; omega
    have hl0 : zs.length = ns.length := by have := congrArg List.length ez; simpa using this.symm
    have habs : Builtin.Int.intBits (if z < 0 then -z else z) ≤ 1048576 := by
      split
      · exact PySem.intBits_neg_le hz
      · exact hz
    generalize hw : (if z < 0 then -z else z) = w at habs
    have w0 : 0 ≤ w := by rw [← hw]; split <;> omega
    have k1 : mulOk w b = true := mulOk_of habs (bits40 hb.1 hb.2) (by decide)
    have d0 : 0 ≤ (w * b + c) % d := Int.emod_nonneg _ (by omega)
    have d1 : (w * b + c) % d < d := Int.emod_lt_of_pos _ hd.1
    refine ⟨if w ≥ 1000000000000000000 then w / a else 0, (w * b + c) % d + e, ?_, _, _, rfl, ?_, by omega, by omega⟩
    · have e10 : powV (.int 10) (.int 18) = some (.int 1000000000000000000) := rfl
      simp [cupDef, start, runs, run, ev, evs, idxV, atI, ixN, cmpV, cmpB, binV, modV, divV, addV, mulV, k1, h1, ez, hw, e10, ha.1, ha.2, hd.1, endR, hl0, isLst]
      by_cases hw1 : 1000000000000000000 ≤ w <;> simp [hw1, le_lineN (show 2 ≤ 16777216 by decide), isLst]
    · split
      · exact Int.ediv_nonneg w0 (by omega)
      · exact Int.le_refl _
  cases ns with
  | nil => exact key 0 (by decide) ⟨[], rfl⟩
  | cons z zs => exact key z (hbits z List.mem_cons_self) ⟨zs.map PV.int ++ [PV.int 0], rfl⟩
theorem some_ok {P : Prog} {a b c d e f : Int} (hs : find P "_law_some" = some someDef) (hf : find P "_law_roll" = some (rollDef a b c d e f)) (ha : 0 ≤ a ∧ a < 1099511627776) (hc : 0 < c ∧ c < 1099511627776) (hd : 0 ≤ d ∧ d < 1099511627776) (he : 0 < e) (hff : 0 < f ∧ f < 1073741824)
    {n : Nat} (hn : 1 < n) {S : Cup} (hS : CG S) {v : PV} {xs : List PV} (hv : v = .lst xs ∨ v = .tup xs) (hx : xs ≠ []) (hx2 : xs.length < 1073741824) : ∃ x S', evCall P n "_law_some" [.cup, v] S = .ok x S' ∧ x ∈ xs ∧ CG S' := by
  have hpos : 0 < xs.length := List.length_pos_iff.mpr hx
  obtain ⟨r, S', e1, r0, r1, g⟩ := roll_ok hf ha hc hd he hff (n := n - 1) (by omega) hS (m := (xs.length : Int)) (by omega) (by omega)
  have hr : r.toNat < xs.length := by omega
  have hat : atI xs r = some xs[r.toNat] := by
    unfold atI ixN
    simp [r0, hr, r1]
  refine ⟨xs[r.toNat], S', ?_, List.getElem_mem _, g⟩
  obtain ⟨x, y, rfl, hS'⟩ := hS
  rw [evc hs (by omega) rfl]
  rcases hv with rfl | rfl <;> simp [someDef, start, runs, run, ev, evs, e1, idxV, hat, endR]
/-- plain things: what a law compares -/
inductive Pl : Nat → PV → Prop
  | non {n : Nat} : Pl n .non
  | bl {n : Nat} {b : Bool} : Pl n (.bl b)
  | int {n : Nat} {i : Int} : Pl n (.int i)
  | str {n : Nat} {x : Str} : shp (.str x) = true → Pl n (.str x)
  | tup {n : Nat} {xs : List PV} : xs.length ≤ 1000000 → (∀ x ∈ xs, Pl n x) → Pl (n + 1) (.tup xs)
theorem rngL_map (n : Nat) (g : PV → PV) : (rngL 0 n).map g = (List.range n).map fun (i : Nat) => g (.int (i : Int)) := by
  unfold rngL
  rw [List.map_map]
  apply List.map_congr_left
  intro i _
  simp
theorem mem_rngL {lo : Int} {n : Nat} {x : PV} (h : x ∈ rngL lo n) : ∃ i : Nat, i < n ∧ x = .int (lo + i) := by
  unfold rngL at h
  obtain ⟨i, hi, rfl⟩ := List.mem_map.mp h
  exact ⟨i, List.mem_range.mp hi, rfl⟩
theorem flatR_rng {f : PV → Cup → Res (List PV)} {g : Nat → PV} {n : Nat} {S : Cup} (h : ∀ i : Nat, i < n → f (.int (0 + (i : Int))) S = .ok [g i] S) : flatR f (rngL 0 n) S = .ok ((List.range n).map g) S := by
  have e : flatR f (rngL 0 n) S = .ok ((rngL 0 n).map fun x => match x with | .int i => g i.toNat | _ => .non) S := by
    refine flatR_one fun x hx => ?_
    obtain ⟨i, hi, rfl⟩ := mem_rngL hx
    rw [h i hi]
    simp
  rw [e, rngL_map]
  simp
theorem range_fm {α : Type} (n : Nat) (g : Nat → List α) : (List.range (n + 1)).flatMap g = (List.range n).flatMap g ++ g n := by
  rw [List.range_succ, List.flatMap_append, List.flatMap_singleton]
theorem range_fm_len {α : Type} (g : Nat → List α) (h : ∀ i, (g i).length ≤ 1) : ∀ n, ((List.range n).flatMap g).length ≤ n
  | 0 => Nat.le_refl _
  | n + 1 => by
    have := range_fm_len g h n
    have h1 := h n
    rw [range_fm, List.length_append]
    omega
theorem atI_nat {α : Type} {xs : List α} {i : Nat} {x : α} (h : xs[i]? = some x) : atI xs (i : Int) = some x := by
  have hi := (List.getElem?_eq_some_iff.mp h).1
  unfold atI ixN
  rw [if_pos (Int.natCast_nonneg i), if_pos (by omega)]
  simpa using h
theorem blsOf_map (bs : List Bool) : blsOf (bs.map PV.bl) = some bs := by
  induction bs with
  | nil => rfl
  | cons b r ih => simp [blsOf, ih]
theorem blsOf_true {α : Type} (xs : List α) : blsOf (xs.map fun _ => PV.bl true) = some (xs.map fun _ => true) := by
  rw [← blsOf_map, List.map_map]
  rfl
theorem same_ok {P : Prog} (hs : find P "_law_same" = some sameDef) : ∀ {n : Nat} {v : PV}, Pl n v → ∀ {d : Nat} {ab : Int × Int}, n < d → evCall P d "_law_same" [v, v] (some ab) = .ok (.bl true) (some ab) := by
  intro n
  induction n with
  | zero =>
    intro v hv d ab hd
    rw [evc hs (by omega) rfl]
    cases hv with
    | non => simp [sameDef, start, runs, run, ev, evs, isTy, cmpV, cmpB, isV, endR]
    | @bl _ b => cases b <;> simp [sameDef, start, runs, run, ev, evs, isTy, cmpV, cmpB, isV, endR]
    | int => simp [sameDef, start, runs, run, ev, evs, isTy, cmpV, cmpB, isV, endR]
    | str h => simp [sameDef, start, runs, run, ev, evs, isTy, cmpV, cmpB, isV, eqB, h, eqv_str, endR]
  | succ n ih =>
    intro v hv d ab hd
    rw [evc hs (by omega) rfl]
    cases hv with
    | non => simp [sameDef, start, runs, run, ev, evs, isTy, cmpV, cmpB, isV, endR]
    | @bl _ b => cases b <;> simp [sameDef, start, runs, run, ev, evs, isTy, cmpV, cmpB, isV, endR]
    | int => simp [sameDef, start, runs, run, ev, evs, isTy, cmpV, cmpB, isV, endR]
    | str h => simp [sameDef, start, runs, run, ev, evs, isTy, cmpV, cmpB, isV, eqB, h, eqv_str, endR]
    | @tup _ xs hl hx =>
      have key : ∀ f : PV → Cup → Res (List PV), (∀ (i : Nat) x, xs[i]? = some x → f (.int (0 + (i : Int))) (some ab) = .ok [.bl true] (some ab)) → flatR f (rngL 0 xs.length) (some ab) = .ok ((rngL 0 xs.length).map fun _ => .bl true) (some ab) := by
        intro f hf
        refine flatR_one fun y hy => ?_
        obtain ⟨i, hi, rfl⟩ := mem_rngL hy
        exact hf i xs[i] (by simp [hi])
      simp [sameDef, start, runs, run, ev, evs, evI, evT, isTy, cmpV, cmpB, isV, wipeE, bindT, rngOk_nat (show xs.length ≤ 16777216 by omega)]
      rw [key]
      · simp [blsOf_true, rngL_len, endR, le_lineN (show xs.length ≤ 16777216 by omega)]
      · intro i x hi
        simp [idxV, atI_nat hi]
        rw [ih (hx x (List.mem_of_getElem? hi)) (by omega)]
        rfl
end Py

set_option Elab.async false
set_option linter.all false
set_option maxRecDepth 100000
set_option maxHeartbeats 4000000
/-! Py: more rules for reckoning: walks over lists that stand for lists of other things. -/
namespace Py
open PySem L2
theorem flatR_f {α : Type} {f : PV → Cup → Res (List PV)} (e h : α → PV) (p : α → Bool) {S : Cup} : ∀ {ys : List α}, (∀ y ∈ ys, f (e y) S = .ok (if p y = true then [h y] else []) S) → flatR f (ys.map e) S = .ok ((ys.filter p).map h) S
  | [], _ => rfl
  | y :: ys, H => by
    rw [List.map_cons, flatR, H y List.mem_cons_self]
    simp only
    rw [flatR_f e h p fun z hz => H z (List.mem_cons_of_mem _ hz)]
    cases hp : p y <;> simp [hp]
theorem flatR_e {α : Type} {f : PV → Cup → Res (List PV)} (e h : α → PV) {S : Cup} {ys : List α} (H : ∀ y ∈ ys, f (e y) S = .ok [h y] S) : flatR f (ys.map e) S = .ok (ys.map h) S := by
  have := flatR_f (f := f) e h (fun _ => true) (S := S) (ys := ys) (fun y hy => by rw [H y hy]; rfl)
  rw [this, List.filter_eq_self.mpr (fun _ _ => rfl)]
theorem flatR_none {α : Type} {f : PV → Cup → Res (List PV)} (e : α → PV) {S : Cup} {ys : List α} (H : ∀ y ∈ ys, f (e y) S = .ok [] S) : flatR f (ys.map e) S = .ok [] S := by
  rw [flatR_f e e (fun _ => false) fun y hy => by rw [H y hy]; rfl, List.filter_eq_nil_iff.mpr (by simp)]
  rfl
theorem blsOf_e {α : Type} (g : α → Bool) : ∀ ys : List α, blsOf (ys.map fun y => PV.bl (g y)) = some (ys.map g)
  | [] => rfl
  | y :: ys => by rw [List.map_cons, blsOf, blsOf_e g ys]; rfl
theorem intsOf_e {α : Type} (g : α → Int) : ∀ ys : List α, intsOf (ys.map fun y => PV.int (g y)) = some (ys.map g)
  | [] => rfl
  | y :: ys => by rw [List.map_cons, intsOf, intsOf_e g ys]; rfl
theorem zipL_e {α β : Type} (e : α → PV) (e' : β → PV) : ∀ (xs : List α) (ys : List β), zipL (xs.map e) (ys.map e') = (xs.zip ys).map fun p => PV.tup [e p.1, e' p.2]
  | [], _ => by simp [zipL]
  | _ :: _, [] => by simp [zipL]
  | x :: xs, y :: ys => by simp [zipL, zipL_e e e' xs ys]
theorem enumL_e {α : Type} (e : α → PV) : ∀ (n : Nat) (xs : List α), enumL n (xs.map e) = (xs.zipIdx n).map fun p => PV.tup [.int ((p.2 : Nat) : Int), e p.1]
  | _, [] => rfl
  | n, x :: xs => by simp [enumL, enumL_e e (n + 1) xs, List.zipIdx_cons]
theorem all_map_id {α : Type} (g : α → Bool) (ys : List α) : (ys.map g).all id = ys.all g := by
  rw [List.all_map]; rfl
theorem any_map_id {α : Type} (g : α → Bool) (ys : List α) : (ys.map g).any id = ys.any g := by
  rw [List.any_map]; rfl
/-- ascending, step by step -/
def ascB : List Int → Bool
  | a :: b :: r => decide (a < b) && ascB (b :: r)
  | _ => true
theorem ascB_zip : ∀ xs : List Int, ((xs.zip xs.tail).all fun p => decide (p.1 < p.2)) = ascB xs
  | [] => rfl
  | [_] => rfl
  | a :: b :: r => by
    have := ascB_zip (b :: r)
    simp only [List.tail_cons] at this
    simp [ascB, ← this]
def ascE : List Int → Bool
  | a :: b :: r => decide (a ≤ b) && ascE (b :: r)
  | _ => true
theorem ascE_zip : ∀ xs : List Int, ((xs.zip xs.tail).all fun p => decide (p.1 ≤ p.2)) = ascE xs
  | [] => rfl
  | [_] => rfl
  | a :: b :: r => by
    have := ascE_zip (b :: r)
    simp only [List.tail_cons] at this
    simp [ascE, ← this]
theorem ascB_iff : ∀ xs : List Int, ascB xs = true ↔ xs.Pairwise (· < ·)
  | [] => by simp [ascB]
  | [_] => by simp [ascB]
  | a :: b :: r => by
    rw [ascB, Bool.and_eq_true, ascB_iff (b :: r), decide_eq_true_eq, @List.pairwise_cons _ _ a]
    refine ⟨fun ⟨h1, h2⟩ => ⟨fun x hx => ?_, h2⟩, fun ⟨h1, h2⟩ => ⟨h1 b List.mem_cons_self, h2⟩⟩
    rcases List.mem_cons.mp hx with rfl | hx
    · exact h1
    · exact Int.lt_trans h1 ((List.pairwise_cons.mp h2).1 x hx)
theorem ascE_iff : ∀ xs : List Int, ascE xs = true ↔ xs.Pairwise (· ≤ ·)
  | [] => by simp [ascE]
  | [_] => by simp [ascE]
  | a :: b :: r => by
    rw [ascE, Bool.and_eq_true, ascE_iff (b :: r), decide_eq_true_eq, @List.pairwise_cons _ _ a]
    refine ⟨fun ⟨h1, h2⟩ => ⟨fun x hx => ?_, h2⟩, fun ⟨h1, h2⟩ => ⟨h1 b List.mem_cons_self, h2⟩⟩
    rcases List.mem_cons.mp hx with rfl | hx
    · exact h1
    · exact Int.le_trans h1 ((List.pairwise_cons.mp h2).1 x hx)
theorem zip_map2 {α β γ : Type} (f : α → β) (g : α → γ) (xs ys : List α) : (xs.map f).zip (ys.map g) = (xs.zip ys).map fun p => (f p.1, g p.2) := by
  rw [List.zip_map]; rfl
theorem slc_tail {xs : List PV} : slcV (some 1) none (.tup xs) = some (.tup xs.tail) := by
  show some (PV.tup (cutP xs (some ((1 : Nat) : Int)) none)) = _
  rw [cut_hi, List.drop_one]
/-- a sorted list is the one of its things in order -/
theorem merge_eq {α : Type} {le : α → α → Bool} (tr : ∀ a b c, le a b = true → le b c = true → le a c = true) (to : ∀ a b, (le a b || le b a) = true) (an : ∀ a b, le a b = true → le b a = true → a = b) {xs ys : List α} (h : ys.Perm xs) (hs : ys.Pairwise fun a b => le a b = true) : xs.mergeSort le = ys := by
  have h1 := List.pairwise_mergeSort (le := le) (fun a b c => tr a b c) (fun a b => to a b) xs
  exact ((List.mergeSort_perm xs le).trans h.symm).eq_of_pairwise (fun a b _ _ => an a b) h1 hs
end Py

set_option Elab.async false
set_option linter.all false
set_option maxRecDepth 100000
set_option maxHeartbeats 4000000
/-! Py: sorted lists, in plain words. -/
namespace Py
open PySem L2
theorem leV_int (i j : Int) : leV (.int i) (.int j) = decide (i ≤ j) := congrFun (congrFun (PySem.W.dataLe_int (fun i : Int => i)) i) j
theorem toDs_ints (ns : List Int) : toDs (ns.map PV.int) = ns.map PyData.int := by
  induction ns with
  | nil => rfl
  | cons n ns ih => rw [List.map_cons, toDs, ih]; rfl
theorem leV_row (a b : List Int) : leV (ofRow a) (ofRow b) = decide (a ≤ b) := by
  have h : leV (ofRow a) (ofRow b) = PySem.W.dataLe false (fun x : List Int => .list (x.map .int)) a b := by
    show (!PySem.W.dataLt (.tuple (toDs (b.map PV.int))) (.tuple (toDs (a.map PV.int)))) = _
    rw [toDs_ints, toDs_ints]
    rfl
  rw [h, PySem.W.dataLe_rows]
def le2 (p q : Int × Int) : Bool := decide (p.1 < q.1 ∨ p.1 = q.1 ∧ p.2 ≤ q.2)
def le3 (p q : Int × Int × Int) : Bool := decide (p.1 < q.1 ∨ p.1 = q.1 ∧ (p.2.1 < q.2.1 ∨ p.2.1 = q.2.1 ∧ p.2.2 ≤ q.2.2))
def e2 (r : Int × Int) : PV := .tup [.int r.1, .int r.2]
def e3 (r : Int × Int × Int) : PV := .tup [.int r.1, .int r.2.1, .int r.2.2]
theorem leV_2 (p q : Int × Int) : leV (e2 p) (e2 q) = le2 p q := by
  have := leV_row [p.1, p.2] [q.1, q.2]
  refine this.trans ?_
  unfold le2
  rw [decide_eq_decide, List.le_iff_lt_or_eq]
  simp [List.cons_lt_cons_iff]
  omega
theorem leV_3 (p q : Int × Int × Int) : leV (e3 p) (e3 q) = le3 p q := by
  have := leV_row [p.1, p.2.1, p.2.2] [q.1, q.2.1, q.2.2]
  refine this.trans ?_
  unfold le3
  rw [decide_eq_decide, List.le_iff_lt_or_eq]
  simp [List.cons_lt_cons_iff]
  omega
theorem sortOk_ints {ns : List Int} (h : ns.length ≤ lineN) : sortOk (ns.map PV.int) = true := by
  unfold sortOk
  simp only [Bool.and_eq_true, Bool.or_eq_true, decide_eq_true_eq, List.all_eq_true, List.mem_map, forall_exists_index, and_imp, forall_apply_eq_imp_iff₂, List.length_map]
  exact ⟨⟨h, fun a ha => ⟨⟨rfl, by simp [toD, PyData.depth]⟩, fun b hb => rfl⟩⟩, .inr fun a ha => rfl⟩
theorem sortOk_e {α : Type} {e : α → PV} {xs : List α} (h : xs.length ≤ lineN) (he : ∀ x, ∃ y ys, e x = .tup (y :: ys)) (h1 : ∀ x, (toD (e x)).canLay0 = true ∧ (toD (e x)).depth ≤ 60) (h2 : ∀ x y, PySem.W.alike (toD (e x)) (toD (e y)) = true) : sortOk (xs.map e) = true := by
  unfold sortOk
  simp only [Bool.and_eq_true, Bool.or_eq_true, decide_eq_true_eq, List.all_eq_true, List.mem_map, forall_exists_index, and_imp, forall_apply_eq_imp_iff₂, List.length_map]
  exact ⟨⟨h, fun a ha => ⟨h1 a, fun b hb => h2 a b⟩⟩, .inl fun a ha => by obtain ⟨y, ys, e⟩ := he a; rw [e]; rfl⟩
theorem sortV_e {α : Type} {e : α → PV} {le : α → α → Bool} (hle : ∀ p q, leV (e p) (e q) = le p q) {xs : List α} (ok : sortOk (xs.map e) = true) : sortV (xs.map e) = some (.lst ((xs.mergeSort le).map e)) := by
  unfold sortV
  rw [if_pos ok, isort_eq leV_total, PySem.W.sort_maps (r := le) (s := leV) e fun a _ b _ => (hle a b).symm]
theorem sortV_ints {ns : List Int} (h : ns.length ≤ lineN) : sortV (ns.map PV.int) = some (.lst ((ns.mergeSort fun a b => decide (a ≤ b)).map PV.int)) := sortV_e leV_int (sortOk_ints h)
theorem sortV_2 {xs : List (Int × Int)} (h : xs.length ≤ lineN) : sortV (xs.map e2) = some (.lst ((xs.mergeSort le2).map e2)) := sortV_e leV_2 (sortOk_e h (fun x => ⟨_, _, rfl⟩) (fun x => ⟨rfl, by simp [e2, toD, toDs, PyData.depth, PyData.depthAll]⟩) fun x y => rfl)
theorem sortV_3 {xs : List (Int × Int × Int)} (h : xs.length ≤ lineN) : sortV (xs.map e3) = some (.lst ((xs.mergeSort le3).map e3)) := sortV_e leV_3 (sortOk_e h (fun x => ⟨_, _, rfl⟩) (fun x => ⟨rfl, by simp [e3, toD, toDs, PyData.depth, PyData.depthAll]⟩) fun x y => rfl)
@[simp] theorem bv_sorted (xs : List PV) : bltV .sorted1 [.lst xs] = sortV xs := (rfl)
@[simp] theorem bv_sortedT (xs : List PV) : bltV .sorted1 [.tup xs] = sortV xs := (rfl)
/-- orders: total, transitive, antisymmetric -/
theorem le2_tr {a b c : Int × Int} (h : le2 a b = true) (h' : le2 b c = true) : le2 a c = true := by simp [le2] at *; omega
theorem le2_to (a b : Int × Int) : (le2 a b || le2 b a) = true := by simp [le2]; omega
theorem le2_an {a b : Int × Int} (h : le2 a b = true) (h' : le2 b a = true) : a = b := by
  obtain ⟨a1, a2⟩ := a
  obtain ⟨b1, b2⟩ := b
  simp [le2] at *
  omega
theorem le3_tr {a b c : Int × Int × Int} (h : le3 a b = true) (h' : le3 b c = true) : le3 a c = true := by simp [le3] at *; omega
theorem le3_to (a b : Int × Int × Int) : (le3 a b || le3 b a) = true := by simp [le3]; omega
theorem le3_an {a b : Int × Int × Int} (h : le3 a b = true) (h' : le3 b a = true) : a = b := by
  obtain ⟨a1, a2, a3⟩ := a
  obtain ⟨b1, b2, b3⟩ := b
  simp [le3] at *
  omega
theorem sort2_eq {xs ys : List (Int × Int)} (h : ys.Perm xs) (hs : ys.Pairwise fun a b => le2 a b = true) : xs.mergeSort le2 = ys := merge_eq (le := le2) (fun _ _ _ => le2_tr) le2_to (fun _ _ => le2_an) h hs
theorem sort3_eq {xs ys : List (Int × Int × Int)} (h : ys.Perm xs) (hs : ys.Pairwise fun a b => le3 a b = true) : xs.mergeSort le3 = ys := merge_eq (le := le3) (fun _ _ _ => le3_tr) le3_to (fun _ _ => le3_an) h hs
theorem sortI_eq {xs ys : List Int} (h : ys.Perm xs) (hs : ys.Pairwise (· ≤ ·)) : (xs.mergeSort fun a b => decide (a ≤ b)) = ys :=
  merge_eq (fun a b c h h' => by simp at *; omega) (fun a b => by simp; omega) (fun a b h h' => by simp at *; omega) h (hs.imp fun h => by simpa using h)
theorem sortI_perm (xs : List Int) : (xs.mergeSort fun a b => decide (a ≤ b)).Perm xs := List.mergeSort_perm _ _
theorem sortI_sorted (xs : List Int) : (xs.mergeSort fun a b => decide (a ≤ b)).Pairwise (· ≤ ·) :=
  (List.pairwise_mergeSort (le := fun a b : Int => decide (a ≤ b)) (fun a b c h h' => by simp at *; omega) (fun a b => by simp; omega) xs).imp fun h => by simpa using h
/-! ### a body in two parts -/
def MB.take : Nat → MB → MB
  | 0, _ => .nil | _, .nil => .nil | n + 1, .cons s b => .cons s (MB.take n b) | _ + 1, .frz i b => .frz i b
def MB.drop : Nat → MB → MB
  | 0, b => b | _, .nil => .nil | n + 1, .cons _ b => MB.drop n b | _ + 1, .frz _ _ => .nil
theorem seq_nx (o : Out) : (o.seq fun ρ S => .next ρ S) = o := by cases o <;> rfl
theorem runs_split {C : Calls} : ∀ (n : Nat) (b : MB) (ρ : Env) (S : Cup), runs C b ρ S = (runs C (b.take n) ρ S).seq fun ρ1 S1 => runs C (b.drop n) ρ1 S1
  | 0, b, ρ, S => rfl
  | n + 1, .nil, ρ, S => rfl
  | n + 1, .cons s b, ρ, S => by
    rw [MB.take, MB.drop, rs_cons, rs_cons, seq_seq]
    congr 1
    funext ρ1 S1
    exact runs_split n b ρ1 S1
  | n + 1, .frz i b, ρ, S => by
    rw [MB.take, MB.drop]
    exact (seq_nx _).symm
/-- the first statements come to this, the others from there -/
theorem runs_at {C : Calls} (n : Nat) {b : MB} {ρ ρ' : Env} {S S' : Cup} (h : runs C (b.take n) ρ S = .next ρ' S') : runs C b ρ S = runs C (b.drop n) ρ' S' := by
  rw [runs_split n, h]; rfl
theorem shp_nil : shp (.lst []) = true := by decide +kernel
theorem shp_nilT : shp (.tup []) = true := by decide +kernel
theorem eqB_nil {xs : List PV} (h : shp (.lst xs) = true) : eqB (.lst xs) (.lst []) = some xs.isEmpty := by
  unfold eqB
  rw [h, shp_nil]
  cases xs <;> simp [eqv, toD, toDs, PyData.eqv, PyData.eqvAll]
theorem eqB_nilT {xs : List PV} (h : shp (.tup xs) = true) : eqB (.tup xs) (.tup []) = some xs.isEmpty := by
  unfold eqB
  rw [h, shp_nilT]
  cases xs <;> simp [eqv, toD, toDs, PyData.eqv, PyData.eqvAll]
@[simp] theorem eqB_nn : eqB (.lst []) (.lst []) = some true := by decide +kernel
@[simp] theorem eqB_nnT : eqB (.tup []) (.tup []) = some true := by decide +kernel
/-- things that can be compared: how deep they go -/
def Shd (n : Nat) (v : PV) : Prop := (toD v).canLay0 = true ∧ (toD v).depth ≤ n
theorem shd_non {n : Nat} : Shd n .non := ⟨rfl, Nat.zero_le _⟩
theorem shd_int {n : Nat} {i : Int} : Shd n (.int i) := ⟨rfl, Nat.zero_le _⟩
theorem shd_bl {n : Nat} {i : Bool} : Shd n (.bl i) := ⟨rfl, Nat.zero_le _⟩
theorem shd_str {n : Nat} {x : Str} (h : shp (.str x) = true) : Shd n (.str x) := ⟨(Bool.and_eq_true_iff.mp h).1, Nat.zero_le _⟩
theorem shds {n : Nat} : ∀ {xs : List PV}, (∀ x ∈ xs, Shd n x) → PyData.canLayAll0 (toDs xs) = true ∧ PyData.depthAll (toDs xs) ≤ n
  | [], _ => ⟨rfl, Nat.zero_le _⟩
  | x :: xs, h => by
    obtain ⟨a, b⟩ := h x List.mem_cons_self
    obtain ⟨c, d⟩ := shds fun y hy => h y (List.mem_cons_of_mem _ hy)
    rw [toDs]
    exact ⟨by simp [PyData.canLayAll0, a, c], by simp [PyData.depthAll]; omega⟩
theorem shd_tup {n : Nat} {xs : List PV} (h : ∀ x ∈ xs, Shd n x) : Shd (n + 1) (.tup xs) := by
  obtain ⟨a, b⟩ := shds h
  exact ⟨a, by show PyData.depthAll (toDs xs) + 1 ≤ n + 1; omega⟩
theorem shd_lst {n : Nat} {xs : List PV} (h : ∀ x ∈ xs, Shd n x) : Shd (n + 1) (.lst xs) := by
  obtain ⟨a, b⟩ := shds h
  exact ⟨a, by show PyData.depthAll (toDs xs) + 1 ≤ n + 1; omega⟩
theorem Shd.shp {n : Nat} {v : PV} (h : Shd n v) (hn : n ≤ 64) : shp v = true := by
  unfold Py.shp SeqAt.shaped
  rw [h.1, Bool.true_and, decide_eq_true_eq]
  exact Nat.le_trans h.2 hn
theorem eqB_of {n m : Nat} {a b : PV} (ha : Shd n a) (hb : Shd m b) (hn : n ≤ 64) (hm : m ≤ 64) : eqB a b = some (eqv a b) := by
  unfold eqB
  rw [ha.shp hn, hb.shp hm]; rfl
end Py

set_option Elab.async false
set_option linter.all false
set_option maxRecDepth 100000
set_option maxHeartbeats 4000000
/-! Py: readings, in plain words (no program in sight). -/
namespace Py
open PySem L2
abbrev Row := Int × Int
inductive Stp where
  | page | put (k r : Int) | drop (k : Int)
deriving DecidableEq
def eStp : Stp → PV
  | .page => .tup [.str "page"] | .put k r => .tup [.str "put", .int k, .int r] | .drop k => .tup [.str "drop", .int k]
def okRow (r : Row) : Bool := decide (0 ≤ r.1 ∧ r.1 ≤ 9) && decide (0 ≤ r.2 ∧ r.2 ≤ 5)
def okStp : Stp → Bool
  | .page => true | .put k r => okRow (k, r) | .drop k => decide (0 ≤ k ∧ k ≤ 9)
def okRows (rs : List Row) : Prop := rs.length ≤ 10 ∧ (∀ r ∈ rs, okRow r = true) ∧ rs.Pairwise (fun a b => a.1 < b.1)
def okHist (h : List Stp) : Prop := h.length ≤ 60 ∧ ∀ s ∈ h, okStp s = true
abbrev eRow (r : Row) : PV := e2 r
abbrev eRows (rs : List Row) : PV := .tup (rs.map e2)
abbrev eHist (h : List Stp) : PV := .tup (h.map eStp)
def oRow : Option Row → PV
  | none => .non | some r => e2 r
def oRows : Option (List Row) → PV
  | none => .non | some r => eRows r
/-- tables -/
structure Tb where
  o : Int
  m : Int
  s : Int
  v : Int
  e : Int
  g : Int
def eTb (t : Tb) : PV := .tup [.int t.o, .int t.m, .int t.s, .int t.v, .int t.e, .int t.g]
def okTb (t : Tb) : Prop := (0 ≤ t.o ∧ t.o ≤ 1) ∧ (0 ≤ t.m ∧ t.m ≤ 2) ∧ (0 ≤ t.s ∧ t.s ≤ 1) ∧ (0 ≤ t.v ∧ t.v ≤ 1) ∧ (0 ≤ t.e ∧ t.e ≤ 1) ∧ (0 ≤ t.g ∧ t.g ≤ 2)
/-- readings -/
structure Rdg where
  now : List Row
  first : Option (List Row)
  got : List Row
  sent : Nat
  last : Option Row
  over : Bool
def eRdg (R : Rdg) : PV := .tup [eRows R.now, oRows R.first, eRows R.got, .int R.sent, oRow R.last, .int (if R.over then 1 else 0)]
/-- orders and marks -/
def plc (o : Int) (r : Row) : List Int := if o = 0 then [r.1] else [r.2, r.1]
def mrk (o m : Int) (r : Row) : List Int := if m = 2 then plc o r else (plc o r).take 1
def leO (o : Int) (a b : Row) : Bool := if o = 0 then decide (a.1 ≤ b.1) else le2 (a.2, a.1) (b.2, b.1)
def ordR (o : Int) (rs : List Row) : List Row := rs.mergeSort (leO o)
def begR (o m s : Int) (row : Row) (rs : List Row) : Nat := ((ordR o rs).filter fun own => HT.lexLt (mrk o m own) (mrk o m row) || (decide (mrk o m own = mrk o m row) && decide (s = 0))).length
/-- pages -/
def viewR (t : Tb) (R : Rdg) : List Row := ordR t.o (if t.v = 1 then R.first.getD R.now else R.now)
def startR (t : Tb) (R : Rdg) : Option Nat :=
  if t.m = 0 then some R.sent else match R.last with
    | none => some 0
    | some last => if last ∉ viewR t R ∧ 0 < t.g then (if t.g = 1 then some 0 else none) else some (begR t.o t.m t.s last (viewR t R))
def pageR (t : Tb) (size : Nat) (R : Rdg) : List Row := match startR t R with
  | none => [] | some i => ((viewR t R).drop i).take size
def newR (t : Tb) (R : Rdg) (page : List Row) : List Row := if t.e = 1 then page.filter (fun r => decide (r.1 ∉ R.got.map (·.1))) else page
def pagedR (t : Tb) (size : Nat) (R : Rdg) : Rdg := if R.over then R else
  { now := R.now, first := some (R.first.getD R.now), got := R.got ++ newR t R (pageR t size R), sent := R.sent + (pageR t size R).length, last := (match (pageR t size R).getLast? with | none => R.last | some r => some r), over := decide ((pageR t size R).length < size) }
def chg (rs : List Row) : Stp → List Row
  | .page => rs
  | .put k r => (rs.filter (fun x => decide (x.1 ≠ k)) ++ [(k, r)]).mergeSort le2
  | .drop k => (rs.filter (fun x => decide (x.1 ≠ k))).mergeSort le2
def stepR (t : Tb) (size : Nat) (R : Rdg) : Stp → Rdg
  | .page => pagedR t size R
  | c => { R with now := chg R.now c }
def begunR (rs : List Row) : Rdg := ⟨rs, none, [], 0, none, false⟩
theorem cnt_up {α : Type} (f : α → Bool) {xs : List α} {n : Nat} {x : α} (h : xs[n]? = some x) : ((xs.take (n + 1)).filter f).length = ((xs.take n).filter f).length + if f x then 1 else 0 := by
  rw [List.take_succ, h, List.filter_append, List.length_append]
  by_cases q : f x = true <;> simp [q]
/-- readings of a size that is met -/
def smR (R : Rdg) : Prop := R.now.length ≤ 100 ∧ (R.first.getD R.now).length ≤ 100 ∧ R.got.length ≤ 5000
theorem ordR_len (o : Int) (rs : List Row) : (ordR o rs).length = rs.length := List.length_mergeSort _
theorem viewR_len {t : Tb} {R : Rdg} (h : smR R) : (viewR t R).length ≤ 100 := by
  unfold viewR
  rw [ordR_len]
  split
  · exact h.2.1
  · exact h.1
theorem pageR_len {t : Tb} {size : Nat} {R : Rdg} (h : smR R) : (pageR t size R).length ≤ 100 := by
  unfold pageR
  have := viewR_len (t := t) h
  split
  · simp
  · rw [List.length_take, List.length_drop]; omega
theorem cut_mid {xs : List PV} {i n : Nat} : cutP xs (some ((i : Nat) : Int)) (some ((i + n : Nat) : Int)) = (xs.drop i).take n := by
  unfold cutP
  have e : ∀ k : Nat, ∀ d, HT.sIx xs.length d (some ((k : Nat) : Int)) = min k xs.length := fun k d => by
    simp only [HT.sIx]
    have hk : ¬ ((k : Int) < 0) := by omega
    simp [hk]
  rw [e, e]
  by_cases h : i ≤ xs.length
  · rw [Nat.min_eq_left h]
    by_cases h2 : i + n ≤ xs.length
    · rw [Nat.min_eq_left h2]; congr 1; omega
    · rw [Nat.min_eq_right (by omega)]
      rw [List.take_of_length_le (by simp), List.take_of_length_le (by simp; omega)]
  · rw [Nat.min_eq_right (by omega), List.drop_of_length_le (by omega), List.drop_of_length_le (by omega)]
    simp
theorem idx_last {S : Cup} {xs : List PV} {x : PV} (h : xs.getLast? = some x) : idxV S (.tup xs) (.int (-1)) = some x := by
  obtain ⟨ys, rfl⟩ := List.getLast?_eq_some_iff.mp h
  have e : atI (ys ++ [x]) (-1) = some x := by
    have h1 : (1 : Int) ≤ (ys.length : Int) + 1 := by omega
    have h2 : (-1 + ((ys.length : Int) + 1)).toNat = ys.length := by omega
    simp [atI, ixN, h1, h2]
  exact e
theorem flatR_g {α : Type} {f : PV → Cup → Res (List PV)} (e : α → PV) (h : α → List PV) {S : Cup} : ∀ {ys : List α}, (∀ y ∈ ys, f (e y) S = .ok (h y) S) → flatR f (ys.map e) S = .ok (ys.flatMap h) S
  | [], _ => rfl
  | y :: ys, H => by
    rw [List.map_cons, flatR, H y List.mem_cons_self]
    simp only [Res.bind]
    rw [flatR_g e h fun z hz => H z (List.mem_cons_of_mem _ hz)]
    simp [Res.bind]
def alongI (t : Tb) (size : Nat) : Rdg → List Stp → List (List Row)
  | _, [] => []
  | R, c :: cs => (if c = .page ∧ R.over = false then [(stepR t size R c).got.drop R.got.length] else []) ++ alongI t size (stepR t size R c) cs
/-- sizes along a history -/
structure GrowR (i : Nat) (R : Rdg) : Prop where
  now : R.now.length ≤ 10 + i
  fst : (R.first.getD R.now).length ≤ 10 + i
  got : R.got.length ≤ i * 70
theorem GrowR.sm {i : Nat} {R : Rdg} (h : GrowR i R) (hi : i ≤ 60) : smR R := by
  refine ⟨?_, ?_, ?_⟩
  · have := h.now; omega
  · have := h.fst; omega
  · have := h.got
    have : i * 70 ≤ 60 * 70 := Nat.mul_le_mul_right _ hi
    omega
theorem chg_len (rs : List Row) (c : Stp) : (chg rs c).length ≤ rs.length + 1 := by
  cases c with
  | page => simp [chg]
  | put k r =>
    have := List.length_filter_le (fun x : Row => decide (x.1 ≠ k)) rs
    simp only [chg, List.length_mergeSort, List.length_append, List.length_cons, List.length_nil]
    omega
  | drop k =>
    have := List.length_filter_le (fun x : Row => decide (x.1 ≠ k)) rs
    simp only [chg, List.length_mergeSort]
    omega
theorem newR_len (t : Tb) (R : Rdg) (page : List Row) : (newR t R page).length ≤ page.length := by
  unfold newR
  split
  · exact List.length_filter_le _ _
  · exact Nat.le_refl _
theorem pageR_len' {t : Tb} {size : Nat} {R : Rdg} {n : Nat} (h1 : R.now.length ≤ n) (h2 : (R.first.getD R.now).length ≤ n) : (pageR t size R).length ≤ n := by
  have hv : (viewR t R).length ≤ n := by
    unfold viewR
    rw [ordR_len]
    split <;> assumption
  unfold pageR
  split
  · simp
  · rw [List.length_take, List.length_drop]; omega
theorem GrowR.step {i : Nat} {R : Rdg} (h : GrowR i R) (hi : i < 60) (t : Tb) (size : Nat) (c : Stp) : GrowR (i + 1) (stepR t size R c) := by
  have hn := h.now
  have hf := h.fst
  have hg := h.got
  have e : (i + 1) * 70 = i * 70 + 70 := by omega
  have key : ∀ R' : Rdg, R'.now = chg R.now c → R'.first = R.first → R'.got = R.got → GrowR (i + 1) R' := fun R' h1 h2 h3 => by
    have := chg_len R.now c
    refine ⟨by rw [h1]; omega, ?_, by rw [h3]; omega⟩
    rw [h1, h2]
    cases hq : R.first with
    | none => simp; omega
    | some f => rw [hq] at hf; simp at hf ⊢; omega
  cases c with
  | put k r => exact key _ rfl rfl rfl
  | drop k => exact key _ rfl rfl rfl
  | page =>
    show GrowR (i + 1) (pagedR t size R)
    unfold pagedR
    split
    · exact ⟨by omega, by omega, by omega⟩
    · have hp := pageR_len' (t := t) (size := size) hn hf
      have hw := newR_len t R (pageR t size R)
      refine ⟨by show R.now.length ≤ _; omega, ?_, ?_⟩
      · show (R.first.getD R.now).length ≤ _
        omega
      · show (R.got ++ newR t R (pageR t size R)).length ≤ _
        rw [List.length_append]
        omega
theorem begun_grow {rs : List Row} (h : rs.length ≤ 10) : GrowR 0 (begunR rs) := ⟨by simpa [begunR] using h, by simpa [begunR] using h, by simp [begunR]⟩
/-! ### equality and sorting of what is met -/
theorem eqv_ints : ∀ (ns ms : List Int), eqv (.tup (ns.map PV.int)) (.tup (ms.map PV.int)) = decide (ns = ms)
  | [], [] => by simp [eqv, toD, toDs, PyData.eqv, PyData.eqvAll]
  | [], _ :: _ => by simp [eqv, toD, toDs, PyData.eqv, PyData.eqvAll]
  | _ :: _, [] => by simp [eqv, toD, toDs, PyData.eqv, PyData.eqvAll]
  | n :: ns, m :: ms => by
    have h := eqv_ints ns ms
    simp only [eqv, toD, PyData.eqv] at h ⊢
    simp only [List.map_cons, toDs, PyData.eqvAll, h, toD, PyData.eqv]
    by_cases q : n = m <;> simp [q]
theorem shd_ints {ns : List Int} : Shd 1 (.tup (ns.map PV.int)) := shd_tup fun x hx => by
  obtain ⟨n, _, rfl⟩ := List.mem_map.mp hx
  exact shd_int
theorem eqB_ints (ns ms : List Int) : eqB (.tup (ns.map PV.int)) (.tup (ms.map PV.int)) = some (decide (ns = ms)) := by
  rw [eqB_of shd_ints shd_ints (by omega) (by omega), eqv_ints]
theorem e2_ints (r : Row) : e2 r = .tup ([r.1, r.2].map PV.int) := rfl
theorem eqv_2 (a b : Row) : eqv (e2 a) (e2 b) = decide (a = b) := by
  rw [e2_ints, e2_ints, eqv_ints]
  obtain ⟨a1, a2⟩ := a
  obtain ⟨b1, b2⟩ := b
  simp
theorem shd_2 {r : Row} : Shd 1 (e2 r) := shd_ints (ns := [r.1, r.2])
theorem shd_rows {rs : List Row} : Shd 2 (.tup (rs.map e2)) := shd_tup fun x hx => by
  obtain ⟨n, _, rfl⟩ := List.mem_map.mp hx
  exact shd_2
theorem shd_rowsL {rs : List Row} : Shd 2 (.lst (rs.map e2)) := shd_lst fun x hx => by
  obtain ⟨n, _, rfl⟩ := List.mem_map.mp hx
  exact shd_2
theorem any_rows (r : Row) (rs : List Row) : ((rs.map e2).any fun z => eqv z (e2 r)) = decide (r ∈ rs) := by
  rw [List.any_map]
  induction rs with
  | nil => rfl
  | cons x xs ih =>
    rw [List.any_cons, ih]
    simp only [Function.comp, eqv_2, List.mem_cons]
    by_cases q : x = r
    · simp [q]
    · have q' : ¬ r = x := fun z => q z.symm
      simp [q, q']
theorem inB_rows (r : Row) (rs : List Row) : inB (e2 r) (.tup (rs.map e2)) = some (decide (r ∈ rs)) := by
  show (if (shp _ && shp _) = true then some _ else none) = _
  rw [if_pos (by rw [shd_2.shp (by omega), shd_rows.shp (by omega)]; rfl), any_rows]
theorem inB_rowsL (r : Row) (rs : List Row) : inB (e2 r) (.lst (rs.map e2)) = some (decide (r ∈ rs)) := by
  show (if (shp _ && shp _) = true then some _ else none) = _
  rw [if_pos (by rw [shd_2.shp (by omega), shd_rowsL.shp (by omega)]; rfl), any_rows]
theorem any_ints (i : Int) (ns : List Int) : ((ns.map PV.int).any fun z => eqv z (.int i)) = decide (i ∈ ns) := by
  rw [List.any_map]
  induction ns with
  | nil => rfl
  | cons x xs ih =>
    rw [List.any_cons, ih]
    simp only [Function.comp, eqv_int, List.mem_cons]
    by_cases q : x = i
    · simp [q]
    · have q' : ¬ i = x := fun z => q z.symm
      simp [q, q']
theorem shd_intsL {ns : List Int} : Shd 1 (.lst (ns.map PV.int)) := shd_lst fun x hx => by
  obtain ⟨n, _, rfl⟩ := List.mem_map.mp hx
  exact shd_int
theorem inB_intsL (i : Int) (ns : List Int) : inB (.int i) (.lst (ns.map PV.int)) = some (decide (i ∈ ns)) := by
  show (if (shp _ && shp _) = true then some _ else none) = _
  rw [if_pos (by rw [shd_intsL.shp (by omega), (shd_int (n := 0)).shp (by omega)]; rfl), any_ints]
theorem inB_intsT (i : Int) (ns : List Int) : inB (.int i) (.tup (ns.map PV.int)) = some (decide (i ∈ ns)) := by
  show (if (shp _ && shp _) = true then some _ else none) = _
  rw [if_pos (by rw [shd_ints.shp (by omega), (shd_int (n := 0)).shp (by omega)]; rfl), any_ints]
/-- the key by place_of -/
def kxPl (x1 x2 x3 x4 : Str) : KX := .ite (.par 0) (.glb x1 0) (.tup1 (.idx (.par 1) (.glb x2 0))) (.tup2 (.idx (.par 1) (.glb x3 1)) (.idx (.par 1) (.glb x4 0)))
theorem keysV_rows {x1 x2 x3 x4 : Str} (o : Int) : ∀ rs : List Row, keysV (kxPl x1 x2 x3 x4) o (rs.map e2) = some (rs.map fun r => (ofRow (plc o r), e2 r))
  | [] => rfl
  | r :: rs => by
    have hk : kev (kxPl x1 x2 x3 x4) [.int o, e2 r] = some (ofRow (plc o r)) := by
      by_cases q : o = 0 <;> simp [kxPl, kev, e2, plc, ofRow, q]
    have hc : (toD (e2 r)).canLay0 = true := rfl
    have hf : flatP (ofRow (plc o r)) = true := by by_cases q : o = 0 <;> simp [plc, ofRow, q, flatP]
    rw [List.map_cons, keysV, hk, keysV_rows o rs]
    simp [hc, hf]
theorem leV_plc (o : Int) (a b : Row) : leV (ofRow (plc o a)) (ofRow (plc o b)) = leO o a b := by
  by_cases q : o = 0
  · have := leV_row [a.1] [b.1]
    simp only [plc, q, if_true, leO]
    rw [this, decide_eq_decide, List.le_iff_lt_or_eq]
    simp [List.cons_lt_cons_iff]
    omega
  · simp only [plc, q, if_false, leO]
    exact leV_2 (a.2, a.1) (b.2, b.1)
theorem sortKV_rows {o : Int} {rs : List Row} (h : rs.length ≤ lineN) : sortKV (rs.map fun r => (ofRow (plc o r), e2 r)) = some (.lst ((ordR o rs).map e2)) := by
  unfold sortKV
  rw [if_pos]
  · rw [isort_eq leK_total, ← PySem.W.sort_maps (r := leO o) (s := fun p q : PV × PV => leV p.1 q.1) (fun r => (ofRow (plc o r), e2 r)) fun a _ b _ => (leV_plc o a b).symm, List.map_map]
    rfl
  · rw [List.map_map]
    refine sortOk_e (e := fun r => ofRow (plc o r)) h (fun x => ?_) (fun x => ?_) fun x y => ?_
    · by_cases q : o = 0 <;> simp [plc, ofRow, q]
    · by_cases q : o = 0 <;> simp [plc, ofRow, q, toD, toDs, PyData.depth, PyData.depthAll] <;> rfl
    · by_cases q : o = 0 <;> simp [plc, ofRow, q] <;> rfl
end Py

set_option Elab.async false
set_option linter.all false
set_option maxRecDepth 100000
set_option maxHeartbeats 4000000
/-! Py: late rows, in plain words. -/
namespace Py
open PySem L2
abbrev L3 := Int × Int × Int
def tm (lag : Int) (r : L3) : Int := r.2.1 + (if lag > r.2.2 then lag else r.2.2)
def ks (r : L3) : Row := (r.1, r.2.1)
def seenR (rs : List L3) (lag c : Int) : List Row := (rs.filter fun r => decide (tm lag r ≤ c)).map ks
def atR (m : Int) (last : Option Row) (seen : List Row) : Nat := match last with
  | none => 0 | some l => begR 1 m 0 l seen
def pgAt (rs : List L3) (lag m : Int) (size : Nat) (c : Int) (last : Option Row) : List Row := ((ordR 1 (seenR rs lag c)).drop (atR m last (seenR rs lag c))).take size
def lastOr (p : List Row) (l : Option Row) : Option Row := match p.getLast? with
  | none => l | some r => some r
def pagesI (rs : List L3) (lag m : Int) (size : Nat) : Option Row → List Int → List (List Row)
  | _, [] => []
  | last, c :: cs => pgAt rs lag m size c last :: pagesI rs lag m size (lastOr (pgAt rs lag m size c last) last) cs
def passI (rs : List L3) (m : Int) (got : List Row) : List Int := match got.getLast? with
  | none => []
  | some l => (rs.filter fun r => decide (ks r ∉ got) && !HT.lexLt (mrk 1 m l) (mrk 1 m (ks r))).map (·.1)
theorem seenR_len (rs : List L3) (lag c : Int) : (seenR rs lag c).length ≤ rs.length := by
  unfold seenR
  rw [List.length_map]
  exact List.length_filter_le _ _
theorem pgAt_len {rs : List L3} {lag m c : Int} {size : Nat} {last : Option Row} : (pgAt rs lag m size c last).length ≤ rs.length := by
  unfold pgAt
  rw [List.length_take, List.length_drop, ordR_len]
  have := seenR_len rs lag c
  omega
end Py

set_option Elab.async false
set_option linter.all false
set_option maxRecDepth 100000
set_option maxHeartbeats 4000000
/-! Py: late rows: the mathematics. -/
namespace Py
open PySem L2
theorem drop_filter {α : Type} {R : α → α → Prop} (f : α → Bool) (mono : ∀ a b, R a b → f b = true → f a = true) : ∀ {xs : List α}, xs.Pairwise R → xs.drop (xs.filter f).length = xs.filter fun x => !f x
  | [], _ => rfl
  | x :: xs, h => by
    have h' := List.pairwise_cons.mp h
    have ih := drop_filter f mono h'.2
    by_cases q : f x = true
    · rw [List.filter_cons_of_pos q, List.length_cons, List.drop_succ_cons, ih, List.filter_cons_of_neg (by simp [q])]
    · have none_ : xs.filter f = [] := List.filter_eq_nil_iff.mpr fun y hy z => q (mono x y (h'.1 y hy) z)
      rw [List.filter_cons_of_neg q, none_]
      have all_ : xs.filter (fun x => !f x) = xs := List.filter_eq_self.mpr fun y hy => by
        have := List.filter_eq_nil_iff.mp none_ y hy
        simpa using this
      rw [List.filter_cons_of_pos (by simpa using q), all_]
      rfl
theorem lt1 (a b : Int) : HT.lexLt [a] [b] = decide (a < b) := by
  rw [HT.lexLt_cons]
  by_cases q : a = b
  · subst q; simp [HT.lexLt]
  · simp [q]
theorem lt2 (a b c e : Int) : HT.lexLt [a, b] [c, e] = decide (a < c ∨ a = c ∧ b < e) := by
  rw [HT.lexLt_cons, lt1]
  by_cases q : a = c
  · subst q; simp
  · simp [q]
def isM (m : Int) : Prop := m = 1 ∨ m = 2
/-- beyond the last row -/
def yon (m : Int) (l own : Row) : Bool := HT.lexLt (mrk 1 m l) (mrk 1 m own)
theorem yon_1 (l own : Row) : yon 1 l own = decide (l.2 < own.2) := by simp [yon, mrk, plc, lt1]
theorem yon_2 (l own : Row) : yon 2 l own = decide (l.2 < own.2 ∨ l.2 = own.2 ∧ l.1 < own.1) := by simp [yon, mrk, plc, lt2]
theorem not_yon {m : Int} (hm : isM m) (l own : Row) : (HT.lexLt (mrk 1 m own) (mrk 1 m l) || (decide (mrk 1 m own = mrk 1 m l) && decide ((0 : Int) = 0))) = !yon m l own := by
  rcases hm with rfl | rfl
  · have e : mrk 1 1 own = [own.2] := by simp [mrk, plc]
    have e' : mrk 1 1 l = [l.2] := by simp [mrk, plc]
    rw [yon_1, e, e', lt1]
    rw [Bool.eq_iff_iff]
    simp
    omega
  · have e : mrk 1 2 own = [own.2, own.1] := by simp [mrk, plc]
    have e' : mrk 1 2 l = [l.2, l.1] := by simp [mrk, plc]
    rw [yon_2, e, e', lt2]
    rw [Bool.eq_iff_iff]
    simp
    omega
theorem le1_iff (a b : Row) : leO 1 a b = decide (a.2 < b.2 ∨ a.2 = b.2 ∧ a.1 ≤ b.1) := by simp [leO, le2]
theorem ordR_sorted (rs : List Row) : (ordR 1 rs).Pairwise fun a b => leO 1 a b = true :=
  List.pairwise_mergeSort (le := leO 1) (fun a b c h h' => by rw [le1_iff] at *; simp at *; omega) (fun a b => by rw [le1_iff, le1_iff]; simp; omega) rs
theorem ordR_perm (o : Int) (rs : List Row) : (ordR o rs).Perm rs := List.mergeSort_perm _ _
theorem ordR_eq {xs ys : List Row} (h : ys.Perm xs) (hs : ys.Pairwise fun a b => leO 1 a b = true) : ordR 1 xs = ys :=
  merge_eq (le := leO 1) (fun a b c h h' => by rw [le1_iff] at *; simp at *; omega) (fun a b => by rw [le1_iff, le1_iff]; simp; omega) (fun a b h h' => by
    obtain ⟨a1, a2⟩ := a
    obtain ⟨b1, b2⟩ := b
    rw [le1_iff] at *
    simp at *
    omega) h hs
theorem beg_drop {m : Int} (hm : isM m) (l : Row) (rs : List Row) : (ordR 1 rs).drop (begR 1 m 0 l rs) = (ordR 1 rs).filter (yon m l) := by
  unfold begR
  rw [show (fun own => HT.lexLt (mrk 1 m own) (mrk 1 m l) || (decide (mrk 1 m own = mrk 1 m l) && decide ((0 : Int) = 0))) = fun own => !yon m l own from funext fun own => not_yon hm l own]
  rw [drop_filter (R := fun a b => leO 1 a b = true) _ (fun a b hab hb => ?_) (ordR_sorted rs)]
  · simp
  · rw [le1_iff] at hab
    rcases hm with rfl | rfl
    · rw [yon_1] at *; simp at *; omega
    · rw [yon_2] at *; simp at *; omega
def yonO (m : Int) : Option Row → Row → Bool
  | none, _ => true | some l, own => yon m l own
def asked (rs : List L3) (lag m : Int) (size : Nat) (c : Int) (last : Option Row) : List Row := ((ordR 1 (seenR rs lag c)).filter (yonO m last)).take size
theorem pgAt_asked {rs : List L3} {lag m c : Int} {size : Nat} {last : Option Row} (hm : isM m) : pgAt rs lag m size c last = asked rs lag m size c last := by
  unfold pgAt asked
  cases last with
  | none =>
    rw [show (yonO m none) = fun _ => true from rfl, List.filter_eq_self.mpr fun _ _ => rfl]
    rfl
  | some l =>
    show ((ordR 1 _).drop (begR 1 m 0 l _)).take size = ((ordR 1 _).filter (yon m l)).take size
    rw [beg_drop hm]
/-! ### what is passed -/
theorem mem_asked {rs : List L3} {lag m c : Int} {size : Nat} {last : Option Row} {x : Row} (h : x ∈ asked rs lag m size c last) : yonO m last x = true ∧ ∃ r ∈ rs, x = ks r ∧ tm lag r ≤ c := by
  have h1 := List.mem_filter.mp (List.mem_of_mem_take h)
  refine ⟨h1.2, ?_⟩
  have h2 := (ordR_perm 1 _).mem_iff.mp h1.1
  unfold seenR at h2
  obtain ⟨r, hr, rfl⟩ := List.mem_map.mp h2
  obtain ⟨h3, h4⟩ := List.mem_filter.mp hr
  exact ⟨r, h3, rfl, by simpa using h4⟩
theorem asked_sorted {rs : List L3} {lag m c : Int} {size : Nat} {last : Option Row} : (asked rs lag m size c last).Pairwise fun a b => leO 1 a b = true :=
  ((ordR_sorted _).filter _).take
def pagesA (rs : List L3) (lag m : Int) (size : Nat) : Option Row → List Int → List (List Row)
  | _, [] => []
  | last, c :: cs => asked rs lag m size c last :: pagesA rs lag m size (lastOr (asked rs lag m size c last) last) cs
def lastA (rs : List L3) (lag m : Int) (size : Nat) : Option Row → List Int → Option Row
  | last, [] => last
  | last, c :: cs => lastA rs lag m size (lastOr (asked rs lag m size c last) last) cs
/-- what the law's own run tells as passed -/
def passA (rs : List L3) (m : Int) (last : Option Row) (keys : List Int) : List Int := (rs.filter fun r => !yonO m last (ks r) && decide (r.1 ∉ keys)).map (·.1)
theorem asked_len {rs : List L3} {lag m c : Int} {size : Nat} {last : Option Row} : (asked rs lag m size c last).length ≤ rs.length := by
  unfold asked
  have h1 := seenR_len rs lag c
  have h2 := List.length_filter_le (yonO m last) (ordR 1 (seenR rs lag c))
  rw [ordR_len] at h2
  rw [List.length_take]
  omega
theorem pagesI_A {rs : List L3} {lag m : Int} {size : Nat} (hm : isM m) : ∀ (cs : List Int) (last : Option Row), pagesI rs lag m size last cs = pagesA rs lag m size last cs
  | [], _ => rfl
  | c :: cs, last => by rw [pagesI, pagesA, pgAt_asked hm, pagesI_A hm cs]
end Py

set_option Elab.async false
set_option linter.all false
set_option maxRecDepth 100000
set_option maxHeartbeats 4000000
/-! Py: late rows: what is passed, and readings along the puts. -/
namespace Py
open PySem L2
section
variable {rs : List L3} {lag m : Int} {size : Nat}
theorem lastOr_app (p q : List Row) (l : Option Row) : lastOr (p ++ q) l = lastOr q (lastOr p l) := by
  unfold lastOr
  rw [List.getLast?_append]
  cases q.getLast? <;> cases p.getLast? <;> rfl
theorem last_flat : ∀ (cs : List Int) (last : Option Row), lastA rs lag m size last cs = lastOr (pagesA rs lag m size last cs).flatten last
  | [], _ => rfl
  | c :: cs, last => by rw [lastA, pagesA, List.flatten_cons, lastOr_app, last_flat cs]
theorem pagesA_app : ∀ (cs ds : List Int) (last : Option Row), pagesA rs lag m size last (cs ++ ds) = pagesA rs lag m size last cs ++ pagesA rs lag m size (lastA rs lag m size last cs) ds
  | [], _, _ => rfl
  | c :: cs, ds, last => by rw [List.cons_append, pagesA, pagesA, lastA, pagesA_app cs, List.cons_append]
theorem got_of : ∀ (cs : List Int) (last : Option Row) (x : Row), x ∈ (pagesA rs lag m size last cs).flatten → ∃ r ∈ rs, x = ks r
  | [], _, _, h => by cases h
  | c :: cs, last, x, h => by
    rw [pagesA, List.flatten_cons] at h
    rcases List.mem_append.mp h with h | h
    · obtain ⟨_, r, h1, h2, _⟩ := mem_asked h
      exact ⟨r, h1, h2⟩
    · exact got_of cs _ x h
theorem key_one (hp : rs.Pairwise fun a b => a.1 < b.1) {a b : L3} (ha : a ∈ rs) (hb : b ∈ rs) (e : a.1 = b.1) : a = b := by
  induction rs with
  | nil => cases ha
  | cons x xs ih =>
    have h := List.pairwise_cons.mp hp
    rcases List.mem_cons.mp ha with rfl | ha
    · rcases List.mem_cons.mp hb with rfl | hb
      · rfl
      · have := h.1 b hb; omega
    · rcases List.mem_cons.mp hb with q | hb
      · subst q; have := h.1 a (by assumption); omega
      · exact ih h.2 (by assumption) hb
theorem pass_same (hp : rs.Pairwise fun a b => a.1 < b.1) (cs : List Int) : passI rs m (pagesA rs lag m size none cs).flatten = passA rs m (lastA rs lag m size none cs) ((pagesA rs lag m size none cs).flatten.map (·.1)) := by
  rw [last_flat]
  have hg := got_of (rs := rs) (lag := lag) (m := m) (size := size) cs none
  generalize (pagesA rs lag m size none cs).flatten = got at *
  unfold passI passA lastOr
  cases got.getLast? with
  | none =>
    simp only
    rw [List.filter_eq_nil_iff.mpr (fun r _ => by simp [yonO])]
    rfl
  | some l =>
    simp only
    congr 1
    refine List.filter_congr fun r hr => ?_
    have e : (ks r ∈ got) ↔ r.1 ∈ got.map (·.1) := by
      constructor
      · intro h; exact List.mem_map.mpr ⟨_, h, rfl⟩
      · intro h
        obtain ⟨x, hx, e⟩ := List.mem_map.mp h
        obtain ⟨r', h1, rfl⟩ := hg x hx
        have : r' = r := key_one hp h1 hr e
        rw [← this]; exact hx
    show (decide (ks r ∉ got) && !yon m l (ks r)) = (!yonO m (some l) (ks r) && decide (r.1 ∉ got.map (·.1)))
    rw [Bool.and_comm]
    congr 1
    rw [decide_eq_decide, e]
theorem yon_trans (hm : isM m) {a b c : Row} (h1 : yon m a b = true) (h2 : yon m b c = true) : yon m a c = true := by
  rcases hm with rfl | rfl
  · rw [yon_1] at *; simp at *; omega
  · rw [yon_2] at *; simp at *; omega
theorem last_in {p : List Row} {l : Row} : lastOr p (some l) = some l ∨ ∃ x ∈ p, lastOr p (some l) = some x := by
  unfold lastOr
  cases h : p.getLast? with
  | none => exact .inl rfl
  | some x => exact .inr ⟨x, List.mem_of_getLast? h, rfl⟩
theorem beyond (hm : isM m) : ∀ (cs : List Int) (l : Row), (∀ x ∈ (pagesA rs lag m size (some l) cs).flatten, yon m l x = true) ∧ ∃ l', lastA rs lag m size (some l) cs = some l' ∧ (l' = l ∨ yon m l l' = true)
  | [], l => ⟨fun x h => (by cases h), l, rfl, .inl rfl⟩
  | c :: cs, l => by
    have h0 : ∀ x ∈ asked rs lag m size c (some l), yon m l x = true := fun x hx => (mem_asked hx).1
    rw [pagesA, lastA]
    rcases last_in (p := asked rs lag m size c (some l)) (l := l) with e | ⟨x0, hx0, e⟩
    · rw [e]
      obtain ⟨h1, h2⟩ := beyond hm cs l
      refine ⟨fun x hx => ?_, h2⟩
      rw [List.flatten_cons] at hx
      rcases List.mem_append.mp hx with hx | hx
      · exact h0 x hx
      · exact h1 x hx
    · rw [e]
      obtain ⟨h1, l', h2, h3⟩ := beyond hm cs x0
      have hy := h0 x0 hx0
      refine ⟨fun x hx => ?_, l', h2, .inr ?_⟩
      · rw [List.flatten_cons] at hx
        rcases List.mem_append.mp hx with hx | hx
        · exact h0 x hx
        · exact yon_trans hm hy (h1 x hx)
      · rcases h3 with rfl | h3
        · exact hy
        · exact yon_trans hm hy h3
/-- once passed, always passed -/
theorem pass_more (hm : isM m) (cs ds : List Int) : ∀ k ∈ passI rs m (pagesA rs lag m size none cs).flatten, k ∈ passI rs m (pagesA rs lag m size none (cs ++ ds)).flatten := by
  intro k hk
  rw [pagesA_app, List.flatten_append]
  have hl := last_flat (rs := rs) (lag := lag) (m := m) (size := size) cs none
  generalize (pagesA rs lag m size none cs).flatten = got at *
  unfold passI at hk
  cases hg : got.getLast? with
  | none => rw [hg] at hk; cases hk
  | some l =>
    rw [hg] at hk
    simp only at hk
    have hla : lastA rs lag m size none cs = some l := by rw [hl]; unfold lastOr; rw [hg]
    rw [hla]
    obtain ⟨h1, l', h2, h3⟩ := beyond (rs := rs) (lag := lag) (size := size) hm ds l
    have hl2 := last_flat (rs := rs) (lag := lag) (m := m) (size := size) ds (some l)
    rw [h2] at hl2
    generalize (pagesA rs lag m size (some l) ds).flatten = ext at *
    have hlast : (got ++ ext).getLast? = some l' := by
      rw [List.getLast?_append, hg]
      unfold lastOr at hl2
      cases he : ext.getLast? with
      | none => rw [he] at hl2; simp at hl2 ⊢; exact hl2.symm
      | some x => rw [he] at hl2; simp at hl2 ⊢; exact hl2.symm
    unfold passI
    rw [hlast]
    simp only
    obtain ⟨r, hr, rfl⟩ := List.mem_map.mp hk
    refine List.mem_map.mpr ⟨r, ?_, rfl⟩
    obtain ⟨hr1, hr2⟩ := List.mem_filter.mp hr
    refine List.mem_filter.mpr ⟨hr1, ?_⟩
    have hr2' : decide (ks r ∉ got) = true ∧ yon m l (ks r) = false := by
      rw [Bool.and_eq_true] at hr2
      exact ⟨hr2.1, by have := hr2.2; rw [Bool.not_eq_true'] at this; exact this⟩
    have n1 : ks r ∉ got := of_decide_eq_true hr2'.1
    have n2 : ks r ∉ ext := fun z => by rw [h1 _ z] at hr2'; cases hr2'.2
    have n3 : yon m l' (ks r) = false := by
      rcases h3 with rfl | h3
      · exact hr2'.2
      · cases q : yon m l' (ks r) with
        | false => rfl
        | true => rw [yon_trans hm h3 q] at hr2'; cases hr2'.2
    rw [Bool.and_eq_true]
    refine ⟨decide_eq_true fun z => ?_, ?_⟩
    · rcases List.mem_append.mp z with z | z
      · exact n1 z
      · exact n2 z
    · show (!yon m l' (ks r)) = true
      rw [n3]; rfl
end
end Py

set_option Elab.async false
set_option linter.all false
set_option maxRecDepth 100000
set_option maxHeartbeats 4000000
/-! Py: late rows: readings along the puts. -/
namespace Py
open PySem L2
def putOf (t : L3) : Stp := .put t.2.1 t.2.2
def histS : List L3 → List Int → List Stp
  | _, [] => []
  | w, c :: cs => (w.filter fun t : L3 => decide (t.1 ≤ c)).map putOf ++ (.page :: histS (w.filter fun t : L3 => decide (c < t.1)) cs)
def cutS (size : Nat) : List (List Row) → List (List Row)
  | [] => []
  | p :: ps => p :: (if p.length < size then [] else cutS size ps)
theorem cutS_take (size : Nat) : ∀ ps : List (List Row), cutS size ps = ps.take (cutS size ps).length
  | [] => rfl
  | p :: ps => by
    rw [cutS]
    split
    · simp
    · rw [List.length_cons, List.take_succ_cons, ← cutS_take size ps]
theorem cutS_le (size : Nat) : ∀ ps : List (List Row), (cutS size ps).length ≤ ps.length
  | [] => Nat.le_refl _
  | p :: ps => by
    rw [cutS]
    split
    · simp
    · have := cutS_le size ps
      simp only [List.length_cons]; omega
theorem cutS_short (size : Nat) : ∀ ps : List (List Row), (cutS size ps).length < ps.length → ∃ p, ps[(cutS size ps).length - 1]? = some p ∧ p.length < size
  | [], h => by simp at h
  | p :: ps, h => by
    rw [cutS] at h ⊢
    split at h
    · rename_i q
      rw [if_pos q]
      exact ⟨p, rfl, q⟩
    · rename_i q
      rw [if_neg q]
      have h' : (cutS size ps).length < ps.length := by simp only [List.length_cons] at h; omega
      obtain ⟨p', h1, h2⟩ := cutS_short size ps h'
      cases hc : cutS size ps with
      | nil =>
        cases ps with
        | nil => simp at h'
        | cons a b => rw [cutS] at hc; cases hc
      | cons a b =>
        rw [hc] at h1
        refine ⟨p', ?_, h2⟩
        simpa using h1
section
variable {rs : List L3} {lag m : Int} {size : Nat}
theorem along_over {t : Tb} : ∀ (h : List Stp) (R : Rdg), R.over = true → alongI t size R h = []
  | [], _, _ => rfl
  | c :: cs, R, ho => by
    rw [alongI, if_neg (by rw [ho]; simp), List.nil_append]
    refine along_over cs _ ?_
    cases c with
    | page => show (pagedR t size R).over = true; unfold pagedR; rw [if_pos ho]; exact ho
    | put k r => exact ho
    | drop k => exact ho
theorem along_puts {t : Tb} : ∀ (ps : List L3) (h : List Stp) (R : Rdg), alongI t size R (ps.map putOf ++ h) = alongI t size { R with now := ps.foldl (fun a q => chg a (putOf q)) R.now } h
  | [], _, _ => rfl
  | p :: ps, h, R => by
    rw [List.map_cons, List.cons_append, alongI, if_neg (by simp [putOf]), List.nil_append]
    show alongI t size { R with now := chg R.now (putOf p) } (ps.map putOf ++ h) = _
    rw [along_puts ps]
    rfl
theorem puts_perm : ∀ (ps : List L3) (A : List Row), (∀ p ∈ ps, p.2.1 ∉ A.map (·.1)) → (ps.map fun p => p.2.1).Nodup → A.Pairwise (fun a b => le2 a b = true) →
    (ps.foldl (fun a q => chg a (putOf q)) A).Perm (A ++ ps.map fun p => (p.2.1, p.2.2)) ∧ (ps.foldl (fun a q => chg a (putOf q)) A).Pairwise fun a b => le2 a b = true
  | [], A, _, _, hs => ⟨by simp, hs⟩
  | p :: ps, A, h1, h2, hs => by
    have n2 := List.nodup_cons.mp h2
    have hf : A.filter (fun x => decide (x.1 ≠ p.2.1)) = A := List.filter_eq_self.mpr fun x hx => decide_eq_true fun z => h1 p List.mem_cons_self (List.mem_map.mpr ⟨x, hx, z⟩)
    have hc : chg A (putOf p) = (A ++ [(p.2.1, p.2.2)]).mergeSort le2 := by
      show (A.filter (fun x => decide (x.1 ≠ p.2.1)) ++ [(p.2.1, p.2.2)]).mergeSort le2 = _
      rw [hf]
    have hp : (chg A (putOf p)).Perm (A ++ [(p.2.1, p.2.2)]) := by rw [hc]; exact List.mergeSort_perm _ _
    have hsrt : (chg A (putOf p)).Pairwise fun a b => le2 a b = true := by
      rw [hc]
      exact List.pairwise_mergeSort (le := le2) (fun _ _ _ => le2_tr) le2_to _
    obtain ⟨k1, k2⟩ := puts_perm ps (chg A (putOf p)) (fun q hq z => by
      obtain ⟨x, hx, e⟩ := List.mem_map.mp z
      rcases List.mem_append.mp (hp.mem_iff.mp hx) with hx | hx
      · exact h1 q (List.mem_cons_of_mem _ hq) (List.mem_map.mpr ⟨x, hx, e⟩)
      · rw [List.mem_singleton.mp hx] at e
        exact n2.1 (List.mem_map.mpr ⟨q, hq, e.symm⟩)) n2.2 hsrt
    refine ⟨k1.trans ?_, k2⟩
    rw [List.map_cons]
    have := hp.append_right (ps.map fun p => (p.2.1, p.2.2))
    rwa [List.append_assoc] at this
def waitsR (rs : List L3) (lag : Int) : List L3 := (rs.map fun r => (tm lag r, r.1, r.2.1)).mergeSort le3
theorem rows_sorted (hp : rs.Pairwise fun a b => a.1 < b.1) (p : L3 → Bool) : ((rs.filter p).map ks).Pairwise fun a b => le2 a b = true := by
  rw [List.pairwise_map]
  exact (hp.filter p).imp fun h => decide_eq_true (Or.inl h)
/-- the rows that have come -/
theorem come_now (hp : rs.Pairwise fun a b => a.1 < b.1) (p q : Int → Bool) (hpq : ∀ t, p t = true → q t = true) : ((waitsR rs lag).filter fun t => !p t.1 && q t.1).foldl (fun a x => chg a (putOf x)) ((rs.filter fun r => p (tm lag r)).map ks) = (rs.filter fun r => q (tm lag r)).map ks := by
  have hw : (waitsR rs lag).Perm (rs.map fun r => (tm lag r, r.1, r.2.1)) := List.mergeSort_perm _ _
  have hwf := hw.filter fun t : L3 => !p t.1 && q t.1
  rw [List.filter_map] at hwf
  have nd : (rs.map (·.1)).Nodup := by
    rw [List.nodup_iff_pairwise_ne, List.pairwise_map]
    exact hp.imp fun h => by omega
  obtain ⟨k1, k2⟩ := puts_perm ((waitsR rs lag).filter fun t => !p t.1 && q t.1) ((rs.filter fun r => p (tm lag r)).map ks) (fun x hx z => by
    obtain ⟨r, hr, rfl⟩ := List.mem_map.mp (hwf.mem_iff.mp hx)
    obtain ⟨y, hy, e⟩ := List.mem_map.mp z
    obtain ⟨r', hr', rfl⟩ := List.mem_map.mp hy
    obtain ⟨g1, g2⟩ := List.mem_filter.mp hr
    obtain ⟨g3, g4⟩ := List.mem_filter.mp hr'
    have : r' = r := key_one hp g3 g1 e
    subst this
    simp [Function.comp] at g2
    rw [g2.1] at g4
    cases g4) (by
    refine (hwf.map fun t => t.2.1).nodup_iff.mpr ?_
    rw [List.map_map]
    exact (List.filter_sublist.map _).nodup nd) (rows_sorted hp _)
  have hperm : ((rs.filter fun r => q (tm lag r)).map ks).Perm (((rs.filter fun r => p (tm lag r)).map ks) ++ (((waitsR rs lag).filter fun t => !p t.1 && q t.1).map fun x => (x.2.1, x.2.2))) := by
    have h1 := hwf.map fun x : L3 => (x.2.1, x.2.2)
    rw [List.map_map] at h1
    refine List.Perm.trans ?_ (h1.symm.append_left _)
    show List.Perm _ (((rs.filter fun r => p (tm lag r)).map ks) ++ ((rs.filter fun r => !p (tm lag r) && q (tm lag r)).map ks))
    rw [← List.map_append]
    refine List.Perm.map ks ?_
    have h2 := List.filter_append_perm (fun r => p (tm lag r)) (rs.filter fun r => q (tm lag r))
    rw [List.filter_filter, List.filter_filter] at h2
    rw [show (fun r => p (tm lag r) && q (tm lag r)) = fun r => p (tm lag r) from funext fun r => by
      cases h : p (tm lag r) with
      | false => rfl
      | true => rw [hpq _ h]; rfl] at h2
    exact h2.symm
  have e1 := sort2_eq (k1.trans hperm.symm) k2
  have e2' := sort2_eq (List.Perm.refl _) (rows_sorted hp fun r => q (tm lag r))
  rw [← e1, e2']
end
end Py

set_option Elab.async false
set_option linter.all false
set_option maxRecDepth 100000
set_option maxHeartbeats 4000000
/-! Py: late rows: pages along the puts are the pages by polls. -/
namespace Py
open PySem L2
section
variable {rs : List L3} {lag m : Int} {size : Nat}
def lateTb (m : Int) : Tb := ⟨1, m, 0, 0, 0, 0⟩
theorem page_late (hm : isM m) {R : Rdg} {c : Int} (hn : R.now = seenR rs lag c) : pageR (lateTb m) size R = pgAt rs lag m size c R.last := by
  have m0 : ¬ m = 0 := by rcases hm with rfl | rfl <;> decide
  have hv : viewR (lateTb m) R = ordR 1 (seenR rs lag c) := by simp [viewR, lateTb, hn]
  have hb : ∀ l, begR 1 m 0 l (ordR 1 (seenR rs lag c)) = begR 1 m 0 l (seenR rs lag c) := fun l => by
    unfold begR
    rw [show ordR 1 (ordR 1 (seenR rs lag c)) = ordR 1 (seenR rs lag c) from ordR_eq (List.Perm.refl _) (ordR_sorted _)]
  unfold pageR startR pgAt
  rw [hv]
  cases hl : R.last with
  | none => simp [lateTb, m0, atR]
  | some l => simp [lateTb, m0, atR, hb]
theorem along_pages (hm : isM m) (hp : rs.Pairwise fun a b => a.1 < b.1) : ∀ (cs : List Int) (p : Int → Bool) (R : Rdg), R.now = (rs.filter fun r => p (tm lag r)).map ks → R.over = false → cs.Pairwise (· ≤ ·) → (∀ c ∈ cs, ∀ t, p t = true → t ≤ c) →
    alongI (lateTb m) size R (histS ((waitsR rs lag).filter fun t => !p t.1) cs) = cutS size (pagesI rs lag m size R.last cs)
  | [], _, _, _, _, _, _ => rfl
  | c :: cs, p, R, hn, ho, hs, hpc => by
    have hs' := List.pairwise_cons.mp hs
    rw [histS, along_puts]
    have e1 : (((waitsR rs lag).filter fun t => !p t.1).filter fun t : L3 => decide (t.1 ≤ c)) = (waitsR rs lag).filter fun t => !p t.1 && decide (t.1 ≤ c) := by
      rw [List.filter_filter]
      refine List.filter_congr fun t _ => ?_
      rw [Bool.and_comm]
    have e2' : (((waitsR rs lag).filter fun t => !p t.1).filter fun t : L3 => decide (c < t.1)) = (waitsR rs lag).filter fun t => !decide (t.1 ≤ c) := by
      rw [List.filter_filter]
      refine List.filter_congr fun t _ => ?_
      cases h : p t.1 with
      | false => by_cases q : t.1 ≤ c <;> simp [q] <;> omega
      | true =>
        have := hpc c List.mem_cons_self t.1 h
        simp [this]
    rw [e1, e2', hn, come_now hp p (fun t => decide (t ≤ c)) fun t ht => decide_eq_true (hpc c List.mem_cons_self t ht)]
    obtain ⟨R1, hR1⟩ : ∃ R1, R1 = ({ R with now := (rs.filter fun r => decide (tm lag r ≤ c)).map ks } : Rdg) := ⟨_, rfl⟩
    rw [← hR1]
    have n1 : R1.now = seenR rs lag c := by rw [hR1]; rfl
    have l1 : R1.last = R.last := by rw [hR1]
    have o1 : R1.over = false := by rw [hR1]; exact ho
    have hpg := page_late (rs := rs) (lag := lag) (size := size) hm n1
    rw [l1] at hpg
    have hpd : pagedR (lateTb m) size R1 = ⟨R1.now, some (R1.first.getD R1.now), R1.got ++ pgAt rs lag m size c R.last, R1.sent + (pgAt rs lag m size c R.last).length, lastOr (pgAt rs lag m size c R.last) R.last, decide ((pgAt rs lag m size c R.last).length < size)⟩ := by
      unfold pagedR
      rw [if_neg (by rw [o1]; decide), hpg, l1]
      have : newR (lateTb m) R1 (pgAt rs lag m size c R.last) = pgAt rs lag m size c R.last := by simp [newR, lateTb]
      rw [this]
      rfl
    rw [alongI, if_pos ⟨rfl, o1⟩]
    show [(pagedR (lateTb m) size R1).got.drop R1.got.length] ++ alongI (lateTb m) size (pagedR (lateTb m) size R1) _ = _
    rw [hpd, pagesI, cutS]
    have hd : (R1.got ++ pgAt rs lag m size c R.last).drop R1.got.length = pgAt rs lag m size c R.last := by simp
    show (R1.got ++ pgAt rs lag m size c R.last).drop R1.got.length :: alongI _ _ _ _ = _
    rw [hd]
    congr 1
    by_cases q : (pgAt rs lag m size c R.last).length < size
    · rw [if_pos q, along_over _ _ (decide_eq_true q)]
    · rw [if_neg q]
      refine along_pages hm hp cs (fun t => decide (t ≤ c)) _ ?_ (decide_eq_false q) hs'.2 ?_
      · exact n1
      · intro c' hc' t ht
        have := of_decide_eq_true ht
        have := hs'.1 c' hc'
        omega
/-- of all late rows, from the start -/
theorem along_late (hm : isM m) (hp : rs.Pairwise fun a b => a.1 < b.1) {cs : List Int} (hs : cs.Pairwise (· ≤ ·)) : alongI (lateTb m) size (begunR []) (histS (waitsR rs lag) cs) = cutS size (pagesI rs lag m size none cs) := by
  have := along_pages (rs := rs) (lag := lag) (size := size) hm hp cs (fun _ => false) (begunR []) (by simp [begunR]) rfl hs fun _ _ _ h => by cases h
  rw [show ((waitsR rs lag).filter fun t => !(fun _ : Int => false) t.1) = waitsR rs lag from List.filter_eq_self.mpr fun _ _ => rfl] at this
  exact this
theorem histS_len : ∀ (cs : List Int) (w : List L3), (histS w cs).length ≤ w.length + cs.length
  | [], w => by simp [histS]
  | c :: cs, w => by
    have ih := histS_len cs (w.filter fun t : L3 => decide (c < t.1))
    have hsum : (w.filter fun t : L3 => decide (t.1 ≤ c)).length + (w.filter fun t : L3 => decide (c < t.1)).length = w.length := by
      have := (List.filter_append_perm (fun t : L3 => decide (t.1 ≤ c)) w).length_eq
      rw [List.length_append] at this
      rw [← this]
      congr 2
      refine List.filter_congr fun t _ => ?_
      by_cases q : t.1 ≤ c <;> simp [q] <;> omega
    rw [histS, List.length_append, List.length_map, List.length_cons, List.length_cons]
    omega
theorem histS_mem : ∀ (cs : List Int) (w : List L3) (s : Stp), s ∈ histS w cs → s = .page ∨ ∃ t ∈ w, s = putOf t
  | [], w, s, h => by cases h
  | c :: cs, w, s, h => by
    rw [histS] at h
    rcases List.mem_append.mp h with h | h
    · obtain ⟨t, ht, rfl⟩ := List.mem_map.mp h
      exact .inr ⟨t, (List.mem_filter.mp ht).1, rfl⟩
    · rcases List.mem_cons.mp h with rfl | h
      · exact .inl rfl
      · rcases histS_mem cs _ s h with h | ⟨t, ht, e⟩
        · exact .inl h
        · exact .inr ⟨t, (List.mem_filter.mp ht).1, e⟩
end
end Py

set_option Elab.async false
set_option linter.all false
set_option maxRecDepth 100000
set_option maxHeartbeats 4000000
namespace Py.K92
open PySem Py L2
def top (i : Nat) : Stmt := PySem.Challenge.pw_pagesread_k92_whole_polls_of_late_rows.main.body.getD i (.Pass ⟨0, 0, 0, 0⟩)
def p_is_tuple_of : FDef := { name := "is_tuple_of", np := 3, nl := 3, own := [], fresh := false, body := (.cons (.ret (.and (.isin (.var 0) .tuple) (.chain .LtE .LtE (.var 1) (.blt .len (.cons (.var 0) .nil)) (.var 2))))
    .nil) }
def p_fits_whole : FDef := { name := "fits_whole", np := 3, nl := 3, own := [], fresh := false, body := (.cons (.ret (.and (.isin (.var 0) .int) (.and (.not (.isin (.var 0) .bool)) (.chain .LtE .LtE (.var 1) (.var 0) (.var 2)))))
    .nil) }
def p_fits_row : FDef := { name := "fits_row", np := 1, nl := 1, own := [], fresh := false, body := (.cons (.ret (.and (.call "is_tuple_of" (.cons (.var 0) (.cons (.cst (.int 2)) (.cons (.cst (.int 2)) .nil)))) (.and (.call "fits_whole" (.cons (.idx (.var 0) (.glb "KEY" (.int 0))) (.cons (.cst (.int 0)) (.cons (.bin .Sub (.glb "KEYS" (.int 10)) (.cst (.int 1))) .nil)))) (.call "fits_whole" (.cons (.idx (.var 0) (.glb "RANK" (.int 1))) (.cons (.cst (.int 0)) (.cons (.bin .Sub (.glb "RANKS" (.int 6)) (.cst (.int 1))) .nil)))))))
    .nil) }
def p_fits_list : FDef := { name := "fits_list", np := 1, nl := 4, own := [], fresh := false, body := (.cons (.ite (.or (.not (.call "is_tuple_of" (.cons (.var 0) (.cons (.cst (.int 0)) (.cons (.glb "KEYS" (.int 10)) .nil))))) (.not (.blt .all1 (.cons (.comp [3] (.call "fits_row" (.cons (.var 3) .nil)) (.one 3) (.seq (.var 0)) .no) .nil))))
    (.cons (.ret (.cst (.bl false)))
    .nil)
    .nil)
    (.cons (.ret (.blt .all1 (.cons (.comp [1, 2] (.cmp .Lt (.idx (.var 1) (.glb "KEY" (.int 0))) (.idx (.var 2) (.glb "KEY" (.int 0)))) (.tup [1, 2]) (.zip2 (.var 0) (.slc (.var 0) (.yes (.cst (.int 1))) .no)) .no) .nil)))
    .nil)) }
def p_fits_change : FDef := { name := "fits_change", np := 1, nl := 1, own := [], fresh := false, body := (.cons (.ite (.or (.not (.call "is_tuple_of" (.cons (.var 0) (.cons (.cst (.int 2)) (.cons (.cst (.int 3)) .nil))))) (.not (.isin (.idx (.var 0) (.cst (.int 0))) .str)))
    (.cons (.ret (.cst (.bl false)))
    .nil)
    .nil)
    (.cons (.ite (.cmp .Eq (.idx (.var 0) (.cst (.int 0))) (.cst (.str "put")))
    (.cons (.ret (.and (.cmp .Eq (.blt .len (.cons (.var 0) .nil)) (.cst (.int 3))) (.call "fits_row" (.cons (.slc (.var 0) (.yes (.cst (.int 1))) .no) .nil))))
    .nil)
    .nil)
    (.cons (.ret (.and (.cmp .Eq (.idx (.var 0) (.cst (.int 0))) (.cst (.str "drop"))) (.and (.cmp .Eq (.blt .len (.cons (.var 0) .nil)) (.cst (.int 2))) (.call "fits_whole" (.cons (.idx (.var 0) (.cst (.int 1))) (.cons (.cst (.int 0)) (.cons (.bin .Sub (.glb "KEYS" (.int 10)) (.cst (.int 1))) .nil)))))))
    .nil))) }
def p_changed_in : FDef := { name := "changed_in", np := 2, nl := 4, own := [], fresh := false, body := (.cons (.set 2 (.comp [3] (.var 3) (.one 3) (.seq (.var 0)) (.yes (.cmp .NotEq (.idx (.var 3) (.glb "KEY" (.int 0))) (.idx (.var 1) (.cst (.int 1)))))))
    (.cons (.ret (.blt .tuple1 (.cons (.blt .sorted1 (.cons (.cat (.var 2) (.ite (.cmp .Eq (.idx (.var 1) (.cst (.int 0))) (.cst (.str "put"))) (.lst (.cons (.slc (.var 1) (.yes (.cst (.int 1))) .no) .nil)) (.lst .nil))) .nil)) .nil)))
    .nil)) }
def p_keys_in : FDef := { name := "keys_in", np := 1, nl := 2, own := [], fresh := false, body := (.cons (.ret (.comp [1] (.idx (.var 1) (.glb "KEY" (.int 0))) (.one 1) (.seq (.var 0)) .no))
    .nil) }
def p_need_list : FDef := { name := "need_list", np := 1, nl := 1, own := [], fresh := false, body := (.cons (.ite (.not (.call "fits_list" (.cons (.var 0) .nil)))
    (.cons .never
    .nil)
    .nil)
    .nil) }
def p_place_of : FDef := { name := "place_of", np := 2, nl := 2, own := [], fresh := false, body := (.cons (.ret (.ite (.cmp .Eq (.var 0) (.glb "BY_KEY" (.int 0))) (.tup (.cons (.idx (.var 1) (.glb "KEY" (.int 0))) .nil)) (.tup (.cons (.idx (.var 1) (.glb "RANK" (.int 1))) (.cons (.idx (.var 1) (.glb "KEY" (.int 0))) .nil)))))
    .nil) }
def p_ordered_in : FDef := { name := "ordered_in", np := 2, nl := 2, own := [], fresh := false, body := (.cons (.ret (.blt .tuple1 (.cons (.sortK (.var 1) 0 "place_of" (.ite (.par 0) (.glb "BY_KEY" 0) (.tup1 (.idx (.par 1) (.glb "KEY" 0))) (.tup2 (.idx (.par 1) (.glb "RANK" 1)) (.idx (.par 1) (.glb "KEY" 0))))) .nil)))
    .nil) }
def p_mark_of : FDef := { name := "mark_of", np := 3, nl := 3, own := [], fresh := false, body := (.cons (.ret (.ite (.cmp .Eq (.var 1) (.cst (.int 2))) (.call "place_of" (.cons (.var 0) (.cons (.var 2) .nil))) (.slc (.call "place_of" (.cons (.var 0) (.cons (.var 2) .nil))) .no (.yes (.cst (.int 1))))))
    .nil) }
def p_begin_in : FDef := { name := "begin_in", np := 5, nl := 9, own := [], fresh := false, body := (.cons (.par [(6, false), (7, false)] (.cons (.call "mark_of" (.cons (.var 0) (.cons (.var 1) (.cons (.var 3) .nil)))) (.cons (.cst (.int 0)) .nil)))
    (.cons (.loop (.one 5) (.seq (.call "ordered_in" (.cons (.var 0) (.cons (.var 4) .nil))))
    (.cons (.set 8 (.call "mark_of" (.cons (.var 0) (.cons (.var 1) (.cons (.var 5) .nil)))))
    (.cons (.ite (.or (.cmp .Lt (.var 8) (.var 6)) (.and (.cmp .Eq (.var 8) (.var 6)) (.cmp .Eq (.var 2) (.cst (.int 0)))))
    (.cons (.aug 7 .Add (.cst (.int 1)))
    .nil)
    .nil)
    .nil)))
    (.cons (.ret (.var 7))
    .nil))) }
def p_need_size : FDef := { name := "need_size", np := 1, nl := 1, own := [], fresh := false, body := (.cons (.ite (.not (.call "fits_whole" (.cons (.var 0) (.cons (.cst (.int 1)) (.cons (.glb "SIZE" (.int 3)) .nil)))))
    (.cons .never
    .nil)
    .nil)
    .nil) }
def p_fits_table : FDef := { name := "fits_table", np := 1, nl := 3, own := [], fresh := false, body := (.cons (.ite (.not (.call "is_tuple_of" (.cons (.var 0) (.cons (.blt .len (.cons (.glb "MOST" (.tup [(.int 1), (.int 2), (.int 1), (.int 1), (.int 1), (.int 2)])) .nil)) (.cons (.blt .len (.cons (.glb "MOST" (.tup [(.int 1), (.int 2), (.int 1), (.int 1), (.int 1), (.int 2)])) .nil)) .nil)))))
    (.cons (.ret (.cst (.bl false)))
    .nil)
    .nil)
    (.cons (.ret (.blt .all1 (.cons (.comp [1, 2] (.call "fits_whole" (.cons (.var 1) (.cons (.cst (.int 0)) (.cons (.var 2) .nil)))) (.tup [1, 2]) (.zip2 (.var 0) (.glb "MOST" (.tup [(.int 1), (.int 2), (.int 1), (.int 1), (.int 1), (.int 2)]))) .no) .nil)))
    .nil)) }
def p_begun : FDef := { name := "begun", np := 1, nl := 1, own := [], fresh := false, body := (.cons (.ret (.tup (.cons (.var 0) (.cons (.cst .non) (.cons (.tup .nil) (.cons (.cst (.int 0)) (.cons (.cst .non) (.cons (.cst (.int 0)) .nil))))))))
    .nil) }
def p_view_in : FDef := { name := "view_in", np := 2, nl := 3, own := [], fresh := false, body := (.cons (.set 2 (.ite (.and (.cmp .Eq (.idx (.var 0) (.glb "VIEW" (.int 3))) (.cst (.int 1))) (.cmp .IsNot (.idx (.var 1) (.glb "FIRST" (.int 1))) (.cst .non))) (.idx (.var 1) (.glb "FIRST" (.int 1))) (.idx (.var 1) (.glb "NOW" (.int 0)))))
    (.cons (.ret (.call "ordered_in" (.cons (.idx (.var 0) (.glb "ORDER" (.int 0))) (.cons (.var 2) .nil))))
    .nil)) }
def p_start_in : FDef := { name := "start_in", np := 2, nl := 4, own := [], fresh := false, body := (.cons (.par [(2, false), (3, false)] (.cons (.call "view_in" (.cons (.var 0) (.cons (.var 1) .nil))) (.cons (.idx (.var 1) (.glb "LAST" (.int 4))) .nil)))
    (.cons (.ite (.or (.cmp .Eq (.idx (.var 0) (.glb "MARK" (.int 1))) (.cst (.int 0))) (.cmp .Is (.var 3) (.cst .non)))
    (.cons (.ret (.ite (.cmp .Eq (.idx (.var 0) (.glb "MARK" (.int 1))) (.cst (.int 0))) (.idx (.var 1) (.glb "SENT" (.int 3))) (.cst (.int 0))))
    .nil)
    .nil)
    (.cons (.ite (.and (.cmp .NotIn (.var 3) (.var 2)) (.cmp .Gt (.idx (.var 0) (.glb "GONE" (.int 5))) (.cst (.int 0))))
    (.cons (.ret (.ite (.cmp .Eq (.idx (.var 0) (.glb "GONE" (.int 5))) (.cst (.int 1))) (.cst (.int 0)) (.cst .non)))
    .nil)
    .nil)
    (.cons (.ret (.call "begin_in" (.cons (.idx (.var 0) (.glb "ORDER" (.int 0))) (.cons (.idx (.var 0) (.glb "MARK" (.int 1))) (.cons (.idx (.var 0) (.glb "SAME" (.int 2))) (.cons (.var 3) (.cons (.var 2) .nil)))))))
    .nil)))) }
def p_page_in : FDef := { name := "page_in", np := 3, nl := 4, own := [], fresh := false, body := (.cons (.set 3 (.call "start_in" (.cons (.var 0) (.cons (.var 2) .nil))))
    (.cons (.ret (.ite (.cmp .IsNot (.var 3) (.cst .non)) (.slc (.call "view_in" (.cons (.var 0) (.cons (.var 2) .nil))) (.yes (.var 3)) (.yes (.bin .Add (.var 3) (.var 1)))) (.tup .nil)))
    .nil)) }
def p_new_in : FDef := { name := "new_in", np := 3, nl := 5, own := [], fresh := false, body := (.cons (.set 3 (.ite (.cmp .Eq (.idx (.var 0) (.glb "SEEN" (.int 4))) (.cst (.int 1))) (.call "keys_in" (.cons (.idx (.var 1) (.glb "GOT" (.int 2))) .nil)) (.lst .nil)))
    (.cons (.ret (.blt .tuple1 (.cons (.comp [4] (.var 4) (.one 4) (.seq (.var 2)) (.yes (.cmp .NotIn (.idx (.var 4) (.glb "KEY" (.int 0))) (.var 3)))) .nil)))
    .nil)) }
def p_paged_in : FDef := { name := "paged_in", np := 3, nl := 7, own := [], fresh := false, body := (.cons (.ite (.cmp .Eq (.idx (.var 2) (.glb "OVER" (.int 5))) (.cst (.int 1)))
    (.cons (.ret (.var 2))
    .nil)
    .nil)
    (.cons (.set 3 (.call "page_in" (.cons (.var 0) (.cons (.var 1) (.cons (.var 2) .nil)))))
    (.cons (.set 4 (.ite (.cmp .Is (.idx (.var 2) (.glb "FIRST" (.int 1))) (.cst .non)) (.idx (.var 2) (.glb "NOW" (.int 0))) (.idx (.var 2) (.glb "FIRST" (.int 1)))))
    (.cons (.par [(5, false), (6, false)] (.cons (.bin .Add (.idx (.var 2) (.glb "GOT" (.int 2))) (.call "new_in" (.cons (.var 0) (.cons (.var 2) (.cons (.var 3) .nil))))) (.cons (.ite (.cmp .NotEq (.var 3) (.tup .nil)) (.idx (.var 3) (.neg (.cst (.int 1)))) (.idx (.var 2) (.glb "LAST" (.int 4)))) .nil)))
    (.cons (.ret (.tup (.cons (.idx (.var 2) (.glb "NOW" (.int 0))) (.cons (.var 4) (.cons (.var 5) (.cons (.bin .Add (.idx (.var 2) (.glb "SENT" (.int 3))) (.blt .len (.cons (.var 3) .nil))) (.cons (.var 6) (.cons (.ite (.cmp .Lt (.blt .len (.cons (.var 3) .nil)) (.var 1)) (.cst (.int 1)) (.cst (.int 0))) .nil))))))))
    .nil))))) }
def p_changed_reading : FDef := { name := "changed_reading", np := 2, nl := 2, own := [], fresh := false, body := (.cons (.ret (.bin .Add (.tup (.cons (.call "changed_in" (.cons (.idx (.var 0) (.glb "NOW" (.int 0))) (.cons (.var 1) .nil))) .nil)) (.slc (.var 0) (.yes (.cst (.int 1))) .no)))
    .nil) }
def p_need_table : FDef := { name := "need_table", np := 1, nl := 1, own := [], fresh := false, body := (.cons (.ite (.not (.call "fits_table" (.cons (.var 0) .nil)))
    (.cons .never
    .nil)
    .nil)
    .nil) }
def p_fits_step : FDef := { name := "fits_step", np := 1, nl := 1, own := [], fresh := false, body := (.cons (.ret (.or (.and (.cmp .Eq (.var 0) (.glb "PAGE" (.tup [(.str "page")]))) (.isin (.var 0) .tuple)) (.call "fits_change" (.cons (.var 0) .nil))))
    .nil) }
def p_fits_history : FDef := { name := "fits_history", np := 1, nl := 2, own := [], fresh := false, body := (.cons (.ret (.and (.call "is_tuple_of" (.cons (.var 0) (.cons (.cst (.int 0)) (.cons (.glb "STEPS" (.int 60)) .nil)))) (.blt .all1 (.cons (.comp [1] (.call "fits_step" (.cons (.var 1) .nil)) (.one 1) (.seq (.var 0)) .no) .nil))))
    .nil) }
def p_stepped_in : FDef := { name := "stepped_in", np := 4, nl := 4, own := [], fresh := false, body := (.cons (.ret (.ite (.cmp .Eq (.var 3) (.glb "PAGE" (.tup [(.str "page")]))) (.call "paged_in" (.cons (.var 0) (.cons (.var 1) (.cons (.var 2) .nil)))) (.call "changed_reading" (.cons (.var 2) (.cons (.var 3) .nil)))))
    .nil) }
def p_need_run : FDef := { name := "need_run", np := 4, nl := 4, own := [], fresh := false, body := (.cons (.expr (.call "need_table" (.cons (.var 0) .nil)))
    (.cons (.expr (.call "need_size" (.cons (.var 1) .nil)))
    (.cons (.expr (.call "need_list" (.cons (.var 2) .nil)))
    (.cons (.ite (.not (.call "fits_history" (.cons (.var 3) .nil)))
    (.cons .never
    .nil)
    .nil)
    .nil)))) }
def p_pages_along : FDef := { name := "pages_along", np := 4, nl := 8, own := [5], fresh := false, body := (.cons (.expr (.call "need_run" (.cons (.var 0) (.cons (.var 1) (.cons (.var 2) (.cons (.var 3) .nil))))))
    (.cons (.par [(5, true), (6, false)] (.cons (.lst .nil) (.cons (.call "begun" (.cons (.var 2) .nil)) .nil)))
    (.cons (.loop (.one 4) (.seq (.var 3))
    (.cons (.set 7 (.call "stepped_in" (.cons (.var 0) (.cons (.var 1) (.cons (.var 6) (.cons (.var 4) .nil))))))
    (.cons (.ite (.and (.cmp .Eq (.var 4) (.glb "PAGE" (.tup [(.str "page")]))) (.cmp .Eq (.idx (.var 6) (.glb "OVER" (.int 5))) (.cst (.int 0))))
    (.cons (.app 5 (.slc (.idx (.var 7) (.glb "GOT" (.int 2))) (.yes (.blt .len (.cons (.idx (.var 6) (.glb "GOT" (.int 2))) .nil))) .no))
    .nil)
    .nil)
    (.cons (.set 6 (.var 7))
    .nil))))
    (.cons (.ret (.blt .tuple1 (.cons (.own 5) .nil)))
    .nil)))) }
def p_fits_late_row : FDef := { name := "fits_late_row", np := 1, nl := 1, own := [], fresh := false, body := (.cons (.ite (.or (.not (.call "is_tuple_of" (.cons (.var 0) (.cons (.cst (.int 3)) (.cons (.cst (.int 3)) .nil))))) (.not (.call "fits_whole" (.cons (.idx (.var 0) (.glb "KEY" (.int 0))) (.cons (.cst (.int 0)) (.cons (.bin .Sub (.glb "KEYS" (.int 10)) (.cst (.int 1))) .nil))))))
    (.cons (.ret (.cst (.bl false)))
    .nil)
    .nil)
    (.cons (.ret (.and (.call "fits_whole" (.cons (.idx (.var 0) (.glb "STAMP" (.int 1))) (.cons (.cst (.int 0)) (.cons (.bin .Sub (.glb "RANKS" (.int 6)) (.cst (.int 1))) .nil)))) (.call "fits_whole" (.cons (.idx (.var 0) (.glb "WAIT" (.int 2))) (.cons (.cst (.int 0)) (.cons (.bin .Sub (.glb "WAITS" (.int 6)) (.cst (.int 1))) .nil))))))
    .nil)) }
def p_fits_late : FDef := { name := "fits_late", np := 1, nl := 4, own := [], fresh := false, body := (.cons (.ite (.or (.not (.call "is_tuple_of" (.cons (.var 0) (.cons (.cst (.int 0)) (.cons (.glb "KEYS" (.int 10)) .nil))))) (.not (.blt .all1 (.cons (.comp [3] (.call "fits_late_row" (.cons (.var 3) .nil)) (.one 3) (.seq (.var 0)) .no) .nil))))
    (.cons (.ret (.cst (.bl false)))
    .nil)
    .nil)
    (.cons (.ret (.blt .all1 (.cons (.comp [1, 2] (.cmp .Lt (.idx (.var 1) (.glb "KEY" (.int 0))) (.idx (.var 2) (.glb "KEY" (.int 0)))) (.tup [1, 2]) (.zip2 (.var 0) (.slc (.var 0) (.yes (.cst (.int 1))) .no)) .no) .nil)))
    .nil)) }
def p_fits_polls : FDef := { name := "fits_polls", np := 1, nl := 4, own := [], fresh := false, body := (.cons (.ite (.or (.not (.call "is_tuple_of" (.cons (.var 0) (.cons (.cst (.int 0)) (.cons (.glb "POLLS" (.int 40)) .nil))))) (.not (.blt .all1 (.cons (.comp [3] (.call "fits_whole" (.cons (.var 3) (.cons (.cst (.int 0)) (.cons (.glb "CLOCK" (.int 10)) .nil)))) (.one 3) (.seq (.var 0)) .no) .nil))))
    (.cons (.ret (.cst (.bl false)))
    .nil)
    .nil)
    (.cons (.ret (.blt .all1 (.cons (.comp [1, 2] (.cmp .LtE (.var 1) (.var 2)) (.tup [1, 2]) (.zip2 (.var 0) (.slc (.var 0) (.yes (.cst (.int 1))) .no)) .no) .nil)))
    .nil)) }
def p_time_in : FDef := { name := "time_in", np := 2, nl := 2, own := [], fresh := false, body := (.cons (.ret (.bin .Add (.idx (.var 0) (.glb "STAMP" (.int 1))) (.blt .max2 (.cons (.idx (.var 0) (.glb "WAIT" (.int 2))) (.cons (.var 1) .nil)))))
    .nil) }
def p_seen_in : FDef := { name := "seen_in", np := 3, nl := 4, own := [], fresh := false, body := (.cons (.ret (.blt .tuple1 (.cons (.comp [3] (.slc (.var 3) .no (.yes (.glb "WAIT" (.int 2)))) (.one 3) (.seq (.var 0)) (.yes (.cmp .LtE (.call "time_in" (.cons (.var 3) (.cons (.var 1) .nil))) (.var 2)))) .nil)))
    .nil) }
def p_page_at : FDef := { name := "page_at", np := 6, nl := 8, own := [], fresh := false, body := (.cons (.set 6 (.call "seen_in" (.cons (.var 0) (.cons (.var 1) (.cons (.var 4) .nil)))))
    (.cons (.set 7 (.ite (.cmp .IsNot (.var 5) (.cst .non)) (.call "begin_in" (.cons (.glb "BY_RANK" (.int 1)) (.cons (.var 2) (.cons (.cst (.int 0)) (.cons (.var 5) (.cons (.var 6) .nil)))))) (.cst (.int 0))))
    (.cons (.ret (.slc (.call "ordered_in" (.cons (.glb "BY_RANK" (.int 1)) (.cons (.var 6) .nil))) (.yes (.var 7)) (.yes (.bin .Add (.var 7) (.var 3)))))
    .nil))) }
def p_pages_in : FDef := { name := "pages_in", np := 5, nl := 9, own := [6], fresh := false, body := (.cons (.par [(6, true), (7, false)] (.cons (.lst .nil) (.cons (.cst .non) .nil)))
    (.cons (.loop (.one 5) (.seq (.var 4))
    (.cons (.set 8 (.call "page_at" (.cons (.var 0) (.cons (.var 1) (.cons (.var 2) (.cons (.var 3) (.cons (.var 5) (.cons (.var 7) .nil))))))))
    (.cons (.set 7 (.ite (.cmp .NotEq (.var 8) (.tup .nil)) (.idx (.var 8) (.neg (.cst (.int 1)))) (.var 7)))
    (.cons (.app 6 (.var 8))
    .nil))))
    (.cons (.ret (.own 6))
    .nil))) }
def p_passed_in : FDef := { name := "passed_in", np := 3, nl := 5, own := [], fresh := false, body := (.cons (.ite (.cmp .Eq (.var 2) (.lst .nil))
    (.cons (.ret (.lst .nil))
    .nil)
    .nil)
    (.cons (.set 3 (.call "mark_of" (.cons (.glb "BY_RANK" (.int 1)) (.cons (.var 1) (.cons (.idx (.var 2) (.neg (.cst (.int 1)))) .nil)))))
    (.cons (.ret (.comp [4] (.idx (.var 4) (.glb "KEY" (.int 0))) (.one 4) (.seq (.var 0)) (.yes (.and (.cmp .NotIn (.slc (.var 4) .no (.yes (.glb "WAIT" (.int 2)))) (.var 2)) (.cmp .LtE (.call "mark_of" (.cons (.glb "BY_RANK" (.int 1)) (.cons (.var 1) (.cons (.slc (.var 4) .no (.yes (.glb "WAIT" (.int 2)))) .nil)))) (.var 3))))))
    .nil))) }
def p_need_late : FDef := { name := "need_late", np := 1, nl := 1, own := [], fresh := false, body := (.cons (.ite (.not (.call "fits_late" (.cons (.var 0) .nil)))
    (.cons .never
    .nil)
    .nil)
    .nil) }
def p_need_lag : FDef := { name := "need_lag", np := 1, nl := 1, own := [], fresh := false, body := (.cons (.ite (.not (.call "fits_whole" (.cons (.var 0) (.cons (.cst (.int 0)) (.cons (.bin .Sub (.glb "WAITS" (.int 6)) (.cst (.int 1))) .nil)))))
    (.cons .never
    .nil)
    .nil)
    .nil) }
def p_need_way : FDef := { name := "need_way", np := 4, nl := 4, own := [], fresh := false, body := (.cons (.expr (.call "need_late" (.cons (.var 0) .nil)))
    (.cons (.expr (.call "need_lag" (.cons (.var 1) .nil)))
    (.cons (.ite (.not (.call "fits_whole" (.cons (.var 2) (.cons (.cst (.int 1)) (.cons (.cst (.int 2)) .nil)))))
    (.cons .never
    .nil)
    .nil)
    (.cons (.expr (.call "need_size" (.cons (.var 3) .nil)))
    .nil)))) }
def p_need_polls : FDef := { name := "need_polls", np := 1, nl := 1, own := [], fresh := false, body := (.cons (.ite (.not (.call "fits_polls" (.cons (.var 0) .nil)))
    (.cons .never
    .nil)
    .nil)
    .nil) }
def p_late_history : FDef := { name := "late_history", np := 3, nl := 11, own := [], fresh := false, body := (.cons (.expr (.call "need_late" (.cons (.var 0) .nil)))
    (.cons (.expr (.call "need_lag" (.cons (.var 1) .nil)))
    (.cons (.expr (.call "need_polls" (.cons (.var 2) .nil)))
    (.cons (.par [(4, false), (5, false)] (.cons (.blt .sorted1 (.cons (.comp [7] (.tup (.cons (.call "time_in" (.cons (.var 7) (.cons (.var 1) .nil))) (.cons (.idx (.var 7) (.glb "KEY" (.int 0))) (.cons (.idx (.var 7) (.glb "STAMP" (.int 1))) .nil)))) (.one 7) (.seq (.var 0)) .no) .nil)) (.cons (.tup .nil) .nil)))
    (.cons (.loop (.one 3) (.seq (.var 2))
    (.cons (.set 5 (.bin .Add (.bin .Add (.var 5) (.blt .tuple1 (.cons (.comp [8, 9, 10] (.tup (.cons (.glb "PUT" (.str "put")) (.cons (.var 9) (.cons (.var 10) .nil)))) (.tup [8, 9, 10]) (.seq (.var 4)) (.yes (.cmp .LtE (.var 8) (.var 3)))) .nil))) (.tup (.cons (.glb "PAGE" (.tup [(.str "page")])) .nil))))
    (.cons (.set 4 (.comp [6] (.var 6) (.one 6) (.seq (.var 4)) (.yes (.cmp .Gt (.idx (.var 6) (.cst (.int 0))) (.var 3)))))
    .nil)))
    (.cons (.ret (.var 5))
    .nil)))))) }
def p_got_by_polls : FDef := { name := "got_by_polls", np := 5, nl := 5, own := [], fresh := false, body := (.cons (.expr (.call "need_way" (.cons (.var 0) (.cons (.var 1) (.cons (.var 2) (.cons (.var 3) .nil))))))
    (.cons (.expr (.call "need_polls" (.cons (.var 4) .nil)))
    (.cons (.ret (.blt .tuple1 (.cons (.call "pages_in" (.cons (.var 0) (.cons (.var 1) (.cons (.var 2) (.cons (.var 3) (.cons (.var 4) .nil)))))) .nil)))
    .nil))) }
def p_keys_passed : FDef := { name := "keys_passed", np := 5, nl := 8, own := [], fresh := false, body := (.cons (.expr (.call "need_way" (.cons (.var 0) (.cons (.var 1) (.cons (.var 2) (.cons (.var 3) .nil))))))
    (.cons (.expr (.call "need_polls" (.cons (.var 4) .nil)))
    (.cons (.set 5 (.comp2 [6, 7] (.var 7) (.one 6) (.seq (.call "pages_in" (.cons (.var 0) (.cons (.var 1) (.cons (.var 2) (.cons (.var 3) (.cons (.var 4) .nil))))))) [7] (.one 7) (.seq (.var 6))))
    (.cons (.ret (.blt .tuple1 (.cons (.call "passed_in" (.cons (.var 0) (.cons (.var 2) (.cons (.var 5) .nil)))) .nil)))
    .nil)))) }
def p_is_passing : FDef := { name := "is_passing", np := 5, nl := 8, own := [], fresh := false, body := (.cons (.expr (.call "need_way" (.cons (.var 0) (.cons (.var 1) (.cons (.var 2) (.cons (.var 3) .nil))))))
    (.cons (.ite (.not (.call "fits_polls" (.cons (.var 4) .nil)))
    (.cons (.ret (.cst (.bl false)))
    .nil)
    .nil)
    (.cons (.set 5 (.comp2 [6, 7] (.var 7) (.one 6) (.seq (.call "pages_in" (.cons (.var 0) (.cons (.var 1) (.cons (.var 2) (.cons (.var 3) (.cons (.var 4) .nil))))))) [7] (.one 7) (.seq (.var 6))))
    (.cons (.ret (.cmp .NotEq (.call "passed_in" (.cons (.var 0) (.cons (.var 2) (.cons (.var 5) .nil)))) (.lst .nil)))
    .nil)))) }
def f_law_cup : FDef := { name := "_law_cup", np := 1, nl := 2, own := [], fresh := true, body := (.cons (.set 1 (.blt .abs (.cons (.idx (.cat (.blt .list1 (.cons (.var 0) .nil)) (.lst (.cons (.cst (.int 0)) .nil))) (.cst (.int 0))) .nil)))
    (.cons (.retF (.lst (.cons (.ite (.cmp .GtE (.var 1) (.bin .Pow (.cst (.int 10)) (.cst (.int 18)))) (.bin .FloorDiv (.var 1) (.cst (.int 283))) (.cst (.int 0))) (.cons (.bin .Add (.bin .Mod (.blt .int1 (.cons (.bin .Add (.bin .Mult (.var 1) (.cst (.int 719))) (.cst (.int 5119))) .nil)) (.cst (.int 2077601609))) (.cst (.int 389))) .nil))))
    .nil)) }
def f_law_roll : FDef := { name := "_law_roll", np := 2, nl := 4, own := [], fresh := false, body := (.cons (.ite (.cmp .Gt (.idx (.var 0) (.cst (.int 0))) (.cst (.int 0)))
    (.cons (.set 3 (.bin .Mod (.blt .int1 (.cons (.idx (.var 0) (.cst (.int 0))) .nil)) (.var 1)))
    (.cons (.setCup 0 0 (.bin .FloorDiv (.idx (.var 0) (.cst (.int 0))) (.var 1)))
    (.cons (.ret (.var 3))
    .nil)))
    .nil)
    (.cons (.setCup 0 1 (.bin .Mod (.blt .int1 (.cons (.bin .Add (.bin .Mult (.idx (.var 0) (.cst (.int 1))) (.cst (.int 31277))) (.cst (.int 7919))) .nil)) (.cst (.int 2147482951))))
    (.cons (.set 2 (.bin .Mod (.blt .int1 (.cons (.bin .Mult (.idx (.var 0) (.cst (.int 1))) (.bin .Add (.idx (.var 0) (.cst (.int 1))) (.cst (.int 463)))) .nil)) (.cst (.int 2147483059))))
    (.cons (.ret (.bin .Mod (.blt .int1 (.cons (.bin .FloorDiv (.var 2) (.cst (.int 797))) .nil)) (.var 1)))
    .nil)))) }
def f_law_some : FDef := { name := "_law_some", np := 2, nl := 2, own := [], fresh := false, body := (.cons (.ret (.idx (.var 1) (.call "_law_roll" (.cons (.var 0) (.cons (.blt .len (.cons (.var 1) .nil)) .nil)))))
    .nil) }
def f_law_same : FDef := { name := "_law_same", np := 2, nl := 3, own := [], fresh := false, body := (.cons (.ite (.isin (.var 1) .tuple)
    (.cons (.ite (.or (.not (.isin (.var 0) .tuple)) (.cmp .NotEq (.blt .len (.cons (.var 0) .nil)) (.blt .len (.cons (.var 1) .nil))))
    (.cons (.ret (.cst (.bl false)))
    .nil)
    .nil)
    (.cons (.ret (.blt .all1 (.cons (.comp [2] (.call "_law_same" (.cons (.idx (.var 0) (.var 2)) (.cons (.idx (.var 1) (.var 2)) .nil))) (.one 2) (.rng1 (.blt .len (.cons (.var 1) .nil))) .no) .nil)))
    .nil))
    .nil)
    (.cons (.ite (.cmp .Is (.var 1) (.cst .non))
    (.cons (.ret (.cmp .Is (.var 0) (.cst .non)))
    .nil)
    .nil)
    (.cons (.ite (.isin (.var 1) .bool)
    (.cons (.ret (.ite (.var 1) (.cmp .Is (.var 0) (.cst (.bl true))) (.cmp .Is (.var 0) (.cst (.bl false)))))
    .nil)
    .nil)
    (.cons (.ite (.isin (.var 1) .int)
    (.cons (.ret (.and (.isin (.var 0) .int) (.and (.not (.isin (.var 0) .bool)) (.cmp .Eq (.blt .int1 (.cons (.var 0) .nil)) (.var 1)))))
    .nil)
    .nil)
    (.cons (.ret (.and (.isin (.var 0) .str) (.cmp .Eq (.blt .str1 (.cons (.var 0) .nil)) (.var 1))))
    .nil))))) }
def f_law_late : FDef := { name := "_law_late", np := 2, nl := 6, own := [5], fresh := false, body := (.cons (.par [(3, false), (4, false), (5, true)] (.cons (.call "_law_some" (.cons (.var 0) (.cons (.lst (.cons (.cst (.int 1)) (.cons (.cst (.int 3)) (.cons (.cst (.int 6)) .nil)))) .nil))) (.cons (.call "_law_some" (.cons (.var 0) (.cons (.lst (.cons (.cst (.int 1)) (.cons (.cst (.int 3)) (.cons (.cst (.int 6)) .nil)))) .nil))) (.cons (.lst .nil) .nil))))
    (.cons (.loop (.one 2) (.rng1 (.cst (.int 10)))
    (.cons (.ite (.and (.cmp .Lt (.blt .len (.cons (.own 5) .nil)) (.var 1)) (.cmp .Eq (.call "_law_roll" (.cons (.var 0) (.cons (.cst (.int 2)) .nil))) (.cst (.int 0))))
    (.cons (.app 5 (.tup (.cons (.var 2) (.cons (.call "_law_roll" (.cons (.var 0) (.cons (.var 3) .nil))) (.cons (.call "_law_roll" (.cons (.var 0) (.cons (.var 4) .nil))) .nil)))))
    .nil)
    .nil)
    .nil))
    (.cons (.ret (.blt .tuple1 (.cons (.own 5) .nil)))
    .nil))) }
def f_law_from : FDef := { name := "_law_from", np := 2, nl := 2, own := [], fresh := false, body := (.cons (.ret (.bin .Add (.idx (.var 0) (.cst (.int 1))) (.ite (.cmp .Gt (.idx (.var 0) (.cst (.int 2))) (.var 1)) (.idx (.var 0) (.cst (.int 2))) (.var 1))))
    .nil) }
def f_law_polls : FDef := { name := "_law_polls", np := 2, nl := 3, own := [], fresh := false, body := (.cons (.ret (.blt .tuple1 (.cons (.blt .sorted1 (.cons (.comp [2] (.call "_law_roll" (.cons (.var 0) (.cons (.cst (.int 11)) .nil))) (.one 2) (.rng1 (.var 1)) .no) .nil)) .nil)))
    .nil) }
def f_law_asked : FDef := { name := "_law_asked", np := 6, nl := 11, own := [], fresh := false, body := (.cons (.set 6 (.blt .sorted1 (.cons (.comp [8, 9, 10] (.tup (.cons (.var 9) (.cons (.var 8) .nil))) (.tup [8, 9, 10]) (.seq (.var 0)) (.yes (.cmp .LtE (.call "_law_from" (.cons (.tup (.cons (.var 8) (.cons (.var 9) (.cons (.var 10) .nil)))) (.cons (.var 1) .nil))) (.var 4)))) .nil)))
    (.cons (.ite (.and (.cmp .IsNot (.var 5) (.cst .non)) (.cmp .Eq (.var 2) (.cst (.int 1))))
    (.cons (.set 6 (.comp [7] (.var 7) (.one 7) (.seq (.var 6)) (.yes (.cmp .Gt (.idx (.var 7) (.cst (.int 0))) (.idx (.var 5) (.cst (.int 1)))))))
    .nil)
    .nil)
    (.cons (.ite (.and (.cmp .IsNot (.var 5) (.cst .non)) (.cmp .Eq (.var 2) (.cst (.int 2))))
    (.cons (.set 6 (.comp [7] (.var 7) (.one 7) (.seq (.var 6)) (.yes (.cmp .Gt (.var 7) (.tup (.cons (.idx (.var 5) (.cst (.int 1))) (.cons (.idx (.var 5) (.cst (.int 0))) .nil)))))))
    .nil)
    .nil)
    (.cons (.ret (.blt .tuple1 (.cons (.comp [9, 8] (.tup (.cons (.var 8) (.cons (.var 9) .nil))) (.tup [9, 8]) (.seq (.slc (.var 6) .no (.yes (.var 3)))) .no) .nil)))
    .nil)))) }
def f_law_run : FDef := { name := "_law_run", np := 5, nl := 15, own := [6, 8, 9], fresh := false, body := (.cons (.par [(9, true), (10, false)] (.cons (.lst .nil) (.cons (.cst .non) .nil)))
    (.cons (.loop (.one 5) (.seq (.var 4))
    (.cons (.set 7 (.call "_law_asked" (.cons (.var 0) (.cons (.var 1) (.cons (.var 2) (.cons (.var 3) (.cons (.var 5) (.cons (.var 10) .nil))))))))
    (.cons (.set 10 (.ite (.cmp .NotEq (.var 7) (.tup .nil)) (.idx (.var 7) (.neg (.cst (.int 1)))) (.var 10)))
    (.cons (.app 9 (.var 7))
    .nil))))
    (.cons (.setO 6 (.lst .nil))
    (.frz 9
    (.cons (.loop (.one 7) (.seq (.var 9))
    (.cons (.setO 6 (.cat (.own 6) (.comp [11, 12] (.var 11) (.tup [11, 12]) (.seq (.var 7)) .no)))
    .nil))
    (.cons (.setO 8 (.lst .nil))
    (.cons (.loop (.tup [11, 12, 13]) (.seq (.var 0))
    (.cons (.set 14 (.or (.cmp .Is (.var 10) (.cst .non)) (.ite (.cmp .Eq (.var 2) (.cst (.int 1))) (.cmp .Gt (.var 12) (.idx (.var 10) (.cst (.int 1)))) (.cmp .Gt (.tup (.cons (.var 12) (.cons (.var 11) .nil))) (.tup (.cons (.idx (.var 10) (.cst (.int 1))) (.cons (.idx (.var 10) (.cst (.int 0))) .nil)))))))
    (.cons (.setO 8 (.cat (.own 8) (.ite (.and (.not (.var 14)) (.cmp .NotIn (.var 11) (.own 6))) (.lst (.cons (.var 11) .nil)) (.lst .nil))))
    .nil)))
    (.cons (.ret (.tup (.cons (.blt .tuple1 (.cons (.var 9) .nil)) (.cons (.blt .tuple1 (.cons (.own 8) .nil)) .nil))))
    .nil)))))))) }
def p_law : FDef := { name := "law", np := 1, nl := 17, own := [], fresh := false, body := (.cons (.mkCup 1 "_law_cup" (.cons (.var 0) .nil))
    (.cons (.par [(4, false), (5, false)] (.cons (.tup (.cons (.tup (.cons (.cst (.int 0)) (.cons (.cst (.int 1)) (.cons (.cst (.int 3)) .nil)))) (.cons (.tup (.cons (.cst (.int 1)) (.cons (.cst (.int 1)) (.cons (.cst (.int 0)) .nil)))) (.cons (.tup (.cons (.cst (.int 4)) (.cons (.cst (.int 2)) (.cons (.cst (.int 0)) .nil)))) .nil)))) (.cons (.tup (.cons (.tup (.cons (.cst (.int 0)) (.cons (.cst (.int 0)) (.cons (.cst (.int 0)) .nil)))) (.cons (.tup (.cons (.cst (.int 1)) (.cons (.cst (.int 0)) (.cons (.cst (.int 0)) .nil)))) .nil))) .nil)))
    (.cons (.set 2 (.tup (.cons (.call "got_by_polls" (.cons (.var 4) (.cons (.cst (.int 0)) (.cons (.cst (.int 2)) (.cons (.cst (.int 2)) (.cons (.tup (.cons (.cst (.int 1)) (.cons (.cst (.int 2)) (.cons (.cst (.int 4)) .nil)))) .nil)))))) (.cons (.call "keys_passed" (.cons (.var 4) (.cons (.cst (.int 0)) (.cons (.cst (.int 2)) (.cons (.cst (.int 2)) (.cons (.tup (.cons (.cst (.int 1)) (.cons (.cst (.int 2)) (.cons (.cst (.int 4)) .nil)))) .nil)))))) (.cons (.call "keys_passed" (.cons (.var 4) (.cons (.cst (.int 0)) (.cons (.cst (.int 2)) (.cons (.cst (.int 2)) (.cons (.tup (.cons (.cst (.int 1)) .nil)) .nil)))))) .nil)))))
    (.cons (.ite (.not (.call "_law_same" (.cons (.bin .Add (.var 2) (.tup (.cons (.call "keys_passed" (.cons (.var 4) (.cons (.cst (.int 3)) (.cons (.cst (.int 2)) (.cons (.cst (.int 2)) (.cons (.tup (.cons (.cst (.int 4)) (.cons (.cst (.int 5)) (.cons (.cst (.int 6)) .nil)))) .nil)))))) .nil))) (.cons (.tup (.cons (.tup (.cons (.tup (.cons (.tup (.cons (.cst (.int 1)) (.cons (.cst (.int 1)) .nil))) .nil)) (.cons (.tup (.cons (.tup (.cons (.cst (.int 4)) (.cons (.cst (.int 2)) .nil))) .nil)) (.cons (.tup .nil) .nil)))) (.cons (.tup (.cons (.cst (.int 0)) .nil)) (.cons (.tup (.cons (.cst (.int 0)) .nil)) (.cons (.tup .nil) .nil))))) .nil))))
    (.cons (.ret (.cst (.bl false)))
    .nil)
    .nil)
    (.cons (.set 2 (.tup (.cons (.call "got_by_polls" (.cons (.var 5) (.cons (.cst (.int 0)) (.cons (.cst (.int 1)) (.cons (.cst (.int 1)) (.cons (.tup (.cons (.cst (.int 0)) (.cons (.cst (.int 0)) .nil))) .nil)))))) (.cons (.call "keys_passed" (.cons (.var 5) (.cons (.cst (.int 0)) (.cons (.cst (.int 1)) (.cons (.cst (.int 1)) (.cons (.tup (.cons (.cst (.int 0)) .nil)) .nil)))))) (.cons (.call "got_by_polls" (.cons (.var 5) (.cons (.cst (.int 0)) (.cons (.cst (.int 2)) (.cons (.cst (.int 1)) (.cons (.tup (.cons (.cst (.int 0)) (.cons (.cst (.int 0)) .nil))) .nil)))))) .nil)))))
    (.cons (.ite (.not (.call "_law_same" (.cons (.bin .Add (.var 2) (.tup (.cons (.call "keys_passed" (.cons (.var 5) (.cons (.cst (.int 0)) (.cons (.cst (.int 2)) (.cons (.cst (.int 1)) (.cons (.tup (.cons (.cst (.int 0)) .nil)) .nil)))))) .nil))) (.cons (.tup (.cons (.tup (.cons (.tup (.cons (.tup (.cons (.cst (.int 0)) (.cons (.cst (.int 0)) .nil))) .nil)) (.cons (.tup .nil) .nil))) (.cons (.tup (.cons (.cst (.int 1)) .nil)) (.cons (.tup (.cons (.tup (.cons (.tup (.cons (.cst (.int 0)) (.cons (.cst (.int 0)) .nil))) .nil)) (.cons (.tup (.cons (.tup (.cons (.cst (.int 1)) (.cons (.cst (.int 0)) .nil))) .nil)) .nil))) (.cons (.tup .nil) .nil))))) .nil))))
    (.cons (.ret (.cst (.bl false)))
    .nil)
    .nil)
    (.cons (.set 2 (.tup (.cons (.call "is_passing" (.cons (.var 5) (.cons (.cst (.int 0)) (.cons (.cst (.int 1)) (.cons (.cst (.int 1)) (.cons (.tup (.cons (.cst (.int 0)) .nil)) .nil)))))) (.cons (.call "is_passing" (.cons (.var 5) (.cons (.cst (.int 0)) (.cons (.cst (.int 1)) (.cons (.cst (.int 2)) (.cons (.tup (.cons (.cst (.int 0)) .nil)) .nil)))))) (.cons (.call "is_passing" (.cons (.var 5) (.cons (.cst (.int 0)) (.cons (.cst (.int 1)) (.cons (.cst (.int 1)) (.cons (.tup .nil) .nil)))))) (.cons (.call "is_passing" (.cons (.var 5) (.cons (.cst (.int 0)) (.cons (.cst (.int 1)) (.cons (.cst (.int 1)) (.cons (.lst (.cons (.cst (.int 0)) .nil)) .nil)))))) .nil))))))
    (.cons (.ite (.not (.call "_law_same" (.cons (.bin .Add (.var 2) (.tup (.cons (.call "keys_passed" (.cons (.tup .nil) (.cons (.cst (.int 0)) (.cons (.cst (.int 1)) (.cons (.cst (.int 1)) (.cons (.tup (.cons (.cst (.int 0)) .nil)) .nil)))))) .nil))) (.cons (.tup (.cons (.cst (.bl true)) (.cons (.cst (.bl false)) (.cons (.cst (.bl false)) (.cons (.cst (.bl false)) (.cons (.tup .nil) .nil)))))) .nil))))
    (.cons (.ret (.cst (.bl false)))
    .nil)
    .nil)
    (.cons (.loop (.one 3) (.rng1 (.cst (.int 12)))
    (.cons (.par [(10, false), (11, false), (12, false), (13, false)] (.cons (.call "_law_late" (.cons (.var 1) (.cons (.cst (.int 10)) .nil))) (.cons (.call "_law_roll" (.cons (.var 1) (.cons (.cst (.int 6)) .nil))) (.cons (.bin .Add (.cst (.int 1)) (.call "_law_roll" (.cons (.var 1) (.cons (.cst (.int 2)) .nil)))) (.cons (.bin .Add (.cst (.int 1)) (.call "_law_roll" (.cons (.var 1) (.cons (.cst (.int 3)) .nil)))) .nil)))))
    (.cons (.set 6 (.call "_law_polls" (.cons (.var 1) (.cons (.call "_law_roll" (.cons (.var 1) (.cons (.cst (.int 9)) .nil))) .nil))))
    (.cons (.unp [14, 15] (.call "_law_run" (.cons (.var 10) (.cons (.var 11) (.cons (.var 12) (.cons (.var 13) (.cons (.var 6) .nil)))))))
    (.cons (.set 2 (.tup (.cons (.call "got_by_polls" (.cons (.var 10) (.cons (.var 11) (.cons (.var 12) (.cons (.var 13) (.cons (.var 6) .nil)))))) (.cons (.call "keys_passed" (.cons (.var 10) (.cons (.var 11) (.cons (.var 12) (.cons (.var 13) (.cons (.var 6) .nil)))))) (.cons (.call "is_passing" (.cons (.var 10) (.cons (.var 11) (.cons (.var 12) (.cons (.var 13) (.cons (.var 6) .nil)))))) .nil)))))
    (.cons (.ite (.not (.call "_law_same" (.cons (.var 2) (.cons (.tup (.cons (.var 14) (.cons (.var 15) (.cons (.cmp .NotEq (.var 15) (.tup .nil)) .nil)))) .nil))))
    (.cons (.ret (.cst (.bl false)))
    .nil)
    .nil)
    (.cons (.set 7 (.call "pages_along" (.cons (.tup (.cons (.cst (.int 1)) (.cons (.var 12) (.cons (.cst (.int 0)) (.cons (.cst (.int 0)) (.cons (.cst (.int 0)) (.cons (.cst (.int 0)) .nil))))))) (.cons (.var 13) (.cons (.tup .nil) (.cons (.call "late_history" (.cons (.var 10) (.cons (.var 11) (.cons (.var 6) .nil)))) .nil))))))
    (.cons (.ite (.or (.not (.call "_law_same" (.cons (.var 7) (.cons (.slc (.var 14) .no (.yes (.blt .len (.cons (.var 7) .nil)))) .nil)))) (.and (.cmp .Lt (.blt .len (.cons (.var 7) .nil)) (.blt .len (.cons (.var 14) .nil))) (.cmp .Eq (.blt .len (.cons (.idx (.var 14) (.bin .Sub (.blt .len (.cons (.var 7) .nil)) (.cst (.int 1)))) .nil)) (.var 13))))
    (.cons (.ret (.cst (.bl false)))
    .nil)
    .nil)
    (.cons (.set 8 (.bin .Add (.var 6) (.bin .Mult (.tup (.cons (.cst (.int 10)) .nil)) (.cst (.int 5)))))
    (.cons (.ite (.cmp .NotEq (.comp [16] (.var 16) (.one 16) (.seq (.var 15)) (.yes (.cmp .NotIn (.var 16) (.call "keys_passed" (.cons (.var 10) (.cons (.var 11) (.cons (.var 12) (.cons (.var 13) (.cons (.var 8) .nil))))))))) (.lst .nil))
    (.cons (.ret (.cst (.bl false)))
    .nil)
    .nil)
    (.cons (.loop (.one 9) (.seq (.tup (.cons (.cst .non) (.cons (.ite (.and (.cmp .NotEq (.var 6) (.tup .nil)) (.cmp .Gt (.idx (.var 6) (.neg (.cst (.int 1)))) (.cst (.int 0)))) (.bin .Add (.rev (.var 6)) (.tup (.cons (.cst (.int 0)) .nil))) (.tup (.cons (.cst (.int 1)) (.cons (.cst (.int 0)) .nil)))) (.cons (.blt .list1 (.cons (.var 6) .nil)) (.cons (.tup (.cons (.cst (.int 11)) .nil)) (.cons (.tup (.cons (.cst (.bl true)) .nil)) (.cons (.cst (.str "0")) (.cons (.cst (.int 0)) .nil)))))))))
    (.cons (.ite (.cmp .IsNot (.call "is_passing" (.cons (.var 10) (.cons (.var 11) (.cons (.var 12) (.cons (.var 13) (.cons (.var 9) .nil)))))) (.cst (.bl false)))
    (.cons (.ret (.cst (.bl false)))
    .nil)
    .nil)
    .nil))
    .nil)))))))))))
    (.cons (.ret (.cst (.bl true)))
    .nil)))))))))) }
def dfl : List Df := [
  { fd := p_is_tuple_of, st := top 11, N := ["value", "low", "high"], ps := ["value", "low", "high"] },
  { fd := p_fits_whole, st := top 12, N := ["value", "low", "high"], ps := ["value", "low", "high"] },
  { fd := p_fits_row, st := top 13, N := ["value"], ps := ["value"] },
  { fd := p_fits_list, st := top 14, N := ["value", "one", "other", "own"], ps := ["value"] },
  { fd := p_fits_change, st := top 15, N := ["value"], ps := ["value"] },
  { fd := p_changed_in, st := top 16, N := ["rows", "change", "others", "own"], ps := ["rows", "change"] },
  { fd := p_keys_in, st := top 17, N := ["rows", "own"], ps := ["rows"] },
  { fd := p_need_list, st := top 18, N := ["value"], ps := ["value"] },
  { fd := p_place_of, st := top 23, N := ["order", "row"], ps := ["order", "row"] },
  { fd := p_ordered_in, st := top 24, N := ["order", "rows"], ps := ["order", "rows"], lam := true },
  { fd := p_mark_of, st := top 25, N := ["order", "mark", "row"], ps := ["order", "mark", "row"] },
  { fd := p_begin_in, st := top 26, N := ["order", "mark", "same", "row", "rows", "own", "due", "found", "there"], ps := ["order", "mark", "same", "row", "rows"] },
  { fd := p_need_size, st := top 27, N := ["value"], ps := ["value"] },
  { fd := p_fits_table, st := top 42, N := ["value", "own", "most"], ps := ["value"] },
  { fd := p_begun, st := top 43, N := ["rows"], ps := ["rows"] },
  { fd := p_view_in, st := top 44, N := ["table", "reading", "rows"], ps := ["table", "reading"] },
  { fd := p_start_in, st := top 45, N := ["table", "reading", "rows", "last"], ps := ["table", "reading"] },
  { fd := p_page_in, st := top 46, N := ["table", "size", "reading", "at"], ps := ["table", "size", "reading"] },
  { fd := p_new_in, st := top 47, N := ["table", "reading", "page", "old", "row"], ps := ["table", "reading", "page"] },
  { fd := p_paged_in, st := top 48, N := ["table", "size", "reading", "page", "first", "got", "last"], ps := ["table", "size", "reading"] },
  { fd := p_changed_reading, st := top 49, N := ["reading", "change"], ps := ["reading", "change"] },
  { fd := p_need_table, st := top 50, N := ["value"], ps := ["value"] },
  { fd := p_fits_step, st := top 54, N := ["value"], ps := ["value"] },
  { fd := p_fits_history, st := top 55, N := ["value", "own"], ps := ["value"] },
  { fd := p_stepped_in, st := top 56, N := ["table", "size", "reading", "step"], ps := ["table", "size", "reading", "step"] },
  { fd := p_need_run, st := top 57, N := ["table", "size", "rows", "history"], ps := ["table", "size", "rows", "history"] },
  { fd := p_pages_along, st := top 58, N := ["table", "size", "rows", "history", "step", "found", "reading", "later"], ps := ["table", "size", "rows", "history"] },
  { fd := p_fits_late_row, st := top 66, N := ["value"], ps := ["value"] },
  { fd := p_fits_late, st := top 67, N := ["value", "one", "other", "own"], ps := ["value"] },
  { fd := p_fits_polls, st := top 68, N := ["value", "one", "other", "own"], ps := ["value"] },
  { fd := p_time_in, st := top 69, N := ["row", "lag"], ps := ["row", "lag"] },
  { fd := p_seen_in, st := top 70, N := ["rows", "lag", "clock", "row"], ps := ["rows", "lag", "clock"] },
  { fd := p_page_at, st := top 71, N := ["rows", "lag", "mark", "size", "clock", "last", "seen", "at"], ps := ["rows", "lag", "mark", "size", "clock", "last"] },
  { fd := p_pages_in, st := top 72, N := ["rows", "lag", "mark", "size", "polls", "clock", "found", "last", "page"], ps := ["rows", "lag", "mark", "size", "polls"] },
  { fd := p_passed_in, st := top 73, N := ["rows", "mark", "got", "due", "row"], ps := ["rows", "mark", "got"] },
  { fd := p_need_late, st := top 74, N := ["value"], ps := ["value"] },
  { fd := p_need_lag, st := top 75, N := ["value"], ps := ["value"] },
  { fd := p_need_way, st := top 76, N := ["rows", "lag", "mark", "size"], ps := ["rows", "lag", "mark", "size"] },
  { fd := p_need_polls, st := top 77, N := ["value"], ps := ["value"] },
  { fd := p_late_history, st := top 78, N := ["rows", "lag", "polls", "clock", "waiting", "found", "own", "row", "time", "key", "stamp"], ps := ["rows", "lag", "polls"] },
  { fd := p_got_by_polls, st := top 79, N := ["rows", "lag", "mark", "size", "polls"], ps := ["rows", "lag", "mark", "size", "polls"] },
  { fd := p_keys_passed, st := top 80, N := ["rows", "lag", "mark", "size", "polls", "got", "page", "row"], ps := ["rows", "lag", "mark", "size", "polls"] },
  { fd := p_is_passing, st := top 81, N := ["rows", "lag", "mark", "size", "value", "got", "page", "row"], ps := ["rows", "lag", "mark", "size", "value"] },
  { fd := f_law_cup, st := top 83, N := ["script", "cell"], ps := ["script"] },
  { fd := f_law_roll, st := top 84, N := ["cup", "many", "deep", "found"], ps := ["cup", "many"] },
  { fd := f_law_some, st := top 85, N := ["cup", "things"], ps := ["cup", "things"] },
  { fd := f_law_same, st := top 86, N := ["told", "due", "at"], ps := ["told", "due"] },
  { fd := f_law_late, st := top 87, N := ["cup", "most", "key", "high", "wide", "found"], ps := ["cup", "most"] },
  { fd := f_law_from, st := top 88, N := ["row", "lag"], ps := ["row", "lag"] },
  { fd := f_law_polls, st := top 89, N := ["cup", "many", "turn"], ps := ["cup", "many"] },
  { fd := f_law_asked, st := top 90, N := ["rows", "lag", "mark", "size", "clock", "last", "seen", "own", "key", "stamp", "wait"], ps := ["rows", "lag", "mark", "size", "clock", "last"] },
  { fd := f_law_run, st := top 91, N := ["rows", "lag", "mark", "size", "polls", "clock", "keys", "page", "passed", "pages", "last", "key", "stamp", "wait", "behind"], ps := ["rows", "lag", "mark", "size", "polls"] },
  { fd := p_law, st := top 92, N := ["script", "cup", "told", "turn", "late", "two", "polls", "along", "more", "odd", "rows", "lag", "mark", "size", "pages", "passed", "key"], ps := ["script"] }]
def glbs : List (Str × PV) := [("RANK", (.int 1)), ("RANKS", (.int 6)), ("KEY", (.int 0)), ("KEYS", (.int 10)), ("BY_KEY", (.int 0)), ("SIZE", (.int 3)), ("MOST", (.tup [(.int 1), (.int 2), (.int 1), (.int 1), (.int 1), (.int 2)])), ("FIRST", (.int 1)), ("VIEW", (.int 3)), ("NOW", (.int 0)), ("ORDER", (.int 0)), ("LAST", (.int 4)), ("MARK", (.int 1)), ("SENT", (.int 3)), ("GONE", (.int 5)), ("SAME", (.int 2)), ("SEEN", (.int 4)), ("GOT", (.int 2)), ("OVER", (.int 5)), ("PAGE", (.tup [(.str "page")])), ("STEPS", (.int 60)), ("WAIT", (.int 2)), ("WAITS", (.int 6)), ("STAMP", (.int 1)), ("CLOCK", (.int 10)), ("POLLS", (.int 40)), ("BY_RANK", (.int 1)), ("PUT", (.str "put"))]
def blts : List String := ["len", "isinstance", "tuple", "bool", "int", "all", "zip", "str", "sorted", "max", "abs", "list", "range"]
abbrev prg : Prog := progOf dfl
theorem okL : (dfl.all fun D => D.okB dfl glbs blts) = true := by decide +kernel
theorem ndL : ((progOf dfl).map (·.name)).Nodup := by decide +kernel
theorem i_p_is_tuple_of : find prg "is_tuple_of" = some p_is_tuple_of := find_of (fd := p_is_tuple_of) ndL (List.mem_of_getElem? (i := 0) rfl)
theorem i_p_fits_whole : find prg "fits_whole" = some p_fits_whole := find_of (fd := p_fits_whole) ndL (List.mem_of_getElem? (i := 1) rfl)
theorem i_p_fits_row : find prg "fits_row" = some p_fits_row := find_of (fd := p_fits_row) ndL (List.mem_of_getElem? (i := 2) rfl)
theorem i_p_fits_list : find prg "fits_list" = some p_fits_list := find_of (fd := p_fits_list) ndL (List.mem_of_getElem? (i := 3) rfl)
theorem i_p_fits_change : find prg "fits_change" = some p_fits_change := find_of (fd := p_fits_change) ndL (List.mem_of_getElem? (i := 4) rfl)
theorem i_p_changed_in : find prg "changed_in" = some p_changed_in := find_of (fd := p_changed_in) ndL (List.mem_of_getElem? (i := 5) rfl)
theorem i_p_keys_in : find prg "keys_in" = some p_keys_in := find_of (fd := p_keys_in) ndL (List.mem_of_getElem? (i := 6) rfl)
theorem i_p_need_list : find prg "need_list" = some p_need_list := find_of (fd := p_need_list) ndL (List.mem_of_getElem? (i := 7) rfl)
theorem i_p_place_of : find prg "place_of" = some p_place_of := find_of (fd := p_place_of) ndL (List.mem_of_getElem? (i := 8) rfl)
theorem i_p_ordered_in : find prg "ordered_in" = some p_ordered_in := find_of (fd := p_ordered_in) ndL (List.mem_of_getElem? (i := 9) rfl)
theorem i_p_mark_of : find prg "mark_of" = some p_mark_of := find_of (fd := p_mark_of) ndL (List.mem_of_getElem? (i := 10) rfl)
theorem i_p_begin_in : find prg "begin_in" = some p_begin_in := find_of (fd := p_begin_in) ndL (List.mem_of_getElem? (i := 11) rfl)
theorem i_p_need_size : find prg "need_size" = some p_need_size := find_of (fd := p_need_size) ndL (List.mem_of_getElem? (i := 12) rfl)
theorem i_p_fits_table : find prg "fits_table" = some p_fits_table := find_of (fd := p_fits_table) ndL (List.mem_of_getElem? (i := 13) rfl)
theorem i_p_begun : find prg "begun" = some p_begun := find_of (fd := p_begun) ndL (List.mem_of_getElem? (i := 14) rfl)
theorem i_p_view_in : find prg "view_in" = some p_view_in := find_of (fd := p_view_in) ndL (List.mem_of_getElem? (i := 15) rfl)
theorem i_p_start_in : find prg "start_in" = some p_start_in := find_of (fd := p_start_in) ndL (List.mem_of_getElem? (i := 16) rfl)
theorem i_p_page_in : find prg "page_in" = some p_page_in := find_of (fd := p_page_in) ndL (List.mem_of_getElem? (i := 17) rfl)
theorem i_p_new_in : find prg "new_in" = some p_new_in := find_of (fd := p_new_in) ndL (List.mem_of_getElem? (i := 18) rfl)
theorem i_p_paged_in : find prg "paged_in" = some p_paged_in := find_of (fd := p_paged_in) ndL (List.mem_of_getElem? (i := 19) rfl)
theorem i_p_changed_reading : find prg "changed_reading" = some p_changed_reading := find_of (fd := p_changed_reading) ndL (List.mem_of_getElem? (i := 20) rfl)
theorem i_p_need_table : find prg "need_table" = some p_need_table := find_of (fd := p_need_table) ndL (List.mem_of_getElem? (i := 21) rfl)
theorem i_p_fits_step : find prg "fits_step" = some p_fits_step := find_of (fd := p_fits_step) ndL (List.mem_of_getElem? (i := 22) rfl)
theorem i_p_fits_history : find prg "fits_history" = some p_fits_history := find_of (fd := p_fits_history) ndL (List.mem_of_getElem? (i := 23) rfl)
theorem i_p_stepped_in : find prg "stepped_in" = some p_stepped_in := find_of (fd := p_stepped_in) ndL (List.mem_of_getElem? (i := 24) rfl)
theorem i_p_need_run : find prg "need_run" = some p_need_run := find_of (fd := p_need_run) ndL (List.mem_of_getElem? (i := 25) rfl)
theorem i_p_pages_along : find prg "pages_along" = some p_pages_along := find_of (fd := p_pages_along) ndL (List.mem_of_getElem? (i := 26) rfl)
theorem i_p_fits_late_row : find prg "fits_late_row" = some p_fits_late_row := find_of (fd := p_fits_late_row) ndL (List.mem_of_getElem? (i := 27) rfl)
theorem i_p_fits_late : find prg "fits_late" = some p_fits_late := find_of (fd := p_fits_late) ndL (List.mem_of_getElem? (i := 28) rfl)
theorem i_p_fits_polls : find prg "fits_polls" = some p_fits_polls := find_of (fd := p_fits_polls) ndL (List.mem_of_getElem? (i := 29) rfl)
theorem i_p_time_in : find prg "time_in" = some p_time_in := find_of (fd := p_time_in) ndL (List.mem_of_getElem? (i := 30) rfl)
theorem i_p_seen_in : find prg "seen_in" = some p_seen_in := find_of (fd := p_seen_in) ndL (List.mem_of_getElem? (i := 31) rfl)
theorem i_p_page_at : find prg "page_at" = some p_page_at := find_of (fd := p_page_at) ndL (List.mem_of_getElem? (i := 32) rfl)
theorem i_p_pages_in : find prg "pages_in" = some p_pages_in := find_of (fd := p_pages_in) ndL (List.mem_of_getElem? (i := 33) rfl)
theorem i_p_passed_in : find prg "passed_in" = some p_passed_in := find_of (fd := p_passed_in) ndL (List.mem_of_getElem? (i := 34) rfl)
theorem i_p_need_late : find prg "need_late" = some p_need_late := find_of (fd := p_need_late) ndL (List.mem_of_getElem? (i := 35) rfl)
theorem i_p_need_lag : find prg "need_lag" = some p_need_lag := find_of (fd := p_need_lag) ndL (List.mem_of_getElem? (i := 36) rfl)
theorem i_p_need_way : find prg "need_way" = some p_need_way := find_of (fd := p_need_way) ndL (List.mem_of_getElem? (i := 37) rfl)
theorem i_p_need_polls : find prg "need_polls" = some p_need_polls := find_of (fd := p_need_polls) ndL (List.mem_of_getElem? (i := 38) rfl)
theorem i_p_late_history : find prg "late_history" = some p_late_history := find_of (fd := p_late_history) ndL (List.mem_of_getElem? (i := 39) rfl)
theorem i_p_got_by_polls : find prg "got_by_polls" = some p_got_by_polls := find_of (fd := p_got_by_polls) ndL (List.mem_of_getElem? (i := 40) rfl)
theorem i_p_keys_passed : find prg "keys_passed" = some p_keys_passed := find_of (fd := p_keys_passed) ndL (List.mem_of_getElem? (i := 41) rfl)
theorem i_p_is_passing : find prg "is_passing" = some p_is_passing := find_of (fd := p_is_passing) ndL (List.mem_of_getElem? (i := 42) rfl)
theorem i_f_law_cup : find prg "_law_cup" = some f_law_cup := find_of (fd := f_law_cup) ndL (List.mem_of_getElem? (i := 43) rfl)
theorem i_f_law_roll : find prg "_law_roll" = some f_law_roll := find_of (fd := f_law_roll) ndL (List.mem_of_getElem? (i := 44) rfl)
theorem i_f_law_some : find prg "_law_some" = some f_law_some := find_of (fd := f_law_some) ndL (List.mem_of_getElem? (i := 45) rfl)
theorem i_f_law_same : find prg "_law_same" = some f_law_same := find_of (fd := f_law_same) ndL (List.mem_of_getElem? (i := 46) rfl)
theorem i_f_law_late : find prg "_law_late" = some f_law_late := find_of (fd := f_law_late) ndL (List.mem_of_getElem? (i := 47) rfl)
theorem i_f_law_from : find prg "_law_from" = some f_law_from := find_of (fd := f_law_from) ndL (List.mem_of_getElem? (i := 48) rfl)
theorem i_f_law_polls : find prg "_law_polls" = some f_law_polls := find_of (fd := f_law_polls) ndL (List.mem_of_getElem? (i := 49) rfl)
theorem i_f_law_asked : find prg "_law_asked" = some f_law_asked := find_of (fd := f_law_asked) ndL (List.mem_of_getElem? (i := 50) rfl)
theorem i_f_law_run : find prg "_law_run" = some f_law_run := find_of (fd := f_law_run) ndL (List.mem_of_getElem? (i := 51) rfl)
theorem i_p_law : find prg "law" = some p_law := find_of (fd := p_law) ndL (List.mem_of_getElem? (i := 52) rfl)
end Py.K92

set_option Elab.async false
set_option linter.all false
set_option maxRecDepth 100000
set_option maxHeartbeats 4000000
namespace Py.K92
open PySem Py L2
variable {d : Nat} {S : Cup}
theorem roll (hd : 0 < d) (hS : CG S) {m : Int} (hm : 0 < m) (hm2 : m < 1073741824) : ∃ r S', evCall prg d "_law_roll" [.cup, .int m] S = .ok (.int r) S' ∧ 0 ≤ r ∧ r < m ∧ CG S' :=
  roll_ok (show find prg "_law_roll" = some (rollDef 31277 7919 2147482951 463 2147483059 797) from i_f_law_roll) (by decide) (by decide) (by decide) (by decide) (by decide) hd hS hm hm2
theorem some_of (hd : 1 < d) (hS : CG S) {v : PV} {xs : List PV} (hv : v = .lst xs ∨ v = .tup xs) (hx : xs ≠ []) (hx2 : xs.length < 1073741824) : ∃ x S', evCall prg d "_law_some" [.cup, v] S = .ok x S' ∧ x ∈ xs ∧ CG S' :=
  some_ok (show find prg "_law_some" = some someDef from i_f_law_some) (show find prg "_law_roll" = some (rollDef 31277 7919 2147482951 463 2147483059 797) from i_f_law_roll) (by decide) (by decide) (by decide) (by decide) (by decide) hd hS hv hx hx2
theorem cup_of {n : Nat} (hn : 0 < n) {ns : List Int} (hl : ns.length ≤ 63) (hb : ∀ z ∈ ns, Builtin.Int.intBits z ≤ 1048576) : ∃ x y, evCall prg n "_law_cup" [.scr ns] none = .ok (.lst [.int x, .int y]) none ∧ CG (some (x, y)) :=
  cup_ok (show find prg "_law_cup" = some (cupDef 283 719 5119 2077601609 389) from i_f_law_cup) (by decide) (by decide) (by decide) (by decide) hn hl hb
theorem same {ab : Int × Int} {n : Nat} {v : PV} (h : Pl n v) (hd : n < d) : evCall prg d "_law_same" [v, v] (some ab) = .ok (.bl true) (some ab) := same_ok (show find prg "_law_same" = some sameDef from i_f_law_same) h hd
end Py.K92

set_option Elab.async false
set_option linter.all false
set_option maxRecDepth 100000
set_option maxHeartbeats 4000000
namespace Py.K92
open PySem Py L2
variable {d : Nat} {ab : Int × Int}
theorem is_tuple_of_ok {xs : List PV} {lo hi : Int} (hd : 0 < d) : evCall prg d "is_tuple_of" [.tup xs, .int lo, .int hi] (some ab) = .ok (.bl (decide (lo ≤ xs.length ∧ xs.length ≤ hi))) (some ab) := by
  rw [evc i_p_is_tuple_of hd rfl]
  by_cases h : lo ≤ xs.length <;> simp [p_is_tuple_of, start, runs, run, ev, evs, isTy, cmpB, cmpV, endR, h]
theorem fits_whole_ok {i lo hi : Int} (hd : 0 < d) : evCall prg d "fits_whole" [.int i, .int lo, .int hi] (some ab) = .ok (.bl (decide (lo ≤ i ∧ i ≤ hi))) (some ab) := by
  rw [evc i_p_fits_whole hd rfl]
  by_cases h : lo ≤ i <;> simp [p_fits_whole, start, runs, run, ev, evs, isTy, cmpB, cmpV, endR, h]
theorem fits_row_ok {r : Int × Int} (hd : 1 < d) (h : okRow r = true) : evCall prg d "fits_row" [e2 r] (some ab) = .ok (.bl true) (some ab) := by
  rw [evc i_p_fits_row (by omega) rfl]
  simp [okRow] at h
  have hd' : 0 < d - 1 := by omega
  simp [p_fits_row, e2, start, runs, run, ev, evs, cmpB, cmpV, endR, is_tuple_of_ok hd', fits_whole_ok hd', idxV, atI, ixN, binV, subV, h]
theorem shA : shp (.str "put") = true := by decide +kernel
theorem shB : shp (.str "drop") = true := by decide +kernel
theorem shC : shp (.str "page") = true := by decide +kernel
theorem ne1 : ((("drop" : Str)) == "put") = false := by decide +kernel
theorem ne2 : ((("page" : Str)) == "put") = false := by decide +kernel
theorem fits_change_ok {s : Stp} (hd : 2 < d) (h : okStp s = true) (hp : s ≠ .page) : evCall prg d "fits_change" [eStp s] (some ab) = .ok (.bl true) (some ab) := by
  rw [evc i_p_fits_change (by omega) rfl]
  have hd' : 0 < d - 1 := by omega
  cases s with
  | page => exact absurd rfl hp
  | put k r =>
    have hr := fits_row_ok (ab := ab) (r := (k, r)) (d := d - 1) (by omega) h
    simp [e2] at hr
    have hc : cutP [.str "put", .int k, .int r] (some 1) none = [.int k, .int r] := cut_hi (i := 1)
    simp [p_fits_change, eStp, start, runs, run, ev, evs, evO, cmpB, cmpV, endR, is_tuple_of_ok hd', fits_whole_ok hd', idxV, atI, ixN, binV, subV, isTy, eqB_str shA shA, slcV, hc, hr]
  | drop k =>
    simp [okStp] at h
    simp [p_fits_change, eStp, start, runs, run, ev, evs, evO, cmpB, cmpV, endR, is_tuple_of_ok hd', fits_whole_ok hd', idxV, atI, ixN, binV, subV, isTy, eqB_str shB shA, eqB_str shB shB, ne1, slcV, h]
theorem eqPage : ∀ s : Stp, eqB (eStp s) (.tup [.str "page"]) = some (match s with | .page => true | _ => false)
  | .page => by kernel_rfl
  | .put k r => by kernel_rfl
  | .drop k => by kernel_rfl
theorem fits_step_ok {s : Stp} (hd : 3 < d) (h : okStp s = true) : evCall prg d "fits_step" [eStp s] (some ab) = .ok (.bl true) (some ab) := by
  rw [evc i_p_fits_step (by omega) rfl]
  have e := eqPage s
  cases s with
  | page => simp [p_fits_step, start, runs, run, ev, evs, cmpV, cmpB, e, isTy, endR]; simp [eStp, isTy]
  | put k r =>
    have hc := fits_change_ok (ab := ab) (s := .put k r) (d := d - 1) (by omega) h (by intro z; cases z)
    simp [p_fits_step, start, runs, run, ev, evs, cmpV, cmpB, e, hc, endR]
  | drop k =>
    have hc := fits_change_ok (ab := ab) (s := .drop k) (d := d - 1) (by omega) h (by intro z; cases z)
    simp [p_fits_step, start, runs, run, ev, evs, cmpV, cmpB, e, hc, endR]
theorem fits_history_ok {h : List Stp} (hd : 4 < d) (ok : okHist h) : evCall prg d "fits_history" [eHist h] (some ab) = .ok (.bl true) (some ab) := by
  rw [evc i_p_fits_history (by omega) rfl]
  have hd' : 0 < d - 1 := by omega
  have hl := ok.1
  have hl1 : (h.length : Int) ≤ 60 := by omega
  simp [p_fits_history, start, runs, run, ev, evs, evI, evT, is_tuple_of_ok hd', seqOf, bindT, wipeE, hl, hl1]
  rw [allT fun x hx => ?_]
  · simp [endR, hl1, le_lineN (show h.length ≤ 16777216 by omega)]
  · obtain ⟨s, hs, rfl⟩ := List.mem_map.mp hx
    rw [fits_step_ok (by omega) (ok.2 s hs)]
    rfl
theorem fits_list_ok {rs : List (Int × Int)} (hd : 2 < d) (ok : okRows rs) : evCall prg d "fits_list" [eRows rs] (some ab) = .ok (.bl true) (some ab) := by
  rw [evc i_p_fits_list (by omega) rfl]
  have hd' : 0 < d - 1 := by omega
  have hl := ok.1
  have hl1 : (rs.length : Int) ≤ 10 := by omega
  have hl2 : ¬ (10 < (rs.length : Int)) := by omega
  have hc : cutP (rs.map e2) (some 1) none = (rs.map e2).drop 1 := cut_hi (i := 1)
  simp [p_fits_list, start, runs, run, ev, evs, evI, evT, evO, is_tuple_of_ok hd', seqOf, bindT, wipeE, hl, hl1, hl2]
  rw [allT fun x hx => ?_]
  · simp [endR, hl2, le_lineN (show rs.length ≤ 16777216 by omega), slcV, hc]
    rw [allT fun x hx => ?_]
    · simp [zipL_len, show rs.length ≤ lineN + 1 from Nat.le_succ_of_le (le_lineN (show rs.length ≤ 16777216 by omega))]
    · obtain ⟨i, x, y, h1, h2, rfl⟩ := mem_zipL hx
      rw [List.getElem?_map] at h1
      rw [List.getElem?_tail, List.getElem?_map] at h2
      rw [Option.map_eq_some_iff] at h1 h2
      obtain ⟨a, ha, rfl⟩ := h1
      obtain ⟨b, hb, rfl⟩ := h2
      have hlt : a.1 < b.1 := by
        have h1 := (List.getElem?_eq_some_iff.mp ha)
        have h2 := (List.getElem?_eq_some_iff.mp hb)
        obtain ⟨p1, q1⟩ := h1
        obtain ⟨p2, q2⟩ := h2
        have := List.pairwise_iff_getElem.mp ok.2.2 i (i + 1) p1 p2 (by omega)
        rw [q1, q2] at this
        exact this
      simp [bindT, e2, idxV, atI, ixN, cmpV, cmpB, ltV, hlt]
  · obtain ⟨r, hr, rfl⟩ := List.mem_map.mp hx
    rw [fits_row_ok (by omega) (ok.2.1 r hr)]
    rfl
theorem need_list_ok {rs : List (Int × Int)} (hd : 3 < d) (ok : okRows rs) : evCall prg d "need_list" [eRows rs] (some ab) = .ok .non (some ab) := by
  rw [evc i_p_need_list (by omega) rfl]
  simp [p_need_list, start, runs, run, ev, evs, fits_list_ok (show 2 < d - 1 by omega) ok, endR]
end Py.K92

set_option Elab.async false
set_option linter.all false
set_option maxRecDepth 100000
set_option maxHeartbeats 4000000
namespace Py.K92
open PySem Py L2
variable {d : Nat} {ab : Int × Int}
theorem place_of_ok {o : Int} {r : Row} (hd : 0 < d) : evCall prg d "place_of" [.int o, e2 r] (some ab) = .ok (.tup ((plc o r).map PV.int)) (some ab) := by
  rw [evc i_p_place_of hd rfl]
  by_cases h : o = 0 <;> simp [p_place_of, start, ev, evs, evI, evT, evO, cmpV, cmpB, seqOf, bindT, wipeE, endR, isTy, isV, ltV, isLst, e2, idxV, atI, ixN, plc, h]
theorem ordered_in_ok {o : Int} {rs : List Row} (hd : 0 < d) (hl : rs.length ≤ 10000) : evCall prg d "ordered_in" [.int o, eRows rs] (some ab) = .ok (eRows (ordR o rs)) (some ab) := by
  rw [evc i_p_ordered_in hd rfl]
  have hk := keysV_rows (x1 := "BY_KEY") (x2 := "KEY") (x3 := "RANK") (x4 := "KEY") o rs
  unfold kxPl at hk
  simp [p_ordered_in, start, ev, evs, evI, evT, evO, cmpV, cmpB, seqOf, bindT, wipeE, endR, isTy, isV, ltV, isLst, hk, sortKV_rows (le_lineN (show rs.length ≤ 16777216 by omega))]
theorem mark_of_ok {o m : Int} {r : Row} (hd : 1 < d) : evCall prg d "mark_of" [.int o, .int m, e2 r] (some ab) = .ok (.tup ((mrk o m r).map PV.int)) (some ab) := by
  rw [evc i_p_mark_of (by omega) rfl]
  have hc : slcV none (some 1) (.tup ((plc o r).map PV.int)) = some (.tup (((plc o r).take 1).map PV.int)) := by
    show some (PV.tup (cutP _ none (some ((1 : Nat) : Int)))) = _
    rw [cut_lo (by by_cases q : o = 0 <;> simp [plc, q]), List.map_take]
  by_cases h : m = 2 <;> simp [p_mark_of, start, ev, evs, evI, evT, evO, cmpV, cmpB, seqOf, bindT, wipeE, endR, isTy, isV, ltV, isLst, place_of_ok (show 0 < d - 1 by omega), mrk, h, hc]
theorem begin_in_ok {o m s : Int} {row : Row} {rs : List Row} (hd : 2 < d) (hl : rs.length ≤ 10000) : evCall prg d "begin_in" [.int o, .int m, .int s, e2 row, eRows rs] (some ab) = .ok (.int (begR o m s row rs)) (some ab) := by
  rw [evc i_p_begin_in (by omega) rfl]
  obtain ⟨f, hf⟩ : ∃ f : Row → Bool, f = fun own => HT.lexLt (mrk o m own) (mrk o m row) || (decide (mrk o m own = mrk o m row) && decide (s = 0)) := ⟨_, rfl⟩
  have hb : begR o m s row rs = ((ordR o rs).filter f).length := by rw [hf]; rfl
  simp [p_begin_in, start, ev, evs, evI, evT, evO, cmpV, cmpB, seqOf, bindT, wipeE, endR, isTy, isV, ltV, isLst, mark_of_ok (show 1 < d - 1 by omega)]
  refine loop_nx (P := fun o' => endR false (some ab) o' = .ok (.int (begR o m s row rs)) (some ab)) (fun n ρ S => S = some ab ∧ ∃ x1 x2, ρ = [some (.int o), some (.int m), some (.int s), some (e2 row), some (eRows rs), x1, some (.tup ((mrk o m row).map PV.int)), some (.int ((((ordR o rs).take n).filter f).length : Nat)), x2]) (xs := (ordR o rs).map e2) (S1 := some ab) ?_ ?_ ?_ ?_
  · simp [start, ev, evs, evI, evT, evO, cmpV, cmpB, seqOf, bindT, wipeE, endR, isTy, isV, ltV, isLst, ordered_in_ok (show 0 < d - 1 by omega) hl]
  · exact ⟨rfl, none, none, by simp⟩
  · rintro n x ρ S hx ⟨rfl, x1, x2, rfl⟩
    rw [List.getElem?_map, Option.map_eq_some_iff] at hx
    obtain ⟨own, hown, rfl⟩ := hx
    refine ⟨_, rfl, ?_⟩
    have hc := cnt_up f hown
    generalize hA : (((ordR o rs).take n).filter f).length = A at hc ⊢
    have hfo : f own = (HT.lexLt (mrk o m own) (mrk o m row) || (decide (mrk o m own = mrk o m row) && decide (s = 0))) := by rw [hf]
    have fin : ∀ (b : Bool), f own = b → Nx (fun n ρ S => S = some ab ∧ ∃ x1 x2, ρ = [some (.int o), some (.int m), some (.int s), some (e2 row), some (eRows rs), x1, some (.tup ((mrk o m row).map PV.int)), some (.int ((((ordR o rs).take n).filter f).length : Nat)), x2]) (n + 1) (.next [some (.int o), some (.int m), some (.int s), some (e2 row), some (eRows rs), some (e2 own), some (.tup ((mrk o m row).map PV.int)), some (.int ((A : Int) + if b then 1 else 0)), some (.tup ((mrk o m own).map PV.int))] (some ab)) := fun b hb => nx_next ⟨rfl, some (e2 own), some (.tup ((mrk o m own).map PV.int)), by rw [hc, hb]; cases b <;> simp⟩
    by_cases h1 : HT.lexLt (mrk o m own) (mrk o m row) = true
    · have := fin true (by rw [hfo, h1]; rfl)
      simp [start, ev, evs, evI, evT, evO, cmpV, cmpB, seqOf, bindT, wipeE, endR, isTy, isV, ltV, isLst, mark_of_ok (show 1 < d - 1 by omega), eqB_ints, intsOf_map, h1, augV]
      simpa using this
    · have h1' : HT.lexLt (mrk o m own) (mrk o m row) = false := by simpa using h1
      by_cases h2 : mrk o m own = mrk o m row
      · have h1r := h1'
        rw [h2] at h1r
        by_cases h3 : s = 0
        · have := fin true (by rw [hfo, h1']; simp [h2, h3])
          simp [start, ev, evs, evI, evT, evO, cmpV, cmpB, seqOf, bindT, wipeE, endR, isTy, isV, ltV, isLst, mark_of_ok (show 1 < d - 1 by omega), eqB_ints, intsOf_map, h1', h1r, h2, h3, augV]
          simpa [h2, h3] using this
        · have := fin false (by rw [hfo, h1']; simp [h2, h3])
          simp [start, ev, evs, evI, evT, evO, cmpV, cmpB, seqOf, bindT, wipeE, endR, isTy, isV, ltV, isLst, mark_of_ok (show 1 < d - 1 by omega), eqB_ints, intsOf_map, h1', h1r, h2, h3, augV]
          simpa [h2, h3] using this
      · have := fin false (by rw [hfo, h1']; simp [h2])
        simp [start, ev, evs, evI, evT, evO, cmpV, cmpB, seqOf, bindT, wipeE, endR, isTy, isV, ltV, isLst, mark_of_ok (show 1 < d - 1 by omega), eqB_ints, intsOf_map, h1', h2, augV]
        simpa [h2] using this
  · rintro ρ S ⟨rfl, x1, x2, rfl⟩
    rw [hb]
    simp [start, ev, evs, evI, evT, evO, cmpV, cmpB, seqOf, bindT, wipeE, endR, isTy, isV, ltV, isLst]
theorem view_in_ok {t : Tb} {R : Rdg} (hd : 1 < d) (hs : smR R) : evCall prg d "view_in" [eTb t, eRdg R] (some ab) = .ok (eRows (viewR t R)) (some ab) := by
  rw [evc i_p_view_in (by omega) rfl]
  obtain ⟨h1, h2, h3⟩ := hs
  by_cases hv : t.v = 1
  · cases hf : R.first with
    | none =>
      simp [p_view_in, start, ev, evs, evI, evT, evO, cmpV, cmpB, seqOf, bindT, wipeE, endR, isTy, isV, ltV, isLst, eTb, eRdg, idxV, atI, ixN, hv, hf, oRows, viewR]
      rw [ordered_in_ok (by omega) (by omega)]
      simp
    | some f =>
      rw [hf] at h2
      simp only [Option.getD_some] at h2
      simp [p_view_in, start, ev, evs, evI, evT, evO, cmpV, cmpB, seqOf, bindT, wipeE, endR, isTy, isV, ltV, isLst, eTb, eRdg, idxV, atI, ixN, hv, hf, oRows, viewR]
      rw [ordered_in_ok (by omega) (by omega)]
      simp
  · simp [p_view_in, start, ev, evs, evI, evT, evO, cmpV, cmpB, seqOf, bindT, wipeE, endR, isTy, isV, ltV, isLst, eTb, eRdg, idxV, atI, ixN, hv, viewR]
    rw [ordered_in_ok (by omega) (by omega)]
    simp
theorem start_in_ok {t : Tb} {R : Rdg} (hd : 3 < d) (hs : smR R) : evCall prg d "start_in" [eTb t, eRdg R] (some ab) = .ok (match startR t R with | none => .non | some i => .int (i : Nat)) (some ab) := by
  rw [evc i_p_start_in (by omega) rfl]
  have hv := viewR_len (t := t) hs
  have iv : ∀ r, inB (e2 r) (.tup ((viewR t R).map e2)) = some (decide (r ∈ viewR t R)) := fun r => inB_rows r _
  simp [p_start_in, start, ev, evs, evI, evT, evO, cmpV, cmpB, seqOf, bindT, wipeE, endR, isTy, isV, ltV, isLst, view_in_ok (show 1 < d - 1 by omega) hs]
  by_cases hm : t.m = 0
  · simp [start, ev, evs, evI, evT, evO, cmpV, cmpB, seqOf, bindT, wipeE, endR, isTy, isV, ltV, isLst, eTb, eRdg, idxV, atI, ixN, hm, startR]
  · cases hl : R.last with
    | none => simp [start, ev, evs, evI, evT, evO, cmpV, cmpB, seqOf, bindT, wipeE, endR, isTy, isV, ltV, isLst, eTb, eRdg, idxV, atI, ixN, hm, startR, hl, oRow]
    | some last =>
      by_cases hin : last ∈ viewR t R
      · simp [start, ev, evs, evI, evT, evO, cmpV, cmpB, seqOf, bindT, wipeE, endR, isTy, isV, ltV, isLst, eTb, eRdg, idxV, atI, ixN, hm, startR, hl, oRow, iv, hin]
        simp [e2]
        have := begin_in_ok (ab := ab) (d := d - 1) (o := t.o) (m := t.m) (s := t.s) (row := last) (rs := viewR t R) (by omega) (by omega)
        simp [e2] at this
        simp [this]
      · by_cases hg : 0 < t.g
        · by_cases g1 : t.g = 1
          · simp [start, ev, evs, evI, evT, evO, cmpV, cmpB, seqOf, bindT, wipeE, endR, isTy, isV, ltV, isLst, eTb, eRdg, idxV, atI, ixN, hm, startR, hl, oRow, iv, hin, g1]
            simp [e2]
          · simp [start, ev, evs, evI, evT, evO, cmpV, cmpB, seqOf, bindT, wipeE, endR, isTy, isV, ltV, isLst, eTb, eRdg, idxV, atI, ixN, hm, startR, hl, oRow, iv, hin, hg, g1]
            simp [e2]
        · simp [start, ev, evs, evI, evT, evO, cmpV, cmpB, seqOf, bindT, wipeE, endR, isTy, isV, ltV, isLst, eTb, eRdg, idxV, atI, ixN, hm, startR, hl, oRow, iv, hin, hg]
          simp [e2]
          have := begin_in_ok (ab := ab) (d := d - 1) (o := t.o) (m := t.m) (s := t.s) (row := last) (rs := viewR t R) (by omega) (by omega)
          simp [e2] at this
          simp [this]
theorem page_in_ok {t : Tb} {size : Nat} {R : Rdg} (hd : 4 < d) (hs : smR R) : evCall prg d "page_in" [eTb t, .int (size : Nat), eRdg R] (some ab) = .ok (eRows (pageR t size R)) (some ab) := by
  rw [evc i_p_page_in (by omega) rfl]
  simp [p_page_in, start, ev, evs, evI, evT, evO, cmpV, cmpB, seqOf, bindT, wipeE, endR, isTy, isV, ltV, isLst, start_in_ok (show 3 < d - 1 by omega) hs]
  cases hst : startR t R with
  | none => simp [start, ev, evs, evI, evT, evO, cmpV, cmpB, seqOf, bindT, wipeE, endR, isTy, isV, ltV, isLst, pageR, hst]
  | some i =>
    have hc : slcV (some (i : Int)) (some ((i : Int) + (size : Int))) (eRows (viewR t R)) = some (eRows (((viewR t R).drop i).take size)) := by
      show some (PV.tup (cutP _ (some ((i : Nat) : Int)) (some ((i : Int) + (size : Int))))) = _
      rw [show (i : Int) + (size : Int) = ((i + size : Nat) : Int) by omega, cut_mid, ← List.map_drop, ← List.map_take]
    simp [start, ev, evs, evI, evT, evO, cmpV, cmpB, seqOf, bindT, wipeE, endR, isTy, isV, ltV, isLst, pageR, hst, view_in_ok (show 1 < d - 1 by omega) hs, hc]
theorem keys_in_ok {rs : List Row} (hd : 0 < d) (hl : rs.length ≤ 10000) : evCall prg d "keys_in" [eRows rs] (some ab) = .ok (.lst ((rs.map (·.1)).map PV.int)) (some ab) := by
  rw [evc i_p_keys_in hd rfl]
  simp [p_keys_in, start, ev, evs, evI, evT, evO, cmpV, cmpB, seqOf, bindT, wipeE, endR, isTy, isV, ltV, isLst]
  rw [flatR_e e2 (fun r => PV.int r.1) (fun r hr => by simp [e2, idxV, atI, ixN])]
  simp [le_lineN (show rs.length ≤ 16777216 by omega), Function.comp_def]
theorem new_in_ok {t : Tb} {R : Rdg} {page : List Row} (hd : 1 < d) (hs : smR R) (hp : page.length ≤ 100) : evCall prg d "new_in" [eTb t, eRdg R, eRows page] (some ab) = .ok (eRows (newR t R page)) (some ab) := by
  rw [evc i_p_new_in (by omega) rfl]
  obtain ⟨h1, h2, h3⟩ := hs
  have hi : ∀ r : Row, inB (.int r.1) (.lst ((R.got.map (·.1)).map PV.int)) = some (decide (r.1 ∈ R.got.map (·.1))) := fun r => inB_intsL _ _
  have hn := fun f : Row → Bool => List.length_filter_le f page
  by_cases he : t.e = 1
  · have hk := keys_in_ok (ab := ab) (d := d - 1) (rs := R.got) (by omega) (by omega)
    have hlen := hn fun r => decide (r.1 ∉ R.got.map (·.1))
    simp [p_new_in, start, ev, evs, evI, evT, evO, cmpV, cmpB, seqOf, bindT, wipeE, endR, isTy, isV, ltV, isLst, eTb, eRdg, idxV, atI, ixN, he, newR] at hk ⊢
    rw [hk]
    simp [start, ev, evs, evI, evT, evO, cmpV, cmpB, seqOf, bindT, wipeE, endR, isTy, isV, ltV, isLst]
    rw [flatR_f e2 e2 (fun r => decide (r.1 ∉ R.got.map (·.1))) (fun r hr => by
      have h0 := hi r
      by_cases q : r.1 ∈ R.got.map (·.1) <;> simp [start, ev, evs, evI, evT, evO, cmpV, cmpB, seqOf, bindT, wipeE, endR, isTy, isV, ltV, isLst, e2, idxV, atI, ixN, q] at h0 ⊢ <;> simp [h0])]
    simp at hlen ⊢
    simp [le_lineN (show (page.filter fun r => !decide (r.1 ∈ R.got.map (·.1))).length ≤ 16777216 by omega)]
  · simp [p_new_in, start, ev, evs, evI, evT, evO, cmpV, cmpB, seqOf, bindT, wipeE, endR, isTy, isV, ltV, isLst, eTb, eRdg, idxV, atI, ixN, he, newR]
    rw [flatR_f e2 e2 (fun _ => true) (fun r hr => by
      have h0 : inB (.int r.1) (.lst []) = some false := inB_intsL r.1 []
      simp [start, ev, evs, evI, evT, evO, cmpV, cmpB, seqOf, bindT, wipeE, endR, isTy, isV, ltV, isLst, e2, idxV, atI, ixN, h0])]
    rw [show page.filter (fun _ => true) = page from List.filter_eq_self.mpr fun _ _ => rfl]
    simp [le_lineN (show page.length ≤ 16777216 by omega)]
theorem paged_in_ok {t : Tb} {size : Nat} {R : Rdg} (hd : 5 < d) (hs : smR R) : evCall prg d "paged_in" [eTb t, .int (size : Nat), eRdg R] (some ab) = .ok (eRdg (pagedR t size R)) (some ab) := by
  rw [evc i_p_paged_in (by omega) rfl]
  have hp := pageR_len (t := t) (size := size) hs
  have hnew := new_in_ok (ab := ab) (d := d - 1) (t := t) (R := R) (page := pageR t size R) (by omega) hs hp
  have hpg := page_in_ok (ab := ab) (d := d - 1) (t := t) (size := size) (R := R) (by omega) hs
  cases ho : R.over with
  | true => simp [p_paged_in, start, ev, evs, evI, evT, evO, cmpV, cmpB, seqOf, bindT, wipeE, endR, isTy, isV, ltV, isLst, eRdg, idxV, atI, ixN, ho, pagedR]
  | false =>
    have hemp : eqB (eRows (pageR t size R)) (.tup []) = some (pageR t size R).isEmpty := by
      rw [eqB_nilT (shd_rows.shp (by omega))]
      simp
    have hg : R.got.length + (newR t R (pageR t size R)).length ≤ lineN := by
      have : (newR t R (pageR t size R)).length ≤ (pageR t size R).length := by
        unfold newR
        split
        · exact List.length_filter_le _ _
        · exact Nat.le_refl _
      exact le_lineN (by have := hs.2.2; omega)
    have e0 : ∀ i : Nat, i < 6 → idxV (some ab) (eRdg R) (.int (i : Int)) = ([eRows R.now, oRows R.first, eRows R.got, .int R.sent, oRow R.last, .int (if R.over then 1 else 0)] : List PV)[i]? := by
      intro i hi
      have hi' : (i : Int) < 6 := by omega
      simp [eRdg, idxV, atI, ixN, hi, hi']
    have k0 := e0 0 (by omega)
    have k1 := e0 1 (by omega)
    have k2 := e0 2 (by omega)
    have k3 := e0 3 (by omega)
    have k4 := e0 4 (by omega)
    have k5 := e0 5 (by omega)
    simp [ho] at k0 k1 k2 k3 k4 k5
    have hpd : pagedR t size R = ⟨R.now, some (R.first.getD R.now), R.got ++ newR t R (pageR t size R), R.sent + (pageR t size R).length, (match (pageR t size R).getLast? with | none => R.last | some r => some r), decide ((pageR t size R).length < size)⟩ := by
      unfold pagedR; rw [ho]; rfl
    rw [hpd]
    generalize pageR t size R = pg at *
    generalize newR t R pg = nw at *
    have hadd : addV (eRows R.got) (eRows nw) = some (eRows (R.got ++ nw)) := by
      have : (R.got.map e2).length + (nw.map e2).length ≤ lineN := by simpa using hg
      simp only [addV]
      rw [if_pos this, ← List.map_append]
    have hbl : bltV .len [eRows pg] = some (.int (pg.length : Nat)) := by simp [bltV]
    have hsum : addV (.int (R.sent : Int)) (.int (pg.length : Int)) = some (.int ((R.sent + pg.length : Nat) : Int)) := by simp [addV]
    have fin : ∀ w : PV, (match pg.getLast? with | none => oRow R.last | some r => e2 r) = w → PV.tup [eRows R.now, eRows (R.first.getD R.now), eRows (R.got ++ nw), .int ((R.sent + pg.length : Nat) : Int), w, .int (if decide (pg.length < size) then 1 else 0)] = eRdg ⟨R.now, some (R.first.getD R.now), R.got ++ nw, R.sent + pg.length, (match pg.getLast? with | none => R.last | some r => some r), decide (pg.length < size)⟩ := by
      intro w hw
      rw [← hw]
      unfold eRdg
      cases pg.getLast? <;> rfl
    have hlast : ∀ r, pg.getLast? = some r → idxV (some ab) (eRows pg) (.int (-1)) = some (e2 r) := fun r hr => idx_last (by rw [List.getLast?_map, hr]; rfl)
    have hneg : negV (.int 1) = some (.int (-1)) := rfl
    have hfst : evCall prg (d - 1) "new_in" [eTb t, eRdg R, eRows pg] (some ab) = .ok (eRows nw) (some ab) := hnew
    cases hl : pg.getLast? with
    | none =>
      have hem : pg.isEmpty = true := by
        have : pg = [] := by simpa using hl
        rw [this]; rfl
      rw [hem] at hemp
      have fin' := fin _ rfl
      rw [hl] at fin'
      by_cases hz : pg.length < size <;> cases hf : R.first <;> simp [p_paged_in, start, ev, evs, evI, evT, evO, cmpV, cmpB, seqOf, bindT, wipeE, endR, isTy, isV, ltV, isLst, k0, k1, k2, k3, k4, k5, hpg, hemp, hfst, hf, oRows, hadd, hsum, hbl, binV, hz, isV] at fin' ⊢ <;> exact fin'
    | some r =>
      have hem : pg.isEmpty = false := by
        cases pg with
        | nil => cases hl
        | cons _ _ => rfl
      rw [hem] at hemp
      have fin' := fin _ rfl
      rw [hl] at fin'
      have hla := hlast r hl
      by_cases hz : pg.length < size <;> cases hf : R.first <;> simp [p_paged_in, start, ev, evs, evI, evT, evO, cmpV, cmpB, seqOf, bindT, wipeE, endR, isTy, isV, ltV, isLst, k0, k1, k2, k3, k4, k5, hpg, hemp, hfst, hf, oRows, hadd, hsum, hbl, binV, hz, isV, hneg, hla] at fin' ⊢ <;> exact fin'
end Py.K92

set_option Elab.async false
set_option linter.all false
set_option maxRecDepth 100000
set_option maxHeartbeats 4000000
namespace Py.K92
open PySem Py L2
variable {d : Nat} {ab : Int × Int}
theorem changed_in_ok {rs : List Row} {c : Stp} (hd : 0 < d) (hl : rs.length ≤ 10000) (hc : c ≠ .page) : evCall prg d "changed_in" [eRows rs, eStp c] (some ab) = .ok (eRows (chg rs c)) (some ab) := by
  rw [evc i_p_changed_in hd rfl]
  have hf := fun f : Row → Bool => List.length_filter_le f rs
  cases c with
  | page => exact absurd rfl hc
  | put k r =>
    have hlen := hf fun x => decide (x.1 ≠ k)
    have hcut : slcV (some 1) none (.tup [.str "put", .int k, .int r]) = some (e2 (k, r)) := slc_tail
    have hs := sortV_2 (xs := rs.filter (fun x => decide (x.1 ≠ k)) ++ [(k, r)]) (by rw [List.length_append]; exact le_lineN (by simp at hlen ⊢; omega))
    rw [List.map_append] at hs
    simp [p_changed_in, start, ev, evs, evI, evT, evO, cmpV, cmpB, seqOf, bindT, wipeE, endR, isTy, isV, ltV, isLst, eStp, idxV, atI, ixN]
    rw [flatR_f e2 e2 (fun x => decide (x.1 ≠ k)) (fun x hx => by by_cases q : x.1 = k <;> simp [start, ev, evs, evI, evT, evO, cmpV, cmpB, seqOf, bindT, wipeE, endR, isTy, isV, ltV, isLst, e2, idxV, atI, ixN, q])]
    simp at hlen hs
    have h1 : (rs.filter fun x => !decide (x.1 = k)).length ≤ lineN := le_lineN (by omega)
    have h2 : (rs.filter fun x => !decide (x.1 = k)).length + 1 ≤ lineN := le_lineN (by omega)
    simp [h1, h2, eqB_str shA shA, hcut, hs, chg]
  | drop k =>
    have hlen := hf fun x => decide (x.1 ≠ k)
    have hs := sortV_2 (xs := rs.filter (fun x => decide (x.1 ≠ k))) (le_lineN (Nat.le_trans hlen (by omega)))
    simp [p_changed_in, start, ev, evs, evI, evT, evO, cmpV, cmpB, seqOf, bindT, wipeE, endR, isTy, isV, ltV, isLst, eStp, idxV, atI, ixN]
    rw [flatR_f e2 e2 (fun x => decide (x.1 ≠ k)) (fun x hx => by by_cases q : x.1 = k <;> simp [start, ev, evs, evI, evT, evO, cmpV, cmpB, seqOf, bindT, wipeE, endR, isTy, isV, ltV, isLst, e2, idxV, atI, ixN, q])]
    simp at hlen hs
    have h1 : (rs.filter fun x => !decide (x.1 = k)).length ≤ lineN := le_lineN (by omega)
    simp [h1, eqB_str shB shA, ne1, hs, chg]
theorem changed_reading_ok {R : Rdg} {c : Stp} (hd : 1 < d) (hl : R.now.length ≤ 10000) (hc : c ≠ .page) : evCall prg d "changed_reading" [eRdg R, eStp c] (some ab) = .ok (eRdg { R with now := chg R.now c }) (some ab) := by
  rw [evc i_p_changed_reading (by omega) rfl]
  have ht : slcV (some 1) none (eRdg R) = some (.tup [oRows R.first, eRows R.got, .int R.sent, oRow R.last, .int (if R.over then 1 else 0)]) := slc_tail
  have hn : idxV (some ab) (eRdg R) (.int 0) = some (eRows R.now) := by simp [eRdg, idxV, atI, ixN]
  have h7 : (6 : Nat) ≤ lineN := le_lineN (by omega)
  simp [p_changed_reading, start, ev, evs, evI, evT, evO, cmpV, cmpB, seqOf, bindT, wipeE, endR, isTy, isV, ltV, isLst, ht, hn, changed_in_ok (show 0 < d - 1 by omega) hl hc, binV, addV, h7]
  rfl
theorem stepped_in_ok {t : Tb} {size : Nat} {R : Rdg} {c : Stp} (hd : 6 < d) (hs : smR R) : evCall prg d "stepped_in" [eTb t, .int (size : Nat), eRdg R, eStp c] (some ab) = .ok (eRdg (stepR t size R c)) (some ab) := by
  rw [evc i_p_stepped_in (by omega) rfl]
  have he := eqPage c
  cases c with
  | page => simp [p_stepped_in, start, ev, evs, evI, evT, evO, cmpV, cmpB, seqOf, bindT, wipeE, endR, isTy, isV, ltV, isLst, he, paged_in_ok (show 5 < d - 1 by omega) hs, stepR]
  | put k r => simp [p_stepped_in, start, ev, evs, evI, evT, evO, cmpV, cmpB, seqOf, bindT, wipeE, endR, isTy, isV, ltV, isLst, he, changed_reading_ok (show 1 < d - 1 by omega) (show R.now.length ≤ 10000 by have := hs.1; omega) (show Stp.put k r ≠ .page by intro z; cases z), stepR]
  | drop k => simp [p_stepped_in, start, ev, evs, evI, evT, evO, cmpV, cmpB, seqOf, bindT, wipeE, endR, isTy, isV, ltV, isLst, he, changed_reading_ok (show 1 < d - 1 by omega) (show R.now.length ≤ 10000 by have := hs.1; omega) (show Stp.drop k ≠ .page by intro z; cases z), stepR]
theorem fits_table_ok {t : Tb} (hd : 1 < d) (ok : okTb t) : evCall prg d "fits_table" [eTb t] (some ab) = .ok (.bl true) (some ab) := by
  rw [evc i_p_fits_table (by omega) rfl]
  have hd' : 0 < d - 1 := by omega
  obtain ⟨h1, h2, h3, h4, h5, h6⟩ := ok
  have h7 : (6 : Nat) ≤ lineN := le_lineN (by omega)
  simp [p_fits_table, start, ev, evs, evI, evT, evO, cmpV, cmpB, seqOf, bindT, wipeE, endR, isTy, isV, ltV, isLst, eTb, is_tuple_of_ok hd', fits_whole_ok hd', zipL, flatR, h1, h2, h3, h4, h5, h6, h7]
  rfl
theorem need_table_ok {t : Tb} (hd : 2 < d) (ok : okTb t) : evCall prg d "need_table" [eTb t] (some ab) = .ok .non (some ab) := by
  rw [evc i_p_need_table (by omega) rfl]
  simp [p_need_table, start, ev, evs, evI, evT, evO, cmpV, cmpB, seqOf, bindT, wipeE, endR, isTy, isV, ltV, isLst, fits_table_ok (show 1 < d - 1 by omega) ok]
theorem need_size_ok {n : Nat} (hd : 1 < d) (ok : 1 ≤ n ∧ n ≤ 3) : evCall prg d "need_size" [.int (n : Nat)] (some ab) = .ok .non (some ab) := by
  rw [evc i_p_need_size (by omega) rfl]
  have h1 : (1 : Int) ≤ (n : Int) := by omega
  have h2 : (n : Int) ≤ 3 := by omega
  simp [p_need_size, start, ev, evs, evI, evT, evO, cmpV, cmpB, seqOf, bindT, wipeE, endR, isTy, isV, ltV, isLst, fits_whole_ok (show 0 < d - 1 by omega), h1, h2]
theorem begun_ok {rs : List Row} (hd : 0 < d) : evCall prg d "begun" [eRows rs] (some ab) = .ok (eRdg (begunR rs)) (some ab) := by
  rw [evc i_p_begun hd rfl]
  simp [p_begun, start, ev, evs, evI, evT, evO, cmpV, cmpB, seqOf, bindT, wipeE, endR, isTy, isV, ltV, isLst, begunR, eRdg, oRows, oRow]
end Py.K92

set_option Elab.async false
set_option linter.all false
set_option maxRecDepth 100000
set_option maxHeartbeats 4000000
namespace Py.K92
open PySem Py L2
variable {d : Nat} {ab : Int × Int}
/-- things that may be judged -/
def plainV : PV → Bool
  | .non => true | .bl _ => true | .int _ => true | .str _ => true | .tup _ => true | .lst _ => true | _ => false
def wholeV (lo hi : Int) : PV → Bool
  | .int i => decide (lo ≤ i) && decide (i ≤ hi)
  | _ => false
theorem is_tuple_of_v {v : PV} {lo hi : Int} (hd : 0 < d) (hv : plainV v = true) : evCall prg d "is_tuple_of" [v, .int lo, .int hi] (some ab) = .ok (.bl (match v with | .tup xs => decide (lo ≤ xs.length ∧ xs.length ≤ hi) | _ => false)) (some ab) := by
  rw [evc i_p_is_tuple_of hd rfl]
  cases v <;> first | (cases hv; done) | simp [p_is_tuple_of, start, ev, evs, evI, evT, evO, cmpV, cmpB, seqOf, bindT, wipeE, endR, isTy, isV, ltV, isLst]
  rename_i xs
  by_cases h : lo ≤ xs.length <;> simp [h]
theorem fits_whole_v {v : PV} {lo hi : Int} (hd : 0 < d) (hv : plainV v = true) : evCall prg d "fits_whole" [v, .int lo, .int hi] (some ab) = .ok (.bl (wholeV lo hi v)) (some ab) := by
  rw [evc i_p_fits_whole hd rfl]
  cases v <;> first | (cases hv; done) | simp [p_fits_whole, start, ev, evs, evI, evT, evO, cmpV, cmpB, seqOf, bindT, wipeE, endR, isTy, isV, ltV, isLst, wholeV]
  rename_i i
  by_cases h : lo ≤ i <;> simp [h]
def lateRowV : PV → Bool
  | .tup [a, b, c] => wholeV 0 9 a && wholeV 0 5 b && wholeV 0 5 c
  | _ => false
/-- a thing whose parts may be judged, too -/
def plain2 : PV → Bool
  | .tup xs => xs.all plainV
  | v => plainV v
theorem plain2_1 {v : PV} (h : plain2 v = true) : plainV v = true := by
  cases v <;> first | rfl | exact h
theorem fits_late_row_v {v : PV} (hd : 1 < d) (hv : plain2 v = true) : evCall prg d "fits_late_row" [v] (some ab) = .ok (.bl (lateRowV v)) (some ab) := by
  rw [evc i_p_fits_late_row (by omega) rfl]
  have hd' : 0 < d - 1 := by omega
  have e := is_tuple_of_v (ab := ab) (lo := 3) (hi := 3) hd' (plain2_1 hv)
  cases v <;> first | (cases hv; done) | skip
  case tup xs =>
    match xs, hv with
    | [a, b, c], hv =>
      simp [plain2] at hv
      have e1 := fits_whole_v (ab := ab) (lo := 0) (hi := 9) hd' hv.1
      have e2 := fits_whole_v (ab := ab) (lo := 0) (hi := 5) hd' hv.2.1
      have e3 := fits_whole_v (ab := ab) (lo := 0) (hi := 5) hd' hv.2.2
      simp at e
      cases h1 : wholeV 0 9 a <;> cases h2 : wholeV 0 5 b <;> simp [p_fits_late_row, start, ev, evs, evI, evT, evO, cmpV, cmpB, seqOf, bindT, wipeE, endR, isTy, isV, ltV, isLst, e, idxV, atI, ixN, binV, subV, e1, e2, e3, lateRowV, h1, h2]
    | [], _ => simp at e; simp [p_fits_late_row, start, ev, evs, evI, evT, evO, cmpV, cmpB, seqOf, bindT, wipeE, endR, isTy, isV, ltV, isLst, e, lateRowV]
    | [_], _ => simp at e; simp [p_fits_late_row, start, ev, evs, evI, evT, evO, cmpV, cmpB, seqOf, bindT, wipeE, endR, isTy, isV, ltV, isLst, e, lateRowV]
    | [_, _], _ => simp at e; simp [p_fits_late_row, start, ev, evs, evI, evT, evO, cmpV, cmpB, seqOf, bindT, wipeE, endR, isTy, isV, ltV, isLst, e, lateRowV]
    | _ :: _ :: _ :: _ :: r, _ =>
      have : ¬ ((3 : Int) ≤ r.length + 1 + 1 + 1 + 1 ∧ (r.length : Int) + 1 + 1 + 1 + 1 ≤ 3) := by omega
      simp [this] at e; simp [p_fits_late_row, start, ev, evs, evI, evT, evO, cmpV, cmpB, seqOf, bindT, wipeE, endR, isTy, isV, ltV, isLst, e, lateRowV]
  all_goals (simp at e; simp [p_fits_late_row, start, ev, evs, evI, evT, evO, cmpV, cmpB, seqOf, bindT, wipeE, endR, isTy, isV, ltV, isLst, e, lateRowV])
end Py.K92

set_option Elab.async false
set_option linter.all false
set_option maxRecDepth 100000
set_option maxHeartbeats 4000000
namespace Py.K92
open PySem Py L2
variable {d : Nat} {ab : Int × Int}
abbrev L3 := Int × Int × Int
def eLate (r : L3) : PV := .tup [.int r.1, .int r.2.1, .int r.2.2]
def okLate (r : L3) : Bool := decide (0 ≤ r.1) && decide (r.1 ≤ 9) && (decide (0 ≤ r.2.1) && decide (r.2.1 ≤ 5)) && (decide (0 ≤ r.2.2) && decide (r.2.2 ≤ 5))
theorem lateRow_e (r : L3) : lateRowV (eLate r) = okLate r := by simp [lateRowV, eLate, wholeV, okLate]
theorem lateRow_inv {v : PV} (h : lateRowV v = true) : ∃ r : L3, v = eLate r ∧ okLate r = true := by
  unfold lateRowV at h
  split at h
  · rename_i a b c
    simp only [Bool.and_eq_true] at h
    cases a <;> cases b <;> cases c <;> simp [wholeV] at h
    rename_i i j k
    exact ⟨(i, j, k), rfl, by simp [okLate, h]⟩
  · cases h
theorem plain2_e (r : L3) : plain2 (eLate r) = true := rfl
theorem lates_inv : ∀ {xs : List PV}, xs.all lateRowV = true → ∃ rs : List L3, xs = rs.map eLate ∧ ∀ r ∈ rs, okLate r = true
  | [], _ => ⟨[], rfl, by simp⟩
  | x :: xs, h => by
    simp only [List.all_cons, Bool.and_eq_true] at h
    obtain ⟨r, rfl, hr⟩ := lateRow_inv h.1
    obtain ⟨rs, rfl, hrs⟩ := lates_inv h.2
    exact ⟨r :: rs, rfl, fun z hz => (List.mem_cons.mp hz).elim (fun e => e ▸ hr) (hrs z)⟩
/-- a late list -/
def keyV : PV → Int
  | .tup (.int i :: _) => i
  | _ => 0
def lateV : PV → Bool
  | .tup xs => decide (xs.length ≤ 10) && xs.all lateRowV && ascB (xs.map keyV)
  | _ => false
theorem fits_late_v {v : PV} (hd : 2 < d) (hv : plain2 v = true) (h2 : ∀ xs, v = .tup xs → xs.length ≤ 1000 ∧ ∀ x ∈ xs, plain2 x = true) : evCall prg d "fits_late" [v] (some ab) = .ok (.bl (lateV v)) (some ab) := by
  rw [evc i_p_fits_late (by omega) rfl]
  have hd' : 0 < d - 1 := by omega
  have e := is_tuple_of_v (ab := ab) (lo := 0) (hi := 10) hd' (plain2_1 hv)
  cases v <;> first | (cases hv; done) | skip
  case tup xs =>
    obtain ⟨hl, hx⟩ := h2 xs rfl
    simp at e
    by_cases h10 : xs.length ≤ 10
    · have h10' : (xs.length : Int) ≤ 10 := by omega
      simp [h10'] at e
      simp [p_fits_late, start, ev, evs, evI, evT, evO, cmpV, cmpB, seqOf, bindT, wipeE, endR, isTy, isV, ltV, isLst, e]
      rw [show xs = xs.map id by simp, flatR_e id (fun x => .bl (lateRowV x)) (fun x hxm => by simp [fits_late_row_v (show 1 < d - 1 by omega) (hx x hxm)])]
      simp [le_lineN (show xs.length ≤ 16777216 by omega), blsOf_e]
      cases ha : xs.all lateRowV with
      | false =>
        have : ∃ x, x ∈ xs ∧ lateRowV x = false := by simpa using ha
        simp [this, lateV, ha]
      | true =>
        have : ¬ ∃ x, x ∈ xs ∧ lateRowV x = false := by simpa using ha
        obtain ⟨rs, rfl, hrs⟩ := lates_inv ha
        rw [if_neg this]
        simp [slc_tail]
        rw [← List.map_tail, zipL_e, flatR_e (fun p : L3 × L3 => PV.tup [eLate p.1, eLate p.2]) (fun p => .bl (decide (p.1.1 < p.2.1))) (fun p hp => by simp [eLate, idxV, atI, ixN])]
        have hz : (rs.zip rs.tail).length ≤ 16777216 := by rw [List.length_zip]; simp at hl; omega
        simp [-List.length_zip, le_lineN hz, blsOf_e]
        have hk : ascB ((rs.map eLate).map keyV) = (rs.zip rs.tail).all fun p => decide (p.1.1 < p.2.1) := by
          rw [List.map_map, ← ascB_zip, ← List.map_tail, zip_map2, List.all_map]; rfl
        have hq : lateV (.tup (rs.map eLate)) = (rs.zip rs.tail).all fun p => decide (p.1.1 < p.2.1) := by
          show (decide _ && _ && _) = _
          rw [hk, ha]
          simp at h10
          simp [h10]
        rw [hq]
    · have h10' : ¬ (xs.length : Int) ≤ 10 := by omega
      simp [h10'] at e
      simp [p_fits_late, start, ev, evs, evI, evT, evO, cmpV, cmpB, seqOf, bindT, wipeE, endR, isTy, isV, ltV, isLst, e, lateV, h10]
  all_goals (simp at e; simp [p_fits_late, start, ev, evs, evI, evT, evO, cmpV, cmpB, seqOf, bindT, wipeE, endR, isTy, isV, ltV, isLst, e, lateV])
def pollsV : PV → Bool
  | .tup xs => decide (xs.length ≤ 40) && xs.all (wholeV 0 10) && ascE (xs.map fun x => match x with | .int i => i | _ => 0)
  | _ => false
theorem wholes_inv {lo hi : Int} : ∀ {xs : List PV}, xs.all (wholeV lo hi) = true → ∃ ns : List Int, xs = ns.map PV.int ∧ ∀ n ∈ ns, lo ≤ n ∧ n ≤ hi
  | [], _ => ⟨[], rfl, by simp⟩
  | x :: xs, h => by
    simp only [List.all_cons, Bool.and_eq_true] at h
    obtain ⟨rs, rfl, hrs⟩ := wholes_inv h.2
    have h1 := h.1
    cases x <;> simp [wholeV] at h1
    rename_i i
    exact ⟨i :: rs, rfl, fun z hz => (List.mem_cons.mp hz).elim (fun e => e ▸ h1) (hrs z)⟩
theorem fits_polls_v {v : PV} (hd : 1 < d) (hv : plain2 v = true) (h2 : ∀ xs, v = .tup xs → xs.length ≤ 1000) : evCall prg d "fits_polls" [v] (some ab) = .ok (.bl (pollsV v)) (some ab) := by
  rw [evc i_p_fits_polls (by omega) rfl]
  have hd' : 0 < d - 1 := by omega
  have e := is_tuple_of_v (ab := ab) (lo := 0) (hi := 40) hd' (plain2_1 hv)
  cases v <;> first | (cases hv; done) | skip
  case tup xs =>
    have hl := h2 xs rfl
    have hx : ∀ x ∈ xs, plainV x = true := by simpa [plain2] using hv
    simp at e
    by_cases h10 : xs.length ≤ 40
    · have h10' : (xs.length : Int) ≤ 40 := by omega
      simp [h10'] at e
      simp [p_fits_polls, start, ev, evs, evI, evT, evO, cmpV, cmpB, seqOf, bindT, wipeE, endR, isTy, isV, ltV, isLst, e]
      rw [show xs = xs.map id by simp, flatR_e id (fun x => .bl (wholeV 0 10 x)) (fun x hxm => by simp [fits_whole_v hd' (hx x hxm)])]
      simp [le_lineN (show xs.length ≤ 16777216 by omega), blsOf_e]
      cases ha : xs.all (wholeV 0 10) with
      | false =>
        have : ∃ x, x ∈ xs ∧ wholeV 0 10 x = false := by simpa using ha
        simp [this, pollsV, ha]
      | true =>
        have : ¬ ∃ x, x ∈ xs ∧ wholeV 0 10 x = false := by simpa using ha
        obtain ⟨rs, rfl, hrs⟩ := wholes_inv ha
        rw [if_neg this]
        simp [slc_tail]
        rw [← List.map_tail, zipL_e, flatR_e (fun p : Int × Int => PV.tup [.int p.1, .int p.2]) (fun p => .bl (decide (p.1 ≤ p.2))) (fun p hp => by simp)]
        have hz : (rs.zip rs.tail).length ≤ 16777216 := by rw [List.length_zip]; simp at hl; omega
        simp [-List.length_zip, le_lineN hz, blsOf_e]
        have hq : pollsV (.tup (rs.map PV.int)) = (rs.zip rs.tail).all fun p => decide (p.1 ≤ p.2) := by
          have hm : (rs.map PV.int).map (fun x => match x with | .int i => i | _ => 0) = rs := by rw [List.map_map]; simp [Function.comp_def]
          show (decide _ && _ && ascE ((rs.map PV.int).map (fun x => match x with | .int i => i | _ => 0))) = _
          rw [hm, ascE_zip, ha]
          simp at h10
          simp [h10]
        rw [hq]
    · have h10' : ¬ (xs.length : Int) ≤ 40 := by omega
      simp [h10'] at e
      simp [p_fits_polls, start, ev, evs, evI, evT, evO, cmpV, cmpB, seqOf, bindT, wipeE, endR, isTy, isV, ltV, isLst, e, pollsV, h10]
  all_goals (simp at e; simp [p_fits_polls, start, ev, evs, evI, evT, evO, cmpV, cmpB, seqOf, bindT, wipeE, endR, isTy, isV, ltV, isLst, e, pollsV])
end Py.K92

set_option Elab.async false
set_option linter.all false
set_option maxRecDepth 100000
set_option maxHeartbeats 4000000
namespace Py.K92
open PySem Py L2
variable {d : Nat} {ab : Int × Int}
def okLates (rs : List L3) : Prop := rs.length ≤ 10 ∧ (∀ r ∈ rs, okLate r = true) ∧ rs.Pairwise fun a b => a.1 < b.1
abbrev eLates (rs : List L3) : PV := .tup (rs.map eLate)
abbrev eInts (ns : List Int) : PV := .tup (ns.map PV.int)
def okPolls (ns : List Int) : Prop := ns.length ≤ 40 ∧ (∀ n ∈ ns, 0 ≤ n ∧ n ≤ 10) ∧ ns.Pairwise (· ≤ ·)
theorem lateV_ok {rs : List L3} (ok : okLates rs) : lateV (eLates rs) = true := by
  obtain ⟨h1, h2, h3⟩ := ok
  show (decide _ && _ && _) = true
  rw [List.length_map, List.all_map, List.map_map]
  have e1 : rs.all (lateRowV ∘ eLate) = true := List.all_eq_true.mpr fun r hr => by rw [Function.comp_apply, lateRow_e]; exact h2 r hr
  have e2 : ascB (rs.map (keyV ∘ eLate)) = true := (ascB_iff _).mpr (by rw [List.pairwise_map]; exact h3)
  rw [e1, e2]
  simp [h1]
theorem pollsV_ok {ns : List Int} (ok : okPolls ns) : pollsV (eInts ns) = true := by
  obtain ⟨h1, h2, h3⟩ := ok
  show (decide _ && _ && ascE ((ns.map PV.int).map (fun x => match x with | .int i => i | _ => 0))) = true
  have hm : (ns.map PV.int).map (fun x => match x with | .int i => i | _ => 0) = ns := by rw [List.map_map]; simp [Function.comp_def]
  rw [hm, List.length_map, List.all_map]
  have e1 : ns.all (wholeV 0 10 ∘ PV.int) = true := List.all_eq_true.mpr fun r hr => by simp [wholeV]; exact h2 r hr
  rw [e1, (ascE_iff _).mpr h3]
  simp [h1]
theorem plain2_lates (rs : List L3) : plain2 (eLates rs) = true := by simp [plain2, eLate, plainV]
theorem plain2_ints (ns : List Int) : plain2 (eInts ns) = true := by simp [plain2, plainV]
theorem fits_late_ok {rs : List L3} (hd : 2 < d) (ok : okLates rs) : evCall prg d "fits_late" [eLates rs] (some ab) = .ok (.bl true) (some ab) := by
  rw [fits_late_v hd (plain2_lates rs) fun xs e => ?_, lateV_ok ok]
  cases e
  refine ⟨by rw [List.length_map]; have := ok.1; omega, fun x hx => ?_⟩
  obtain ⟨r, _, rfl⟩ := List.mem_map.mp hx
  exact plain2_e r
theorem fits_polls_ok {ns : List Int} (hd : 1 < d) (ok : okPolls ns) : evCall prg d "fits_polls" [eInts ns] (some ab) = .ok (.bl true) (some ab) := by
  rw [fits_polls_v hd (plain2_ints ns) fun xs e => ?_, pollsV_ok ok]
  cases e
  rw [List.length_map]; have := ok.1; omega
theorem need_late_ok {rs : List L3} (hd : 3 < d) (ok : okLates rs) : evCall prg d "need_late" [eLates rs] (some ab) = .ok .non (some ab) := by
  rw [evc i_p_need_late (by omega) rfl]
  simp [p_need_late, start, ev, evs, evI, evT, evO, cmpV, cmpB, seqOf, bindT, wipeE, endR, isTy, isV, ltV, isLst, fits_late_ok (show 2 < d - 1 by omega) ok]
theorem need_lag_ok {lag : Int} (hd : 1 < d) (h : 0 ≤ lag ∧ lag ≤ 5) : evCall prg d "need_lag" [.int lag] (some ab) = .ok .non (some ab) := by
  rw [evc i_p_need_lag (by omega) rfl]
  have e := fits_whole_v (ab := ab) (v := .int lag) (lo := 0) (hi := 5) (show 0 < d - 1 by omega) rfl
  simp [wholeV, h] at e
  simp [p_need_lag, start, ev, evs, evI, evT, evO, cmpV, cmpB, seqOf, bindT, wipeE, endR, isTy, isV, ltV, isLst, binV, subV, e]
theorem need_polls_ok {ns : List Int} (hd : 2 < d) (ok : okPolls ns) : evCall prg d "need_polls" [eInts ns] (some ab) = .ok .non (some ab) := by
  rw [evc i_p_need_polls (by omega) rfl]
  simp [p_need_polls, start, ev, evs, evI, evT, evO, cmpV, cmpB, seqOf, bindT, wipeE, endR, isTy, isV, ltV, isLst, fits_polls_ok (show 1 < d - 1 by omega) ok]
theorem time_in_ok {r : L3} {lag : Int} (hd : 0 < d) : evCall prg d "time_in" [eLate r, .int lag] (some ab) = .ok (.int (tm lag r)) (some ab) := by
  rw [evc i_p_time_in hd rfl]
  simp [p_time_in, start, ev, evs, evI, evT, evO, cmpV, cmpB, seqOf, bindT, wipeE, endR, isTy, isV, ltV, isLst, eLate, idxV, atI, ixN, tm]
def eKS (r : L3) : PV := .tup [.int r.1, .int r.2.1]
theorem seen_in_ok {rs : List L3} {lag clock : Int} (hd : 1 < d) (hl : rs.length ≤ 10) : evCall prg d "seen_in" [eLates rs, .int lag, .int clock] (some ab) = .ok (.tup ((rs.filter fun r => decide (tm lag r ≤ clock)).map eKS)) (some ab) := by
  rw [evc i_p_seen_in (by omega) rfl]
  have hc : ∀ r : L3, slcV none (some 2) (eLate r) = some (eKS r) := fun r => by
    show some (PV.tup (cutP _ none (some ((2 : Nat) : Int)))) = _
    rw [cut_lo (by simp)]; rfl
  simp [p_seen_in, start, ev, evs, evI, evT, evO, cmpV, cmpB, seqOf, bindT, wipeE, endR, isTy, isV, ltV, isLst]
  rw [flatR_f eLate eKS (fun r => decide (tm lag r ≤ clock)) (fun r hr => by
    by_cases h : tm lag r ≤ clock <;> simp [time_in_ok (show 0 < d - 1 by omega), hc, h])]
  have := List.length_filter_le (fun r => decide (tm lag r ≤ clock)) rs
  simp [le_lineN (show (rs.filter fun r => decide (tm lag r ≤ clock)).length ≤ 16777216 by omega)]
/-- puts and pages: of what waits (clock, key, stamp) -/
def ePut (t : L3) : PV := .tup [.str "put", .int t.2.1, .int t.2.2]
abbrev pgP : PV := .tup [.str "page"]
def histW : List L3 → List Int → List PV
  | _, [] => []
  | w, c :: cs => (w.filter fun t : L3 => decide (t.1 ≤ c)).map ePut ++ (pgP :: histW (w.filter fun t : L3 => decide (c < t.1)) cs)
def waits (rs : List L3) (lag : Int) : List L3 := (rs.map fun r => (tm lag r, r.1, r.2.1)).mergeSort le3
theorem late_history_ok {rs : List L3} {lag : Int} {ns : List Int} (hd : 4 < d) (ok : okLates rs) (hg : 0 ≤ lag ∧ lag ≤ 5) (okp : okPolls ns) : evCall prg d "late_history" [eLates rs, .int lag, eInts ns] (some ab) = .ok (.tup (histW (waits rs lag) ns)) (some ab) := by
  rw [evc i_p_late_history (by omega) rfl]
  have hl := ok.1
  have hp := okp.1
  simp [p_late_history, start, ev, evs, evI, evT, need_late_ok (show 3 < d - 1 by omega) ok, need_lag_ok (show 1 < d - 1 by omega) hg, need_polls_ok (show 2 < d - 1 by omega) okp, seqOf]
  rw [flatR_e eLate (fun r => e3 (tm lag r, r.1, r.2.1)) (fun r hr => by
    have := time_in_ok (d := d - 1) (ab := ab) (r := r) (lag := lag) (by omega)
    simp [bindT, wipeE, this, eLate, idxV, atI, ixN, e3] at this ⊢)]
  have hs : sortV (rs.map fun r => e3 (tm lag r, r.1, r.2.1)) = some (.lst ((waits rs lag).map e3)) := by
    have := sortV_3 (xs := rs.map fun r => (tm lag r, r.1, r.2.1)) (by rw [List.length_map]; exact le_lineN (by omega))
    rw [List.map_map] at this
    exact this
  simp [le_lineN (show rs.length ≤ 16777216 by omega), hs, isLst]
  have hw : (waits rs lag).length ≤ 10 := by
    unfold waits
    rw [(List.mergeSort_perm _ _).length_eq, List.length_map]; exact hl
  refine loop_nx (P := fun o => endR false (some ab) o = .ok (.tup (histW (waits rs lag) ns)) (some ab)) (fun n ρ S => S = some ab ∧ ∃ (w : List L3) (f : List PV), f ++ histW w (ns.drop n) = histW (waits rs lag) ns ∧ f.length ≤ 11 * n ∧ w.length ≤ 10 ∧ ∃ a3 a6 a7 a8 a9 a10, ρ = [some (eLates rs), some (.int lag), some (eInts ns), a3, some (.lst (w.map e3)), some (.tup f), a6, a7, a8, a9, a10])
    (by simp [evI, ev, seqOf]; rfl) ⟨rfl, waits rs lag, [], by simp, by simp, hw, _, _, _, _, _, _, rfl⟩ ?_ ?_
  · intro i x ρ S hx ⟨hS, w, f, hf, hfl, hwl, a3, a6, a7, a8, a9, a10, hρ⟩
    subst hS hρ
    rw [List.getElem?_map] at hx
    cases hr : ns[i]? with
    | none => simp [hr] at hx
    | some c =>
      simp [hr] at hx
      subst hx
      have hi := (List.getElem?_eq_some_iff.mp hr).1
      refine ⟨_, rfl, ?_⟩
      simp [ev, evs, evI, evT, seqOf]
      rw [flatR_f e3 ePut (fun t : L3 => decide (t.1 ≤ c)) (fun t ht => by by_cases h : t.1 ≤ c <;> simp [bindT, wipeE, e3, cmpV, cmpB, h, ePut])]
      have l1 := List.length_filter_le (fun t : L3 => decide (t.1 ≤ c)) w
      have l2 := List.length_filter_le (fun t : L3 => decide (c < t.1)) w
      simp [le_lineN (show (w.filter fun t : L3 => decide (t.1 ≤ c)).length ≤ 16777216 by omega)]
      rw [bin_cat (by simp; omega)]
      simp
      rw [bin_cat (by simp; omega)]
      simp [seqOf]
      rw [flatR_f e3 e3 (fun t : L3 => decide (c < t.1)) (fun t ht => by by_cases h : c < t.1 <;> simp [bindT, wipeE, e3, idxV, atI, ixN, cmpV, cmpB, h])]
      simp [le_lineN (show (w.filter fun t : L3 => decide (c < t.1)).length ≤ 16777216 by omega)]
      refine nx_next ⟨rfl, w.filter (fun t : L3 => decide (c < t.1)), f ++ ((w.filter fun t : L3 => decide (t.1 ≤ c)).map ePut ++ [pgP]), ?_, ?_, by omega, _, _, _, _, _, _, rfl⟩
      · rw [← hf, List.drop_eq_getElem_cons hi, histW, (List.getElem?_eq_some_iff.mp hr).2]
        simp
      · simp
        omega
  · intro ρ S ⟨hS, w, f, hf, hfl, hwl, a3, a6, a7, a8, a9, a10, hρ⟩
    subst hS hρ
    simp [histW] at hf
    simp [ev, endR, hf]
end Py.K92

set_option Elab.async false
set_option linter.all false
set_option maxRecDepth 100000
set_option maxHeartbeats 4000000
namespace Py.K92
open PySem Py L2
variable {d : Nat} {ab : Int × Int} {S : Cup}
theorem rngL_at {lo : Int} {n i : Nat} {x : PV} (h : (rngL lo n)[i]? = some x) : i < n ∧ x = .int (lo + (i : Int)) := by
  have hi : i < n := by
    have := (List.getElem?_eq_some_iff.mp h).1
    rwa [rngL_len] at this
  refine ⟨hi, ?_⟩
  rw [rngL_get lo n i hi] at h
  exact (Option.some.inj h).symm
/-- 1, 3 or 6, drawn -/
theorem high_ok (hd : 1 < d) (hS : CG S) : ∃ m S', evCall prg d "_law_some" [.cup, .lst [.int 1, .int 3, .int 6]] S = .ok (.int m) S' ∧ 0 < m ∧ m ≤ 6 ∧ CG S' := by
  obtain ⟨x, S', e, hx, g⟩ := some_of hd hS (v := .lst [.int 1, .int 3, .int 6]) (.inl rfl) (by simp) (by decide)
  simp at hx
  rcases hx with rfl | rfl | rfl
  · exact ⟨1, S', e, by decide, by decide, g⟩
  · exact ⟨3, S', e, by decide, by decide, g⟩
  · exact ⟨6, S', e, by decide, by decide, g⟩
def LI (n : Nat) (rs : List L3) : Prop := rs.length ≤ n ∧ n ≤ 10 ∧ (∀ r ∈ rs, r.1 < n ∧ okLate r = true) ∧ rs.Pairwise (fun a b => a.1 < b.1)
theorem law_late_ok (hd : 2 < d) (hS : CG S) : ∃ rs S', evCall prg d "_law_late" [.cup, .int 10] S = .ok (eLates rs) S' ∧ okLates rs ∧ CG S' := by
  have hS0 := hS
  obtain ⟨x0, y0, rfl, _⟩ := hS
  rw [evc i_f_law_late (by omega) rfl]
  obtain ⟨m, S1, e1, m0, m6, g1⟩ := high_ok (d := d - 1) (by omega) hS0
  obtain ⟨m', S2, e2, m0', m6', g2⟩ := high_ok (d := d - 1) (by omega) g1
  simp [f_law_late, start, ev, evs, e1, e2, isLst]
  refine loop_nx (P := fun o => ∃ rs S', endR false (some (x0, y0)) o = .ok (eLates rs) S' ∧ okLates rs ∧ CG S') (fun n ρ S => CG S ∧ ∃ rs : List L3, LI n rs ∧ ∃ x, ρ = [some .cup, some (.int 10), x, some (.int m), some (.int m'), some (.lst (rs.map eLate))])
    (by simp [evI, ev, evs, show rngOk 10 = true from rngOk_nat (n := 10) (by decide)]; rfl) ⟨g2, [], ⟨Nat.le_refl _, by decide, by simp, .nil⟩, none, rfl⟩ ?_ ?_
  · intro i x ρ S hx ⟨g, rs, ⟨hl, hn, hr, hp⟩, z, hρ⟩
    subst hρ
    obtain ⟨hi, rfl⟩ := rngL_at hx
    have hi : i < 10 := hi
    refine ⟨_, rfl, ?_⟩
    obtain ⟨r, S3, e3, r0, r1, g3⟩ := roll (d := d - 1) (by omega) g (m := 2) (by decide) (by decide)
    have hlt : (rs.length : Int) < 10 := by omega
    by_cases hz : r = 0
    · obtain ⟨q, S4, e4, q0, q1, g4⟩ := roll (d := d - 1) (by omega) g3 (m := m) m0 (by omega)
      obtain ⟨q', S5, e5, q0', q1', g5⟩ := roll (d := d - 1) (by omega) g4 (m := m') m0' (by omega)
      simp [ev, evs, cmpV, cmpB, ltV, hlt, e3, hz, e4, e5, lt_lineN (show rs.length < 16777216 by omega)]
      refine nx_next ⟨g5, rs ++ [((i : Int), q, q')], ⟨by simp; omega, by omega, fun w hw => ?_, ?_⟩, some (.int i), by simp [eLate]⟩
      · rcases List.mem_append.mp hw with hw | hw
        · have := hr w hw
          exact ⟨by omega, this.2⟩
        · simp at hw
          subst hw
          simp [okLate]
          omega
      · rw [List.pairwise_append]
        refine ⟨hp, by simp, fun a ha b hb => ?_⟩
        simp at hb
        subst hb
        exact (hr a ha).1
    · simp [ev, evs, cmpV, cmpB, ltV, hlt, e3, hz]
      exact nx_next ⟨g3, rs, ⟨by omega, by omega, fun w hw => ⟨by have := (hr w hw).1; omega, (hr w hw).2⟩, hp⟩, _, rfl⟩
  · intro ρ S ⟨g, rs, ⟨hl, hn, hr, hp⟩, z, hρ⟩
    subst hρ
    refine ⟨rs, S, by simp [ev, evs, endR], ⟨by simpa [rngL_len] using hl, fun r h => (hr r h).2, hp⟩, g⟩
theorem law_polls_ok {m : Int} (hd : 1 < d) (hS : CG S) (h0 : 0 ≤ m) (h1 : m ≤ 40) : ∃ ns S', evCall prg d "_law_polls" [.cup, .int m] S = .ok (eInts ns) S' ∧ (ns.length ≤ m.toNat ∧ okPolls ns) ∧ CG S' := by
  have hS0 := hS
  obtain ⟨x0, y0, rfl, _⟩ := hS
  rw [evc i_f_law_polls (by omega) rfl]
  obtain ⟨n, rfl⟩ := Int.eq_ofNat_of_zero_le h0
  have hn : n ≤ 40 := by omega
  simp [f_law_polls, start, ev, evs, evI, evT, wipeE, bindT, rngOk_nat (show n ≤ 16777216 by omega)]
  generalize hF : (fun (x : PV) (S : Cup) => (evCall prg (d - 1) (Str.ofString "_law_roll") [PV.cup, PV.int 11] S).bind fun y S2 => Res.ok [y] S2) = F
  obtain ⟨ys, S', e, g, hl, ns, rfl, hb⟩ := flatR_inv (f := F) (fun n S acc => CG S ∧ acc.length ≤ n ∧ ∃ ns : List Int, acc = ns.map PV.int ∧ ∀ n ∈ ns, 0 ≤ n ∧ n ≤ 10) (xs := rngL 0 n) (n := 0) (acc := []) (S := some (x0, y0)) ⟨hS0, by simp, [], rfl, by simp⟩ (fun i x S acc hx ⟨g, hl, ns, ha, hb⟩ => by
    obtain ⟨r, S3, e3, r0, r1, g3⟩ := roll (d := d - 1) (by omega) g (m := 11) (by decide) (by decide)
    refine ⟨[.int r], S3, by rw [← hF]; simp [e3], g3, by simp; omega, ns ++ [r], by simp [ha], fun z hz => ?_⟩
    rcases List.mem_append.mp hz with hz | hz
    · exact hb z hz
    · simp at hz; omega)
  simp [rngL_len] at hl
  have hl2 : ns.length ≤ 16777216 := by omega
  simp [e, le_lineN hl2, sortV_ints (le_lineN hl2), endR]
  refine ⟨ns.mergeSort fun a b => decide (a ≤ b), S', ⟨rfl, rfl⟩, ⟨by rw [(sortI_perm ns).length_eq]; exact hl, ?_, fun z hz => hb z ((sortI_perm ns).mem_iff.mp hz), sortI_sorted ns⟩, g⟩
  rw [(sortI_perm ns).length_eq]; omega
theorem law_from_ok {r : L3} {lag : Int} (hd : 0 < d) : evCall prg d "_law_from" [eLate r, .int lag] (some ab) = .ok (.int (tm lag r)) (some ab) := by
  rw [evc i_f_law_from hd rfl]
  have e : tm lag r = r.2.1 + (if lag < r.2.2 then r.2.2 else lag) := by unfold tm; split <;> split <;> omega
  rw [e]
  by_cases h : lag < r.2.2 <;> simp [f_law_from, start, ev, evs, evI, evT, evO, cmpV, cmpB, seqOf, bindT, wipeE, endR, isTy, isV, ltV, isLst, eLate, idxV, atI, ixN, h]
end Py.K92

set_option Elab.async false
set_option linter.all false
set_option maxRecDepth 100000
set_option maxHeartbeats 4000000
namespace Py.K92
open PySem Py L2
variable {d : Nat} {ab : Int × Int}
theorem eKS_e2 (r : L3) : eKS r = e2 (ks r) := rfl
theorem seen_in_e {rs : List L3} {lag clock : Int} (hd : 1 < d) (hl : rs.length ≤ 10) : evCall prg d "seen_in" [eLates rs, .int lag, .int clock] (some ab) = .ok (eRows (seenR rs lag clock)) (some ab) := by
  rw [seen_in_ok hd hl]
  show _ = Res.ok (PV.tup (((rs.filter fun r => decide (tm lag r ≤ clock)).map ks).map e2)) (some ab)
  rw [List.map_map]
  rfl
theorem page_at_ok {rs : List L3} {lag m c : Int} {size : Nat} {last : Option Row} (hd : 3 < d) (hl : rs.length ≤ 10) : evCall prg d "page_at" [eLates rs, .int lag, .int m, .int (size : Nat), .int c, oRow last] (some ab) = .ok (eRows (pgAt rs lag m size c last)) (some ab) := by
  rw [evc i_p_page_at (by omega) rfl]
  have hs := seenR_len rs lag c
  have hc : ∀ i : Nat, slcV (some (i : Int)) (some ((i : Int) + (size : Int))) (eRows (ordR 1 (seenR rs lag c))) = some (eRows (((ordR 1 (seenR rs lag c)).drop i).take size)) := fun i => by
    show some (PV.tup (cutP _ (some ((i : Nat) : Int)) (some ((i : Int) + (size : Int))))) = _
    rw [show (i : Int) + (size : Int) = ((i + size : Nat) : Int) by omega, cut_mid, ← List.map_drop, ← List.map_take]
  have ho := ordered_in_ok (ab := ab) (d := d - 1) (o := 1) (rs := seenR rs lag c) (by omega) (by omega)
  cases last with
  | none =>
    have := hc 0
    simp at this
    simp [p_page_at, start, ev, evs, evI, evT, evO, cmpV, cmpB, seqOf, bindT, wipeE, endR, isTy, isV, ltV, isLst, oRow, seen_in_e (show 1 < d - 1 by omega) hl, ho, this, pgAt, atR]
  | some l =>
    have hb := begin_in_ok (ab := ab) (d := d - 1) (o := 1) (m := m) (s := 0) (row := l) (rs := seenR rs lag c) (by omega) (by omega)
    have hn : isV (e2 l) .non = some false := rfl
    simp [p_page_at, start, ev, evs, evI, evT, evO, cmpV, cmpB, seqOf, bindT, wipeE, endR, isTy, isV, ltV, isLst, oRow, seen_in_e (show 1 < d - 1 by omega) hl, ho, hb, hn, pgAt, atR]
    simp [e2, start, ev, evs, evI, evT, evO, cmpV, cmpB, seqOf, bindT, wipeE, endR, isTy, isV, ltV, isLst] at hb ⊢
    simp [hb, ho, hc]
theorem pages_in_ok {rs : List L3} {lag m : Int} {size : Nat} {ns : List Int} (hd : 4 < d) (hl : rs.length ≤ 10) (hn : ns.length ≤ 1000) : evCall prg d "pages_in" [eLates rs, .int lag, .int m, .int (size : Nat), eInts ns] (some ab) = .ok (.lst ((pagesI rs lag m size none ns).map eRows)) (some ab) := by
  rw [evc i_p_pages_in (by omega) rfl]
  simp [p_pages_in, start, ev, evs, evI, evT, evO, cmpV, cmpB, seqOf, bindT, wipeE, endR, isTy, isV, ltV, isLst]
  refine loop_nx (P := fun o => endR false (some ab) o = .ok (.lst ((pagesI rs lag m size none ns).map eRows)) (some ab)) (fun n ρ S => S = some ab ∧ ∃ (ps : List (List Row)) (last : Option Row), ps ++ pagesI rs lag m size last (ns.drop n) = pagesI rs lag m size none ns ∧ ps.length ≤ n ∧ ∃ a5 a8, ρ = [some (eLates rs), some (.int lag), some (.int m), some (.int (size : Nat)), some (eInts ns), a5, some (.lst (ps.map eRows)), some (oRow last), a8])
    (xs := ns.map PV.int) (S1 := some ab) (by simp [start, ev, evs, evI, evT, evO, cmpV, cmpB, seqOf, bindT, wipeE, endR, isTy, isV, ltV, isLst]) ⟨rfl, [], none, by simp, by simp, none, none, rfl⟩ ?_ ?_
  · rintro n x ρ S hx ⟨rfl, ps, last, hps, hlen, a5, a8, rfl⟩
    rw [List.getElem?_map, Option.map_eq_some_iff] at hx
    obtain ⟨c, hc, rfl⟩ := hx
    have hi := (List.getElem?_eq_some_iff.mp hc).1
    have hdrop : ns.drop n = c :: ns.drop (n + 1) := by
      rw [List.drop_eq_getElem_cons hi]
      rw [List.getElem?_eq_getElem hi] at hc
      cases hc; rfl
    refine ⟨_, rfl, ?_⟩
    have hp := page_at_ok (ab := ab) (d := d - 1) (rs := rs) (lag := lag) (m := m) (c := c) (size := size) (last := last) (by omega) hl
    rw [hdrop, pagesI] at hps
    generalize hpg : pgAt rs lag m size c last = pg at hp hps
    have hemp : eqB (eRows pg) (.tup []) = some pg.isEmpty := by
      rw [eqB_nilT (shd_rows.shp (by omega))]; simp
    have hle : ps.length < lineN := Nat.lt_of_succ_le (le_lineN (show ps.length + 1 ≤ 16777216 by omega))
    have fin : Nx (fun n ρ S => S = some ab ∧ ∃ (ps : List (List Row)) (last : Option Row), ps ++ pagesI rs lag m size last (ns.drop n) = pagesI rs lag m size none ns ∧ ps.length ≤ n ∧ ∃ a5 a8, ρ = [some (eLates rs), some (.int lag), some (.int m), some (.int (size : Nat)), some (eInts ns), a5, some (.lst (ps.map eRows)), some (oRow last), a8]) (n + 1)
        (.next [some (eLates rs), some (.int lag), some (.int m), some (.int (size : Nat)), some (eInts ns), some (.int c), some (.lst (ps.map eRows ++ [eRows pg])), some (oRow (lastOr pg last)), some (eRows pg)] (some ab)) :=
      nx_next ⟨rfl, ps ++ [pg], lastOr pg last, by rw [← hps]; simp, by simp; omega, some (.int c), some (eRows pg), by simp⟩
    cases hgl : pg.getLast? with
    | none =>
      have hem : pg.isEmpty = true := by
        have : pg = [] := by simpa using hgl
        rw [this]; rfl
      rw [hem] at hemp
      simp only [lastOr, hgl] at fin
      simp [start, ev, evs, evI, evT, evO, cmpV, cmpB, seqOf, bindT, wipeE, endR, isTy, isV, ltV, isLst, hp, hemp, hle]
      exact fin
    | some l =>
      have hem : pg.isEmpty = false := by
        cases pg with
        | nil => cases hgl
        | cons _ _ => rfl
      rw [hem] at hemp
      have hla : idxV (some ab) (eRows pg) (.int (-1)) = some (e2 l) := idx_last (by rw [List.getLast?_map, hgl]; rfl)
      simp only [lastOr, hgl] at fin
      simp [start, ev, evs, evI, evT, evO, cmpV, cmpB, seqOf, bindT, wipeE, endR, isTy, isV, ltV, isLst, hp, hemp, hle, hla, show negV (.int 1) = some (.int (-1)) from rfl]
      exact fin
  · rintro ρ S ⟨rfl, ps, last, hps, hlen, a5, a8, rfl⟩
    rw [List.length_map, List.drop_length] at hps
    simp [start, ev, evs, evI, evT, evO, cmpV, cmpB, seqOf, bindT, wipeE, endR, isTy, isV, ltV, isLst, pagesI] at hps ⊢
    rw [hps]
end Py.K92

set_option Elab.async false
set_option linter.all false
set_option maxRecDepth 100000
set_option maxHeartbeats 4000000
namespace Py.K92
open PySem Py L2
variable {d : Nat} {ab : Int × Int}
theorem eqB_nilR {rs : List Row} : eqB (.lst (rs.map e2)) (.lst []) = some rs.isEmpty := by
  rw [eqB_nil (shd_rowsL.shp (by omega))]; simp
theorem passed_in_ok {rs : List L3} {m : Int} {got : List Row} (hd : 2 < d) (hl : rs.length ≤ 10) : evCall prg d "passed_in" [eLates rs, .int m, .lst (got.map e2)] (some ab) = .ok (.lst ((passI rs m got).map PV.int)) (some ab) := by
  rw [evc i_p_passed_in (by omega) rfl]
  have hnil := eqB_nilR (rs := got)
  cases hg : got.getLast? with
  | none =>
    have : got = [] := by simpa using hg
    subst this
    simp [p_passed_in, start, ev, evs, evI, evT, evO, cmpV, cmpB, seqOf, bindT, wipeE, endR, isTy, isV, ltV, isLst, passI]
  | some l =>
    have hem : got.isEmpty = false := by
      cases got with
      | nil => cases hg
      | cons _ _ => rfl
    rw [hem] at hnil
    have hla : idxV (some ab) (.lst (got.map e2)) (.int (-1)) = some (e2 l) := idx_last (S := some ab) (xs := got.map e2) (by rw [List.getLast?_map, hg]; rfl)
    have hm := fun r : Row => mark_of_ok (ab := ab) (d := d - 1) (o := 1) (m := m) (r := r) (by omega)
    have hc : ∀ r : L3, slcV none (some 2) (eLate r) = some (e2 (ks r)) := fun r => by
      show some (PV.tup (cutP _ none (some ((2 : Nat) : Int)))) = _
      rw [cut_lo (by simp)]; rfl
    have hin := fun r : L3 => inB_rowsL (ks r) got
    have hlen := List.length_filter_le (fun r : L3 => decide (ks r ∉ got) && !HT.lexLt (mrk 1 m l) (mrk 1 m (ks r))) rs
    simp [p_passed_in, start, ev, evs, evI, evT, evO, cmpV, cmpB, seqOf, bindT, wipeE, endR, isTy, isV, ltV, isLst, hnil, hla, hm, show negV (.int 1) = some (.int (-1)) from rfl]
    rw [flatR_f eLate (fun r => PV.int r.1) (fun r : L3 => decide (ks r ∉ got) && !HT.lexLt (mrk 1 m l) (mrk 1 m (ks r))) (fun r hr => by
      have h0 : idxV (some ab) (eLate r) (.int 0) = some (.int r.1) := by simp [eLate, idxV, atI, ixN]
      by_cases h1 : ks r ∈ got
      · simp [start, ev, evs, evI, evT, evO, cmpV, cmpB, seqOf, bindT, wipeE, endR, isTy, isV, ltV, isLst, hc, hin, h1]
      · by_cases h2 : HT.lexLt (mrk 1 m l) (mrk 1 m (ks r)) = true
        · simp [start, ev, evs, evI, evT, evO, cmpV, cmpB, seqOf, bindT, wipeE, endR, isTy, isV, ltV, isLst, hc, hin, h1, hm, intsOf_map, h2]
        · simp [start, ev, evs, evI, evT, evO, cmpV, cmpB, seqOf, bindT, wipeE, endR, isTy, isV, ltV, isLst, hc, hin, h1, hm, intsOf_map, h2, h0])]
    simp at hlen ⊢
    rw [if_pos (le_lineN (Nat.le_trans hlen (by omega)))]
    simp [passI, hg, Function.comp_def]
theorem need_way_ok {rs : List L3} {lag m : Int} {size : Nat} (hd : 4 < d) (ok : okLates rs) (hg : 0 ≤ lag ∧ lag ≤ 5) (hm : 1 ≤ m ∧ m ≤ 2) (hs : 1 ≤ size ∧ size ≤ 3) : evCall prg d "need_way" [eLates rs, .int lag, .int m, .int (size : Nat)] (some ab) = .ok .non (some ab) := by
  rw [evc i_p_need_way (by omega) rfl]
  simp [p_need_way, start, ev, evs, evI, evT, evO, cmpV, cmpB, seqOf, bindT, wipeE, endR, isTy, isV, ltV, isLst, need_late_ok (show 3 < d - 1 by omega) ok, need_lag_ok (show 1 < d - 1 by omega) hg, need_size_ok (show 1 < d - 1 by omega) hs, fits_whole_ok (show 0 < d - 1 by omega), hm]
theorem got_by_polls_ok {rs : List L3} {lag m : Int} {size : Nat} {ns : List Int} (hd : 5 < d) (ok : okLates rs) (hg : 0 ≤ lag ∧ lag ≤ 5) (hm : 1 ≤ m ∧ m ≤ 2) (hs : 1 ≤ size ∧ size ≤ 3) (hp : okPolls ns) : evCall prg d "got_by_polls" [eLates rs, .int lag, .int m, .int (size : Nat), eInts ns] (some ab) = .ok (.tup ((pagesI rs lag m size none ns).map eRows)) (some ab) := by
  rw [evc i_p_got_by_polls (by omega) rfl]
  simp [p_got_by_polls, start, ev, evs, evI, evT, evO, cmpV, cmpB, seqOf, bindT, wipeE, endR, isTy, isV, ltV, isLst, need_way_ok (show 4 < d - 1 by omega) ok hg hm hs, need_polls_ok (show 2 < d - 1 by omega) hp, pages_in_ok (show 4 < d - 1 by omega) ok.1 (show ns.length ≤ 1000 by have := hp.1; omega)]
def gotI (rs : List L3) (lag m : Int) (size : Nat) (ns : List Int) : List Row := (pagesI rs lag m size none ns).flatten
theorem pagesI_len {rs : List L3} {lag m : Int} {size : Nat} : ∀ (ns : List Int) (last : Option Row), (pagesI rs lag m size last ns).length = ns.length
  | [], _ => rfl
  | c :: cs, last => by rw [pagesI, List.length_cons, List.length_cons, pagesI_len cs]
theorem gotI_len {rs : List L3} {lag m : Int} {size : Nat} : ∀ (ns : List Int) (last : Option Row), (pagesI rs lag m size last ns).flatten.length ≤ rs.length * ns.length
  | [], _ => by simp [pagesI]
  | c :: cs, last => by
    have h := gotI_len (rs := rs) (lag := lag) (m := m) (size := size) cs (lastOr (pgAt rs lag m size c last) last)
    have h2 := pgAt_len (rs := rs) (lag := lag) (m := m) (c := c) (size := size) (last := last)
    rw [pagesI, List.flatten_cons, List.length_append, List.length_cons, Nat.mul_succ]
    omega
theorem got_flat {rs : List L3} {lag m : Int} {size : Nat} {ns : List Int} : (pagesI rs lag m size none ns).flatMap (fun p => p.map e2) = (gotI rs lag m size ns).map e2 := by
  rw [gotI, List.map_flatten, List.flatMap_def]
theorem gotI_line {rs : List L3} {lag m : Int} {size : Nat} {ns : List Int} (hl : rs.length ≤ 10) (hn : ns.length ≤ 1000) : (gotI rs lag m size ns).length ≤ lineN := by
  have hlen := gotI_len (rs := rs) (lag := lag) (m := m) (size := size) ns none
  have hl2 : rs.length * ns.length ≤ 10 * 1000 := Nat.mul_le_mul hl hn
  exact le_lineN (by unfold gotI; omega)
theorem keys_passed_ok {rs : List L3} {lag m : Int} {size : Nat} {ns : List Int} (hd : 5 < d) (ok : okLates rs) (hg : 0 ≤ lag ∧ lag ≤ 5) (hm : 1 ≤ m ∧ m ≤ 2) (hs : 1 ≤ size ∧ size ≤ 3) (hp : okPolls ns) : evCall prg d "keys_passed" [eLates rs, .int lag, .int m, .int (size : Nat), eInts ns] (some ab) = .ok (.tup ((passI rs m (gotI rs lag m size ns)).map PV.int)) (some ab) := by
  rw [evc i_p_keys_passed (by omega) rfl]
  have hn : ns.length ≤ 1000 := by have := hp.1; omega
  simp [p_keys_passed, start, ev, evs, evI, evT, evO, cmpV, cmpB, seqOf, bindT, wipeE, endR, isTy, isV, ltV, isLst, need_way_ok (show 4 < d - 1 by omega) ok hg hm hs, need_polls_ok (show 2 < d - 1 by omega) hp, pages_in_ok (show 4 < d - 1 by omega) ok.1 hn]
  rw [flatR_g eRows (fun p => p.map e2) (fun p hp => by
    simp [start, ev, evs, evI, evT, evO, cmpV, cmpB, seqOf, bindT, wipeE, endR, isTy, isV, ltV, isLst]
    rw [flatR_e e2 e2 (fun r hr => by simp [start, ev, evs, evI, evT, evO, cmpV, cmpB, seqOf, bindT, wipeE, endR, isTy, isV, ltV, isLst])])]
  rw [got_flat]
  simp [gotI_line ok.1 hn, passed_in_ok (show 2 < d - 1 by omega) ok.1]
theorem eqB_nilI {ns : List Int} : eqB (.lst (ns.map PV.int)) (.lst []) = some ns.isEmpty := by
  rw [eqB_nil (shd_intsL.shp (by omega))]; simp
theorem is_passing_ok {rs : List L3} {lag m : Int} {size : Nat} {ns : List Int} (hd : 5 < d) (ok : okLates rs) (hg : 0 ≤ lag ∧ lag ≤ 5) (hm : 1 ≤ m ∧ m ≤ 2) (hs : 1 ≤ size ∧ size ≤ 3) (hp : okPolls ns) : evCall prg d "is_passing" [eLates rs, .int lag, .int m, .int (size : Nat), eInts ns] (some ab) = .ok (.bl (!(passI rs m (gotI rs lag m size ns)).isEmpty)) (some ab) := by
  rw [evc i_p_is_passing (by omega) rfl]
  have hn : ns.length ≤ 1000 := by have := hp.1; omega
  simp [p_is_passing, start, ev, evs, evI, evT, evO, cmpV, cmpB, seqOf, bindT, wipeE, endR, isTy, isV, ltV, isLst, need_way_ok (show 4 < d - 1 by omega) ok hg hm hs, fits_polls_ok (show 1 < d - 1 by omega) hp, pages_in_ok (show 4 < d - 1 by omega) ok.1 hn]
  rw [flatR_g eRows (fun p => p.map e2) (fun p hp => by
    simp [start, ev, evs, evI, evT, evO, cmpV, cmpB, seqOf, bindT, wipeE, endR, isTy, isV, ltV, isLst]
    rw [flatR_e e2 e2 (fun r hr => by simp [start, ev, evs, evI, evT, evO, cmpV, cmpB, seqOf, bindT, wipeE, endR, isTy, isV, ltV, isLst])])]
  rw [got_flat]
  simp [gotI_line ok.1 hn, passed_in_ok (show 2 < d - 1 by omega) ok.1, eqB_nilI]
theorem is_passing_odd {rs : List L3} {lag m : Int} {size : Nat} {v : PV} (hd : 5 < d) (ok : okLates rs) (hg : 0 ≤ lag ∧ lag ≤ 5) (hm : 1 ≤ m ∧ m ≤ 2) (hs : 1 ≤ size ∧ size ≤ 3) (hv : plain2 v = true) (h2 : ∀ xs, v = .tup xs → xs.length ≤ 1000) (hb : pollsV v = false) : evCall prg d "is_passing" [eLates rs, .int lag, .int m, .int (size : Nat), v] (some ab) = .ok (.bl false) (some ab) := by
  rw [evc i_p_is_passing (by omega) rfl]
  have := fits_polls_v (ab := ab) (d := d - 1) (by omega) hv h2
  rw [hb] at this
  simp [p_is_passing, start, ev, evs, evI, evT, evO, cmpV, cmpB, seqOf, bindT, wipeE, endR, isTy, isV, ltV, isLst, need_way_ok (show 4 < d - 1 by omega) ok hg hm hs, this]
end Py.K92

set_option Elab.async false
set_option linter.all false
set_option maxRecDepth 100000
set_option maxHeartbeats 4000000
namespace Py.K92
open PySem Py L2
variable {d : Nat} {ab : Int × Int}
def sw (r : Row) : Row := (r.2, r.1)
theorem ord_sw (rs : List Row) : (rs.map sw).mergeSort le2 = (ordR 1 rs).map sw := by
  unfold ordR
  rw [PySem.W.sort_maps (r := leO 1) (s := le2) sw fun a _ b _ => by simp [leO, sw]]
theorem law_asked_ok {rs : List L3} {lag m c : Int} {size : Nat} {last : Option Row} (hd : 1 < d) (hl : rs.length ≤ 10) (hm : isM m) : evCall prg d "_law_asked" [eLates rs, .int lag, .int m, .int (size : Nat), .int c, oRow last] (some ab) = .ok (eRows (asked rs lag m size c last)) (some ab) := by
  rw [evc i_f_law_asked (by omega) rfl]
  have hf := fun r : L3 => law_from_ok (ab := ab) (d := d - 1) (r := r) (lag := lag) (by omega)
  have hlen := List.length_filter_le (fun r : L3 => decide (tm lag r ≤ c)) rs
  have h1 : ((rs.filter fun r : L3 => decide (tm lag r ≤ c)).map fun r => e2 (r.2.1, r.1)) = ((seenR rs lag c).map sw).map e2 := by
    unfold seenR
    rw [List.map_map, List.map_map]
    rfl
  have hs := seenR_len rs lag c
  have hsort : sortV (((seenR rs lag c).map sw).map e2) = some (.lst ((ordR 1 (seenR rs lag c)).map fun own => e2 (sw own))) := by
    rw [sortV_2 (by rw [List.length_map]; exact le_lineN (by omega)), ord_sw, List.map_map]
    rfl
  have hcut : ∀ xs : List Row, slcV none (some (size : Int)) (.lst (xs.map fun own => e2 (sw own))) = some (.lst ((xs.take size).map fun own => e2 (sw own))) := fun xs => by
    show some (PV.lst (cutP _ none (some ((size : Nat) : Int)))) = _
    by_cases hz : size ≤ xs.length
    · rw [cut_lo (by simpa using hz), List.map_take]
    · rw [List.take_of_length_le (by omega)]
      rw [cut_whole]
      have hneg : ¬ ((size : Int) < 0) := by omega
      simp [HT.sIx, hneg]
      omega
  have hor : (ordR 1 (seenR rs lag c)).length ≤ 10 := by rw [ordR_len]; omega
  generalize hxs : ordR 1 (seenR rs lag c) = xs at hsort hor
  have hsort' : sortV (List.map (e2 ∘ sw) (seenR rs lag c)) = some (.lst (xs.map fun own => e2 (sw own))) := by rw [← List.map_map]; exact hsort
  have hll : (seenR rs lag c).length ≤ lineN := le_lineN (by omega)
  have hfin : ∀ ys : List Row, ys.length ≤ 10 → (ys.take size).length ≤ lineN := fun ys h => le_lineN (by rw [List.length_take]; omega)
  simp [f_law_asked, start, ev, evs, evI, evT, evO, cmpV, cmpB, seqOf, bindT, wipeE, endR, isTy, ltV, isLst]
  rw [flatR_f eLate (fun r => e2 (r.2.1, r.1)) (fun r => decide (tm lag r ≤ c)) (fun r hr => by
    have := hf r
    simp [eLate] at this
    by_cases q : tm lag r ≤ c <;> simp [start, ev, evs, evI, evT, evO, cmpV, cmpB, seqOf, bindT, wipeE, endR, isTy, isV, ltV, isLst, eLate, this, q, e2])]
  rw [h1]
  simp [hsort', hll]
  have hsel : ∀ f : Row → Bool, (xs.filter f).length ≤ 10 := fun f => Nat.le_trans (List.length_filter_le f xs) hor
  cases last with
  | none =>
    have h0 := hfin xs hor
    simp [start, ev, evs, evI, evT, evO, cmpV, cmpB, seqOf, bindT, wipeE, endR, isTy, isV, ltV, isLst, oRow, hcut]
    rw [← List.map_take]
    rw [flatR_e (fun own => e2 (sw own)) e2 (fun r hr => by simp [start, ev, evs, evI, evT, evO, cmpV, cmpB, seqOf, bindT, wipeE, endR, isTy, isV, ltV, isLst, e2, sw])]
    simp at h0 ⊢
    simp [h0, asked, hxs]
    rw [show (yonO m none) = fun _ => true from rfl, List.filter_eq_self.mpr fun _ _ => rfl]
  | some l =>
    have hn : isV (e2 l) .non = some false := rfl
    rcases hm with rfl | rfl
    · have h0 := hfin _ (hsel (yon 1 l))
      have h9 := hsel (yon 1 l)
      have e0 : idxV (some ab) (e2 l) (.int 1) = some (.int l.2) := by simp [e2, idxV, atI, ixN]
      simp [start, ev, evs, evI, evT, evO, cmpV, cmpB, seqOf, bindT, wipeE, endR, isTy, ltV, isLst, oRow, hn, e0]
      rw [flatR_f (fun own => e2 (sw own)) (fun own => e2 (sw own)) (yon 1 l) (fun r hr => by
        have e1 : idxV (some ab) (e2 (sw r)) (.int 0) = some (.int r.2) := by simp [e2, idxV, atI, ixN, sw]
        rw [yon_1]
        by_cases q : l.2 < r.2 <;> simp [start, ev, evs, evI, evT, evO, cmpV, cmpB, seqOf, bindT, wipeE, endR, isTy, isV, ltV, isLst, e0, e1, q])]
      simp [le_lineN (show (xs.filter (yon 1 l)).length ≤ 16777216 by omega), hn, hcut]
      rw [← List.map_take]
      rw [flatR_e (fun own => e2 (sw own)) e2 (fun r hr => by simp [start, ev, evs, evI, evT, evO, cmpV, cmpB, seqOf, bindT, wipeE, endR, isTy, isV, ltV, isLst, e2, sw])]
      simp at h0 ⊢
      simp [h0, asked, hxs]
      rfl
    · have h0 := hfin _ (hsel (yon 2 l))
      have h9 := hsel (yon 2 l)
      have e0 : idxV (some ab) (e2 l) (.int 1) = some (.int l.2) := by simp [e2, idxV, atI, ixN]
      have e00 : idxV (some ab) (e2 l) (.int 0) = some (.int l.1) := by simp [e2, idxV, atI, ixN]
      simp [start, ev, evs, evI, evT, evO, cmpV, cmpB, seqOf, bindT, wipeE, endR, isTy, ltV, isLst, oRow, hn, e0, e00]
      rw [flatR_f (fun own => e2 (sw own)) (fun own => e2 (sw own)) (yon 2 l) (fun r hr => by
        have e1 : gtV (e2 (sw r)) (.tup [.int l.2, .int l.1]) = some (yon 2 l r) := by
          rw [yon_2]
          simp [e2, sw, intsOf, lt2]
        by_cases q : yon 2 l r = true <;> simp [start, ev, evs, evI, evT, evO, cmpV, cmpB, seqOf, bindT, wipeE, endR, isTy, isV, ltV, isLst, e0, e00, e1, q])]
      simp [le_lineN (show (xs.filter (yon 2 l)).length ≤ 16777216 by omega), hn, hcut]
      rw [← List.map_take]
      rw [flatR_e (fun own => e2 (sw own)) e2 (fun r hr => by simp [start, ev, evs, evI, evT, evO, cmpV, cmpB, seqOf, bindT, wipeE, endR, isTy, isV, ltV, isLst, e2, sw])]
      simp at h0 ⊢
      simp [h0, asked, hxs]
      rfl
end Py.K92

set_option Elab.async false
set_option linter.all false
set_option maxRecDepth 100000
set_option maxHeartbeats 4000000
namespace Py.K92
open PySem Py L2
variable {d : Nat} {ab : Int × Int}
theorem law_run_ok {rs : List L3} {lag m : Int} {size : Nat} {ns : List Int} (hd : 2 < d) (hl : rs.length ≤ 10) (hm : isM m) (hn : ns.length ≤ 1000) : evCall prg d "_law_run" [eLates rs, .int lag, .int m, .int (size : Nat), eInts ns] (some ab) = .ok (.tup [.tup ((pagesA rs lag m size none ns).map eRows), .tup ((passA rs m (lastA rs lag m size none ns) ((pagesA rs lag m size none ns).flatten.map (·.1))).map PV.int)]) (some ab) := by
  rw [evc i_f_law_run (by omega) rfl]
  obtain ⟨PG, hPG⟩ : ∃ PG, PG = pagesA rs lag m size none ns := ⟨_, rfl⟩
  obtain ⟨LS, hLS⟩ : ∃ LS, LS = lastA rs lag m size none ns := ⟨_, rfl⟩
  obtain ⟨KS, hKS⟩ : ∃ KS, KS = PG.flatten.map (·.1) := ⟨_, rfl⟩
  have hPl : PG.length ≤ 1000 := by
    have : ∀ (cs : List Int) (last : Option Row), (pagesA rs lag m size last cs).length = cs.length := fun cs => by
      induction cs with
      | nil => intro _; rfl
      | cons c cs ih => intro last; rw [pagesA, List.length_cons, ih]; rfl
    rw [hPG, this]; exact hn
  have hPm : ∀ p ∈ PG, p.length ≤ 10 := by
    have : ∀ (cs : List Int) (last : Option Row), ∀ p ∈ pagesA rs lag m size last cs, p.length ≤ 10 := fun cs => by
      induction cs with
      | nil => intro _ p hp; cases hp
      | cons c cs ih =>
        intro last p hp
        rw [pagesA] at hp
        rcases List.mem_cons.mp hp with rfl | hp
        · exact Nat.le_trans asked_len hl
        · exact ih _ p hp
    rw [hPG]; exact this _ _
  rw [← hPG, ← hLS, ← hKS]
  simp [f_law_run, start, ev, evs, evI, evT, evO, cmpV, cmpB, seqOf, bindT, wipeE, endR, isTy, ltV, isLst]
  refine loop_nx (P := fun o => endR false (some ab) o = .ok (.tup [.tup (PG.map eRows), .tup ((passA rs m LS KS).map PV.int)]) (some ab)) (fun n ρ S => S = some ab ∧ ∃ (ps : List (List Row)) (last : Option Row), ps ++ pagesA rs lag m size last (ns.drop n) = PG ∧ lastA rs lag m size last (ns.drop n) = LS ∧ ps.length ≤ n ∧ ∃ a5 a7, ρ = [some (eLates rs), some (.int lag), some (.int m), some (.int (size : Nat)), some (eInts ns), a5, none, a7, none, some (.lst (ps.map eRows)), some (oRow last), none, none, none, none])
    (xs := ns.map PV.int) (S1 := some ab) (by simp [start, ev, evs, evI, evT, evO, cmpV, cmpB, seqOf, bindT, wipeE, endR, isTy, isV, ltV, isLst]) ⟨rfl, [], none, by simp [hPG], by simp [hLS], by simp, none, none, rfl⟩ ?_ ?_
  · rintro n x ρ S hx ⟨rfl, ps, last, hps, hls, hlen, a5, a7, rfl⟩
    rw [List.getElem?_map, Option.map_eq_some_iff] at hx
    obtain ⟨c, hc, rfl⟩ := hx
    have hi := (List.getElem?_eq_some_iff.mp hc).1
    have hdrop : ns.drop n = c :: ns.drop (n + 1) := by
      rw [List.drop_eq_getElem_cons hi]
      rw [List.getElem?_eq_getElem hi] at hc
      cases hc; rfl
    refine ⟨_, rfl, ?_⟩
    have hp := law_asked_ok (ab := ab) (d := d - 1) (rs := rs) (lag := lag) (m := m) (c := c) (size := size) (last := last) (by omega) hl hm
    rw [hdrop, pagesA] at hps
    rw [hdrop, lastA] at hls
    generalize hpg : asked rs lag m size c last = pg at hp hps hls
    have hemp : eqB (eRows pg) (.tup []) = some pg.isEmpty := by
      rw [eqB_nilT (shd_rows.shp (by omega))]; simp
    have hle : ps.length < lineN := Nat.lt_of_succ_le (le_lineN (show ps.length + 1 ≤ 16777216 by omega))
    have fin : Nx (fun n ρ S => S = some ab ∧ ∃ (ps : List (List Row)) (last : Option Row), ps ++ pagesA rs lag m size last (ns.drop n) = PG ∧ lastA rs lag m size last (ns.drop n) = LS ∧ ps.length ≤ n ∧ ∃ a5 a7, ρ = [some (eLates rs), some (.int lag), some (.int m), some (.int (size : Nat)), some (eInts ns), a5, none, a7, none, some (.lst (ps.map eRows)), some (oRow last), none, none, none, none]) (n + 1)
        (.next [some (eLates rs), some (.int lag), some (.int m), some (.int (size : Nat)), some (eInts ns), some (.int c), none, some (eRows pg), none, some (.lst (ps.map eRows ++ [eRows pg])), some (oRow (lastOr pg last)), none, none, none, none] (some ab)) :=
      nx_next ⟨rfl, ps ++ [pg], lastOr pg last, by rw [← hps]; simp, hls, by simp; omega, some (.int c), some (eRows pg), by simp⟩
    cases hgl : pg.getLast? with
    | none =>
      have hem : pg.isEmpty = true := by
        have : pg = [] := by simpa using hgl
        rw [this]; rfl
      rw [hem] at hemp
      simp only [lastOr, hgl] at fin
      simp [start, ev, evs, evI, evT, evO, cmpV, cmpB, seqOf, bindT, wipeE, endR, isTy, isV, ltV, isLst, hp, hemp, hle]
      exact fin
    | some l =>
      have hem : pg.isEmpty = false := by
        cases pg with
        | nil => cases hgl
        | cons _ _ => rfl
      rw [hem] at hemp
      have hla : idxV (some ab) (eRows pg) (.int (-1)) = some (e2 l) := idx_last (by rw [List.getLast?_map, hgl]; rfl)
      simp only [lastOr, hgl] at fin
      simp [start, ev, evs, evI, evT, evO, cmpV, cmpB, seqOf, bindT, wipeE, endR, isTy, isV, ltV, isLst, hp, hemp, hle, hla, show negV (.int 1) = some (.int (-1)) from rfl]
      exact fin
  · rintro ρ S ⟨rfl, ps, last, hps, hls, hlen, a5, a7, rfl⟩
    rw [List.length_map, List.drop_length] at hps hls
    simp [pagesA, lastA] at hps hls
    subst hps hls
    simp [start, ev, evs, evI, evT, evO, cmpV, cmpB, seqOf, bindT, wipeE, endR, isTy, ltV, isLst]
    have hfl : ∀ n, ((ps.take n).flatten).length ≤ 10 * 1000 := fun n => by
      have : ∀ qs : List (List Row), (∀ p ∈ qs, p.length ≤ 10) → qs.flatten.length ≤ 10 * qs.length := fun qs => by
        induction qs with
        | nil => intro _; simp
        | cons q qs ih =>
          intro h
          have h1 := h q List.mem_cons_self
          have h2 := ih fun p hp => h p (List.mem_cons_of_mem _ hp)
          rw [List.flatten_cons, List.length_append, List.length_cons]
          omega
      have h1 := this (ps.take n) fun p hp => hPm p (List.mem_of_mem_take hp)
      have h2 : (ps.take n).length ≤ 1000 := by rw [List.length_take]; omega
      omega
    refine loop_nx (P := fun o => endR false (some ab) (o.forget 9) = .ok (.tup [.tup (ps.map eRows), .tup ((passA rs m last KS).map PV.int)]) (some ab)) (fun n ρ S => S = some ab ∧ ∃ a5 a7 a11 a12, ρ = [some (eLates rs), some (.int lag), some (.int m), some (.int (size : Nat)), some (eInts ns), a5, some (.lst (((ps.take n).flatten.map (·.1)).map PV.int)), a7, none, some (.lst (ps.map eRows)), some (oRow last), a11, a12, none, none])
      (xs := ps.map eRows) (S1 := some ab) (by simp [start, ev, evs, evI, evT, evO, cmpV, cmpB, seqOf, bindT, wipeE, endR, isTy, isV, ltV, isLst]) ⟨rfl, a5, a7, none, none, by simp⟩ ?_ ?_
    · rintro n x ρ S hx ⟨rfl, a5, a7, a11, a12, rfl⟩
      rw [List.getElem?_map, Option.map_eq_some_iff] at hx
      obtain ⟨p, hp, rfl⟩ := hx
      refine ⟨_, rfl, ?_⟩
      have ht : (ps.take (n + 1)).flatten = (ps.take n).flatten ++ p := by
        rw [List.take_succ, hp]; simp
      have h1 := hfl n
      have h2 := hPm p (List.mem_of_getElem? hp)
      have fin : Nx (fun n ρ S => S = some ab ∧ ∃ a5 a7 a11 a12, ρ = [some (eLates rs), some (.int lag), some (.int m), some (.int (size : Nat)), some (eInts ns), a5, some (.lst (((ps.take n).flatten.map (·.1)).map PV.int)), a7, none, some (.lst (ps.map eRows)), some (oRow last), a11, a12, none, none]) (n + 1) (.next [some (eLates rs), some (.int lag), some (.int m), some (.int (size : Nat)), some (eInts ns), a5, some (.lst ((((ps.take n).flatten ++ p).map (·.1)).map PV.int)), some (eRows p), none, some (.lst (ps.map eRows)), some (oRow last), a11, a12, none, none] (some ab)) :=
        nx_next ⟨rfl, a5, some (eRows p), a11, a12, by rw [ht]⟩
      generalize (ps.take n).flatten = A at h1 fin ⊢
      have l1 : p.length ≤ lineN := le_lineN (by omega)
      have l2 : A.length + p.length ≤ lineN := le_lineN (by omega)
      simp [start, ev, evs, evI, evT, evO, cmpV, cmpB, seqOf, bindT, wipeE, endR, isTy, ltV]
      rw [flatR_e e2 (fun r => PV.int r.1) (fun r hr => by simp [start, ev, evs, evI, evT, evO, cmpV, cmpB, seqOf, bindT, wipeE, endR, isTy, ltV, e2])]
      simp [l1, l2, isLst] at fin ⊢
      exact fin
    · rintro ρ S ⟨rfl, a5, a7, a11, a12, rfl⟩
      rw [List.length_map, List.take_length, ← hKS]
      have hin : ∀ k : Int, inB (.int k) (.lst (KS.map PV.int)) = some (decide (k ∈ KS)) := fun k => inB_intsL k KS
      simp [start, ev, evs, evI, evT, evO, cmpV, cmpB, seqOf, bindT, wipeE, endR, isTy, ltV, isLst]
      obtain ⟨f, hf⟩ : ∃ f : L3 → Bool, f = fun r => !yonO m last (ks r) && decide (r.1 ∉ KS) := ⟨_, rfl⟩
      have hres : passA rs m last KS = (rs.filter f).map (·.1) := by rw [hf]; rfl
      rw [hres]
      refine loop_nx (P := fun o => endR false (some ab) (o.forget 9) = .ok (.tup [.tup (ps.map eRows), .tup (((rs.filter f).map (·.1)).map PV.int)]) (some ab)) (fun n ρ S => S = some ab ∧ ∃ a5 a7 a11 a12 a13 a14, ρ = [some (eLates rs), some (.int lag), some (.int m), some (.int (size : Nat)), some (eInts ns), a5, some (.lst (KS.map PV.int)), a7, some (.lst ((((rs.take n).filter f).map (·.1)).map PV.int)), some (.lst (ps.map eRows)), some (oRow last), a11, a12, a13, a14])
        (xs := rs.map eLate) (S1 := some ab) (by simp [start, ev, evs, evI, evT, evO, cmpV, cmpB, seqOf, bindT, wipeE, endR, isTy, isV, ltV, isLst]) ⟨rfl, a5, a7, a11, a12, none, none, by simp⟩ ?_ ?_
      · rintro n x ρ S hx ⟨rfl, a5, a7, a11, a12, a13, a14, rfl⟩
        rw [List.getElem?_map, Option.map_eq_some_iff] at hx
        obtain ⟨r, hr, rfl⟩ := hx
        refine ⟨[some (eLates rs), some (.int lag), some (.int m), some (.int (size : Nat)), some (eInts ns), a5, some (.lst (KS.map PV.int)), a7, some (.lst ((((rs.take n).filter f).map (·.1)).map PV.int)), some (.lst (ps.map eRows)), some (oRow last), some (.int r.1), some (.int r.2.1), some (.int r.2.2), a14], rfl, ?_⟩
        have hfr : f r = (!yonO m last (ks r) && decide (r.1 ∉ KS)) := by rw [hf]
        have ht : (rs.take (n + 1)).filter f = (rs.take n).filter f ++ (if f r then [r] else []) := by
          rw [List.take_succ, hr, List.filter_append]
          by_cases q : f r = true <;> simp [q]
        have hlt : ((rs.take n).filter f).length ≤ 10 := by
          have := List.length_filter_le f (rs.take n)
          rw [List.length_take] at this
          omega
        have fin : Nx (fun n ρ S => S = some ab ∧ ∃ a5 a7 a11 a12 a13 a14, ρ = [some (eLates rs), some (.int lag), some (.int m), some (.int (size : Nat)), some (eInts ns), a5, some (.lst (KS.map PV.int)), a7, some (.lst ((((rs.take n).filter f).map (·.1)).map PV.int)), some (.lst (ps.map eRows)), some (oRow last), a11, a12, a13, a14]) (n + 1) (.next [some (eLates rs), some (.int lag), some (.int m), some (.int (size : Nat)), some (eInts ns), a5, some (.lst (KS.map PV.int)), a7, some (.lst ((((rs.take n).filter f ++ (if f r then [r] else [])).map (·.1)).map PV.int)), some (.lst (ps.map eRows)), some (oRow last), some (.int r.1), some (.int r.2.1), some (.int r.2.2), some (.bl (yonO m last (ks r)))] (some ab)) :=
          nx_next ⟨rfl, a5, a7, some (.int r.1), some (.int r.2.1), some (.int r.2.2), some (.bl (yonO m last (ks r))), by rw [ht]⟩
        generalize hA : (rs.take n).filter f = A at hlt fin ⊢
        have l1 : A.length + 1 ≤ lineN := le_lineN (by omega)
        have l0 : A.length ≤ lineN := le_lineN (by omega)
        have hyon : ∀ k : Bool, yonO m last (ks r) = k → ev (evCall prg (d - 1)) (.or (.cmp .Is (.var 10) (.cst .non)) (.ite (.cmp .Eq (.var 2) (.cst (.int 1))) (.cmp .Gt (.var 12) (.idx (.var 10) (.cst (.int 1)))) (.cmp .Gt (.tup (.cons (.var 12) (.cons (.var 11) .nil))) (.tup (.cons (.idx (.var 10) (.cst (.int 1))) (.cons (.idx (.var 10) (.cst (.int 0))) .nil)))))) [some (eLates rs), some (.int lag), some (.int m), some (.int (size : Nat)), some (eInts ns), a5, some (.lst (KS.map PV.int)), a7, some (.lst ((A.map (·.1)).map PV.int)), some (.lst (ps.map eRows)), some (oRow last), some (.int r.1), some (.int r.2.1), some (.int r.2.2), a14] (some ab) = .ok (.bl k) (some ab) := fun k hk => by
          cases last with
          | none =>
            have : k = true := hk.symm
            subst this
            simp [start, ev, evs, evI, evT, evO, cmpV, cmpB, seqOf, bindT, wipeE, endR, isTy, isV, ltV, isLst, oRow]
          | some l =>
            have hn : isV (e2 l) .non = some false := rfl
            have e0 : idxV (some ab) (e2 l) (.int 1) = some (.int l.2) := by simp [e2, idxV, atI, ixN]
            have e00 : idxV (some ab) (e2 l) (.int 0) = some (.int l.1) := by simp [e2, idxV, atI, ixN]
            have hk' : yon m l (ks r) = k := hk
            rcases hm with rfl | rfl
            · rw [yon_1] at hk'
              simp [ks] at hk'
              rw [← hk']
              simp [start, ev, evs, evI, evT, evO, cmpV, cmpB, seqOf, bindT, wipeE, endR, isTy, ltV, isLst, oRow, hn, e0]
              rw [Bool.eq_iff_iff]
              simp
              exact decide_eq_true_iff.symm
            · rw [yon_2] at hk'
              simp [ks] at hk'
              rw [← hk']
              simp [start, ev, evs, evI, evT, evO, cmpV, cmpB, seqOf, bindT, wipeE, endR, isTy, ltV, isLst, oRow, hn, e0, e00, intsOf, lt2]
              rw [Bool.eq_iff_iff]
              simp
              exact decide_eq_true_iff.symm
        rw [rs_cons, r_set, hyon _ rfl]
        by_cases q1 : yonO m last (ks r) = true
        · rw [hfr, q1] at fin
          simp [q1, start, ev, evs, evI, evT, evO, cmpV, cmpB, seqOf, bindT, wipeE, endR, isTy, ltV, l0, isLst] at fin ⊢
          exact fin
        · have q1' : yonO m last (ks r) = false := by simpa using q1
          by_cases q2 : r.1 ∈ KS
          · rw [hfr, q1'] at fin
            simp [q1', start, ev, evs, evI, evT, evO, cmpV, cmpB, seqOf, bindT, wipeE, endR, isTy, ltV, hin, q2, l0, isLst] at fin ⊢
            exact fin
          · rw [hfr, q1'] at fin
            simp [q1', start, ev, evs, evI, evT, evO, cmpV, cmpB, seqOf, bindT, wipeE, endR, isTy, ltV, hin, q2, l1, isLst] at fin ⊢
            exact fin
      · rintro ρ S ⟨rfl, a5, a7, a11, a12, a13, a14, rfl⟩
        simp [start, ev, evs, evI, evT, evO, cmpV, cmpB, seqOf, bindT, wipeE, endR, isTy, isV, ltV, isLst]
end Py.K92

set_option Elab.async false
set_option linter.all false
set_option maxRecDepth 100000
set_option maxHeartbeats 4000000
namespace Py.K92
open PySem Py L2
variable {d : Nat} {ab : Int × Int}
theorem need_run_ok {t : Tb} {size : Nat} {rs : List Row} {h : List Stp} (hd : 5 < d) (ot : okTb t) (os : 1 ≤ size ∧ size ≤ 3) (or : okRows rs) (oh : okHist h) : evCall prg d "need_run" [eTb t, .int (size : Nat), eRows rs, eHist h] (some ab) = .ok .non (some ab) := by
  rw [evc i_p_need_run (by omega) rfl]
  simp [p_need_run, start, ev, evs, evI, evT, evO, cmpV, cmpB, seqOf, bindT, wipeE, endR, isTy, isV, ltV, isLst, need_table_ok (show 2 < d - 1 by omega) ot, need_size_ok (show 1 < d - 1 by omega) os, need_list_ok (show 3 < d - 1 by omega) or, fits_history_ok (show 4 < d - 1 by omega) oh]
theorem pages_along_ok {t : Tb} {size : Nat} {rs : List Row} {h : List Stp} (hd : 7 < d) (ot : okTb t) (os : 1 ≤ size ∧ size ≤ 3) (or : okRows rs) (oh : okHist h) : evCall prg d "pages_along" [eTb t, .int (size : Nat), eRows rs, eHist h] (some ab) = .ok (.tup ((alongI t size (begunR rs) h).map eRows)) (some ab) := by
  rw [evc i_p_pages_along (by omega) rfl]
  simp [p_pages_along, start, ev, evs, evI, evT, evO, cmpV, cmpB, seqOf, bindT, wipeE, endR, isTy, ltV, need_run_ok (show 5 < d - 1 by omega) ot os or oh, begun_ok (show 0 < d - 1 by omega)]
  obtain ⟨AL, hAL⟩ : ∃ AL, AL = alongI t size (begunR rs) h := ⟨_, rfl⟩
  rw [← hAL]
  simp [isLst]
  refine loop_nx (P := fun o => endR false (some ab) o = .ok (.tup (AL.map eRows)) (some ab)) (fun n ρ S => S = some ab ∧ ∃ (ps : List (List Row)) (R : Rdg), ps ++ alongI t size R (h.drop n) = AL ∧ ps.length ≤ n ∧ GrowR n R ∧ ∃ a4 a7, ρ = [some (eTb t), some (.int (size : Nat)), some (eRows rs), some (eHist h), a4, some (.lst (ps.map eRows)), some (eRdg R), a7])
    (xs := h.map eStp) (S1 := some ab) (by simp [start, ev, evs, evI, evT, evO, cmpV, cmpB, seqOf, bindT, wipeE, endR, isTy, isV, ltV, isLst]) ⟨rfl, [], begunR rs, by simp [hAL], by simp, begun_grow or.1, none, none, rfl⟩ ?_ ?_
  · rintro n x ρ S hx ⟨rfl, ps, R, hps, hlen, hgr, a4, a7, rfl⟩
    rw [List.getElem?_map, Option.map_eq_some_iff] at hx
    obtain ⟨c, hc, rfl⟩ := hx
    have hi := (List.getElem?_eq_some_iff.mp hc).1
    have hn60 : n < 60 := by have := oh.1; omega
    have hdrop : h.drop n = c :: h.drop (n + 1) := by
      rw [List.drop_eq_getElem_cons hi]
      rw [List.getElem?_eq_getElem hi] at hc
      cases hc; rfl
    rw [hdrop, alongI] at hps
    refine ⟨_, rfl, ?_⟩
    have hs := stepped_in_ok (ab := ab) (d := d - 1) (t := t) (size := size) (R := R) (c := c) (by omega) (hgr.sm (by omega))
    have hg' := hgr.step hn60 t size c
    have hpage := eqPage c
    generalize hR' : stepR t size R c = R' at hs hg' hps
    have ho : idxV (some ab) (eRdg R) (.int 5) = some (.int (if R.over then 1 else 0)) := by simp [eRdg, idxV, atI, ixN]
    have hg2 : idxV (some ab) (eRdg R) (.int 2) = some (eRows R.got) := by simp [eRdg, idxV, atI, ixN]
    have hg3 : idxV (some ab) (eRdg R') (.int 2) = some (eRows R'.got) := by simp [eRdg, idxV, atI, ixN]
    have hcut : slcV (some (R.got.length : Int)) none (eRows R'.got) = some (eRows (R'.got.drop R.got.length)) := by
      show some (PV.tup (cutP _ (some ((R.got.length : Nat) : Int)) none)) = _
      rw [cut_hi, ← List.map_drop]
    have hle : ps.length < lineN := Nat.lt_of_succ_le (le_lineN (show ps.length + 1 ≤ 16777216 by omega))
    have fin : Nx (fun n ρ S => S = some ab ∧ ∃ (ps : List (List Row)) (R : Rdg), ps ++ alongI t size R (h.drop n) = AL ∧ ps.length ≤ n ∧ GrowR n R ∧ ∃ a4 a7, ρ = [some (eTb t), some (.int (size : Nat)), some (eRows rs), some (eHist h), a4, some (.lst (ps.map eRows)), some (eRdg R), a7]) (n + 1)
        (.next [some (eTb t), some (.int (size : Nat)), some (eRows rs), some (eHist h), some (eStp c), some (.lst ((ps ++ (if c = .page ∧ R.over = false then [R'.got.drop R.got.length] else [])).map eRows)), some (eRdg R'), some (eRdg R')] (some ab)) :=
      nx_next ⟨rfl, ps ++ (if c = .page ∧ R.over = false then [R'.got.drop R.got.length] else []), R', by rw [← hps, List.append_assoc], by rw [List.length_append]; split <;> simp <;> omega, hg', some (eStp c), some (eRdg R'), rfl⟩
    cases c with
    | page =>
      cases hov : R.over with
      | true =>
        rw [hov] at ho fin
        simp [start, ev, evs, evI, evT, evO, cmpV, cmpB, seqOf, bindT, wipeE, endR, isTy, ltV, hs, hpage, ho] at fin ⊢
        exact fin
      | false =>
        rw [hov] at ho fin
        simp [start, ev, evs, evI, evT, evO, cmpV, cmpB, seqOf, bindT, wipeE, endR, isTy, ltV, hs, hpage, ho, hg2, hg3, hcut, hle] at fin ⊢
        exact fin
    | put k r =>
      simp [start, ev, evs, evI, evT, evO, cmpV, cmpB, seqOf, bindT, wipeE, endR, isTy, ltV, hs, hpage] at fin ⊢
      exact fin
    | drop k =>
      simp [start, ev, evs, evI, evT, evO, cmpV, cmpB, seqOf, bindT, wipeE, endR, isTy, ltV, hs, hpage] at fin ⊢
      exact fin
  · rintro ρ S ⟨rfl, ps, R, hps, hlen, hgr, a4, a7, rfl⟩
    rw [List.length_map, List.drop_length] at hps
    simp [alongI] at hps
    subst hps
    simp [start, ev, evs, evI, evT, evO, cmpV, cmpB, seqOf, bindT, wipeE, endR, isTy, isV, ltV, isLst]
end Py.K92

set_option Elab.async false
set_option linter.all false
set_option maxRecDepth 100000
set_option maxHeartbeats 4000000
namespace Py.K92
open PySem Py L2
variable {ns sc : List Int} {S : Cup} {ab : Int × Int} {a2 a3 a6 a7 a8 a9 a10 a11 a12 a13 a14 a15 a16 : Option PV}
def ρ0 (ns : List Int) : Env := [some (.scr ns), some .cup, none, none, none, none, none, none, none, none, none, none, none, none, none, none, none]
def lateP : PV := .tup [.tup [.int 0, .int 1, .int 3], .tup [.int 1, .int 1, .int 0], .tup [.int 4, .int 2, .int 0]]
def twoP : PV := .tup [.tup [.int 0, .int 0, .int 0], .tup [.int 1, .int 0, .int 0]]
theorem pre_ok : runs (evCall prg 29) ((p_law.body.drop 1).take 7) (ρ0 ns) (some ab) = .next [some (.scr ns), some .cup, some (.tup [.bl true, .bl false, .bl false, .bl false]), none, some lateP, some twoP, none, none, none, none, none, none, none, none, none, none, none] (some ab) := by
  kernel_rfl
theorem post_ok {a4 a5 : Option PV} : runs (evCall prg 29) (p_law.body.drop 9) [some (.scr ns), some .cup, a2, a3, a4, a5, a6, a7, a8, a9, a10, a11, a12, a13, a14, a15, a16] (some ab) = .ret (.bl true) (some ab) := by
  kernel_rfl
/-- the loop's body -/
def turnB : MB := match (p_law.body.drop 8) with
  | .cons (.loop _ _ b) _ => b
  | _ => .nil
theorem loop_is : p_law.body.drop 8 = .cons (.loop (.one 3) (.rng1 (.cst (.int 12))) turnB) (p_law.body.drop 9) := by rfl
theorem stA (g : CG S) : ∃ (rs : List L3) (lag m : Int) (size : Nat) (pl : List Int) (S' : Cup), okLates rs ∧ (0 ≤ lag ∧ lag ≤ 5) ∧ isM m ∧ (1 ≤ size ∧ size ≤ 3) ∧ okPolls pl ∧ pl.length ≤ 8 ∧ CG S' ∧
    runs (evCall prg 29) (turnB.take 3) [some (.scr sc), some .cup, a2, a3, some lateP, some twoP, a6, a7, a8, a9, a10, a11, a12, a13, a14, a15, a16] S =
      .next [some (.scr sc), some .cup, a2, a3, some lateP, some twoP, some (eInts pl), a7, a8, a9, some (eLates rs), some (.int lag), some (.int m), some (.int (size : Nat)), some (.tup ((pagesA rs lag m size none pl).map eRows)), some (.tup ((passA rs m (lastA rs lag m size none pl) ((pagesA rs lag m size none pl).flatten.map (·.1))).map PV.int)), a16] S' := by
  obtain ⟨rs, S1, e1, ok, g1⟩ := law_late_ok (d := 29) (by decide) g
  obtain ⟨lag, S2, e2, l0, l1, g2⟩ := roll (d := 29) (by decide) g1 (m := 6) (by decide) (by decide)
  obtain ⟨m, S3, e3, m0, m1, g3⟩ := roll (d := 29) (by decide) g2 (m := 2) (by decide) (by decide)
  obtain ⟨sz, S4, e4, z0, z1, g4⟩ := roll (d := 29) (by decide) g3 (m := 3) (by decide) (by decide)
  obtain ⟨k, S5, e5, k0, k1, g5⟩ := roll (d := 29) (by decide) g4 (m := 9) (by decide) (by decide)
  obtain ⟨pl, S6, e6, ⟨pn, okp⟩, g6⟩ := law_polls_ok (d := 29) (by decide) g5 k0 (by omega)
  have g6' := g6
  obtain ⟨q1, q2, rfl, _⟩ := g6
  obtain ⟨s, rfl⟩ := Int.eq_ofNat_of_zero_le z0
  have hm : isM (1 + m) := by unfold isM; omega
  obtain ⟨z, hz⟩ : ∃ z : Nat, (1 : Int) + (s : Int) = (z : Int) := ⟨1 + s, by omega⟩
  have hr := law_run_ok (d := 29) (ab := (q1, q2)) (rs := rs) (lag := lag) (m := 1 + m) (size := z) (ns := pl) (by decide) ok.1 hm (by omega)
  refine ⟨rs, lag, 1 + m, z, pl, some (q1, q2), ok, ⟨l0, by omega⟩, hm, ⟨by omega, by omega⟩, okp, by omega, g6', ?_⟩
  have ht : turnB.take 3 = .cons _ (.cons _ (.cons _ .nil)) := rfl
  rw [ht]
  have hb : bindT (.tup [14, 15]) (.tup [.tup ((pagesA rs lag (1 + m) z none pl).map eRows), .tup ((passA rs (1 + m) (lastA rs lag (1 + m) z none pl) ((pagesA rs lag (1 + m) z none pl).flatten.map (·.1))).map PV.int)]) = fun ρ => some ((ρ.set 14 (some (.tup ((pagesA rs lag (1 + m) z none pl).map eRows)))).set 15 (some (.tup ((passA rs (1 + m) (lastA rs lag (1 + m) z none pl) ((pagesA rs lag (1 + m) z none pl).flatten.map (·.1))).map PV.int)))) := rfl
  generalize (pagesA rs lag (1 + m) z none pl).map eRows = PG at *
  generalize (passA rs (1 + m) (lastA rs lag (1 + m) z none pl) ((pagesA rs lag (1 + m) z none pl).flatten.map (·.1))).map PV.int = PS at *
  simp [ev, evs, e1, e2, e3, e4, e5, e6, hz]
  rw [hr]
  simp [hb]
theorem isM_le {m : Int} (hm : isM m) : 1 ≤ m ∧ m ≤ 2 := by rcases hm with rfl | rfl <;> decide
theorem pl_rows {rs : List Row} (h : rs.length ≤ 1000) : Pl 2 (eRows rs) := .tup (by simp; omega) fun x hx => by
  obtain ⟨r, _, rfl⟩ := List.mem_map.mp hx
  exact .tup (by simp) fun y hy => by
    simp at hy
    rcases hy with rfl | rfl <;> exact .int
theorem pl_pages {ps : List (List Row)} (h : ps.length ≤ 1000) (h2 : ∀ p ∈ ps, p.length ≤ 1000) : Pl 3 (.tup (ps.map eRows)) := .tup (by simp; omega) fun x hx => by
  obtain ⟨p, hp, rfl⟩ := List.mem_map.mp hx
  exact pl_rows (h2 p hp)
theorem pl_ints {n : Nat} {is : List Int} (h : is.length ≤ 1000) : Pl (n + 1) (.tup (is.map PV.int)) := .tup (by simp; omega) fun x hx => by
  obtain ⟨p, hp, rfl⟩ := List.mem_map.mp hx
  exact .int
theorem pagesA_len {rs : List L3} {lag m : Int} {size : Nat} (cs : List Int) : ∀ last, (pagesA rs lag m size last cs).length = cs.length := by
  induction cs with
  | nil => intro _; rfl
  | cons c cs ih => intro last; rw [pagesA, List.length_cons, ih]; rfl
theorem pagesA_small {rs : List L3} {lag m : Int} {size : Nat} (hl : rs.length ≤ 10) (cs : List Int) : ∀ last, ∀ p ∈ pagesA rs lag m size last cs, p.length ≤ 10 := by
  induction cs with
  | nil => intro _ p hp; cases hp
  | cons c cs ih =>
    intro last p hp
    rw [pagesA] at hp
    rcases List.mem_cons.mp hp with rfl | hp
    · exact Nat.le_trans asked_len hl
    · exact ih _ p hp
theorem passA_len {rs : List L3} {m : Int} {last : Option Row} {keys : List Int} : (passA rs m last keys).length ≤ rs.length := by
  unfold passA
  rw [List.length_map]
  exact List.length_filter_le _ _
theorem stB {rs : List L3} {lag m : Int} {size : Nat} {pl : List Int} (ok : okLates rs) (hg : 0 ≤ lag ∧ lag ≤ 5) (hm : isM m) (hs : 1 ≤ size ∧ size ≤ 3) (hp : okPolls pl) : ∃ b2 : Option PV,
    runs (evCall prg 29) ((turnB.drop 3).take 2) [some (.scr sc), some .cup, a2, a3, some lateP, some twoP, some (eInts pl), a7, a8, a9, some (eLates rs), some (.int lag), some (.int m), some (.int (size : Nat)), some (.tup ((pagesA rs lag m size none pl).map eRows)), some (.tup ((passA rs m (lastA rs lag m size none pl) ((pagesA rs lag m size none pl).flatten.map (·.1))).map PV.int)), a16] (some ab) =
      .next [some (.scr sc), some .cup, b2, a3, some lateP, some twoP, some (eInts pl), a7, a8, a9, some (eLates rs), some (.int lag), some (.int m), some (.int (size : Nat)), some (.tup ((pagesA rs lag m size none pl).map eRows)), some (.tup ((passA rs m (lastA rs lag m size none pl) ((pagesA rs lag m size none pl).flatten.map (·.1))).map PV.int)), a16] (some ab) := by
  have e1 := got_by_polls_ok (d := 29) (ab := ab) (by decide) ok hg (isM_le hm) hs hp
  have e2' := keys_passed_ok (d := 29) (ab := ab) (by decide) ok hg (isM_le hm) hs hp
  have e3' := is_passing_ok (d := 29) (ab := ab) (by decide) ok hg (isM_le hm) hs hp
  have hpa : passI rs m (gotI rs lag m size pl) = passA rs m (lastA rs lag m size none pl) ((pagesA rs lag m size none pl).flatten.map (·.1)) := by
    unfold gotI
    rw [pagesI_A hm]
    exact pass_same ok.2.2 pl
  rw [hpa] at e2' e3'
  rw [pagesI_A hm] at e1
  have q1 : Pl 3 (.tup ((pagesA rs lag m size none pl).map eRows)) := pl_pages (by rw [pagesA_len]; have := hp.1; omega) fun p h => by have := pagesA_small ok.1 pl none p h; omega
  have q2 : Pl 3 (.tup ((passA rs m (lastA rs lag m size none pl) ((pagesA rs lag m size none pl).flatten.map (·.1))).map PV.int)) := pl_ints (by have := passA_len (rs := rs) (m := m) (last := lastA rs lag m size none pl) (keys := (pagesA rs lag m size none pl).flatten.map (·.1)); have := ok.1; omega)
  generalize (pagesA rs lag m size none pl).map eRows = PG at *
  generalize passA rs m (lastA rs lag m size none pl) ((pagesA rs lag m size none pl).flatten.map (·.1)) = PS at *
  have hem : eqB (.tup (PS.map PV.int)) (.tup []) = some PS.isEmpty := by
    rw [eqB_nilT (shd_ints.shp (by omega))]; simp
  have hsame := same (d := 29) (ab := ab) (n := 4) (v := .tup [.tup PG, .tup (PS.map PV.int), .bl (!PS.isEmpty)]) (.tup (by simp) fun x hx => by
    simp at hx
    rcases hx with rfl | rfl | rfl
    · exact q1
    · exact q2
    · exact .bl) (by decide)
  have ht : (turnB.drop 3).take 2 = .cons _ (.cons _ .nil) := rfl
  rw [ht]
  refine ⟨some (.tup [.tup PG, .tup (PS.map PV.int), .bl (!PS.isEmpty)]), ?_⟩
  simp [ev, evs, e1, e2', e3', cmpV, cmpB, hem, hsame]
theorem histW_S : ∀ (cs : List Int) (w : List L3), histW w cs = (Py.histS w cs).map eStp
  | [], _ => rfl
  | c :: cs, w => by
    rw [histW, Py.histS, histW_S cs, List.map_append, List.map_map, List.map_cons]
    rfl
theorem hist_okS {rs : List L3} {lag : Int} {pl : List Int} (ok : okLates rs) (hp : okPolls pl) : okHist (Py.histS (waitsR rs lag) pl) := by
  have hw : (waitsR rs lag).length = rs.length := by unfold waitsR; rw [List.length_mergeSort, List.length_map]
  refine ⟨?_, fun s hs => ?_⟩
  · have := histS_len pl (waitsR rs lag)
    have := ok.1
    have := hp.1
    omega
  · rcases histS_mem pl _ s hs with rfl | ⟨t, ht, rfl⟩
    · rfl
    · unfold waitsR at ht
      rw [List.mem_mergeSort] at ht
      obtain ⟨r, hr, rfl⟩ := List.mem_map.mp ht
      have := ok.2.1 r hr
      simp [okLate] at this
      simp [putOf, okStp, okRow, this]
theorem cutS_pos {size : Nat} {p : List Row} {ps : List (List Row)} : 0 < (cutS size (p :: ps)).length := by rw [cutS]; simp
theorem stC {rs : List L3} {lag m : Int} {size : Nat} {pl : List Int} (ok : okLates rs) (hg : 0 ≤ lag ∧ lag ≤ 5) (hm : isM m) (hs : 1 ≤ size ∧ size ≤ 3) (hp : okPolls pl) : ∃ b7 : Option PV,
    runs (evCall prg 29) ((turnB.drop 5).take 2) [some (.scr sc), some .cup, a2, a3, some lateP, some twoP, some (eInts pl), a7, a8, a9, some (eLates rs), some (.int lag), some (.int m), some (.int (size : Nat)), some (.tup ((pagesA rs lag m size none pl).map eRows)), a15, a16] (some ab) =
      .next [some (.scr sc), some .cup, a2, a3, some lateP, some twoP, some (eInts pl), b7, a8, a9, some (eLates rs), some (.int lag), some (.int m), some (.int (size : Nat)), some (.tup ((pagesA rs lag m size none pl).map eRows)), a15, a16] (some ab) := by
  have e1 := late_history_ok (d := 29) (ab := ab) (by decide) ok hg hp
  rw [show waits rs lag = waitsR rs lag from rfl, histW_S] at e1
  have tb : okTb (lateTb m) := by
    have := isM_le hm
    unfold okTb lateTb
    simp
    omega
  have e2' := pages_along_ok (d := 29) (ab := ab) (t := lateTb m) (size := size) (rs := []) (h := Py.histS (waitsR rs lag) pl) (by decide) tb hs ⟨by simp, by simp, .nil⟩ (hist_okS ok hp)
  rw [along_late hm ok.2.2 hp.2.2, pagesI_A hm] at e2'
  have h1 := cutS_take size (pagesA rs lag m size none pl)
  have h2 := cutS_le size (pagesA rs lag m size none pl)
  have h3 := cutS_short size (pagesA rs lag m size none pl)
  have h4 : 0 < (pagesA rs lag m size none pl).length → 0 < (cutS size (pagesA rs lag m size none pl)).length := by
    cases pagesA rs lag m size none pl with
    | nil => intro h; exact absurd h (by simp)
    | cons p ps => intro _; exact cutS_pos
  have hsm := pagesA_small (lag := lag) (m := m) (size := size) ok.1 pl none
  have hln : (pagesA rs lag m size none pl).length ≤ 40 := by rw [pagesA_len]; exact hp.1
  generalize pagesA rs lag m size none pl = PG at *
  generalize hAL : cutS size PG = AL at *
  have hAm : ∀ p ∈ AL, p.length ≤ 1000 := fun p hp' => by
    rw [h1] at hp'
    have := hsm p (List.mem_of_mem_take hp')
    omega
  have hsame := same (d := 29) (ab := ab) (n := 3) (v := .tup (AL.map eRows)) (pl_pages (by omega) hAm) (by decide)
  have hcut : slcV none (some (AL.length : Int)) (.tup (PG.map eRows)) = some (.tup (AL.map eRows)) := by
    show some (PV.tup (cutP _ none (some ((AL.length : Nat) : Int)))) = _
    rw [cut_lo (by rw [List.length_map]; exact h2), ← List.map_take, ← h1]
  have hl1 : bltV .len [.tup (AL.map eRows)] = some (.int (AL.length : Nat)) := by simp [bltV]
  have hl2 : bltV .len [.tup (PG.map eRows)] = some (.int (PG.length : Nat)) := by simp [bltV]
  have hcall : PV.tup [.int 1, .int m, .int 0, .int 0, .int 0, .int 0] = eTb (lateTb m) := rfl
  have hrows : PV.tup [] = eRows [] := rfl
  have ht : (turnB.drop 5).take 2 = .cons _ (.cons _ .nil) := rfl
  rw [ht]
  refine ⟨some (.tup (AL.map eRows)), ?_⟩
  simp [ev, evs, e1]
  rw [hcall, hrows, e2']
  by_cases hlt : AL.length < PG.length
  · obtain ⟨p, hp1, hp2⟩ := h3 hlt
    have hpos := h4 (by omega)
    have hidx : idxV (some ab) (.tup (PG.map eRows)) (.int ((AL.length : Int) - 1)) = some (eRows p) := by
      have e : (AL.length : Int) - 1 = ((AL.length - 1 : Nat) : Int) := by omega
      have l0 : (0 : Int) ≤ ((AL.length - 1 : Nat) : Int) := by omega
      have l1 : ((AL.length - 1 : Nat) : Int) < (PG.length : Int) := by omega
      rw [e]
      simp [idxV, atI, ixN, l0, l1, hp1]
    have hne : ¬ ((p.length : Int) = (size : Int)) := by omega
    simp [ev, evs, evO, hl1, hl2, hcut, hsame, cmpV, cmpB, ltV, hlt, binV, subV, hidx, hne]
  · simp [ev, evs, evO, hl1, hl2, hcut, hsame, cmpV, cmpB, ltV, hlt]
theorem flatR_no {α : Type} {f : PV → Cup → Res (List PV)} (e : α → PV) {S : Cup} {ys : List α} (H : ∀ y ∈ ys, f (e y) S = .ok [] S) : flatR f (ys.map e) S = .ok [] S := flatR_none e H
theorem stD {rs : List L3} {lag m : Int} {size : Nat} {pl : List Int} (ok : okLates rs) (hg : 0 ≤ lag ∧ lag ≤ 5) (hm : isM m) (hs : 1 ≤ size ∧ size ≤ 3) (hp : okPolls pl) (hl : pl.length ≤ 8) : ∃ b8 : Option PV,
    runs (evCall prg 29) ((turnB.drop 7).take 2) [some (.scr sc), some .cup, a2, a3, some lateP, some twoP, some (eInts pl), a7, a8, a9, some (eLates rs), some (.int lag), some (.int m), some (.int (size : Nat)), a14, some (.tup ((passA rs m (lastA rs lag m size none pl) ((pagesA rs lag m size none pl).flatten.map (·.1))).map PV.int)), a16] (some ab) =
      .next [some (.scr sc), some .cup, a2, a3, some lateP, some twoP, some (eInts pl), a7, b8, a9, some (eLates rs), some (.int lag), some (.int m), some (.int (size : Nat)), a14, some (.tup ((passA rs m (lastA rs lag m size none pl) ((pagesA rs lag m size none pl).flatten.map (·.1))).map PV.int)), a16] (some ab) := by
  obtain ⟨more, hmore⟩ : ∃ more, more = pl ++ [10, 10, 10, 10, 10] := ⟨_, rfl⟩
  have okm : okPolls more := by
    rw [hmore]
    refine ⟨by simp; omega, fun n hn => ?_, ?_⟩
    · rcases List.mem_append.mp hn with hn | hn
      · exact hp.2.1 n hn
      · simp at hn; subst hn; decide
    · rw [List.pairwise_append]
      refine ⟨hp.2.2, by decide, fun a ha b hb => ?_⟩
      have := hp.2.1 a ha
      simp at hb
      omega
  have e1 := keys_passed_ok (d := 29) (ab := ab) (by decide) ok hg (isM_le hm) hs okm
  have hsub := pass_more (rs := rs) (lag := lag) (size := size) hm pl [10, 10, 10, 10, 10]
  rw [← hmore, pass_same ok.2.2] at hsub
  have hgm : (pagesA rs lag m size none more).flatten = gotI rs lag m size more := by unfold gotI; rw [pagesI_A hm]
  rw [hgm] at hsub
  generalize passA rs m (lastA rs lag m size none pl) ((pagesA rs lag m size none pl).flatten.map (·.1)) = PS at *
  generalize passI rs m (gotI rs lag m size more) = KS at *
  have hmul : mulV (.tup [.int 10]) (.int 5) = some (.tup [.int 10, .int 10, .int 10, .int 10, .int 10]) := by kernel_rfl
  have hadd : addV (eInts pl) (.tup [.int 10, .int 10, .int 10, .int 10, .int 10]) = some (eInts more) := by
    have : (pl.map PV.int).length + 5 ≤ lineN := le_lineN (by simp; omega)
    simp only [addV, List.length_cons, List.length_nil]
    rw [if_pos this, hmore]
    show _ = some (PV.tup ((pl ++ [10, 10, 10, 10, 10]).map PV.int))
    rw [List.map_append]
    rfl
  have hin : ∀ k ∈ PS, inB (.int k) (.tup (KS.map PV.int)) = some true := fun k hk => by rw [inB_intsT, decide_eq_true (hsub k hk)]
  have ht : (turnB.drop 7).take 2 = .cons _ (.cons _ .nil) := rfl
  rw [ht]
  refine ⟨some (eInts more), ?_⟩
  simp [ev, evs, evI, evT, seqOf, binV, hmul, hadd]
  rw [flatR_none PV.int (fun k hk => by
    have h0 := hin k hk
    simp [start, ev, evs, evI, evT, evO, cmpV, cmpB, seqOf, bindT, wipeE, endR, isTy, ltV, e1, h0])]
  simp [cmpV, cmpB]
/-- the odd polls -/
def backP (pl : List Int) : List Int := match pl.getLast? with
  | some x => if 0 < x then pl.reverse ++ [0] else [1, 0]
  | none => [1, 0]
def oddsP (pl : List Int) : List PV := [.non, eInts (backP pl), .lst (pl.map PV.int), .tup [.int 11], .tup [.bl true], .str "0", .int 0]
theorem back_bad (pl : List Int) : pollsV (eInts (backP pl)) = false := by
  have key : ∀ ns : List Int, ascE ns = false → pollsV (eInts ns) = false := fun ns h => by
    have e : pollsV (eInts ns) = (decide ((ns.map PV.int).length ≤ 40) && (ns.map PV.int).all (wholeV 0 10) && ascE ns) := by
      show (_ && _ && ascE _) = _
      congr 2
      rw [List.map_map]
      exact List.map_id' ns
    rw [e, h, Bool.and_false]
  refine key _ ?_
  unfold backP
  cases hl : pl.getLast? with
  | none => rfl
  | some x =>
    simp only
    by_cases q : 0 < x
    · rw [if_pos q]
      obtain ⟨ys, rfl⟩ := List.getLast?_eq_some_iff.mp hl
      cases ha : ascE ((ys ++ [x]).reverse ++ [0]) with
      | false => rfl
      | true =>
        rw [ascE_iff] at ha
        rw [List.reverse_append, List.reverse_singleton, List.singleton_append, List.cons_append] at ha
        have := (List.pairwise_cons.mp ha).1 0 (by simp)
        omega
    · rw [if_neg q]; rfl
theorem back_len {pl : List Int} (h : pl.length ≤ 8) : (backP pl).length ≤ 1000 := by
  unfold backP
  cases pl.getLast? with
  | none => simp
  | some x =>
    simp only
    split
    · simp; omega
    · decide
theorem odd_fit {pl : List Int} (h : pl.length ≤ 8) {o : PV} (ho : o ∈ oddsP pl) : plain2 o = true ∧ (∀ xs, o = .tup xs → xs.length ≤ 1000) ∧ pollsV o = false := by
  simp only [oddsP, List.mem_cons, List.not_mem_nil, or_false] at ho
  rcases ho with rfl | rfl | rfl | rfl | rfl | rfl | rfl
  · exact ⟨rfl, fun _ e => (by cases e), rfl⟩
  · exact ⟨plain2_ints _, fun xs e => (by cases e; rw [List.length_map]; exact back_len h), back_bad pl⟩
  · exact ⟨rfl, fun _ e => (by cases e), rfl⟩
  · exact ⟨rfl, fun _ e => (by cases e; decide), rfl⟩
  · exact ⟨rfl, fun _ e => (by cases e; decide), rfl⟩
  · exact ⟨rfl, fun _ e => (by cases e), rfl⟩
  · exact ⟨rfl, fun _ e => (by cases e), rfl⟩
theorem odds_ev {rs : List L3} {lag m : Int} {size : Nat} {pl : List Int} (hl : pl.length ≤ 8) : evI (evCall prg 29) (.seq (.tup (.cons (.cst .non) (.cons (.ite (.and (.cmp .NotEq (.var 6) (.tup .nil)) (.cmp .Gt (.idx (.var 6) (.neg (.cst (.int 1)))) (.cst (.int 0)))) (.bin .Add (.rev (.var 6)) (.tup (.cons (.cst (.int 0)) .nil))) (.tup (.cons (.cst (.int 1)) (.cons (.cst (.int 0)) .nil)))) (.cons (.blt .list1 (.cons (.var 6) .nil)) (.cons (.tup (.cons (.cst (.int 11)) .nil)) (.cons (.tup (.cons (.cst (.bl true)) .nil)) (.cons (.cst (.str "0")) (.cons (.cst (.int 0)) .nil)))))))))
    [some (.scr sc), some .cup, a2, a3, some lateP, some twoP, some (eInts pl), a7, a8, a9, some (eLates rs), some (.int lag), some (.int m), some (.int (size : Nat)), a14, a15, a16] (some ab) = .ok (oddsP pl) (some ab) := by
  have hem : eqB (eInts pl) (.tup []) = some pl.isEmpty := by
    rw [eqB_nilT (shd_ints.shp (by omega))]; simp
  cases hla : pl.getLast? with
  | none =>
    have : pl = [] := by simpa using hla
    subst this
    simp [start, ev, evs, evI, evT, evO, cmpV, cmpB, seqOf, bindT, wipeE, endR, isTy, isV, ltV, isLst, show eqB (eInts []) (.tup []) = some true from eqB_nnT, oddsP, backP]
  | some x =>
    have he : pl.isEmpty = false := by
      cases pl with
      | nil => cases hla
      | cons _ _ => rfl
    rw [he] at hem
    have hix : idxV (some ab) (eInts pl) (.int (-1)) = some (.int x) := idx_last (by rw [List.getLast?_map, hla]; rfl)
    have hneg : negV (.int 1) = some (.int (-1)) := rfl
    by_cases q : 0 < x
    · have hadd : addV (.tup ((pl.map PV.int).reverse)) (.tup [.int 0]) = some (eInts (pl.reverse ++ [0])) := by
        have : ((pl.map PV.int).reverse).length + 1 ≤ lineN := le_lineN (by simp; omega)
        simp only [addV, List.length_cons, List.length_nil]
        rw [if_pos this]
        show _ = some (PV.tup ((pl.reverse ++ [0]).map PV.int))
        rw [List.map_append, List.map_reverse]
        rfl
      simp [start, ev, evs, evI, evT, evO, cmpV, cmpB, seqOf, bindT, wipeE, endR, isTy, ltV, hem, hix, hneg, q, revV, binV, hadd, oddsP, backP, hla]
    · simp [start, ev, evs, evI, evT, evO, cmpV, cmpB, seqOf, bindT, wipeE, endR, isTy, ltV, hem, hix, hneg, q, oddsP, backP, hla]
theorem stE {rs : List L3} {lag m : Int} {size : Nat} {pl : List Int} (ok : okLates rs) (hg : 0 ≤ lag ∧ lag ≤ 5) (hm : isM m) (hs : 1 ≤ size ∧ size ≤ 3) (hl : pl.length ≤ 8) : ∃ b9 : Option PV,
    runs (evCall prg 29) (turnB.drop 9) [some (.scr sc), some .cup, a2, a3, some lateP, some twoP, some (eInts pl), a7, a8, a9, some (eLates rs), some (.int lag), some (.int m), some (.int (size : Nat)), a14, a15, a16] (some ab) =
      .next [some (.scr sc), some .cup, a2, a3, some lateP, some twoP, some (eInts pl), a7, a8, b9, some (eLates rs), some (.int lag), some (.int m), some (.int (size : Nat)), a14, a15, a16] (some ab) := by
  have ht : turnB.drop 9 = .cons (.loop _ _ (.cons (.ite _ (.cons _ .nil) .nil) .nil)) .nil := rfl
  rw [ht, rs_cons]
  refine loop_nx (P := fun o => ∃ b9 : Option PV, o = .next [some (.scr sc), some .cup, a2, a3, some lateP, some twoP, some (eInts pl), a7, a8, b9, some (eLates rs), some (.int lag), some (.int m), some (.int (size : Nat)), a14, a15, a16] (some ab))
    (fun n ρ S => S = some ab ∧ ∃ b9 : Option PV, ρ = [some (.scr sc), some .cup, a2, a3, some lateP, some twoP, some (eInts pl), a7, a8, b9, some (eLates rs), some (.int lag), some (.int m), some (.int (size : Nat)), a14, a15, a16])
    (odds_ev hl) ⟨rfl, a9, rfl⟩ ?_ ?_
  · rintro n o ρ S hx ⟨rfl, b9, rfl⟩
    obtain ⟨f1, f2, f3⟩ := odd_fit hl (List.mem_of_getElem? hx)
    have e := is_passing_odd (d := 29) (ab := ab) (by decide) ok hg (isM_le hm) hs f1 f2 f3
    refine ⟨_, rfl, ?_⟩
    simp [ev, evs, e, cmpV, cmpB, isV]
    exact nx_next ⟨rfl, some o, rfl⟩
  · rintro ρ S ⟨rfl, b9, rfl⟩
    exact ⟨b9, rfl⟩
theorem turn_ok (g : CG S) : ∃ (S' : Cup), CG S' ∧ ∃ c2 c6 c7 c8 c9 c10 c11 c12 c13 c14 c15 c16 : Option PV,
    runs (evCall prg 29) turnB [some (.scr sc), some .cup, a2, a3, some lateP, some twoP, a6, a7, a8, a9, a10, a11, a12, a13, a14, a15, a16] S =
      .next [some (.scr sc), some .cup, c2, a3, some lateP, some twoP, c6, c7, c8, c9, c10, c11, c12, c13, c14, c15, c16] S' := by
  obtain ⟨rs, lag, m, size, pl, S1, ok, hg, hm, hs, okp, hl, g1, e1⟩ := stA (sc := sc) (a2 := a2) (a3 := a3) (a6 := a6) (a7 := a7) (a8 := a8) (a9 := a9) (a10 := a10) (a11 := a11) (a12 := a12) (a13 := a13) (a14 := a14) (a15 := a15) (a16 := a16) g
  have g1' := g1
  obtain ⟨q1, q2, rfl, _⟩ := g1
  obtain ⟨b2, e2'⟩ := stB (sc := sc) (ab := (q1, q2)) (a2 := a2) (a3 := a3) (a7 := a7) (a8 := a8) (a9 := a9) (a16 := a16) (pl := pl) ok hg hm hs okp
  obtain ⟨b7, e3'⟩ := stC (sc := sc) (ab := (q1, q2)) (a2 := b2) (a3 := a3) (a7 := a7) (a8 := a8) (a9 := a9) (a15 := some (.tup ((passA rs m (lastA rs lag m size none pl) ((pagesA rs lag m size none pl).flatten.map (·.1))).map PV.int))) (a16 := a16) (pl := pl) ok hg hm hs okp
  obtain ⟨b8, e4⟩ := stD (sc := sc) (ab := (q1, q2)) (a2 := b2) (a3 := a3) (a7 := b7) (a8 := a8) (a9 := a9) (a14 := some (.tup ((pagesA rs lag m size none pl).map eRows))) (a16 := a16) (pl := pl) ok hg hm hs okp hl
  obtain ⟨b9, e5⟩ := stE (sc := sc) (ab := (q1, q2)) (a2 := b2) (a3 := a3) (a7 := b7) (a8 := b8) (a9 := a9) (a14 := some (.tup ((pagesA rs lag m size none pl).map eRows))) (a15 := some (.tup ((passA rs m (lastA rs lag m size none pl) ((pagesA rs lag m size none pl).flatten.map (·.1))).map PV.int))) (a16 := a16) (pl := pl) ok hg hm hs hl
  have ee := (runs_at 3 e1).trans ((show runs _ (turnB.drop 3) _ _ = runs _ (turnB.drop 5) _ _ from runs_at 2 e2').trans ((show runs _ (turnB.drop 5) _ _ = runs _ (turnB.drop 7) _ _ from runs_at 2 e3').trans ((show runs _ (turnB.drop 7) _ _ = runs _ (turnB.drop 9) _ _ from runs_at 2 e4).trans e5)))
  exact ⟨some (q1, q2), g1', _, _, _, _, _, _, _, _, _, _, _, _, ee⟩
theorem ev_law (ns : List Int) (hl : ns.length ≤ 63) (hb : ∀ z ∈ ns, Builtin.Int.intBits z ≤ 1048576) : evCall (progOf dfl) 30 (FDef.name p_law) [.scr ns] none = .ok (.bl true) none := by
  show evCall prg 30 "law" [.scr ns] none = _
  rw [evc i_p_law (by decide) rfl]
  obtain ⟨x, y, e0, g0⟩ := cup_of (n := 29) (by decide) hl hb
  have h0 : runs (evCall prg 29) p_law.body (Py.start p_law.nl [.scr ns]) none = runs (evCall prg 29) (p_law.body.drop 1) (ρ0 ns) (some (x, y)) := by
    show runs (evCall prg 29) (.cons (.mkCup 1 "_law_cup" (.cons (.var 0) .nil)) (p_law.body.drop 1)) _ _ = _
    rw [rs_cons, r_mkCup]
    simp [Py.start, ev, evs, e0]
    rfl
  show endR false none (runs (evCall prg 29) p_law.body (Py.start p_law.nl [.scr ns]) none) = _
  rw [h0, runs_at 7 pre_ok]
  show endR false none (runs (evCall prg 29) (p_law.body.drop 8) _ _) = _
  rw [loop_is, rs_cons]
  refine loop_nx (P := fun o => endR false none o = .ok (.bl true) none) (fun n ρ S => CG S ∧ ∃ c2 c3 c6 c7 c8 c9 c10 c11 c12 c13 c14 c15 c16 : Option PV, ρ = [some (.scr ns), some .cup, c2, c3, some lateP, some twoP, c6, c7, c8, c9, c10, c11, c12, c13, c14, c15, c16])
    (by simp [evI, ev, show rngOk 12 = true from rngOk_nat (n := 12) (by decide)]; rfl) ⟨g0, _, _, _, _, _, _, _, _, _, _, _, _, _, rfl⟩ ?_ ?_
  · intro i u ρ S hx ⟨g, c2, c3, c6, c7, c8, c9, c10, c11, c12, c13, c14, c15, c16, hρ⟩
    subst hρ
    refine ⟨_, rfl, ?_⟩
    obtain ⟨S', g', d2, d6, d7, d8, d9, d10, d11, d12, d13, d14, d15, d16, e⟩ := turn_ok (sc := ns) (a2 := c2) (a3 := some u) (a6 := c6) (a7 := c7) (a8 := c8) (a9 := c9) (a10 := c10) (a11 := c11) (a12 := c12) (a13 := c13) (a14 := c14) (a15 := c15) (a16 := c16) g
    show Nx _ _ (runs (evCall prg 29) turnB [some (.scr ns), some .cup, c2, some u, some lateP, some twoP, c6, c7, c8, c9, c10, c11, c12, c13, c14, c15, c16] S)
    rw [e]
    exact nx_next ⟨g', _, _, _, _, _, _, _, _, _, _, _, _, _, rfl⟩
  · intro ρ S ⟨g, c2, c3, c6, c7, c8, c9, c10, c11, c12, c13, c14, c15, c16, hρ⟩
    subst hρ
    obtain ⟨q1, q2, rfl, _⟩ := g
    rw [post_ok]
    rfl
end Py.K92

namespace Py.K92
open PySem Py L2
theorem bdL : BdsOk dfl :=
  .cons (fun _ _ _ _ _ _ us hl => match us, hl with | [_, _, _], _ => rfl) <| .cons (fun _ _ _ _ _ _ us hl => match us, hl with | [_, _, _], _ => rfl) <| .cons (fun _ _ _ _ _ _ us hl => match us, hl with | [_], _ => rfl) <| .cons (fun _ _ _ _ _ _ us hl => match us, hl with | [_], _ => rfl) <| .cons (fun _ _ _ _ _ _ us hl => match us, hl with | [_], _ => rfl) <| .cons (fun _ _ _ _ _ _ us hl => match us, hl with | [_, _], _ => rfl) <| .cons (fun _ _ _ _ _ _ us hl => match us, hl with | [_], _ => rfl) <| .cons (fun _ _ _ _ _ _ us hl => match us, hl with | [_], _ => rfl) <| .cons (fun _ _ _ _ _ _ us hl => match us, hl with | [_, _], _ => rfl) <| .cons (fun _ _ _ _ _ _ us hl => match us, hl with | [_, _], _ => rfl) <| .cons (fun _ _ _ _ _ _ us hl => match us, hl with | [_, _, _], _ => rfl) <| .cons (fun _ _ _ _ _ _ us hl => match us, hl with | [_, _, _, _, _], _ => rfl) <| .cons (fun _ _ _ _ _ _ us hl => match us, hl with | [_], _ => rfl) <| .cons (fun _ _ _ _ _ _ us hl => match us, hl with | [_], _ => rfl) <| .cons (fun _ _ _ _ _ _ us hl => match us, hl with | [_], _ => rfl) <| .cons (fun _ _ _ _ _ _ us hl => match us, hl with | [_, _], _ => rfl) <| .cons (fun _ _ _ _ _ _ us hl => match us, hl with | [_, _], _ => rfl) <| .cons (fun _ _ _ _ _ _ us hl => match us, hl with | [_, _, _], _ => rfl) <| .cons (fun _ _ _ _ _ _ us hl => match us, hl with | [_, _, _], _ => rfl) <| .cons (fun _ _ _ _ _ _ us hl => match us, hl with | [_, _, _], _ => rfl) <| .cons (fun _ _ _ _ _ _ us hl => match us, hl with | [_, _], _ => rfl) <| .cons (fun _ _ _ _ _ _ us hl => match us, hl with | [_], _ => rfl) <| .cons (fun _ _ _ _ _ _ us hl => match us, hl with | [_], _ => rfl) <| .cons (fun _ _ _ _ _ _ us hl => match us, hl with | [_], _ => rfl) <| .cons (fun _ _ _ _ _ _ us hl => match us, hl with | [_, _, _, _], _ => rfl) <| .cons (fun _ _ _ _ _ _ us hl => match us, hl with | [_, _, _, _], _ => rfl) <| .cons (fun _ _ _ _ _ _ us hl => match us, hl with | [_, _, _, _], _ => rfl) <| .cons (fun _ _ _ _ _ _ us hl => match us, hl with | [_], _ => rfl) <| .cons (fun _ _ _ _ _ _ us hl => match us, hl with | [_], _ => rfl) <| .cons (fun _ _ _ _ _ _ us hl => match us, hl with | [_], _ => rfl) <| .cons (fun _ _ _ _ _ _ us hl => match us, hl with | [_, _], _ => rfl) <| .cons (fun _ _ _ _ _ _ us hl => match us, hl with | [_, _, _], _ => rfl) <| .cons (fun _ _ _ _ _ _ us hl => match us, hl with | [_, _, _, _, _, _], _ => rfl) <| .cons (fun _ _ _ _ _ _ us hl => match us, hl with | [_, _, _, _, _], _ => rfl) <| .cons (fun _ _ _ _ _ _ us hl => match us, hl with | [_, _, _], _ => rfl) <| .cons (fun _ _ _ _ _ _ us hl => match us, hl with | [_], _ => rfl) <| .cons (fun _ _ _ _ _ _ us hl => match us, hl with | [_], _ => rfl) <| .cons (fun _ _ _ _ _ _ us hl => match us, hl with | [_, _, _, _], _ => rfl) <| .cons (fun _ _ _ _ _ _ us hl => match us, hl with | [_], _ => rfl) <| .cons (fun _ _ _ _ _ _ us hl => match us, hl with | [_, _, _], _ => rfl) <| .cons (fun _ _ _ _ _ _ us hl => match us, hl with | [_, _, _, _, _], _ => rfl) <| .cons (fun _ _ _ _ _ _ us hl => match us, hl with | [_, _, _, _, _], _ => rfl) <| .cons (fun _ _ _ _ _ _ us hl => match us, hl with | [_, _, _, _, _], _ => rfl) <| .cons (fun _ _ _ _ _ _ us hl => match us, hl with | [_], _ => rfl) <| .cons (fun _ _ _ _ _ _ us hl => match us, hl with | [_, _], _ => rfl) <| .cons (fun _ _ _ _ _ _ us hl => match us, hl with | [_, _], _ => rfl) <| .cons (fun _ _ _ _ _ _ us hl => match us, hl with | [_, _], _ => rfl) <| .cons (fun _ _ _ _ _ _ us hl => match us, hl with | [_, _], _ => rfl) <| .cons (fun _ _ _ _ _ _ us hl => match us, hl with | [_, _], _ => rfl) <| .cons (fun _ _ _ _ _ _ us hl => match us, hl with | [_, _], _ => rfl) <| .cons (fun _ _ _ _ _ _ us hl => match us, hl with | [_, _, _, _, _, _], _ => rfl) <| .cons (fun _ _ _ _ _ _ us hl => match us, hl with | [_, _, _, _, _], _ => rfl) <| .cons (fun _ _ _ _ _ _ us hl => match us, hl with | [_], _ => rfl) <| .nil
end Py.K92
open PySem PySem.W PyProof.Rows in
set_option maxRecDepth 100000 in
set_option maxHeartbeats 0 in
theorem PySem.Challenge.cw_pagesread_k92_whole_polls_of_late_rows_holds : PySem.Challenge.rw_pagesread_k92_whole_polls_of_late_rows.Holds := by
  w_on; o_law; k_head; (case hw => w_witness2)
  k_fill
  refine' Py.law_end (lams := [("ordered_in", _, _)]) (l := PySem.Challenge.rw_pagesread_k92_whole_polls_of_late_rows) (L := Py.K92.dfl) (g := Py.K92.glbs) (b := Py.K92.blts) (D := { fd := Py.K92.p_law, st := Py.K92.top 92, N := ["script", "cup", "told", "turn", "late", "two", "polls", "along", "more", "odd", "rows", "lag", "mark", "size", "pages", "passed", "key"], ps := ["script"] }) (k := 30) rfl rfl ⟨rfl, by decide, by decide⟩ (fun w h Y => PySem.W.km_in_of Y) (by simp [Py.K92.dfl]) rfl rfl rfl rfl Py.K92.okL Py.K92.ndL Py.K92.bdL Py.K92.ev_law ?Hrec ?Hlam ?Hsep ?KF
  case KF =>
    intro w h KX
    refine ⟨?zhd, ?zhb, ?zhg, ?zhl⟩
    case zhd =>
      refine' (Py.DfsK.cons "is_tuple_of" (Py.K92.top 11) rfl rfl ?zza0 ?zzl0 ?zzc0 ?zzk0 (Py.DfsK.cons "fits_whole" (Py.K92.top 12) rfl rfl ?zza1 ?zzl1 ?zzc1 ?zzk1 (Py.DfsK.cons "fits_row" (Py.K92.top 13) rfl rfl ?zza2 ?zzl2 ?zzc2 ?zzk2 (Py.DfsK.cons "fits_list" (Py.K92.top 14) rfl rfl ?zza3 ?zzl3 ?zzc3 ?zzk3 (Py.DfsK.cons "fits_change" (Py.K92.top 15) rfl rfl ?zza4 ?zzl4 ?zzc4 ?zzk4 (Py.DfsK.cons "changed_in" (Py.K92.top 16) rfl rfl ?zza5 ?zzl5 ?zzc5 ?zzk5 (Py.DfsK.cons "keys_in" (Py.K92.top 17) rfl rfl ?zza6 ?zzl6 ?zzc6 ?zzk6 (Py.DfsK.cons "need_list" (Py.K92.top 18) rfl rfl ?zza7 ?zzl7 ?zzc7 ?zzk7 (Py.DfsK.cons "place_of" (Py.K92.top 23) rfl rfl ?zza8 ?zzl8 ?zzc8 ?zzk8 (Py.DfsK.cons "ordered_in" (Py.K92.top 24) rfl rfl ?zza9 ?zzl9 ?zzc9 ?zzk9 (Py.DfsK.cons "mark_of" (Py.K92.top 25) rfl rfl ?zza10 ?zzl10 ?zzc10 ?zzk10 (Py.DfsK.cons "begin_in" (Py.K92.top 26) rfl rfl ?zza11 ?zzl11 ?zzc11 ?zzk11 (Py.DfsK.cons "need_size" (Py.K92.top 27) rfl rfl ?zza12 ?zzl12 ?zzc12 ?zzk12 (Py.DfsK.cons "fits_table" (Py.K92.top 42) rfl rfl ?zza13 ?zzl13 ?zzc13 ?zzk13 (Py.DfsK.cons "begun" (Py.K92.top 43) rfl rfl ?zza14 ?zzl14 ?zzc14 ?zzk14 (Py.DfsK.cons "view_in" (Py.K92.top 44) rfl rfl ?zza15 ?zzl15 ?zzc15 ?zzk15 (Py.DfsK.cons "start_in" (Py.K92.top 45) rfl rfl ?zza16 ?zzl16 ?zzc16 ?zzk16 (Py.DfsK.cons "page_in" (Py.K92.top 46) rfl rfl ?zza17 ?zzl17 ?zzc17 ?zzk17 (Py.DfsK.cons "new_in" (Py.K92.top 47) rfl rfl ?zza18 ?zzl18 ?zzc18 ?zzk18 (Py.DfsK.cons "paged_in" (Py.K92.top 48) rfl rfl ?zza19 ?zzl19 ?zzc19 ?zzk19 (Py.DfsK.cons "changed_reading" (Py.K92.top 49) rfl rfl ?zza20 ?zzl20 ?zzc20 ?zzk20 (Py.DfsK.cons "need_table" (Py.K92.top 50) rfl rfl ?zza21 ?zzl21 ?zzc21 ?zzk21 (Py.DfsK.cons "fits_step" (Py.K92.top 54) rfl rfl ?zza22 ?zzl22 ?zzc22 ?zzk22 (Py.DfsK.cons "fits_history" (Py.K92.top 55) rfl rfl ?zza23 ?zzl23 ?zzc23 ?zzk23 (Py.DfsK.cons "stepped_in" (Py.K92.top 56) rfl rfl ?zza24 ?zzl24 ?zzc24 ?zzk24 (Py.DfsK.cons "need_run" (Py.K92.top 57) rfl rfl ?zza25 ?zzl25 ?zzc25 ?zzk25 (Py.DfsK.cons "pages_along" (Py.K92.top 58) rfl rfl ?zza26 ?zzl26 ?zzc26 ?zzk26 (Py.DfsK.cons "fits_late_row" (Py.K92.top 66) rfl rfl ?zza27 ?zzl27 ?zzc27 ?zzk27 (Py.DfsK.cons "fits_late" (Py.K92.top 67) rfl rfl ?zza28 ?zzl28 ?zzc28 ?zzk28 (Py.DfsK.cons "fits_polls" (Py.K92.top 68) rfl rfl ?zza29 ?zzl29 ?zzc29 ?zzk29 (Py.DfsK.cons "time_in" (Py.K92.top 69) rfl rfl ?zza30 ?zzl30 ?zzc30 ?zzk30 (Py.DfsK.cons "seen_in" (Py.K92.top 70) rfl rfl ?zza31 ?zzl31 ?zzc31 ?zzk31 (Py.DfsK.cons "page_at" (Py.K92.top 71) rfl rfl ?zza32 ?zzl32 ?zzc32 ?zzk32 (Py.DfsK.cons "pages_in" (Py.K92.top 72) rfl rfl ?zza33 ?zzl33 ?zzc33 ?zzk33 (Py.DfsK.cons "passed_in" (Py.K92.top 73) rfl rfl ?zza34 ?zzl34 ?zzc34 ?zzk34 (Py.DfsK.cons "need_late" (Py.K92.top 74) rfl rfl ?zza35 ?zzl35 ?zzc35 ?zzk35 (Py.DfsK.cons "need_lag" (Py.K92.top 75) rfl rfl ?zza36 ?zzl36 ?zzc36 ?zzk36 (Py.DfsK.cons "need_way" (Py.K92.top 76) rfl rfl ?zza37 ?zzl37 ?zzc37 ?zzk37 (Py.DfsK.cons "need_polls" (Py.K92.top 77) rfl rfl ?zza38 ?zzl38 ?zzc38 ?zzk38 (Py.DfsK.cons "late_history" (Py.K92.top 78) rfl rfl ?zza39 ?zzl39 ?zzc39 ?zzk39 (Py.DfsK.cons "got_by_polls" (Py.K92.top 79) rfl rfl ?zza40 ?zzl40 ?zzc40 ?zzk40 (Py.DfsK.cons "keys_passed" (Py.K92.top 80) rfl rfl ?zza41 ?zzl41 ?zzc41 ?zzk41 (Py.DfsK.cons "is_passing" (Py.K92.top 81) rfl rfl ?zza42 ?zzl42 ?zzc42 ?zzk42 (Py.DfsK.cons "_law_cup" (Py.K92.top 83) rfl rfl ?zza43 ?zzl43 ?zzc43 ?zzk43 (Py.DfsK.cons "_law_roll" (Py.K92.top 84) rfl rfl ?zza44 ?zzl44 ?zzc44 ?zzk44 (Py.DfsK.cons "_law_some" (Py.K92.top 85) rfl rfl ?zza45 ?zzl45 ?zzc45 ?zzk45 (Py.DfsK.cons "_law_same" (Py.K92.top 86) rfl rfl ?zza46 ?zzl46 ?zzc46 ?zzk46 (Py.DfsK.cons "_law_late" (Py.K92.top 87) rfl rfl ?zza47 ?zzl47 ?zzc47 ?zzk47 (Py.DfsK.cons "_law_from" (Py.K92.top 88) rfl rfl ?zza48 ?zzl48 ?zzc48 ?zzk48 (Py.DfsK.cons "_law_polls" (Py.K92.top 89) rfl rfl ?zza49 ?zzl49 ?zzc49 ?zzk49 (Py.DfsK.cons "_law_asked" (Py.K92.top 90) rfl rfl ?zza50 ?zzl50 ?zzc50 ?zzk50 (Py.DfsK.cons "_law_run" (Py.K92.top 91) rfl rfl ?zza51 ?zzl51 ?zzc51 ?zzk51 (Py.DfsK.cons "law" (Py.K92.top 92) rfl rfl ?zza52 ?zzl52 ?zzc52 ?zzk52 (Py.DfsK.nil))))))))))))))))))))))))))))))))))))))))))))))))))))))
      (case zza0 => k_is)
      (case zzl0 => k_is)
      (case zzc0 => k_is)
      (case zzk0 => k_is)
      (case zza1 => k_is)
      (case zzl1 => k_is)
      (case zzc1 => k_is)
      (case zzk1 => k_is)
      (case zza2 => k_is)
      (case zzl2 => k_is)
      (case zzc2 => k_is)
      (case zzk2 => k_is)
      (case zza3 => k_is)
      (case zzl3 => k_is)
      (case zzc3 => k_is)
      (case zzk3 => k_is)
      (case zza4 => k_is)
      (case zzl4 => k_is)
      (case zzc4 => k_is)
      (case zzk4 => k_is)
      (case zza5 => k_is)
      (case zzl5 => k_is)
      (case zzc5 => k_is)
      (case zzk5 => k_is)
      (case zza6 => k_is)
      (case zzl6 => k_is)
      (case zzc6 => k_is)
      (case zzk6 => k_is)
      (case zza7 => k_is)
      (case zzl7 => k_is)
      (case zzc7 => k_is)
      (case zzk7 => k_is)
      (case zza8 => k_is)
      (case zzl8 => k_is)
      (case zzc8 => k_is)
      (case zzk8 => k_is)
      (case zza9 => k_is)
      (case zzl9 => k_is)
      (case zzc9 => k_is)
      (case zzk9 => k_is)
      (case zza10 => k_is)
      (case zzl10 => k_is)
      (case zzc10 => k_is)
      (case zzk10 => k_is)
      (case zza11 => k_is)
      (case zzl11 => k_is)
      (case zzc11 => k_is)
      (case zzk11 => k_is)
      (case zza12 => k_is)
      (case zzl12 => k_is)
      (case zzc12 => k_is)
      (case zzk12 => k_is)
      (case zza13 => k_is)
      (case zzl13 => k_is)
      (case zzc13 => k_is)
      (case zzk13 => k_is)
      (case zza14 => k_is)
      (case zzl14 => k_is)
      (case zzc14 => k_is)
      (case zzk14 => k_is)
      (case zza15 => k_is)
      (case zzl15 => k_is)
      (case zzc15 => k_is)
      (case zzk15 => k_is)
      (case zza16 => k_is)
      (case zzl16 => k_is)
      (case zzc16 => k_is)
      (case zzk16 => k_is)
      (case zza17 => k_is)
      (case zzl17 => k_is)
      (case zzc17 => k_is)
      (case zzk17 => k_is)
      (case zza18 => k_is)
      (case zzl18 => k_is)
      (case zzc18 => k_is)
      (case zzk18 => k_is)
      (case zza19 => k_is)
      (case zzl19 => k_is)
      (case zzc19 => k_is)
      (case zzk19 => k_is)
      (case zza20 => k_is)
      (case zzl20 => k_is)
      (case zzc20 => k_is)
      (case zzk20 => k_is)
      (case zza21 => k_is)
      (case zzl21 => k_is)
      (case zzc21 => k_is)
      (case zzk21 => k_is)
      (case zza22 => k_is)
      (case zzl22 => k_is)
      (case zzc22 => k_is)
      (case zzk22 => k_is)
      (case zza23 => k_is)
      (case zzl23 => k_is)
      (case zzc23 => k_is)
      (case zzk23 => k_is)
      (case zza24 => k_is)
      (case zzl24 => k_is)
      (case zzc24 => k_is)
      (case zzk24 => k_is)
      (case zza25 => k_is)
      (case zzl25 => k_is)
      (case zzc25 => k_is)
      (case zzk25 => k_is)
      (case zza26 => k_is)
      (case zzl26 => k_is)
      (case zzc26 => k_is)
      (case zzk26 => k_is)
      (case zza27 => k_is)
      (case zzl27 => k_is)
      (case zzc27 => k_is)
      (case zzk27 => k_is)
      (case zza28 => k_is)
      (case zzl28 => k_is)
      (case zzc28 => k_is)
      (case zzk28 => k_is)
      (case zza29 => k_is)
      (case zzl29 => k_is)
      (case zzc29 => k_is)
      (case zzk29 => k_is)
      (case zza30 => k_is)
      (case zzl30 => k_is)
      (case zzc30 => k_is)
      (case zzk30 => k_is)
      (case zza31 => k_is)
      (case zzl31 => k_is)
      (case zzc31 => k_is)
      (case zzk31 => k_is)
      (case zza32 => k_is)
      (case zzl32 => k_is)
      (case zzc32 => k_is)
      (case zzk32 => k_is)
      (case zza33 => k_is)
      (case zzl33 => k_is)
      (case zzc33 => k_is)
      (case zzk33 => k_is)
      (case zza34 => k_is)
      (case zzl34 => k_is)
      (case zzc34 => k_is)
      (case zzk34 => k_is)
      (case zza35 => k_is)
      (case zzl35 => k_is)
      (case zzc35 => k_is)
      (case zzk35 => k_is)
      (case zza36 => k_is)
      (case zzl36 => k_is)
      (case zzc36 => k_is)
      (case zzk36 => k_is)
      (case zza37 => k_is)
      (case zzl37 => k_is)
      (case zzc37 => k_is)
      (case zzk37 => k_is)
      (case zza38 => k_is)
      (case zzl38 => k_is)
      (case zzc38 => k_is)
      (case zzk38 => k_is)
      (case zza39 => k_is)
      (case zzl39 => k_is)
      (case zzc39 => k_is)
      (case zzk39 => k_is)
      (case zza40 => k_is)
      (case zzl40 => k_is)
      (case zzc40 => k_is)
      (case zzk40 => k_is)
      (case zza41 => k_is)
      (case zzl41 => k_is)
      (case zzc41 => k_is)
      (case zzk41 => k_is)
      (case zza42 => k_is)
      (case zzl42 => k_is)
      (case zzc42 => k_is)
      (case zzk42 => k_is)
      (case zza43 => k_is)
      (case zzl43 => k_is)
      (case zzc43 => k_is)
      (case zzk43 => k_is)
      (case zza44 => k_is)
      (case zzl44 => k_is)
      (case zzc44 => k_is)
      (case zzk44 => k_is)
      (case zza45 => k_is)
      (case zzl45 => k_is)
      (case zzc45 => k_is)
      (case zzk45 => k_is)
      (case zza46 => k_is)
      (case zzl46 => k_is)
      (case zzc46 => k_is)
      (case zzk46 => k_is)
      (case zza47 => k_is)
      (case zzl47 => k_is)
      (case zzc47 => k_is)
      (case zzk47 => k_is)
      (case zza48 => k_is)
      (case zzl48 => k_is)
      (case zzc48 => k_is)
      (case zzk48 => k_is)
      (case zza49 => k_is)
      (case zzl49 => k_is)
      (case zzc49 => k_is)
      (case zzk49 => k_is)
      (case zza50 => k_is)
      (case zzl50 => k_is)
      (case zzc50 => k_is)
      (case zzk50 => k_is)
      (case zza51 => k_is)
      (case zzl51 => k_is)
      (case zzc51 => k_is)
      (case zzk51 => k_is)
      (case zza52 => k_is)
      (case zzl52 => k_is)
      (case zzc52 => k_is)
      (case zzk52 => k_is)
    case zhb =>
      refine' (Py.BltsK.cons "len" rfl ?zzb0 (Py.BltsK.cons "isinstance" rfl ?zzb1 (Py.BltsK.cons "tuple" rfl ?zzb2 (Py.BltsK.cons "bool" rfl ?zzb3 (Py.BltsK.cons "int" rfl ?zzb4 (Py.BltsK.cons "all" rfl ?zzb5 (Py.BltsK.cons "zip" rfl ?zzb6 (Py.BltsK.cons "str" rfl ?zzb7 (Py.BltsK.cons "sorted" rfl ?zzb8 (Py.BltsK.cons "max" rfl ?zzb9 (Py.BltsK.cons "abs" rfl ?zzb10 (Py.BltsK.cons "list" rfl ?zzb11 (Py.BltsK.cons "range" rfl ?zzb12 (Py.BltsK.nil))))))))))))))
      (case zzb0 => k_is)
      (case zzb1 => k_is)
      (case zzb2 => k_is)
      (case zzb3 => k_is)
      (case zzb4 => k_is)
      (case zzb5 => k_is)
      (case zzb6 => k_is)
      (case zzb7 => k_is)
      (case zzb8 => k_is)
      (case zzb9 => k_is)
      (case zzb10 => k_is)
      (case zzb11 => k_is)
      (case zzb12 => k_is)
    case zhg =>
      refine' (Py.GlbsK.cons "RANK" rfl ?zzg0 Py.ValK.int (Py.GlbsK.cons "RANKS" rfl ?zzg1 Py.ValK.int (Py.GlbsK.cons "KEY" rfl ?zzg2 Py.ValK.int (Py.GlbsK.cons "KEYS" rfl ?zzg3 Py.ValK.int (Py.GlbsK.cons "BY_KEY" rfl ?zzg4 Py.ValK.int (Py.GlbsK.cons "SIZE" rfl ?zzg5 Py.ValK.int (Py.GlbsK.cons "MOST" rfl ?zzg6 ?zzt1 (Py.GlbsK.cons "FIRST" rfl ?zzg7 Py.ValK.int (Py.GlbsK.cons "VIEW" rfl ?zzg8 Py.ValK.int (Py.GlbsK.cons "NOW" rfl ?zzg9 Py.ValK.int (Py.GlbsK.cons "ORDER" rfl ?zzg10 Py.ValK.int (Py.GlbsK.cons "LAST" rfl ?zzg11 Py.ValK.int (Py.GlbsK.cons "MARK" rfl ?zzg12 Py.ValK.int (Py.GlbsK.cons "SENT" rfl ?zzg13 Py.ValK.int (Py.GlbsK.cons "GONE" rfl ?zzg14 Py.ValK.int (Py.GlbsK.cons "SAME" rfl ?zzg15 Py.ValK.int (Py.GlbsK.cons "SEEN" rfl ?zzg16 Py.ValK.int (Py.GlbsK.cons "GOT" rfl ?zzg17 Py.ValK.int (Py.GlbsK.cons "OVER" rfl ?zzg18 Py.ValK.int (Py.GlbsK.cons "PAGE" rfl ?zzg19 ?zzt0 (Py.GlbsK.cons "STEPS" rfl ?zzg20 Py.ValK.int (Py.GlbsK.cons "WAIT" rfl ?zzg21 Py.ValK.int (Py.GlbsK.cons "WAITS" rfl ?zzg22 Py.ValK.int (Py.GlbsK.cons "STAMP" rfl ?zzg23 Py.ValK.int (Py.GlbsK.cons "CLOCK" rfl ?zzg24 Py.ValK.int (Py.GlbsK.cons "POLLS" rfl ?zzg25 Py.ValK.int (Py.GlbsK.cons "BY_RANK" rfl ?zzg26 Py.ValK.int (Py.GlbsK.cons "PUT" rfl ?zzg27 Py.ValK.str (Py.GlbsK.nil)))))))))))))))))))))))))))))
      (case zzg0 => k_is)
      (case zzg1 => k_is)
      (case zzg2 => k_is)
      (case zzg3 => k_is)
      (case zzg4 => k_is)
      (case zzg5 => k_is)
      (case zzg6 => k_is)
      (case zzg7 => k_is)
      (case zzg8 => k_is)
      (case zzg9 => k_is)
      (case zzg10 => k_is)
      (case zzg11 => k_is)
      (case zzg12 => k_is)
      (case zzg13 => k_is)
      (case zzg14 => k_is)
      (case zzg15 => k_is)
      (case zzg16 => k_is)
      (case zzg17 => k_is)
      (case zzg18 => k_is)
      (case zzg19 => k_is)
      (case zzg20 => k_is)
      (case zzg21 => k_is)
      (case zzg22 => k_is)
      (case zzg23 => k_is)
      (case zzg24 => k_is)
      (case zzg25 => k_is)
      (case zzg26 => k_is)
      (case zzg27 => k_is)
      (case zzt0 => refine' Py.ValK.tup ?zzl2 ?zzc2 ?zzd2 ?zzz2 ?zzr2; (case zzl2 => k_is); (case zzc2 => rfl); (case zzd2 => rfl); (case zzz2 => decide); (case zzr2 => refine' (Py.ValsK.cons Py.ValK.str Py.ValsK.nil)))
      (case zzt1 => refine' Py.ValK.tup ?zzl3 ?zzc3 ?zzd3 ?zzz3 ?zzr3; (case zzl3 => k_is); (case zzc3 => rfl); (case zzd3 => rfl); (case zzz3 => decide); (case zzr3 => refine' (Py.ValsK.cons Py.ValK.int (Py.ValsK.cons Py.ValK.int (Py.ValsK.cons Py.ValK.int (Py.ValsK.cons Py.ValK.int (Py.ValsK.cons Py.ValK.int (Py.ValsK.cons Py.ValK.int Py.ValsK.nil))))))))
    case zhl =>
      refine' (Py.LamsK.cons "ordered_in" ?zzm0 ?zzn0 ?zzo0 ?zzp0 ?zzq0 ?zzs0 (Py.LamsK.nil))
      (case zzm0 => k_is)
      (case zzn0 => k_is)
      (case zzo0 => k_is)
      (case zzp0 => rfl)
      (case zzq0 => kernel_rfl)
      (case zzs0 => kernel_rfl)
  (case Hrec => decide +kernel)
  (case Hlam => decide +kernel)
  (case Hsep => decide +kernel)

#print axioms PySem.Challenge.cw_pagesread_k92_whole_polls_of_late_rows_holds
