import PyProof.Rows.All
import Wide.All
import OpenK.AllK
import Wide.FinOn
import HandS.ForMost
import HandS.Deep
import HandS.TupAny
import HandS.Flow
import HandS.FStr
import HandS.ExcIs
import HandS.WordsExc
import HandS.EndTab
import KE.KStateDown
import Lean
import HandS.Base
import HandS.Call
import HandS.Words
import HandS.Head0
import HandS.Head1
import HandS.Head2
import HandS.HeadHook1
import HandS.HeadWalk
import HandS.TupSets
import KE.SortKeyHeap
import KE.KSortKey
import HandS.More
import HandS.Rev
import KE.KeyNested
import KE.KDictKeyed
import KE.KDictDisplayH
import KE.KIndexOf
import KE.GoesMore
import PyProof.AutoIntOps
import HandS.Iter
import HandS.Walk
import KE.KxText
import HandS.CallSlots
import PySem.Challenge.RW_maieutic_k74_whole_tested_finds
set_option Elab.async false
set_option linter.all false
set_option maxRecDepth 100000
set_option maxHeartbeats 4000000
/-! text W0 -/
set_option maxHeartbeats 4000000
namespace Tk
open PySem L2
/-! ### plain data on the heap, off the places N that may be written -/
inductive D where
  | n (x : Nat) | s (x : Str) | no | b (x : Bool) | t (xs : List D) | l (xs : List D)
  /-- a tuple whose object is known to have no dict -/
  | f (xs : List D)
abbrev Fp := Addr → Prop
def nV (x : Nat) : V := .int (x : Int)
def ad (a : Addr) (N : Fp) : Fp := fun b => b = a ∨ N b
/-- all that is tracked off F stands, nothing tracked is lost, no written place becomes a tuple -/
structure Ev (F : Fp) (H H' : Hp) : Prop where
  kp : ∀ b o, H b = some o → ¬ F b → H' b = some o
  th : ∀ b, H' b = none → H b = none
  tp : ∀ b xs, H' b = some (.tup xs) → H b = some (.tup xs) ∨ H b = none
def F0 : Fp := fun _ => False
abbrev Sm (H H' : Hp) : Prop := Ev F0 H H'
/-- the places N are tracked, and no tuples -/
def Wf (N : Fp) (H : Hp) : Prop := ∀ a, N a → H a ≠ none ∧ ∀ xs, H a ≠ some (.tup xs)
section
variable {F G N : Fp} {H H1 H2 : Hp} {a b : Addr} {o : HO}
theorem upd_none (e : upd H a o b = none) : H b = none := by
  by_cases q : b = a
  · rw [q, upd_same] at e; cases e
  · rwa [upd_ne q] at e
theorem Ev.refl (F : Fp) (H : Hp) : Ev F H H := ⟨fun _ _ h _ => h, fun _ h => h, fun _ _ h => .inl h⟩
theorem Ev.mono (x : Ev F H H1) (h : ∀ a, F a → G a) : Ev G H H1 := ⟨fun b o e n => x.kp b o e fun z => n (h b z), x.th, x.tp⟩
theorem Ev.of (x : Sm H H1) : Ev F H H1 := x.mono fun _ z => z.elim
theorem Ev.then (x : Ev F H H1) (y : Ev G H1 H2) (h : ∀ a, G a → F a ∨ H a = none) : Ev F H H2 := ⟨fun b o e n => y.kp b o (x.kp b o e n) fun z => (h b z).elim n fun q => (by rw [q] at e; cases e), fun b e => x.th b (y.th b e), fun b xs e => by
  rcases y.tp b xs e with e | e
  · exact x.tp b xs e
  · exact .inr (x.th b e)⟩
theorem Ev.trans (x : Ev F H H1) (y : Ev F H1 H2) : Ev F H H2 := x.then y fun _ z => .inl z
theorem Ev.new (h : H a = none) : Ev F H (upd H a o) := ⟨fun b u e _ => by rw [upd_ne (ne_of_none e h)]; exact e, fun b e => upd_none e, fun b xs e => by
  by_cases q : b = a
  · exact .inr (q ▸ h)
  · rw [upd_ne q] at e; exact .inl e⟩
theorem Ev.put (h : F a) (ho : ∀ xs, o ≠ .tup xs := by intro _ z; cases z) : Ev F H (upd H a o) := ⟨fun b u e n => by
    have q : b ≠ a := fun z => n (z ▸ h)
    rw [upd_ne q]; exact e, fun b e => upd_none e, fun b xs e => by
  by_cases q : b = a
  · rw [q, upd_same] at e
    exact absurd (Option.some.inj e) (ho xs)
  · rw [upd_ne q] at e; exact .inl e⟩
/-- an own new object is written -/
theorem Ev.mut (x : Ev F H H1) (h : H a = none) : Ev F H (upd H1 a o) := ⟨fun b u e n => by rw [upd_ne (ne_of_none e h)]; exact x.kp b u e n, fun b e => x.th b (upd_none e), fun b xs e => by
  by_cases q : b = a
  · exact .inr (q ▸ h)
  · rw [upd_ne q] at e; exact x.tp b xs e⟩
theorem Ev.free (x : Ev F H H1) (h : H1 a = none) : H a = none := x.th a h
theorem Ev.at (x : Sm H H1) (h : H a = some o) : H1 a = some o := x.kp a o h fun z => z
theorem Wf.ev (w : Wf N H) (e : Ev F H H1) : Wf N H1 := fun a h => ⟨fun q => (w a h).1 (e.th a q), fun xs q => by
  rcases e.tp a xs q with z | z
  · exact (w a h).2 xs z
  · exact (w a h).1 z⟩
theorem Wf.ad (w : Wf N H) (h : H a = some o) (ho : ∀ xs, o ≠ .tup xs := by intro _ z; cases z) : Wf (ad a N) H := fun b z => z.elim (fun e => by
  subst e
  rw [h]
  exact ⟨(fun q => nomatch q), fun xs q => ho xs (Option.some.inj q)⟩) (w b)
theorem Wf.no (w : Wf N H) (h : H a = none) : ¬ N a := fun z => (w a z).1 h
theorem Wf.noT (w : Wf N H) {xs : List V} (h : H a = some (.tup xs)) : ¬ N a := fun z => (w a z).2 xs h
theorem Wf.f0 : Wf F0 H := fun _ z => z.elim
theorem Wf.sub (w : Wf N H) (h : ∀ a, G a → N a) : Wf G H := fun b z => w b (h b z)
end
mutual
inductive At (N : Fp) (H : Hp) : V → D → Prop
  | n (x : Nat) : At N H (nV x) (.n x)
  | s (x : Str) : At N H (.str x) (.s x)
  | no : At N H .non .no
  | b (x : Bool) : At N H (.bl x) (.b x)
  | t {a : Addr} {vs : List V} {ds : List D} : ¬ N a → H a = some (.tup vs) → Ats N H vs ds → At N H (.ref a) (.t ds)
  | l {a : Addr} {vs : List V} {ds : List D} : ¬ N a → H a = some (.lst vs) → Ats N H vs ds → At N H (.ref a) (.l ds)
  | f {a : Addr} {vs : List V} {ds : List D} {o : Obj} : ¬ N a → H a = some (.frz o (.tup vs)) → o.dict = none → Ats N H vs ds → At N H (.ref a) (.f ds)
inductive Ats (N : Fp) (H : Hp) : List V → List D → Prop
  | nil : Ats N H [] []
  | cons {v : V} {vs : List V} {d : D} {ds : List D} : At N H v d → Ats N H vs ds → Ats N H (v :: vs) (d :: ds)
end
section
variable {F G N N' : Fp} {H H' H1 : Hp} {a : Addr} {o : HO}
mutual
/-- carried to another heap and other places -/
theorem At.go (hk : ∀ b o, H b = some o → ¬ N b → H' b = some o ∧ ¬ N' b) : ∀ {v : V} {d : D}, At N H v d → At N' H' v d
  | _, _, .n x => .n x
  | _, _, .s x => .s x
  | _, _, .no => .no
  | _, _, .b x => .b x
  | _, _, .t h e r => .t (hk _ _ e h).2 (hk _ _ e h).1 (Ats.go hk r)
  | _, _, .l h e r => .l (hk _ _ e h).2 (hk _ _ e h).1 (Ats.go hk r)
  | _, _, .f h e d r => .f (hk _ _ e h).2 (hk _ _ e h).1 d (Ats.go hk r)
theorem Ats.go (hk : ∀ b o, H b = some o → ¬ N b → H' b = some o ∧ ¬ N' b) : ∀ {vs : List V} {ds : List D}, Ats N H vs ds → Ats N' H' vs ds
  | _, _, .nil => .nil
  | _, _, .cons h r => .cons (At.go hk h) (Ats.go hk r)
end
theorem At.ev {v : V} {d : D} (h : At N H v d) (e : Ev N H H') : At N H' v d := h.go fun b o q n => ⟨e.kp b o q n, n⟩
theorem Ats.ev {v : List V} {d : List D} (h : Ats N H v d) (e : Ev N H H') : Ats N H' v d := h.go fun b o q n => ⟨e.kp b o q n, n⟩
theorem At.evs {v : V} {d : D} (h : At N H v d) (e : Ev F H H') (s : ∀ a, F a → N a) : At N H' v d := h.ev (e.mono s)
theorem At.sm {v : V} {d : D} (h : At N H v d) (e : Sm H H') : At N H' v d := h.ev (.of e)
theorem Ats.sm {v : List V} {d : List D} (h : Ats N H v d) (e : Sm H H') : Ats N H' v d := h.ev (.of e)
theorem At.sub {v : V} {d : D} (h : At N H v d) (s : ∀ a, N' a → N a) : At N' H v d := h.go fun b o q n => ⟨q, fun z => n (s b z)⟩
theorem Ats.sub {v : List V} {d : List D} (h : Ats N H v d) (s : ∀ a, N' a → N a) : Ats N' H v d := h.go fun b o q n => ⟨q, fun z => n (s b z)⟩
theorem At.un {v : V} {d : D} (h : At (ad a N) H v d) : At N H v d := h.sub fun _ z => .inr z
theorem Ats.un {v : List V} {d : List D} (h : Ats (ad a N) H v d) : Ats N H v d := h.sub fun _ z => .inr z
/-- behind a new written place -/
theorem At.ad {v : V} {d : D} (h : At N H v d) (e : H a = none) (s : Sm H H') : At (ad a N) H' v d := h.go fun b o q n => ⟨s.at q, fun z => z.elim (fun w => by rw [w, e] at q; cases q) n⟩
theorem Ats.ad {v : List V} {d : List D} (h : Ats N H v d) (e : H a = none) (s : Sm H H') : Ats (ad a N) H' v d := h.go fun b o q n => ⟨s.at q, fun z => z.elim (fun w => by rw [w, e] at q; cases q) n⟩
/-- new data -/
theorem At.mkT {vs : List V} {ds : List D} (w : Wf N H) (h : H a = none) (r : Ats N H vs ds) : At N (upd H a (.tup vs)) (.ref a) (.t ds) := .t (w.no h) upd_same (r.ev (.new h))
theorem At.mkL {vs : List V} {ds : List D} (w : Wf N H) (h : H a = none) (r : Ats N H vs ds) : At N (upd H a (.lst vs)) (.ref a) (.l ds) := .l (w.no h) upd_same (r.ev (.new h))
theorem Ats.len : ∀ {vs : List V} {ds : List D}, Ats N H vs ds → vs.length = ds.length
  | _, _, .nil => rfl
  | _, _, .cons _ r => congrArg (· + 1) r.len
theorem Ats.get : ∀ {vs : List V} {ds : List D} {i : Nat} {d : D}, Ats N H vs ds → ds[i]? = some d → ∃ v, vs[i]? = some v ∧ At N H v d
  | _, _, 0, _, .cons h _, e => ⟨_, rfl, by
    rw [List.getElem?_cons_zero] at e
    rw [← Option.some.inj e]; exact h⟩
  | _, _, i + 1, _, .cons _ r, e => Ats.get (i := i) r e
theorem Ats.get' {vs : List V} {ds : List D} {i : Nat} {v : V} (h : Ats N H vs ds) (e : vs[i]? = some v) : ∃ d, ds[i]? = some d ∧ At N H v d := by
  have hi : i < vs.length := (List.getElem?_eq_some_iff.mp e).1
  have hd : i < ds.length := by rw [← h.len]; exact hi
  obtain ⟨u, eu, hu⟩ := h.get (List.getElem?_eq_getElem hd)
  rw [e] at eu
  cases eu
  exact ⟨_, List.getElem?_eq_getElem hd, hu⟩
theorem Ats.app : ∀ {vs us : List V} {ds es : List D}, Ats N H vs ds → Ats N H us es → Ats N H (vs ++ us) (ds ++ es)
  | _, _, _, _, .nil, s => s
  | _, _, _, _, .cons h r, s => .cons h (r.app s)
theorem Ats.one {v : V} {d : D} (h : At N H v d) : Ats N H [v] [d] := .cons h .nil
theorem Ats.snoc {vs : List V} {v : V} {ds : List D} {d : D} (h : Ats N H vs ds) (g : At N H v d) : Ats N H (vs ++ [v]) (ds ++ [d]) := h.app (.one g)
theorem Ats.drop : ∀ {vs : List V} {ds : List D} (n : Nat), Ats N H vs ds → Ats N H (vs.drop n) (ds.drop n)
  | _, _, 0, h => h
  | _, _, _ + 1, .nil => .nil
  | _, _, n + 1, .cons _ r => Ats.drop n r
theorem Ats.take : ∀ {vs : List V} {ds : List D} (n : Nat), Ats N H vs ds → Ats N H (vs.take n) (ds.take n)
  | _, _, 0, _ => .nil
  | _, _, _ + 1, .nil => .nil
  | _, _, n + 1, .cons h r => .cons h (Ats.take n r)
theorem Ats.ints : ∀ (w : List Nat), Ats N H (w.map nV) (w.map D.n)
  | [] => .nil
  | x :: w => .cons (.n x) (Ats.ints w)
theorem Ats.isInts : ∀ {w : List Nat} {vs : List V}, Ats N H vs (w.map D.n) → vs = w.map nV
  | [], _, .nil => rfl
  | x :: w, _, .cons h r => by
    cases h
    rw [Ats.isInts (w := w) r]
    rfl
theorem At.isN {v : V} {x : Nat} (h : At N H v (.n x)) : v = nV x := by cases h; rfl
theorem At.isNo {v : V} (h : At N H v .no) : v = .non := by cases h; rfl
theorem At.tup {v : V} {ds : List D} (h : At N H v (.t ds)) : ∃ a vs, v = .ref a ∧ ¬ N a ∧ H a = some (.tup vs) ∧ Ats N H vs ds := by
  cases h with
  | t n e r => exact ⟨_, _, rfl, n, e, r⟩
theorem At.lst {v : V} {ds : List D} (h : At N H v (.l ds)) : ∃ a vs, v = .ref a ∧ ¬ N a ∧ H a = some (.lst vs) ∧ Ats N H vs ds := by
  cases h with
  | l n e r => exact ⟨_, _, rfl, n, e, r⟩
theorem At.frz {v : V} {ds : List D} (h : At N H v (.f ds)) : ∃ a vs o, v = .ref a ∧ ¬ N a ∧ H a = some (.frz o (.tup vs)) ∧ o.dict = none ∧ Ats N H vs ds := by
  cases h with
  | f n e d r => exact ⟨_, _, _, rfl, n, e, d, r⟩
theorem SqT.frz {K : PySem.W.Frag} {a : Addr} {vs : List V} {o : Obj} (h : H a = some (.frz o (.tup vs))) : SqT K H a vs := .inl (.inr ⟨o, h⟩)
/-! words -/
def wT (w : List Nat) : D := .t (w.map D.n)
def wL (w : List Nat) : D := .l (w.map D.n)
theorem At.word {v : V} {w : List Nat} (h : At N H v (wT w)) : ∃ a, v = .ref a ∧ ¬ N a ∧ H a = some (.tup (w.map nV)) := by
  obtain ⟨a, vs, e, n, ha, r⟩ := At.tup h
  rw [r.isInts] at ha
  exact ⟨a, e, n, ha⟩
theorem At.wordL {v : V} {w : List Nat} (h : At N H v (wL w)) : ∃ a, v = .ref a ∧ ¬ N a ∧ H a = some (.lst (w.map nV)) := by
  obtain ⟨a, vs, e, n, ha, r⟩ := At.lst h
  rw [r.isInts] at ha
  exact ⟨a, e, n, ha⟩
theorem At.mkW {w : List Nat} {vs : List V} (W : Wf N H) (h : H a = none) (e : vs = w.map nV) : At N (upd H a (.tup vs)) (.ref a) (wT w) := by
  rw [e]; exact .mkT W h (.ints w)
theorem At.mkWL {w : List Nat} {vs : List V} (W : Wf N H) (h : H a = none) (e : vs = w.map nV) : At N (upd H a (.lst vs)) (.ref a) (wL w) := by
  rw [e]; exact .mkL W h (.ints w)
def mk (w : List Nat) : List Key := w.map fun (x : Nat) => (Sum.inl (x : Int) : Key)
theorem mk_V (w : List Nat) : (mk w).map kV = w.map nV := by
  unfold mk
  rw [List.map_map]
  rfl
theorem mk_inj {v w : List Nat} (h : mk v = mk w) : v = w := by
  unfold mk at h
  refine (List.map_inj_right fun a b e => ?_).mp h
  have := Sum.inl.inj e
  omega
/-! == -/
mutual
def D.py : D → PyData
  | .n x => .int (x : Int)
  | .s x => .str x
  | .no => .none
  | .b x => .bool x
  | .t xs => .tuple (D.pys xs)
  | .l xs => .list (D.pys xs)
  | .f xs => .tuple (D.pys xs)
def D.pys : List D → List PyData
  | [] => []
  | x :: xs => D.py x :: D.pys xs
end
theorem D.pys_map : ∀ xs : List D, D.pys xs = xs.map D.py
  | [] => by simp [D.pys]
  | x :: xs => by simp [D.pys, D.pys_map xs]
mutual
theorem At.dp {K : PySem.W.Frag} : ∀ {v : V} {d : D}, At N H v d → Dp K H v d.py
  | _, _, .n x => by rw [D.py]; exact .int _
  | _, _, .s x => by rw [D.py]; exact .str _
  | _, _, .no => by rw [D.py]; exact .non
  | _, _, .b x => by rw [D.py]; exact .bl _
  | _, _, .t _ e r => by rw [D.py]; exact .tup (SqT.of e) (Ats.dp r)
  | _, _, .l _ e r => by rw [D.py]; exact .lst (SqL.of e) (Ats.dp r)
  | _, _, .f _ e _ r => by rw [D.py]; exact .tup (SqT.frz e) (Ats.dp r)
theorem Ats.dp {K : PySem.W.Frag} : ∀ {vs : List V} {ds : List D}, Ats N H vs ds → DpAll K H vs (D.pys ds)
  | _, _, .nil => by rw [D.pys]; exact .nil
  | _, _, .cons h r => by rw [D.pys]; exact .cons (At.dp h) (Ats.dp r)
end
end
end Tk
/-! text W1 -/
set_option maxHeartbeats 4000000
namespace Tk
open PySem L2
/-! ### the text by places -/
def top (i : Nat) : Stmt := PySem.Challenge.pw_maieutic_k74_whole_tested_finds.main.body.getD i (.Pass ⟨0, 0, 0, 0⟩)
abbrev s_Halving___init__ : Stmt := inClass (top 9) 0
abbrev N_Halving___init__ : List Str := ["self", "length"]
theorem sc_Halving___init__ : FnScope N_Halving___init__ ["self", "length"] (defScope s_Halving___init__) := ⟨rfl, rfl, rfl, by decide +kernel, rfl, by decide +kernel, by decide +kernel⟩
abbrev s_Halving_place : Stmt := inClass (top 9) 1
abbrev N_Halving_place : List Str := ["self"]
theorem sc_Halving_place : FnScope N_Halving_place ["self"] (defScope s_Halving_place) := ⟨rfl, rfl, rfl, by decide +kernel, rfl, by decide +kernel, by decide +kernel⟩
abbrev s_Halving_tell : Stmt := inClass (top 9) 2
abbrev N_Halving_tell : List Str := ["self", "differs", "place"]
theorem sc_Halving_tell : FnScope N_Halving_tell ["self", "differs"] (defScope s_Halving_tell) := ⟨rfl, rfl, rfl, by decide +kernel, rfl, by decide +kernel, by decide +kernel⟩
abbrev s_Halving_found : Stmt := inClass (top 9) 3
abbrev N_Halving_found : List Str := ["self"]
theorem sc_Halving_found : FnScope N_Halving_found ["self"] (defScope s_Halving_found) := ⟨rfl, rfl, rfl, by decide +kernel, rfl, by decide +kernel, by decide +kernel⟩
abbrev s_refined : Stmt := top 11
abbrev N_refined : List Str := ["machine", "groups", "letters", "found", "result", "state", "row", "sign", "letter"]
theorem sc_refined : FnScope N_refined ["machine", "groups"] (defScope s_refined) := ⟨rfl, rfl, rfl, by decide +kernel, rfl, by decide +kernel, by decide +kernel⟩
abbrev s_classes : Stmt := top 12
abbrev N_classes : List Str := ["machine", "outputs", "groups", "_", "output"]
theorem sc_classes : FnScope N_classes ["machine"] (defScope s_classes) := ⟨rfl, rfl, rfl, by decide +kernel, rfl, by decide +kernel, by decide +kernel⟩
abbrev s_met_states : Stmt := top 13
abbrev N_met_states : List Str := ["machine", "groups", "order", "at", "state"]
theorem sc_met_states : FnScope N_met_states ["machine", "groups"] (defScope s_met_states) := ⟨rfl, rfl, rfl, by decide +kernel, rfl, by decide +kernel, by decide +kernel⟩
abbrev s_least : Stmt := top 14
abbrev N_least : List Str := ["machine", "letters", "outs", "moves", "outputs", "groups", "order", "new_moves", "old", "state"]
theorem sc_least : FnScope N_least ["machine"] (defScope s_least) := ⟨rfl, rfl, rfl, by decide +kernel, rfl, by decide +kernel, by decide +kernel⟩
abbrev s_is_word_machines : Stmt := top 21
abbrev N_is_word_machines : List Str := ["word", "letters", "letter"]
theorem sc_is_word_machines : FnScope N_is_word_machines ["word", "letters"] (defScope s_is_word_machines) := ⟨rfl, rfl, rfl, by decide +kernel, rfl, by decide +kernel, by decide +kernel⟩
abbrev s_fits : Stmt := top 23
abbrev N_fits : List Str := ["machine", "word"]
theorem sc_fits : FnScope N_fits ["machine", "word"] (defScope s_fits) := ⟨rfl, rfl, rfl, by decide +kernel, rfl, by decide +kernel, by decide +kernel⟩
abbrev s_check_fits : Stmt := top 24
abbrev N_check_fits : List Str := ["machine", "word"]
theorem sc_check_fits : FnScope N_check_fits ["machine", "word"] (defScope s_check_fits) := ⟨rfl, rfl, rfl, by decide +kernel, rfl, by decide +kernel, by decide +kernel⟩
abbrev s_state_after : Stmt := top 25
abbrev N_state_after : List Str := ["machine", "word", "state", "letter"]
theorem sc_state_after : FnScope N_state_after ["machine", "word"] (defScope s_state_after) := ⟨rfl, rfl, rfl, by decide +kernel, rfl, by decide +kernel, by decide +kernel⟩
abbrev s_output_after : Stmt := top 26
abbrev N_output_after : List Str := ["machine", "word"]
theorem sc_output_after : FnScope N_output_after ["machine", "word"] (defScope s_output_after) := ⟨rfl, rfl, rfl, by decide +kernel, rfl, by decide +kernel, by decide +kernel⟩
abbrev s_Table___init__ : Stmt := inClass (top 28) 0
abbrev N_Table___init__ : List Str := ["self", "letters"]
theorem sc_Table___init__ : FnScope N_Table___init__ ["self", "letters"] (defScope s_Table___init__) := ⟨rfl, rfl, rfl, by decide +kernel, rfl, by decide +kernel, by decide +kernel⟩
abbrev s_Table_state_words : Stmt := inClass (top 28) 1
abbrev N_Table_state_words : List Str := ["self", "word"]
theorem sc_Table_state_words : FnScope N_Table_state_words ["self"] (defScope s_Table_state_words) := ⟨rfl, rfl, rfl, by decide +kernel, rfl, by decide +kernel, by decide +kernel⟩
abbrev s_Table_further_rows : Stmt := inClass (top 28) 3
abbrev N_Table_further_rows : List Str := ["self", "rows", "word", "letter", "row"]
theorem sc_Table_further_rows : FnScope N_Table_further_rows ["self"] (defScope s_Table_further_rows) := ⟨rfl, rfl, rfl, by decide +kernel, rfl, by decide +kernel, by decide +kernel⟩
abbrev s_Table_all_wanted : Stmt := inClass (top 28) 5
abbrev N_Table_all_wanted : List Str := ["self", "known", "found", "row", "column", "word"]
theorem sc_Table_all_wanted : FnScope N_Table_all_wanted ["self", "known"] (defScope s_Table_all_wanted) := ⟨rfl, rfl, rfl, by decide +kernel, rfl, by decide +kernel, by decide +kernel⟩
abbrev s_Table_outputs_of : Stmt := inClass (top 28) 6
abbrev N_Table_outputs_of : List Str := ["self", "row", "known", "column"]
theorem sc_Table_outputs_of : FnScope N_Table_outputs_of ["self", "row", "known"] (defScope s_Table_outputs_of) := ⟨rfl, rfl, rfl, by decide +kernel, rfl, by decide +kernel, by decide +kernel⟩
abbrev s_Table_numbers : Stmt := inClass (top 28) 7
abbrev N_Table_numbers : List Str := ["self", "known", "found", "at", "word"]
theorem sc_Table_numbers : FnScope N_Table_numbers ["self", "known"] (defScope s_Table_numbers) := ⟨rfl, rfl, rfl, by decide +kernel, rfl, by decide +kernel, by decide +kernel⟩
abbrev s_Table_extend : Stmt := inClass (top 28) 8
abbrev N_Table_extend : List Str := ["self", "known", "numbers", "row"]
theorem sc_Table_extend : FnScope N_Table_extend ["self", "known"] (defScope s_Table_extend) := ⟨rfl, rfl, rfl, by decide +kernel, rfl, by decide +kernel, by decide +kernel⟩
abbrev s_Table_add_column : Stmt := inClass (top 28) 9
abbrev N_Table_add_column : List Str := ["self", "word", "column"]
theorem sc_Table_add_column : FnScope N_Table_add_column ["self", "word"] (defScope s_Table_add_column) := ⟨rfl, rfl, rfl, by decide +kernel, rfl, by decide +kernel, by decide +kernel⟩
abbrev s_Table_machine : Stmt := inClass (top 28) 10
abbrev N_Table_machine : List Str := ["self", "outs", "known", "numbers", "moves", "word", "nexts", "letter", "outputs"]
theorem sc_Table_machine : FnScope N_Table_machine ["self", "outs", "known"] (defScope s_Table_machine) := ⟨rfl, rfl, rfl, by decide +kernel, rfl, by decide +kernel, by decide +kernel⟩
abbrev s_Table_mistake : Stmt := inClass (top 28) 11
abbrev N_Table_mistake : List Str := ["self", "outs", "known", "machine", "at", "word", "column", "state", "letter"]
theorem sc_Table_mistake : FnScope N_Table_mistake ["self", "outs", "known"] (defScope s_Table_mistake) := ⟨rfl, rfl, rfl, by decide +kernel, rfl, by decide +kernel, by decide +kernel⟩
abbrev s_is_word_asker : Stmt := top 31
abbrev N_is_word_asker : List Str := ["word", "letters", "longest", "letter"]
theorem sc_is_word_asker : FnScope N_is_word_asker ["word", "letters", "longest"] (defScope s_is_word_asker) := ⟨rfl, rfl, rfl, by decide +kernel, rfl, by decide +kernel, by decide +kernel⟩
abbrev s_digits_of : Stmt := top 33
abbrev N_digits_of : List Str := ["word", "letter"]
theorem sc_digits_of : FnScope N_digits_of ["word"] (defScope s_digits_of) := ⟨rfl, rfl, rfl, by decide +kernel, rfl, by decide +kernel, by decide +kernel⟩
abbrev s_read_known : Stmt := top 34
abbrev N_read_known : List Str := ["letters", "outs", "known", "word", "output", "found"]
theorem sc_read_known : FnScope N_read_known ["letters", "outs", "known"] (defScope s_read_known) := ⟨rfl, rfl, rfl, by decide +kernel, rfl, by decide +kernel, by decide +kernel⟩
abbrev s_Asker___init__ : Stmt := inClass (top 35) 0
abbrev N_Asker___init__ : List Str := ["self", "letters", "outs", "most", "known"]
theorem sc_Asker___init__ : FnScope N_Asker___init__ ["self", "letters", "outs", "most", "known"] (defScope s_Asker___init__) := ⟨rfl, rfl, rfl, by decide +kernel, rfl, by decide +kernel, by decide +kernel⟩
abbrev s_Asker_step : Stmt := inClass (top 35) 1
abbrev N_Asker_step : List Str := ["self"]
theorem sc_Asker_step : FnScope N_Asker_step ["self"] (defScope s_Asker_step) := ⟨rfl, rfl, rfl, by decide +kernel, rfl, by decide +kernel, by decide +kernel⟩
abbrev s_Asker_need : Stmt := inClass (top 35) 2
abbrev N_Asker_need : List Str := ["self", "kind"]
theorem sc_Asker_need : FnScope N_Asker_need ["self", "kind"] (defScope s_Asker_need) := ⟨rfl, rfl, rfl, by decide +kernel, rfl, by decide +kernel, by decide +kernel⟩
abbrev s_Asker_answer : Stmt := inClass (top 35) 3
abbrev N_Asker_answer : List Str := ["self", "output", "word"]
theorem sc_Asker_answer : FnScope N_Asker_answer ["self", "output"] (defScope s_Asker_answer) := ⟨rfl, rfl, rfl, by decide +kernel, rfl, by decide +kernel, by decide +kernel⟩
abbrev s_Asker_accept : Stmt := inClass (top 35) 4
abbrev N_Asker_accept : List Str := ["self"]
theorem sc_Asker_accept : FnScope N_Asker_accept ["self"] (defScope s_Asker_accept) := ⟨rfl, rfl, rfl, by decide +kernel, rfl, by decide +kernel, by decide +kernel⟩
abbrev s_Asker_show : Stmt := inClass (top 35) 5
abbrev N_Asker_show : List Str := ["self", "word"]
theorem sc_Asker_show : FnScope N_Asker_show ["self", "word"] (defScope s_Asker_show) := ⟨rfl, rfl, rfl, by decide +kernel, rfl, by decide +kernel, by decide +kernel⟩
abbrev s_Asker__next_step : Stmt := inClass (top 35) 9
abbrev N_Asker__next_step : List Str := ["self", "step"]
theorem sc_Asker__next_step : FnScope N_Asker__next_step ["self"] (defScope s_Asker__next_step) := ⟨rfl, rfl, rfl, by decide +kernel, rfl, by decide +kernel, by decide +kernel⟩
abbrev s_Asker__fill : Stmt := inClass (top 35) 10
abbrev N_Asker__fill : List Str := ["self", "word", "mistake", "at"]
theorem sc_Asker__fill : FnScope N_Asker__fill ["self"] (defScope s_Asker__fill) := ⟨rfl, rfl, rfl, by decide +kernel, rfl, by decide +kernel, by decide +kernel⟩
abbrev s_Asker__judge : Stmt := inClass (top 35) 11
abbrev N_Asker__judge : List Str := ["self", "word", "state"]
theorem sc_Asker__judge : FnScope N_Asker__judge ["self"] (defScope s_Asker__judge) := ⟨rfl, rfl, rfl, by decide +kernel, rfl, by decide +kernel, by decide +kernel⟩
abbrev s_Asker__path : Stmt := inClass (top 35) 12
abbrev N_Asker__path : List Str := ["self", "state", "word", "path", "letter"]
theorem sc_Asker__path : FnScope N_Asker__path ["self", "state", "word"] (defScope s_Asker__path) := ⟨rfl, rfl, rfl, by decide +kernel, rfl, by decide +kernel, by decide +kernel⟩
abbrev s_Asker__begin : Stmt := inClass (top 35) 13
abbrev N_Asker__begin : List Str := ["self", "state", "word", "path", "words", "places", "one", "at"]
theorem sc_Asker__begin : FnScope N_Asker__begin ["self", "state", "word"] (defScope s_Asker__begin) := ⟨rfl, rfl, rfl, by decide +kernel, rfl, by decide +kernel, by decide +kernel⟩
abbrev s_Asker__look : Stmt := inClass (top 35) 14
abbrev N_Asker__look : List Str := ["self", "halving", "places", "output", "word", "place"]
theorem sc_Asker__look : FnScope N_Asker__look ["self"] (defScope s_Asker__look) := ⟨rfl, rfl, rfl, by decide +kernel, rfl, by decide +kernel, by decide +kernel⟩
abbrev s_search : Stmt := top 37
abbrev N_search : List Str := ["first", "second", "state", "other", "rows", "seen", "at", "word", "letter", "pair"]
theorem sc_search : FnScope N_search ["first", "second", "state", "other"] (defScope s_search) := ⟨rfl, rfl, rfl, by decide +kernel, rfl, by decide +kernel, by decide +kernel⟩
abbrev s_parting_word : Stmt := top 38
abbrev N_parting_word : List Str := ["machine", "state", "other", "states", "word"]
theorem sc_parting_word : FnScope N_parting_word ["machine", "state", "other"] (defScope s_parting_word) := ⟨rfl, rfl, rfl, by decide +kernel, rfl, by decide +kernel, by decide +kernel⟩
abbrev s_ways_to : Stmt := top 40
abbrev N_ways_to : List Str := ["machine", "letters", "_", "moves", "outputs", "found", "order", "at", "state", "letter", "other"]
theorem sc_ways_to : FnScope N_ways_to ["machine"] (defScope s_ways_to) := ⟨rfl, rfl, rfl, by decide +kernel, rfl, by decide +kernel, by decide +kernel⟩
abbrev s_outputs_from : Stmt := top 41
abbrev N_outputs_from : List Str := ["machine", "state", "word", "found", "letter"]
theorem sc_outputs_from : FnScope N_outputs_from ["machine", "state", "word"] (defScope s_outputs_from) := ⟨rfl, rfl, rfl, by decide +kernel, rfl, by decide +kernel, by decide +kernel⟩
abbrev s_in_order : Stmt := top 42
abbrev N_in_order : List Str := ["words"]
theorem sc_in_order : FnScope N_in_order ["words"] (defScope s_in_order) := ⟨rfl, rfl, rfl, by decide +kernel, rfl, by decide +kernel, by decide +kernel⟩
abbrev s_telling_words : Stmt := top 43
abbrev N_telling_words : List Str := ["machine", "small", "words", "state", "other", "told", "word"]
theorem sc_telling_words : FnScope N_telling_words ["machine"] (defScope s_telling_words) := ⟨rfl, rfl, rfl, by decide +kernel, rfl, by decide +kernel, by decide +kernel⟩
abbrev s_all_words : Stmt := top 47
abbrev N_all_words : List Str := ["letters", "most", "found", "level", "_", "word", "letter"]
theorem sc_all_words : FnScope N_all_words ["letters", "most"] (defScope s_all_words) := ⟨rfl, rfl, rfl, by decide +kernel, rfl, by decide +kernel, by decide +kernel⟩
abbrev s_most_words : Stmt := top 48
abbrev N_most_words : List Str := ["states", "letters", "extra", "middles", "power", "_"]
theorem sc_most_words : FnScope N_most_words ["states", "letters", "extra"] (defScope s_most_words) := ⟨rfl, rfl, rfl, by decide +kernel, rfl, by decide +kernel, by decide +kernel⟩
abbrev s_suite_words : Stmt := top 49
abbrev N_suite_words : List Str := ["machine", "extra", "small", "letters", "begins", "way", "ends", "found", "begin", "middle", "end", "word", "letter"]
theorem sc_suite_words : FnScope N_suite_words ["machine", "extra"] (defScope s_suite_words) := ⟨rfl, rfl, rfl, by decide +kernel, rfl, by decide +kernel, by decide +kernel⟩
abbrev s_list_bound : Stmt := top 51
abbrev N_list_bound : List Str := ["states", "letters", "extra", "total", "power", "_"]
theorem sc_list_bound : FnScope N_list_bound ["states", "letters", "extra"] (defScope s_list_bound) := ⟨rfl, rfl, rfl, by decide +kernel, rfl, by decide +kernel, by decide +kernel⟩
abbrev s_TestedAsker___init__ : Stmt := inClass (top 52) 0
abbrev N_TestedAsker___init__ : List Str := ["self", "letters", "outs", "most", "states"]
theorem sc_TestedAsker___init__ : FnScope N_TestedAsker___init__ ["self", "letters", "outs", "most"] (defScope s_TestedAsker___init__) := ⟨rfl, rfl, rfl, by decide +kernel, rfl, by decide +kernel, by decide +kernel⟩
abbrev s_TestedAsker__go_on : Stmt := inClass (top 52) 1
abbrev N_TestedAsker__go_on : List Str := ["self", "step"]
theorem sc_TestedAsker__go_on : FnScope N_TestedAsker__go_on ["self"] (defScope s_TestedAsker__go_on) := ⟨rfl, rfl, rfl, by decide +kernel, rfl, by decide +kernel, by decide +kernel⟩
abbrev s_TestedAsker__test : Stmt := inClass (top 52) 2
abbrev N_TestedAsker__test : List Str := ["self", "machine", "word"]
theorem sc_TestedAsker__test : FnScope N_TestedAsker__test ["self", "machine"] (defScope s_TestedAsker__test) := ⟨rfl, rfl, rfl, by decide +kernel, rfl, by decide +kernel, by decide +kernel⟩
abbrev s_TestedAsker_step : Stmt := inClass (top 52) 3
abbrev N_TestedAsker_step : List Str := ["self"]
theorem sc_TestedAsker_step : FnScope N_TestedAsker_step ["self"] (defScope s_TestedAsker_step) := ⟨rfl, rfl, rfl, by decide +kernel, rfl, by decide +kernel, by decide +kernel⟩
abbrev s_TestedAsker_answer : Stmt := inClass (top 52) 4
abbrev N_TestedAsker_answer : List Str := ["self", "output", "word"]
theorem sc_TestedAsker_answer : FnScope N_TestedAsker_answer ["self", "output"] (defScope s_TestedAsker_answer) := ⟨rfl, rfl, rfl, by decide +kernel, rfl, by decide +kernel, by decide +kernel⟩
abbrev s_TestedAsker_accept : Stmt := inClass (top 52) 5
abbrev N_TestedAsker_accept : List Str := ["self"]
theorem sc_TestedAsker_accept : FnScope N_TestedAsker_accept ["self"] (defScope s_TestedAsker_accept) := ⟨rfl, rfl, rfl, by decide +kernel, rfl, by decide +kernel, by decide +kernel⟩
abbrev s_TestedAsker_show : Stmt := inClass (top 52) 6
abbrev N_TestedAsker_show : List Str := ["self", "word"]
theorem sc_TestedAsker_show : FnScope N_TestedAsker_show ["self", "word"] (defScope s_TestedAsker_show) := ⟨rfl, rfl, rfl, by decide +kernel, rfl, by decide +kernel, by decide +kernel⟩
abbrev s_TestedAsker_report : Stmt := inClass (top 52) 7
abbrev N_TestedAsker_report : List Str := ["self"]
theorem sc_TestedAsker_report : FnScope N_TestedAsker_report ["self"] (defScope s_TestedAsker_report) := ⟨rfl, rfl, rfl, by decide +kernel, rfl, by decide +kernel, by decide +kernel⟩
abbrev s_beginnings_of : Stmt := top 53
abbrev N_beginnings_of : List Str := ["words", "found", "seen", "word", "length", "beginning"]
theorem sc_beginnings_of : FnScope N_beginnings_of ["words"] (defScope s_beginnings_of) := ⟨rfl, rfl, rfl, by decide +kernel, rfl, by decide +kernel, by decide +kernel⟩
abbrev s__law_row : Stmt := top 55
abbrev N__law_row : List Str := ["_law_script", "_law_row_here", "_law_k", "_law_cell", "_law_turn", "_law_mixed"]
theorem sc__law_row : FnScope N__law_row ["_law_script"] (defScope s__law_row) := ⟨rfl, rfl, rfl, by decide +kernel, rfl, by decide +kernel, by decide +kernel⟩
abbrev s__law_at : Stmt := top 56
abbrev N__law_at : List Str := ["_law_row_here", "_law_at_here"]
theorem sc__law_at : FnScope N__law_at ["_law_row_here", "_law_at_here"] (defScope s__law_at) := ⟨rfl, rfl, rfl, by decide +kernel, rfl, by decide +kernel, by decide +kernel⟩
abbrev s__law_machine : Stmt := top 57
abbrev N__law_machine : List Str := ["_law_row_here", "_law_at_here", "_law_letters", "_law_outs", "_law_states", "_law_moves", "_law_outputs", "_law_kind", "_law_s", "_law_targets", "_law_a", "_law_digit", "_law_target"]
theorem sc__law_machine : FnScope N__law_machine ["_law_row_here", "_law_at_here", "_law_letters", "_law_outs", "_law_states"] (defScope s__law_machine) := ⟨rfl, rfl, rfl, by decide +kernel, rfl, by decide +kernel, by decide +kernel⟩
abbrev s__law_state : Stmt := top 58
abbrev N__law_state : List Str := ["_law_machine_here", "_law_word", "_law_state_here", "_law_letter"]
theorem sc__law_state : FnScope N__law_state ["_law_machine_here", "_law_word"] (defScope s__law_state) := ⟨rfl, rfl, rfl, by decide +kernel, rfl, by decide +kernel, by decide +kernel⟩
abbrev s__law_output : Stmt := top 59
abbrev N__law_output : List Str := ["_law_machine_here", "_law_word"]
theorem sc__law_output : FnScope N__law_output ["_law_machine_here", "_law_word"] (defScope s__law_output) := ⟨rfl, rfl, rfl, by decide +kernel, rfl, by decide +kernel, by decide +kernel⟩
abbrev s__law_classes : Stmt := top 60
abbrev N__law_classes : List Str := ["_law_machine_here", "_law_classes_here", "_law_turn", "_law_marks", "_law_s", "_law_mark", "_law_t"]
theorem sc__law_classes : FnScope N__law_classes ["_law_machine_here"] (defScope s__law_classes) := ⟨rfl, rfl, rfl, by decide +kernel, rfl, by decide +kernel, by decide +kernel⟩
abbrev s__law_least : Stmt := top 61
abbrev N__law_least : List Str := ["_law_machine_here", "_law_classes_here", "_law_order", "_law_at_here", "_law_target", "_law_moves", "_law_s", "_law_t"]
theorem sc__law_least : FnScope N__law_least ["_law_machine_here"] (defScope s__law_least) := ⟨rfl, rfl, rfl, by decide +kernel, rfl, by decide +kernel, by decide +kernel⟩
abbrev s__law_misfit : Stmt := top 65
abbrev N__law_misfit : List Str := ["_law_asker", "_law_kind", "why"]
theorem sc__law_misfit : FnScope N__law_misfit ["_law_asker", "_law_kind"] (defScope s__law_misfit) := ⟨rfl, rfl, rfl, by decide +kernel, rfl, by decide +kernel, by decide +kernel⟩
abbrev s_law : Stmt := top 66
abbrev N_law : List Str := ["_law_script", "_law_row_here", "_law_letters", "_law_outs", "_law_machine_here", "_law_least_here", "_law_most", "_law_asker", "_law_words", "_law_turn", "_law_step", "_law_word"]
theorem sc_law : FnScope N_law ["_law_script"] (defScope s_law) := ⟨rfl, rfl, rfl, by decide +kernel, rfl, by decide +kernel, by decide +kernel⟩
structure Ads where
  f_Halving___init__ : Addr
  f_Halving_place : Addr
  f_Halving_tell : Addr
  f_Halving_found : Addr
  f_refined : Addr
  f_classes : Addr
  f_met_states : Addr
  f_least : Addr
  f_is_word_machines : Addr
  f_fits : Addr
  f_check_fits : Addr
  f_state_after : Addr
  f_output_after : Addr
  f_Table___init__ : Addr
  f_Table_state_words : Addr
  f_Table_further_rows : Addr
  f_Table_all_wanted : Addr
  f_Table_outputs_of : Addr
  f_Table_numbers : Addr
  f_Table_extend : Addr
  f_Table_add_column : Addr
  f_Table_machine : Addr
  f_Table_mistake : Addr
  f_is_word_asker : Addr
  f_digits_of : Addr
  f_read_known : Addr
  f_Asker___init__ : Addr
  f_Asker_step : Addr
  f_Asker_need : Addr
  f_Asker_answer : Addr
  f_Asker_accept : Addr
  f_Asker_show : Addr
  f_Asker__next_step : Addr
  f_Asker__fill : Addr
  f_Asker__judge : Addr
  f_Asker__path : Addr
  f_Asker__begin : Addr
  f_Asker__look : Addr
  f_search : Addr
  f_parting_word : Addr
  f_ways_to : Addr
  f_outputs_from : Addr
  f_in_order : Addr
  f_telling_words : Addr
  f_all_words : Addr
  f_most_words : Addr
  f_suite_words : Addr
  f_list_bound : Addr
  f_TestedAsker___init__ : Addr
  f_TestedAsker__go_on : Addr
  f_TestedAsker__test : Addr
  f_TestedAsker_step : Addr
  f_TestedAsker_answer : Addr
  f_TestedAsker_accept : Addr
  f_TestedAsker_show : Addr
  f_TestedAsker_report : Addr
  f_beginnings_of : Addr
  f__law_row : Addr
  f__law_at : Addr
  f__law_machine : Addr
  f__law_state : Addr
  f__law_output : Addr
  f__law_classes : Addr
  f__law_least : Addr
  f__law_misfit : Addr
  f_law : Addr
  C_Halving : Addr
  C_Table : Addr
  C_Asker : Addr
  C_TestedAsker : Addr
  C_Wrong : Addr
  C_MaieuticError : Addr
  k_MAX_LETTERS : Tok
  k_MAX_OUTS : Tok
  k_MAX_STATES : Tok
  k_MAX_WORD : Tok
  k_MAX_SHOWN : Tok
  k_MAX_KNOWN : Tok
  k_MAX_EXTRA : Tok
  k_MAX_LIST : Tok
  c_in_order : Addr
  P_in_order : Addr
structure Fds where
  d_Halving___init__ : FuncData
  d_Halving_place : FuncData
  d_Halving_tell : FuncData
  d_Halving_found : FuncData
  d_refined : FuncData
  d_classes : FuncData
  d_met_states : FuncData
  d_least : FuncData
  d_is_word_machines : FuncData
  d_fits : FuncData
  d_check_fits : FuncData
  d_state_after : FuncData
  d_output_after : FuncData
  d_Table___init__ : FuncData
  d_Table_state_words : FuncData
  d_Table_further_rows : FuncData
  d_Table_all_wanted : FuncData
  d_Table_outputs_of : FuncData
  d_Table_numbers : FuncData
  d_Table_extend : FuncData
  d_Table_add_column : FuncData
  d_Table_machine : FuncData
  d_Table_mistake : FuncData
  d_is_word_asker : FuncData
  d_digits_of : FuncData
  d_read_known : FuncData
  d_Asker___init__ : FuncData
  d_Asker_step : FuncData
  d_Asker_need : FuncData
  d_Asker_answer : FuncData
  d_Asker_accept : FuncData
  d_Asker_show : FuncData
  d_Asker__next_step : FuncData
  d_Asker__fill : FuncData
  d_Asker__judge : FuncData
  d_Asker__path : FuncData
  d_Asker__begin : FuncData
  d_Asker__look : FuncData
  d_search : FuncData
  d_parting_word : FuncData
  d_ways_to : FuncData
  d_outputs_from : FuncData
  d_in_order : FuncData
  d_telling_words : FuncData
  d_all_words : FuncData
  d_most_words : FuncData
  d_suite_words : FuncData
  d_list_bound : FuncData
  d_TestedAsker___init__ : FuncData
  d_TestedAsker__go_on : FuncData
  d_TestedAsker__test : FuncData
  d_TestedAsker_step : FuncData
  d_TestedAsker_answer : FuncData
  d_TestedAsker_accept : FuncData
  d_TestedAsker_show : FuncData
  d_TestedAsker_report : FuncData
  d_beginnings_of : FuncData
  d__law_row : FuncData
  d__law_at : FuncData
  d__law_machine : FuncData
  d__law_state : FuncData
  d__law_output : FuncData
  d__law_classes : FuncData
  d__law_least : FuncData
  d__law_misfit : FuncData
  d_law : FuncData
structure TX (K : PySem.W.Frag) (mg : Str → Option Value) (base : Heap) (a : Ads) (d : Fds) : Prop where
  F_Halving___init__ : Fun K "__init__" "Halving.__init__" s_Halving___init__ a.f_Halving___init__ d.d_Halving___init__
  B_Halving___init__ : Binds K d.d_Halving___init__ ["self", "length"] []
  F_Halving_place : Fun K "place" "Halving.place" s_Halving_place a.f_Halving_place d.d_Halving_place
  B_Halving_place : Binds K d.d_Halving_place ["self"] []
  M_Halving_place : Meth K a.C_Halving "place" a.f_Halving_place
  F_Halving_tell : Fun K "tell" "Halving.tell" s_Halving_tell a.f_Halving_tell d.d_Halving_tell
  B_Halving_tell : Binds K d.d_Halving_tell ["self", "differs"] []
  M_Halving_tell : Meth K a.C_Halving "tell" a.f_Halving_tell
  F_Halving_found : Fun K "found" "Halving.found" s_Halving_found a.f_Halving_found d.d_Halving_found
  B_Halving_found : Binds K d.d_Halving_found ["self"] []
  M_Halving_found : Meth K a.C_Halving "found" a.f_Halving_found
  F_refined : Fun K "refined" "refined" s_refined a.f_refined d.d_refined
  B_refined : Binds K d.d_refined ["machine", "groups"] []
  g_refined : mg "refined" = some (.ref a.f_refined)
  F_classes : Fun K "classes" "classes" s_classes a.f_classes d.d_classes
  B_classes : Binds K d.d_classes ["machine"] []
  g_classes : mg "classes" = some (.ref a.f_classes)
  F_met_states : Fun K "met_states" "met_states" s_met_states a.f_met_states d.d_met_states
  B_met_states : Binds K d.d_met_states ["machine", "groups"] []
  g_met_states : mg "met_states" = some (.ref a.f_met_states)
  F_least : Fun K "least" "least" s_least a.f_least d.d_least
  B_least : Binds K d.d_least ["machine"] []
  g_least : mg "least" = some (.ref a.f_least)
  F_is_word_machines : Fun K "is_word" "is_word" s_is_word_machines a.f_is_word_machines d.d_is_word_machines
  B_is_word_machines : Binds K d.d_is_word_machines ["word", "letters"] []
  g_is_word_machines : mg "is_word_machines" = some (.ref a.f_is_word_machines)
  F_fits : Fun K "fits" "fits" s_fits a.f_fits d.d_fits
  B_fits : Binds K d.d_fits ["machine", "word"] []
  g_fits : mg "fits" = some (.ref a.f_fits)
  F_check_fits : Fun K "check_fits" "check_fits" s_check_fits a.f_check_fits d.d_check_fits
  B_check_fits : Binds K d.d_check_fits ["machine", "word"] []
  g_check_fits : mg "check_fits" = some (.ref a.f_check_fits)
  F_state_after : Fun K "state_after" "state_after" s_state_after a.f_state_after d.d_state_after
  B_state_after : Binds K d.d_state_after ["machine", "word"] []
  g_state_after : mg "state_after" = some (.ref a.f_state_after)
  F_output_after : Fun K "output_after" "output_after" s_output_after a.f_output_after d.d_output_after
  B_output_after : Binds K d.d_output_after ["machine", "word"] []
  g_output_after : mg "output_after" = some (.ref a.f_output_after)
  F_Table___init__ : Fun K "__init__" "Table.__init__" s_Table___init__ a.f_Table___init__ d.d_Table___init__
  B_Table___init__ : Binds K d.d_Table___init__ ["self", "letters"] []
  F_Table_state_words : Fun K "state_words" "Table.state_words" s_Table_state_words a.f_Table_state_words d.d_Table_state_words
  B_Table_state_words : Binds K d.d_Table_state_words ["self"] []
  M_Table_state_words : Meth K a.C_Table "state_words" a.f_Table_state_words
  F_Table_further_rows : Fun K "further_rows" "Table.further_rows" s_Table_further_rows a.f_Table_further_rows d.d_Table_further_rows
  B_Table_further_rows : Binds K d.d_Table_further_rows ["self"] []
  M_Table_further_rows : Meth K a.C_Table "further_rows" a.f_Table_further_rows
  F_Table_all_wanted : Fun K "all_wanted" "Table.all_wanted" s_Table_all_wanted a.f_Table_all_wanted d.d_Table_all_wanted
  B_Table_all_wanted : Binds K d.d_Table_all_wanted ["self", "known"] []
  M_Table_all_wanted : Meth K a.C_Table "all_wanted" a.f_Table_all_wanted
  F_Table_outputs_of : Fun K "outputs_of" "Table.outputs_of" s_Table_outputs_of a.f_Table_outputs_of d.d_Table_outputs_of
  B_Table_outputs_of : Binds K d.d_Table_outputs_of ["self", "row", "known"] []
  M_Table_outputs_of : Meth K a.C_Table "outputs_of" a.f_Table_outputs_of
  F_Table_numbers : Fun K "numbers" "Table.numbers" s_Table_numbers a.f_Table_numbers d.d_Table_numbers
  B_Table_numbers : Binds K d.d_Table_numbers ["self", "known"] []
  M_Table_numbers : Meth K a.C_Table "numbers" a.f_Table_numbers
  F_Table_extend : Fun K "extend" "Table.extend" s_Table_extend a.f_Table_extend d.d_Table_extend
  B_Table_extend : Binds K d.d_Table_extend ["self", "known"] []
  M_Table_extend : Meth K a.C_Table "extend" a.f_Table_extend
  F_Table_add_column : Fun K "add_column" "Table.add_column" s_Table_add_column a.f_Table_add_column d.d_Table_add_column
  B_Table_add_column : Binds K d.d_Table_add_column ["self", "word"] []
  M_Table_add_column : Meth K a.C_Table "add_column" a.f_Table_add_column
  F_Table_machine : Fun K "machine" "Table.machine" s_Table_machine a.f_Table_machine d.d_Table_machine
  B_Table_machine : Binds K d.d_Table_machine ["self", "outs", "known"] []
  M_Table_machine : Meth K a.C_Table "machine" a.f_Table_machine
  F_Table_mistake : Fun K "mistake" "Table.mistake" s_Table_mistake a.f_Table_mistake d.d_Table_mistake
  B_Table_mistake : Binds K d.d_Table_mistake ["self", "outs", "known"] []
  M_Table_mistake : Meth K a.C_Table "mistake" a.f_Table_mistake
  F_is_word_asker : Fun K "is_word" "is_word" s_is_word_asker a.f_is_word_asker d.d_is_word_asker
  B_is_word_asker : Binds K d.d_is_word_asker ["word", "letters", "longest"] []
  g_is_word_asker : mg "is_word_asker" = some (.ref a.f_is_word_asker)
  F_digits_of : Fun K "digits_of" "digits_of" s_digits_of a.f_digits_of d.d_digits_of
  B_digits_of : Binds K d.d_digits_of ["word"] []
  g_digits_of : mg "digits_of" = some (.ref a.f_digits_of)
  F_read_known : Fun K "read_known" "read_known" s_read_known a.f_read_known d.d_read_known
  B_read_known : Binds K d.d_read_known ["letters", "outs", "known"] []
  g_read_known : mg "read_known" = some (.ref a.f_read_known)
  F_Asker___init__ : Fun K "__init__" "Asker.__init__" s_Asker___init__ a.f_Asker___init__ d.d_Asker___init__
  B_Asker___init__ : Binds K d.d_Asker___init__ ["self", "letters", "outs", "most", "known"] []
  F_Asker_step : Fun K "step" "Asker.step" s_Asker_step a.f_Asker_step d.d_Asker_step
  B_Asker_step : Binds K d.d_Asker_step ["self"] []
  M_Asker_step : Meth K a.C_Asker "step" a.f_Asker_step
  F_Asker_need : Fun K "need" "Asker.need" s_Asker_need a.f_Asker_need d.d_Asker_need
  B_Asker_need : Binds K d.d_Asker_need ["self", "kind"] []
  M_Asker_need : Meth K a.C_Asker "need" a.f_Asker_need
  F_Asker_answer : Fun K "answer" "Asker.answer" s_Asker_answer a.f_Asker_answer d.d_Asker_answer
  B_Asker_answer : Binds K d.d_Asker_answer ["self", "output"] []
  M_Asker_answer : Meth K a.C_Asker "answer" a.f_Asker_answer
  F_Asker_accept : Fun K "accept" "Asker.accept" s_Asker_accept a.f_Asker_accept d.d_Asker_accept
  B_Asker_accept : Binds K d.d_Asker_accept ["self"] []
  M_Asker_accept : Meth K a.C_Asker "accept" a.f_Asker_accept
  F_Asker_show : Fun K "show" "Asker.show" s_Asker_show a.f_Asker_show d.d_Asker_show
  B_Asker_show : Binds K d.d_Asker_show ["self", "word"] []
  M_Asker_show : Meth K a.C_Asker "show" a.f_Asker_show
  F_Asker__next_step : Fun K "_next_step" "Asker._next_step" s_Asker__next_step a.f_Asker__next_step d.d_Asker__next_step
  B_Asker__next_step : Binds K d.d_Asker__next_step ["self"] []
  M_Asker__next_step : Meth K a.C_Asker "_next_step" a.f_Asker__next_step
  F_Asker__fill : Fun K "_fill" "Asker._fill" s_Asker__fill a.f_Asker__fill d.d_Asker__fill
  B_Asker__fill : Binds K d.d_Asker__fill ["self"] []
  M_Asker__fill : Meth K a.C_Asker "_fill" a.f_Asker__fill
  F_Asker__judge : Fun K "_judge" "Asker._judge" s_Asker__judge a.f_Asker__judge d.d_Asker__judge
  B_Asker__judge : Binds K d.d_Asker__judge ["self"] []
  M_Asker__judge : Meth K a.C_Asker "_judge" a.f_Asker__judge
  F_Asker__path : Fun K "_path" "Asker._path" s_Asker__path a.f_Asker__path d.d_Asker__path
  B_Asker__path : Binds K d.d_Asker__path ["self", "state", "word"] []
  M_Asker__path : Meth K a.C_Asker "_path" a.f_Asker__path
  F_Asker__begin : Fun K "_begin" "Asker._begin" s_Asker__begin a.f_Asker__begin d.d_Asker__begin
  B_Asker__begin : Binds K d.d_Asker__begin ["self", "state", "word"] []
  M_Asker__begin : Meth K a.C_Asker "_begin" a.f_Asker__begin
  F_Asker__look : Fun K "_look" "Asker._look" s_Asker__look a.f_Asker__look d.d_Asker__look
  B_Asker__look : Binds K d.d_Asker__look ["self"] []
  M_Asker__look : Meth K a.C_Asker "_look" a.f_Asker__look
  F_search : Fun K "search" "search" s_search a.f_search d.d_search
  B_search : Binds K d.d_search ["first", "second", "state", "other"] []
  g_search : mg "search" = some (.ref a.f_search)
  F_parting_word : Fun K "parting_word" "parting_word" s_parting_word a.f_parting_word d.d_parting_word
  B_parting_word : Binds K d.d_parting_word ["machine", "state", "other"] []
  g_parting_word : mg "parting_word" = some (.ref a.f_parting_word)
  F_ways_to : Fun K "ways_to" "ways_to" s_ways_to a.f_ways_to d.d_ways_to
  B_ways_to : Binds K d.d_ways_to ["machine"] []
  g_ways_to : mg "ways_to" = some (.ref a.f_ways_to)
  F_outputs_from : Fun K "outputs_from" "outputs_from" s_outputs_from a.f_outputs_from d.d_outputs_from
  B_outputs_from : Binds K d.d_outputs_from ["machine", "state", "word"] []
  g_outputs_from : mg "outputs_from" = some (.ref a.f_outputs_from)
  F_in_order : Fun K "in_order" "in_order" s_in_order a.f_in_order d.d_in_order
  B_in_order : Binds K d.d_in_order ["words"] []
  g_in_order : mg "in_order" = some (.ref a.f_in_order)
  F_telling_words : Fun K "telling_words" "telling_words" s_telling_words a.f_telling_words d.d_telling_words
  B_telling_words : Binds K d.d_telling_words ["machine"] []
  g_telling_words : mg "telling_words" = some (.ref a.f_telling_words)
  F_all_words : Fun K "all_words" "all_words" s_all_words a.f_all_words d.d_all_words
  B_all_words : Binds K d.d_all_words ["letters", "most"] []
  g_all_words : mg "all_words" = some (.ref a.f_all_words)
  F_most_words : Fun K "most_words" "most_words" s_most_words a.f_most_words d.d_most_words
  B_most_words : Binds K d.d_most_words ["states", "letters", "extra"] []
  g_most_words : mg "most_words" = some (.ref a.f_most_words)
  F_suite_words : Fun K "suite_words" "suite_words" s_suite_words a.f_suite_words d.d_suite_words
  B_suite_words : Binds K d.d_suite_words ["machine", "extra"] []
  g_suite_words : mg "suite_words" = some (.ref a.f_suite_words)
  F_list_bound : Fun K "list_bound" "list_bound" s_list_bound a.f_list_bound d.d_list_bound
  B_list_bound : Binds K d.d_list_bound ["states", "letters", "extra"] []
  g_list_bound : mg "list_bound" = some (.ref a.f_list_bound)
  F_TestedAsker___init__ : Fun K "__init__" "TestedAsker.__init__" s_TestedAsker___init__ a.f_TestedAsker___init__ d.d_TestedAsker___init__
  B_TestedAsker___init__ : Binds K d.d_TestedAsker___init__ ["self", "letters", "outs", "most"] []
  F_TestedAsker__go_on : Fun K "_go_on" "TestedAsker._go_on" s_TestedAsker__go_on a.f_TestedAsker__go_on d.d_TestedAsker__go_on
  B_TestedAsker__go_on : Binds K d.d_TestedAsker__go_on ["self"] []
  M_TestedAsker__go_on : Meth K a.C_TestedAsker "_go_on" a.f_TestedAsker__go_on
  F_TestedAsker__test : Fun K "_test" "TestedAsker._test" s_TestedAsker__test a.f_TestedAsker__test d.d_TestedAsker__test
  B_TestedAsker__test : Binds K d.d_TestedAsker__test ["self", "machine"] []
  M_TestedAsker__test : Meth K a.C_TestedAsker "_test" a.f_TestedAsker__test
  F_TestedAsker_step : Fun K "step" "TestedAsker.step" s_TestedAsker_step a.f_TestedAsker_step d.d_TestedAsker_step
  B_TestedAsker_step : Binds K d.d_TestedAsker_step ["self"] []
  M_TestedAsker_step : Meth K a.C_TestedAsker "step" a.f_TestedAsker_step
  F_TestedAsker_answer : Fun K "answer" "TestedAsker.answer" s_TestedAsker_answer a.f_TestedAsker_answer d.d_TestedAsker_answer
  B_TestedAsker_answer : Binds K d.d_TestedAsker_answer ["self", "output"] []
  M_TestedAsker_answer : Meth K a.C_TestedAsker "answer" a.f_TestedAsker_answer
  F_TestedAsker_accept : Fun K "accept" "TestedAsker.accept" s_TestedAsker_accept a.f_TestedAsker_accept d.d_TestedAsker_accept
  B_TestedAsker_accept : Binds K d.d_TestedAsker_accept ["self"] []
  M_TestedAsker_accept : Meth K a.C_TestedAsker "accept" a.f_TestedAsker_accept
  F_TestedAsker_show : Fun K "show" "TestedAsker.show" s_TestedAsker_show a.f_TestedAsker_show d.d_TestedAsker_show
  B_TestedAsker_show : Binds K d.d_TestedAsker_show ["self", "word"] []
  M_TestedAsker_show : Meth K a.C_TestedAsker "show" a.f_TestedAsker_show
  F_TestedAsker_report : Fun K "report" "TestedAsker.report" s_TestedAsker_report a.f_TestedAsker_report d.d_TestedAsker_report
  B_TestedAsker_report : Binds K d.d_TestedAsker_report ["self"] []
  M_TestedAsker_report : Meth K a.C_TestedAsker "report" a.f_TestedAsker_report
  F_beginnings_of : Fun K "beginnings_of" "beginnings_of" s_beginnings_of a.f_beginnings_of d.d_beginnings_of
  B_beginnings_of : Binds K d.d_beginnings_of ["words"] []
  g_beginnings_of : mg "beginnings_of" = some (.ref a.f_beginnings_of)
  F__law_row : Fun K "_law_row" "_law_row" s__law_row a.f__law_row d.d__law_row
  B__law_row : Binds K d.d__law_row ["_law_script"] []
  g__law_row : mg "_law_row" = some (.ref a.f__law_row)
  F__law_at : Fun K "_law_at" "_law_at" s__law_at a.f__law_at d.d__law_at
  B__law_at : Binds K d.d__law_at ["_law_row_here", "_law_at_here"] []
  g__law_at : mg "_law_at" = some (.ref a.f__law_at)
  F__law_machine : Fun K "_law_machine" "_law_machine" s__law_machine a.f__law_machine d.d__law_machine
  B__law_machine : Binds K d.d__law_machine ["_law_row_here", "_law_at_here", "_law_letters", "_law_outs", "_law_states"] []
  g__law_machine : mg "_law_machine" = some (.ref a.f__law_machine)
  F__law_state : Fun K "_law_state" "_law_state" s__law_state a.f__law_state d.d__law_state
  B__law_state : Binds K d.d__law_state ["_law_machine_here", "_law_word"] []
  g__law_state : mg "_law_state" = some (.ref a.f__law_state)
  F__law_output : Fun K "_law_output" "_law_output" s__law_output a.f__law_output d.d__law_output
  B__law_output : Binds K d.d__law_output ["_law_machine_here", "_law_word"] []
  g__law_output : mg "_law_output" = some (.ref a.f__law_output)
  F__law_classes : Fun K "_law_classes" "_law_classes" s__law_classes a.f__law_classes d.d__law_classes
  B__law_classes : Binds K d.d__law_classes ["_law_machine_here"] []
  g__law_classes : mg "_law_classes" = some (.ref a.f__law_classes)
  F__law_least : Fun K "_law_least" "_law_least" s__law_least a.f__law_least d.d__law_least
  B__law_least : Binds K d.d__law_least ["_law_machine_here"] []
  g__law_least : mg "_law_least" = some (.ref a.f__law_least)
  F__law_misfit : Fun K "_law_misfit" "_law_misfit" s__law_misfit a.f__law_misfit d.d__law_misfit
  B__law_misfit : Binds K d.d__law_misfit ["_law_asker", "_law_kind"] []
  g__law_misfit : mg "_law_misfit" = some (.ref a.f__law_misfit)
  F_law : Fun K "law" "law" s_law a.f_law d.d_law
  B_law : Binds K d.d_law ["_law_script"] []
  g_law : mg "law" = some (.ref a.f_law)
  cl_Halving : Cls K a.C_Halving
  mk_Halving : Mk K a.C_Halving a.f_Halving___init__
  g_Halving : mg "Halving" = some (.ref a.C_Halving)
  n_Halving__low : NoAttr K a.C_Halving "_low"
  n_Halving__high : NoAttr K a.C_Halving "_high"
  cl_Table : Cls K a.C_Table
  mk_Table : Mk K a.C_Table a.f_Table___init__
  g_Table : mg "Table" = some (.ref a.C_Table)
  n_Table_letters : NoAttr K a.C_Table "letters"
  n_Table__states : NoAttr K a.C_Table "_states"
  n_Table__columns : NoAttr K a.C_Table "_columns"
  n_Table__rows : NoAttr K a.C_Table "_rows"
  cl_Asker : Cls K a.C_Asker
  mk_Asker : Mk K a.C_Asker a.f_Asker___init__
  g_Asker : mg "Asker" = some (.ref a.C_Asker)
  n_Asker_letters : NoAttr K a.C_Asker "letters"
  n_Asker_outs : NoAttr K a.C_Asker "outs"
  n_Asker_most : NoAttr K a.C_Asker "most"
  n_Asker__given : NoAttr K a.C_Asker "_given"
  n_Asker__known : NoAttr K a.C_Asker "_known"
  n_Asker__replies : NoAttr K a.C_Asker "_replies"
  n_Asker__counts : NoAttr K a.C_Asker "_counts"
  n_Asker__table : NoAttr K a.C_Asker "_table"
  n_Asker__machine : NoAttr K a.C_Asker "_machine"
  n_Asker__shown : NoAttr K a.C_Asker "_shown"
  n_Asker__search : NoAttr K a.C_Asker "_search"
  n_Asker__queue : NoAttr K a.C_Asker "_queue"
  n_Asker__step : NoAttr K a.C_Asker "_step"
  cl_TestedAsker : Cls K a.C_TestedAsker
  mk_TestedAsker : Mk K a.C_TestedAsker a.f_TestedAsker___init__
  g_TestedAsker : mg "TestedAsker" = some (.ref a.C_TestedAsker)
  n_TestedAsker__asker : NoAttr K a.C_TestedAsker "_asker"
  n_TestedAsker__outs : NoAttr K a.C_TestedAsker "_outs"
  n_TestedAsker__most : NoAttr K a.C_TestedAsker "_most"
  n_TestedAsker__known : NoAttr K a.C_TestedAsker "_known"
  n_TestedAsker__asked : NoAttr K a.C_TestedAsker "_asked"
  n_TestedAsker__letters : NoAttr K a.C_TestedAsker "_letters"
  n_TestedAsker__tests : NoAttr K a.C_TestedAsker "_tests"
  n_TestedAsker__at : NoAttr K a.C_TestedAsker "_at"
  n_TestedAsker__step : NoAttr K a.C_TestedAsker "_step"
  g_Wrong : mg "Wrong" = some (.ref a.C_Wrong)
  g_MaieuticError : mg "MaieuticError" = some (.ref a.C_MaieuticError)
  e_Wrong : PySem.W.excIn K a.C_Wrong [.type "ValueError", .type "Exception", .type "BaseException", .type "object"] "ValueError.__new__" = true
  k_Wrong : PySem.W.keepIn K (.ref a.C_Wrong) = true
  s_Wrong : PySem.W.subIn K (.ref a.C_Wrong) (.type "BaseException") = some true
  t_Wrong : PySem.W.typeIn K (.ref a.C_Wrong) = some (.type "type")
  x_Wrong : PySem.W.exmOne K (.ref a.C_Wrong) (.ref a.C_Wrong) = some true
  i_Wrong : PySem.W.kitOne K (.ref a.C_Wrong) (.ref a.C_MaieuticError) = some true
  c_Wrong : ExcC K a.C_Wrong
  t_in_order : LamX.TabB base mg a.c_in_order a.P_in_order
  l_in_order : ∃ (oc : Value) (od : Option Addr) (kV doc pm : Value) (an : Option Addr) (ct : Value) (osl : Array (Option Value)), d.d_in_order = PySem.W.fnOf "in_order" "in_order" (defArgs s_in_order) (defBody s_in_order) (defScope s_in_order) .none kV doc pm an (.ref a.c_in_order) ct ∧ K.lookup a.f_in_order = some ⟨oc, od, .func d.d_in_order, osl⟩ ∧ PySem.W.codeIn K (.ref a.c_in_order) "in_order" = true
  b_len : mg "len" = none
  b_range : mg "range" = none
  b_enumerate : mg "enumerate" = none
  b_tuple : mg "tuple" = none
  b_list : mg "list" = none
  b_dict : mg "dict" = none
  b_set : mg "set" = none
  b_sorted : mg "sorted" = none
  b_max : mg "max" = none
  b_min : mg "min" = none
  b_all : mg "all" = none
  b_abs : mg "abs" = none
  b_int : mg "int" = none
  b_sum : mg "sum" = none
  b_reversed : mg "reversed" = none
  b_str : mg "str" = none
  b_isinstance : mg "isinstance" = none
  c_MAX_LETTERS : mg "MAX_LETTERS" = some (.int 4 a.k_MAX_LETTERS)
  c_MAX_OUTS : mg "MAX_OUTS" = some (.int 6 a.k_MAX_OUTS)
  c_MAX_STATES : mg "MAX_STATES" = some (.int 30 a.k_MAX_STATES)
  c_MAX_WORD : mg "MAX_WORD" = some (.int 400 a.k_MAX_WORD)
  c_MAX_SHOWN : mg "MAX_SHOWN" = some (.int 300 a.k_MAX_SHOWN)
  c_MAX_KNOWN : mg "MAX_KNOWN" = some (.int 400 a.k_MAX_KNOWN)
  c_MAX_EXTRA : mg "MAX_EXTRA" = some (.int 29 a.k_MAX_EXTRA)
  c_MAX_LIST : mg "MAX_LIST" = some (.int 4000 a.k_MAX_LIST)
theorem hu64 {A : Around} {k : Nat} (hr : Room k A) : A.units + 64 < cLine := by have := hr.un; omega
theorem hu65 {A : Around} {k : Nat} (hr : Room k A) : A.units + 65 < cLine := by have := hr.un; omega
end Tk
/-! text E0 -/
set_option maxHeartbeats 0
namespace Tk
open PySem L2
/-! ### the heap's part that is looked at: no step goes from a code object to its table -/
def refsE (o : Obj) : List Addr := match o.data with
  | .dict es _ => es.toList.flatMap fun e => He.refV e.val
  | .func fd => He.refV fd.code
  | .cls cd => cd.ns :: cd.mro.flatMap He.refV
  | _ => []
def growE (g : Addr → Option Obj) (seen new : List Addr) : List Addr := ((new.flatMap fun a => match g a with
  | some o => refsE o
  | none => []).filter fun a => !seen.contains a).eraseDups
/-- all that n steps reach -/
def asE (g : Addr → Option Obj) : Nat → List Addr → List Addr → List Addr
  | 0, seen, new => seen ++ new
  | n + 1, seen, new => asE g n (seen ++ new) (growE g (seen ++ new) new)
def kE (g : Addr → Option Obj) : PySem.W.Frag := He.frG g (asE g 4 [] [mainGlobals])
/-! ### the code object of in_order, its table -/
def cAd (K : PySem.W.Frag) : Addr := match K.lookup (He.fAd K ("in_order", none)) with
  | some ⟨_, _, .func fd, _⟩ => (match fd.code with
    | Value.ref c => c
    | _ => 0)
  | _ => 0
def pAd (K : PySem.W.Frag) : Addr := match K.lookup (cAd K) with
  | some ⟨_, _, .fields vs, _⟩ => (match vs[11]? with
    | some (Value.ref p) => p
    | _ => 0)
  | _ => 0
def isT : Value → String → Bool
  | .type t, x => decide (t = x)
  | _, _ => false
def isS : Value → Bool
  | .str _ _ => true
  | _ => false
def isI : Value → Bool
  | .int _ _ => true
  | _ => false
def isB : Value → Bool
  | .bool _ => true
  | _ => false
def isR : Option Value → Addr → Bool
  | some (.ref p), q => decide (p = q)
  | _, _ => false
def codeOk (K : PySem.W.Frag) : Bool := match K.lookup (cAd K) with
  | some ⟨cl, _, .fields vs, _⟩ => isT cl "code" && (isR (vs[11]?) (pAd K) && (isR (some (vs.getD 11 .none)) (pAd K) && (isS (vs.getD 18 .none) && (isI (vs.getD 7 .none) && (isB (vs.getD 9 .none) && (isI (vs.getD 10 .none) && !decide (cAd K = pAd K)))))))
  | _ => false
def defCode (K : PySem.W.Frag) : Bool := match K.lookup (He.fAd K ("in_order", none)) with
  | some ⟨_, _, .func fd, _⟩ => isR (some fd.code) (cAd K)
  | _ => false
def emptyTab (o : Option Obj) : Bool := match o with
  | some ⟨.none, none, .fields vs, sl⟩ => vs.isEmpty && sl.isEmpty
  | _ => false
def isOut (K : PySem.W.Frag) (a : Addr) : Bool := match K.lookup a with
  | none => true
  | some _ => false
/-! ### what isinstance asks of Wrong -/
def excB (K : PySem.W.Frag) (D : Addr) : Bool :=
  He.eqO (PySem.W.findIn K (.ref D) "__getattribute__") (some (some (.builtin "BaseException.__getattribute__"))) && (He.eqO (PySem.W.findIn K (.ref D) "__getattr__") (some none) && (decide (PySem.W.subIn K (.ref D) (.type "BaseException") = some true) &&
  (PySem.W.hasDictIn K D && (He.eqO (PySem.W.findIn K (.ref D) "__class__") (some (some (.builtin "object.__class__"))) && (He.eqO (PySem.W.specialIn K (.builtin "object.__class__") "__get__") (some (some (.builtin "getset_descriptor.__get__"))) &&
  (decide (PySem.W.takesIn K (.builtin "object.__class__") = some true) && decide (PySem.W.mroIn K D (.type "object") = some true)))))))
theorem excB_ok {K : PySem.W.Frag} {D : Addr} (h : excB K D = true) : ExcC K D := by
  obtain ⟨h1, h⟩ := He.ba h
  obtain ⟨h2, h⟩ := He.ba h
  obtain ⟨h3, h⟩ := He.ba h
  obtain ⟨h4, h⟩ := He.ba h
  obtain ⟨h5, h⟩ := He.ba h
  obtain ⟨h6, h⟩ := He.ba h
  obtain ⟨h7, h8⟩ := He.ba h
  exact ⟨He.eqO_ok h1, He.eqO_ok h2, of_decide_eq_true h3, h4, He.eqO_ok h5, He.eqO_ok h6, of_decide_eq_true h7, of_decide_eq_true h8⟩
/-! ### the defs, the facts -/
def o_Halving___init__ : He.FnD := ⟨("Halving", some "__init__"), "__init__", "Halving.__init__", defArgs s_Halving___init__, defBody s_Halving___init__, defScope s_Halving___init__⟩
def o_Halving_place : He.FnD := ⟨("Halving", some "place"), "place", "Halving.place", defArgs s_Halving_place, defBody s_Halving_place, defScope s_Halving_place⟩
def o_Halving_tell : He.FnD := ⟨("Halving", some "tell"), "tell", "Halving.tell", defArgs s_Halving_tell, defBody s_Halving_tell, defScope s_Halving_tell⟩
def o_Halving_found : He.FnD := ⟨("Halving", some "found"), "found", "Halving.found", defArgs s_Halving_found, defBody s_Halving_found, defScope s_Halving_found⟩
def o_refined : He.FnD := ⟨("refined", none), "refined", "refined", defArgs s_refined, defBody s_refined, defScope s_refined⟩
def o_classes : He.FnD := ⟨("classes", none), "classes", "classes", defArgs s_classes, defBody s_classes, defScope s_classes⟩
def o_met_states : He.FnD := ⟨("met_states", none), "met_states", "met_states", defArgs s_met_states, defBody s_met_states, defScope s_met_states⟩
def o_least : He.FnD := ⟨("least", none), "least", "least", defArgs s_least, defBody s_least, defScope s_least⟩
def o_is_word_machines : He.FnD := ⟨("is_word_machines", none), "is_word", "is_word", defArgs s_is_word_machines, defBody s_is_word_machines, defScope s_is_word_machines⟩
def o_fits : He.FnD := ⟨("fits", none), "fits", "fits", defArgs s_fits, defBody s_fits, defScope s_fits⟩
def o_check_fits : He.FnD := ⟨("check_fits", none), "check_fits", "check_fits", defArgs s_check_fits, defBody s_check_fits, defScope s_check_fits⟩
def o_state_after : He.FnD := ⟨("state_after", none), "state_after", "state_after", defArgs s_state_after, defBody s_state_after, defScope s_state_after⟩
def o_output_after : He.FnD := ⟨("output_after", none), "output_after", "output_after", defArgs s_output_after, defBody s_output_after, defScope s_output_after⟩
def o_Table___init__ : He.FnD := ⟨("Table", some "__init__"), "__init__", "Table.__init__", defArgs s_Table___init__, defBody s_Table___init__, defScope s_Table___init__⟩
def o_Table_state_words : He.FnD := ⟨("Table", some "state_words"), "state_words", "Table.state_words", defArgs s_Table_state_words, defBody s_Table_state_words, defScope s_Table_state_words⟩
def o_Table_further_rows : He.FnD := ⟨("Table", some "further_rows"), "further_rows", "Table.further_rows", defArgs s_Table_further_rows, defBody s_Table_further_rows, defScope s_Table_further_rows⟩
def o_Table_all_wanted : He.FnD := ⟨("Table", some "all_wanted"), "all_wanted", "Table.all_wanted", defArgs s_Table_all_wanted, defBody s_Table_all_wanted, defScope s_Table_all_wanted⟩
def o_Table_outputs_of : He.FnD := ⟨("Table", some "outputs_of"), "outputs_of", "Table.outputs_of", defArgs s_Table_outputs_of, defBody s_Table_outputs_of, defScope s_Table_outputs_of⟩
def o_Table_numbers : He.FnD := ⟨("Table", some "numbers"), "numbers", "Table.numbers", defArgs s_Table_numbers, defBody s_Table_numbers, defScope s_Table_numbers⟩
def o_Table_extend : He.FnD := ⟨("Table", some "extend"), "extend", "Table.extend", defArgs s_Table_extend, defBody s_Table_extend, defScope s_Table_extend⟩
def o_Table_add_column : He.FnD := ⟨("Table", some "add_column"), "add_column", "Table.add_column", defArgs s_Table_add_column, defBody s_Table_add_column, defScope s_Table_add_column⟩
def o_Table_machine : He.FnD := ⟨("Table", some "machine"), "machine", "Table.machine", defArgs s_Table_machine, defBody s_Table_machine, defScope s_Table_machine⟩
def o_Table_mistake : He.FnD := ⟨("Table", some "mistake"), "mistake", "Table.mistake", defArgs s_Table_mistake, defBody s_Table_mistake, defScope s_Table_mistake⟩
def o_is_word_asker : He.FnD := ⟨("is_word_asker", none), "is_word", "is_word", defArgs s_is_word_asker, defBody s_is_word_asker, defScope s_is_word_asker⟩
def o_digits_of : He.FnD := ⟨("digits_of", none), "digits_of", "digits_of", defArgs s_digits_of, defBody s_digits_of, defScope s_digits_of⟩
def o_read_known : He.FnD := ⟨("read_known", none), "read_known", "read_known", defArgs s_read_known, defBody s_read_known, defScope s_read_known⟩
def o_Asker___init__ : He.FnD := ⟨("Asker", some "__init__"), "__init__", "Asker.__init__", defArgs s_Asker___init__, defBody s_Asker___init__, defScope s_Asker___init__⟩
def o_Asker_step : He.FnD := ⟨("Asker", some "step"), "step", "Asker.step", defArgs s_Asker_step, defBody s_Asker_step, defScope s_Asker_step⟩
def o_Asker_need : He.FnD := ⟨("Asker", some "need"), "need", "Asker.need", defArgs s_Asker_need, defBody s_Asker_need, defScope s_Asker_need⟩
def o_Asker_answer : He.FnD := ⟨("Asker", some "answer"), "answer", "Asker.answer", defArgs s_Asker_answer, defBody s_Asker_answer, defScope s_Asker_answer⟩
def o_Asker_accept : He.FnD := ⟨("Asker", some "accept"), "accept", "Asker.accept", defArgs s_Asker_accept, defBody s_Asker_accept, defScope s_Asker_accept⟩
def o_Asker_show : He.FnD := ⟨("Asker", some "show"), "show", "Asker.show", defArgs s_Asker_show, defBody s_Asker_show, defScope s_Asker_show⟩
def o_Asker__next_step : He.FnD := ⟨("Asker", some "_next_step"), "_next_step", "Asker._next_step", defArgs s_Asker__next_step, defBody s_Asker__next_step, defScope s_Asker__next_step⟩
def o_Asker__fill : He.FnD := ⟨("Asker", some "_fill"), "_fill", "Asker._fill", defArgs s_Asker__fill, defBody s_Asker__fill, defScope s_Asker__fill⟩
def o_Asker__judge : He.FnD := ⟨("Asker", some "_judge"), "_judge", "Asker._judge", defArgs s_Asker__judge, defBody s_Asker__judge, defScope s_Asker__judge⟩
def o_Asker__path : He.FnD := ⟨("Asker", some "_path"), "_path", "Asker._path", defArgs s_Asker__path, defBody s_Asker__path, defScope s_Asker__path⟩
def o_Asker__begin : He.FnD := ⟨("Asker", some "_begin"), "_begin", "Asker._begin", defArgs s_Asker__begin, defBody s_Asker__begin, defScope s_Asker__begin⟩
def o_Asker__look : He.FnD := ⟨("Asker", some "_look"), "_look", "Asker._look", defArgs s_Asker__look, defBody s_Asker__look, defScope s_Asker__look⟩
def o_search : He.FnD := ⟨("search", none), "search", "search", defArgs s_search, defBody s_search, defScope s_search⟩
def o_parting_word : He.FnD := ⟨("parting_word", none), "parting_word", "parting_word", defArgs s_parting_word, defBody s_parting_word, defScope s_parting_word⟩
def o_ways_to : He.FnD := ⟨("ways_to", none), "ways_to", "ways_to", defArgs s_ways_to, defBody s_ways_to, defScope s_ways_to⟩
def o_outputs_from : He.FnD := ⟨("outputs_from", none), "outputs_from", "outputs_from", defArgs s_outputs_from, defBody s_outputs_from, defScope s_outputs_from⟩
def o_in_order : He.FnD := ⟨("in_order", none), "in_order", "in_order", defArgs s_in_order, defBody s_in_order, defScope s_in_order⟩
def o_telling_words : He.FnD := ⟨("telling_words", none), "telling_words", "telling_words", defArgs s_telling_words, defBody s_telling_words, defScope s_telling_words⟩
def o_all_words : He.FnD := ⟨("all_words", none), "all_words", "all_words", defArgs s_all_words, defBody s_all_words, defScope s_all_words⟩
def o_most_words : He.FnD := ⟨("most_words", none), "most_words", "most_words", defArgs s_most_words, defBody s_most_words, defScope s_most_words⟩
def o_suite_words : He.FnD := ⟨("suite_words", none), "suite_words", "suite_words", defArgs s_suite_words, defBody s_suite_words, defScope s_suite_words⟩
def o_list_bound : He.FnD := ⟨("list_bound", none), "list_bound", "list_bound", defArgs s_list_bound, defBody s_list_bound, defScope s_list_bound⟩
def o_TestedAsker___init__ : He.FnD := ⟨("TestedAsker", some "__init__"), "__init__", "TestedAsker.__init__", defArgs s_TestedAsker___init__, defBody s_TestedAsker___init__, defScope s_TestedAsker___init__⟩
def o_TestedAsker__go_on : He.FnD := ⟨("TestedAsker", some "_go_on"), "_go_on", "TestedAsker._go_on", defArgs s_TestedAsker__go_on, defBody s_TestedAsker__go_on, defScope s_TestedAsker__go_on⟩
def o_TestedAsker__test : He.FnD := ⟨("TestedAsker", some "_test"), "_test", "TestedAsker._test", defArgs s_TestedAsker__test, defBody s_TestedAsker__test, defScope s_TestedAsker__test⟩
def o_TestedAsker_step : He.FnD := ⟨("TestedAsker", some "step"), "step", "TestedAsker.step", defArgs s_TestedAsker_step, defBody s_TestedAsker_step, defScope s_TestedAsker_step⟩
def o_TestedAsker_answer : He.FnD := ⟨("TestedAsker", some "answer"), "answer", "TestedAsker.answer", defArgs s_TestedAsker_answer, defBody s_TestedAsker_answer, defScope s_TestedAsker_answer⟩
def o_TestedAsker_accept : He.FnD := ⟨("TestedAsker", some "accept"), "accept", "TestedAsker.accept", defArgs s_TestedAsker_accept, defBody s_TestedAsker_accept, defScope s_TestedAsker_accept⟩
def o_TestedAsker_show : He.FnD := ⟨("TestedAsker", some "show"), "show", "TestedAsker.show", defArgs s_TestedAsker_show, defBody s_TestedAsker_show, defScope s_TestedAsker_show⟩
def o_TestedAsker_report : He.FnD := ⟨("TestedAsker", some "report"), "report", "TestedAsker.report", defArgs s_TestedAsker_report, defBody s_TestedAsker_report, defScope s_TestedAsker_report⟩
def o_beginnings_of : He.FnD := ⟨("beginnings_of", none), "beginnings_of", "beginnings_of", defArgs s_beginnings_of, defBody s_beginnings_of, defScope s_beginnings_of⟩
def o__law_row : He.FnD := ⟨("_law_row", none), "_law_row", "_law_row", defArgs s__law_row, defBody s__law_row, defScope s__law_row⟩
def o__law_at : He.FnD := ⟨("_law_at", none), "_law_at", "_law_at", defArgs s__law_at, defBody s__law_at, defScope s__law_at⟩
def o__law_machine : He.FnD := ⟨("_law_machine", none), "_law_machine", "_law_machine", defArgs s__law_machine, defBody s__law_machine, defScope s__law_machine⟩
def o__law_state : He.FnD := ⟨("_law_state", none), "_law_state", "_law_state", defArgs s__law_state, defBody s__law_state, defScope s__law_state⟩
def o__law_output : He.FnD := ⟨("_law_output", none), "_law_output", "_law_output", defArgs s__law_output, defBody s__law_output, defScope s__law_output⟩
def o__law_classes : He.FnD := ⟨("_law_classes", none), "_law_classes", "_law_classes", defArgs s__law_classes, defBody s__law_classes, defScope s__law_classes⟩
def o__law_least : He.FnD := ⟨("_law_least", none), "_law_least", "_law_least", defArgs s__law_least, defBody s__law_least, defScope s__law_least⟩
def o__law_misfit : He.FnD := ⟨("_law_misfit", none), "_law_misfit", "_law_misfit", defArgs s__law_misfit, defBody s__law_misfit, defScope s__law_misfit⟩
def o_law : He.FnD := ⟨("law", none), "law", "law", defArgs s_law, defBody s_law, defScope s_law⟩
def fnL0 : List He.FnD := [o_Halving___init__, o_Halving_place, o_Halving_tell, o_Halving_found, o_refined, o_classes, o_met_states, o_least, o_is_word_machines, o_fits, o_check_fits, o_state_after, o_output_after, o_Table___init__, o_Table_state_words, o_Table_further_rows, o_Table_all_wanted, o_Table_outputs_of, o_Table_numbers, o_Table_extend, o_Table_add_column, o_Table_machine, o_Table_mistake, o_is_word_asker, o_digits_of, o_read_known, o_Asker___init__, o_Asker_step, o_Asker_need, o_Asker_answer]
def fnL1 : List He.FnD := [o_Asker_accept, o_Asker_show, o_Asker__next_step, o_Asker__fill, o_Asker__judge, o_Asker__path, o_Asker__begin, o_Asker__look, o_search, o_parting_word, o_ways_to, o_outputs_from, o_in_order, o_telling_words, o_all_words, o_most_words, o_suite_words, o_list_bound, o_TestedAsker___init__, o_TestedAsker__go_on, o_TestedAsker__test, o_TestedAsker_step, o_TestedAsker_answer, o_TestedAsker_accept, o_TestedAsker_show, o_TestedAsker_report, o_beginnings_of, o__law_row, o__law_at, o__law_machine]
def fnL2 : List He.FnD := [o__law_state, o__law_output, o__law_classes, o__law_least, o__law_misfit, o_law]
def fnL : List He.FnD := fnL0 ++ (fnL1 ++ (fnL2))
def faL0 : List He.Fa := [.meth "Halving" "place", .meth "Halving" "tell", .meth "Halving" "found", .glo "refined", .glo "classes", .glo "met_states", .glo "least", .glo "is_word_machines", .glo "fits", .glo "check_fits", .glo "state_after", .glo "output_after", .meth "Table" "state_words", .meth "Table" "further_rows", .meth "Table" "all_wanted", .meth "Table" "outputs_of", .meth "Table" "numbers", .meth "Table" "extend", .meth "Table" "add_column", .meth "Table" "machine", .meth "Table" "mistake", .glo "is_word_asker", .glo "digits_of", .glo "read_known", .meth "Asker" "step", .meth "Asker" "need", .meth "Asker" "answer", .meth "Asker" "accept", .meth "Asker" "show", .meth "Asker" "_next_step"]
def faL1 : List He.Fa := [.meth "Asker" "_fill", .meth "Asker" "_judge", .meth "Asker" "_path", .meth "Asker" "_begin", .meth "Asker" "_look", .glo "search", .glo "parting_word", .glo "ways_to", .glo "outputs_from", .glo "in_order", .glo "telling_words", .glo "all_words", .glo "most_words", .glo "suite_words", .glo "list_bound", .meth "TestedAsker" "_go_on", .meth "TestedAsker" "_test", .meth "TestedAsker" "step", .meth "TestedAsker" "answer", .meth "TestedAsker" "accept", .meth "TestedAsker" "show", .meth "TestedAsker" "report", .glo "beginnings_of", .glo "_law_row", .glo "_law_at", .glo "_law_machine", .glo "_law_state", .glo "_law_output", .glo "_law_classes", .glo "_law_least"]
def faL2 : List He.Fa := [.glo "_law_misfit", .glo "law", .cls "Halving", .mkr "Halving", .glo "Halving", .noat "Halving" "_low", .noat "Halving" "_high", .cls "Table", .mkr "Table", .glo "Table", .noat "Table" "letters", .noat "Table" "_states", .noat "Table" "_columns", .noat "Table" "_rows", .cls "Asker", .mkr "Asker", .glo "Asker", .noat "Asker" "letters", .noat "Asker" "outs", .noat "Asker" "most", .noat "Asker" "_given", .noat "Asker" "_known", .noat "Asker" "_replies", .noat "Asker" "_counts", .noat "Asker" "_table", .noat "Asker" "_machine", .noat "Asker" "_shown", .noat "Asker" "_search", .noat "Asker" "_queue", .noat "Asker" "_step"]
def faL3 : List He.Fa := [.cls "TestedAsker", .mkr "TestedAsker", .glo "TestedAsker", .noat "TestedAsker" "_asker", .noat "TestedAsker" "_outs", .noat "TestedAsker" "_most", .noat "TestedAsker" "_known", .noat "TestedAsker" "_asked", .noat "TestedAsker" "_letters", .noat "TestedAsker" "_tests", .noat "TestedAsker" "_at", .noat "TestedAsker" "_step", .glo "Wrong", .glo "MaieuticError", .exc "Wrong", .exm "Wrong" "Wrong" true, .free "len", .free "range", .free "enumerate", .free "tuple", .free "list", .free "dict", .free "set", .free "sorted", .free "max", .free "min", .free "all", .free "abs", .free "int", .free "sum"]
def faL4 : List He.Fa := [.free "reversed", .free "str", .free "isinstance", .int "MAX_LETTERS" 4, .int "MAX_OUTS" 6, .int "MAX_STATES" 30, .int "MAX_WORD" 400, .int "MAX_SHOWN" 300, .int "MAX_KNOWN" 400, .int "MAX_EXTRA" 29, .int "MAX_LIST" 4000]
def faL : List He.Fa := faL0 ++ (faL1 ++ (faL2 ++ (faL3 ++ (faL4))))
/-- all that is yes or no -/
def yesE (K : PySem.W.Frag) : Bool := (faL.all fun f => f.ok K) && ((fnL.all fun d => (He.Fa.code d.at_ d.qual).ok K && PySem.W.keepIn K (.ref (He.fAd K d.at_))) && (excB K (He.ga K "Wrong") && (decide (PySem.W.kitOne K (.ref (He.ga K "Wrong")) (.ref (He.ga K "MaieuticError")) = some true) &&
  (codeOk K && (defCode K && isOut K (pAd K))))))
abbrev AlE : Type := Bool × List He.FnV
def obsK (K : PySem.W.Frag) (o : Option Obj) : AlE := (yesE K && emptyTab o, fnL.map fun d => He.fnObs K d.at_)
def valK : AlE := (true, fnL.map He.FnD.val)
def obsE (g : Addr → Option Obj) : AlE := (fun K => obsK K (g (pAd K))) (kE g)
def SaysE (h : Heap) : Prop := ∃ (K : PySem.W.Frag) (o : Obj), K.In h ∧ h.get? (pAd K) = some o ∧ obsK K (some o) = valK
theorem says_of {h : Heap} (e : obsE h.get? = valK) : SaysE h := by
  have e2 : obsK (kE h.get?) (h.get? (pAd (kE h.get?))) = valK := e
  cases q : h.get? (pAd (kE h.get?)) with
  | none =>
    rw [q] at e2
    have e3 : (yesE (kE h.get?) && emptyTab none) = true := congrArg (fun z : AlE => z.1) e2
    rw [show emptyTab none = false from rfl, Bool.and_false] at e3
    cases e3
  | some o =>
    rw [q] at e2
    exact ⟨_, o, He.frG_in, q, e2⟩
def hkE : PySem.W.Hook where
  α := AlE
  obs := fun s => obsE s.heap.get?
  val := fun _ => valK
  says := fun _ h => SaysE h
  of := fun _ _ e => says_of e
  keeps := fun _ _ _ ⟨K, o, hK, ho, c⟩ k => ⟨K, o, PySem.W.Frag.In.keeps hK k, k _ _ ho, c⟩
def obE (s : PySem.W.SharedT) : AlE := obsE (HandSHeadRun.getT s)
theorem obE_eq (s : PySem.W.SharedT) : obE s = hkE.obs s.abs := by
  have e : HandSHeadRun.getT s = s.abs.heap.get? := funext (HandSHeadRun.getT_eq s)
  unfold obE
  rw [e] <;> rfl
end Tk
/-! text E1 -/
set_option maxHeartbeats 0
namespace Tk
open PySem L2
abbrev RW : PySem.W.OpenRow := PySem.W.OpenLaw.row PySem.Challenge.rw_maieutic_k74_whole_tested_finds
def looseE0 : List Str := ["_wall", "MaieuticError", "NotAllowed", "Missing", "Alike", "Wrong", "Broken", "Halving", "refined", "classes", "met_states", "least", "MAX_LETTERS", "MAX_OUTS", "MAX_STATES", "MAX_WORD", "MAX_SHOWN", "is_word", "is_word_machines", "fits", "check_fits", "state_after", "output_after", "Table", "MAX_KNOWN", "is_word_asker", "digits_of", "read_known", "Asker", "search"]
def looseE1 : List Str := ["parting_word", "ways_to", "outputs_from", "in_order", "telling_words", "MAX_EXTRA", "MAX_LIST", "all_words", "most_words", "suite_words", "list_bound", "TestedAsker", "beginnings_of", "_law_row", "_law_at", "_law_machine", "_law_state", "_law_output", "_law_classes", "_law_least", "_law_difference", "_law_digits", "_law_bound", "_law_misfit"]
def looseE : List Str := looseE0 ++ (looseE1)
theorem runE (w : World) : HandSHeadRun.RunEq RW (PySem.W.view RW.prog [66]) hkE obE 20000 looseE w := by
  intro os
  kernel_rfl
end Tk
/-! text E2 -/
set_option maxHeartbeats 0
namespace Tk
open PySem L2
/-! ### what the head says, taken apart -/
theorem emptyTab_ok {o : Obj} (h : emptyTab (some o) = true) : o = { cls := .none, data := .fields #[] } := by
  obtain ⟨cl, od, dt, sl⟩ := o
  cases cl with
  | none =>
    cases od with
    | none =>
      cases dt with
      | fields vs =>
        obtain ⟨h1, h2⟩ := He.ba (show (vs.isEmpty && sl.isEmpty) = true from h)
        have e1 : vs = #[] := Array.isEmpty_iff.mp h1
        have e2 : sl = #[] := Array.isEmpty_iff.mp h2
        rw [e1, e2]
      | _ => cases h
    | some _ => cases dt <;> cases h
  | _ => cases od <;> cases dt <;> cases h
theorem isR_ok {o : Option Value} {q : Addr} (h : isR o q = true) : o = some (.ref q) := by
  cases o with
  | none => cases h
  | some v =>
    cases v with
    | ref p =>
      have e : p = q := of_decide_eq_true h
      rw [e]
    | _ => cases h
theorem isT_ok {v : Value} {x : String} (h : isT v x = true) : v = .type x := by
  cases v with
  | type t =>
    have e : t = x := of_decide_eq_true h
    rw [e]
  | _ => cases h
theorem isS_ok {v : Value} (h : isS v = true) : ∃ x t, v = .str x t := by
  cases v with
  | str x t => exact ⟨x, t, rfl⟩
  | _ => cases h
theorem isI_ok {v : Value} (h : isI v = true) : ∃ x t, v = .int x t := by
  cases v with
  | int x t => exact ⟨x, t, rfl⟩
  | _ => cases h
theorem isB_ok {v : Value} (h : isB v = true) : ∃ b, v = .bool b := by
  cases v with
  | bool b => exact ⟨b, rfl⟩
  | _ => cases h
theorem code_ok {K : PySem.W.Frag} {h : Heap} (X : K.In h) (c : codeOk K = true) : PySem.W.CodeHd h (cAd K) (pAd K) := by
  unfold codeOk at c
  cases q : K.lookup (cAd K) with
  | none =>
    rw [q] at c
    cases c
  | some o =>
    rw [q] at c
    obtain ⟨cl, od, dt, sl⟩ := o
    cases dt with
    | fields vs =>
      obtain ⟨h1, c⟩ := He.ba c
      obtain ⟨h2, c⟩ := He.ba c
      obtain ⟨h3, c⟩ := He.ba c
      obtain ⟨h4, c⟩ := He.ba c
      obtain ⟨h5, c⟩ := He.ba c
      obtain ⟨h6, c⟩ := He.ba c
      obtain ⟨h7, h8⟩ := He.ba c
      obtain ⟨file, tf, e4⟩ := isS_ok h4
      obtain ⟨flags, tg, e5⟩ := isI_ok h5
      obtain ⟨inF, e6⟩ := isB_ok h6
      obtain ⟨text, tt, e7⟩ := isI_ok h7
      refine ⟨_, vs, file, tf, flags, tg, inF, text, tt, X _ _ q, isT_ok h1, rfl, isR_ok h2, Option.some.inj (isR_ok h3), e4, e5, e6, e7, fun z => ?_⟩
      rw [decide_eq_true z] at h8
      cases h8
    | _ => cases c
/-- a def by its place in the list -/
def fdOf (K : PySem.W.Frag) (p : Str × Option Str) : FuncData := match K.lookup (He.fAd K p) with
  | some ⟨_, _, .func fd, _⟩ => fd
  | _ => ⟨"", "", ⟨[], [], none, [], [], none, []⟩, .stmts [], ⟨.function, [], false, false, []⟩, mainGlobals, [], .none, .none, .none, .none, none, .none, .none, builtinsNs⟩
def kOf (mg : Str → Option Value) (x : Str) : Tok := match mg x with
  | some (.int _ t) => t
  | _ => 0
theorem kOf_ok {K : PySem.W.Frag} {h : Heap} {mg : Str → Option Value} (X : K.In h) (G : h.Ns mainGlobals mg) {x : Str} {i : Int} (c : (He.Fa.int x i).ok K = true) : mg x = some (.int i (kOf mg x)) := by
  obtain ⟨t, e⟩ := He.int_ok X G c
  unfold kOf
  rw [e]
section
variable {K : PySem.W.Frag} {h : Heap} {mg : Str → Option Value} {o : Obj}
structure SaysK (K : PySem.W.Frag) (o : Obj) : Prop where
  fa : ∀ f ∈ faL, He.Fa.ok K f = true
  df : ∀ d ∈ fnL, (He.Fa.code d.at_ d.qual).ok K = true ∧ PySem.W.keepIn K (.ref (He.fAd K d.at_)) = true ∧ He.fnObs K d.at_ = d.val
  ex : excB K (He.ga K "Wrong") = true
  ki : PySem.W.kitOne K (.ref (He.ga K "Wrong")) (.ref (He.ga K "MaieuticError")) = some true
  co : codeOk K = true
  dc : defCode K = true
  out : K.lookup (pAd K) = none
  tab : o = { cls := .none, data := .fields #[] }
theorem map_mem_eq {α β : Type} {f g : α → β} : ∀ {l : List α}, l.map f = l.map g → ∀ x ∈ l, f x = g x
  | [], _, _, hx => by cases hx
  | y :: r, e, x, hx => by
    have e1 : f y :: r.map f = g y :: r.map g := e
    injection e1 with e2 e3
    cases hx with
    | head => exact e2
    | tail _ hx => exact map_mem_eq e3 x hx
theorem SaysK.of (c : obsK K (some o) = valK) : SaysK K o := by
  have c1 : (yesE K && emptyTab (some o)) = true := congrArg (fun z : AlE => z.1) c
  have c2 : fnL.map (fun d => He.fnObs K d.at_) = fnL.map He.FnD.val := congrArg (fun z : AlE => z.2) c
  obtain ⟨c1, ht⟩ := He.ba c1
  unfold yesE at c1
  obtain ⟨h1, c1⟩ := He.ba c1
  obtain ⟨h2, c1⟩ := He.ba c1
  obtain ⟨h3, c1⟩ := He.ba c1
  obtain ⟨h4, c1⟩ := He.ba c1
  obtain ⟨h5, c1⟩ := He.ba c1
  obtain ⟨h6, h7⟩ := He.ba c1
  refine ⟨List.all_eq_true.mp h1, fun d hd => ?_, h3, of_decide_eq_true h4, h5, h6, ?_, emptyTab_ok ht⟩
  · obtain ⟨k1, k2⟩ := He.ba (List.all_eq_true.mp h2 d hd)
    exact ⟨k1, k2, map_mem_eq c2 d hd⟩
  · unfold isOut at h7
    cases q : K.lookup (pAd K) with
    | none => rfl
    | some u =>
      rw [q] at h7
      cases h7
theorem SaysK.fact (c : SaysK K o) (i : Nat) {f : He.Fa} (e : faL[i]? = some f) : f.ok K = true := c.fa f (List.mem_of_getElem? e)
theorem SaysK.raw (c : SaysK K o) (i : Nat) {d : He.FnD} (e : fnL[i]? = some d) :
    ∃ (oc : Value) (od : Option Addr) (osl : Array (Option Value)) (kV doc pm : Value) (an : Option Addr) (cdv ct : Value), fdOf K d.at_ = PySem.W.fnOf d.name d.qual d.params d.body d.scope .none kV doc pm an cdv ct ∧ K.lookup (He.fAd K d.at_) = some ⟨oc, od, .func (fdOf K d.at_), osl⟩ ∧ PySem.W.codeIn K cdv d.qual = true := by
  obtain ⟨k1, k2, k3⟩ := c.df d (List.mem_of_getElem? e)
  obtain ⟨oc, od, osl, kV, doc, pm, an, cdv, ct, l, hc⟩ := He.fn_ok k3 k1
  have ef : fdOf K d.at_ = PySem.W.fnOf d.name d.qual d.params d.body d.scope .none kV doc pm an cdv ct := by
    unfold fdOf
    rw [l]
  exact ⟨oc, od, osl, kV, doc, pm, an, cdv, ct, ef, by rw [ef]; exact l, hc⟩
theorem SaysK.fun_ (c : SaysK K o) (i : Nat) {p : Str × Option Str} {x q : Str} {st : Stmt} (e : fnL[i]? = some ⟨p, x, q, defArgs st, defBody st, defScope st⟩) : Fun K x q st (He.fAd K p) (fdOf K p) := by
  obtain ⟨oc, od, osl, kV, doc, pm, an, cdv, ct, ef, l, hc⟩ := c.raw i e
  exact ⟨⟨oc, od, kV, doc, pm, an, cdv, ct, osl, ef, l, hc⟩, (c.df _ (List.mem_of_getElem? e)).2.1⟩
theorem SaysK.ord (c : SaysK K o) (i : Nat) {st : Stmt} (e : fnL[i]? = some ⟨("in_order", none), "in_order", "in_order", defArgs st, defBody st, defScope st⟩) :
    ∃ (oc : Value) (od : Option Addr) (kV doc pm : Value) (an : Option Addr) (ct : Value) (osl : Array (Option Value)), fdOf K ("in_order", none) = PySem.W.fnOf "in_order" "in_order" (defArgs st) (defBody st) (defScope st) .none kV doc pm an (.ref (cAd K)) ct ∧ K.lookup (He.fAd K ("in_order", none)) = some ⟨oc, od, .func (fdOf K ("in_order", none)), osl⟩ ∧ PySem.W.codeIn K (.ref (cAd K)) "in_order" = true := by
  obtain ⟨oc, od, osl, kV, doc, pm, an, cdv, ct, ef, l, hc⟩ := c.raw i e
  have ec : cdv = .ref (cAd K) := by
    have z := c.dc
    unfold defCode at z
    rw [l] at z
    have z2 := Option.some.inj (isR_ok z)
    rw [ef] at z2
    exact z2
  subst ec
  exact ⟨oc, od, kV, doc, pm, an, ct, osl, ef, l, hc⟩
abbrev aE (K : PySem.W.Frag) (mg : Str → Option Value) : Ads where
  f_Halving___init__ := He.fAd K ("Halving", some "__init__")
  f_Halving_place := He.fAd K ("Halving", some "place")
  f_Halving_tell := He.fAd K ("Halving", some "tell")
  f_Halving_found := He.fAd K ("Halving", some "found")
  f_refined := He.fAd K ("refined", none)
  f_classes := He.fAd K ("classes", none)
  f_met_states := He.fAd K ("met_states", none)
  f_least := He.fAd K ("least", none)
  f_is_word_machines := He.fAd K ("is_word_machines", none)
  f_fits := He.fAd K ("fits", none)
  f_check_fits := He.fAd K ("check_fits", none)
  f_state_after := He.fAd K ("state_after", none)
  f_output_after := He.fAd K ("output_after", none)
  f_Table___init__ := He.fAd K ("Table", some "__init__")
  f_Table_state_words := He.fAd K ("Table", some "state_words")
  f_Table_further_rows := He.fAd K ("Table", some "further_rows")
  f_Table_all_wanted := He.fAd K ("Table", some "all_wanted")
  f_Table_outputs_of := He.fAd K ("Table", some "outputs_of")
  f_Table_numbers := He.fAd K ("Table", some "numbers")
  f_Table_extend := He.fAd K ("Table", some "extend")
  f_Table_add_column := He.fAd K ("Table", some "add_column")
  f_Table_machine := He.fAd K ("Table", some "machine")
  f_Table_mistake := He.fAd K ("Table", some "mistake")
  f_is_word_asker := He.fAd K ("is_word_asker", none)
  f_digits_of := He.fAd K ("digits_of", none)
  f_read_known := He.fAd K ("read_known", none)
  f_Asker___init__ := He.fAd K ("Asker", some "__init__")
  f_Asker_step := He.fAd K ("Asker", some "step")
  f_Asker_need := He.fAd K ("Asker", some "need")
  f_Asker_answer := He.fAd K ("Asker", some "answer")
  f_Asker_accept := He.fAd K ("Asker", some "accept")
  f_Asker_show := He.fAd K ("Asker", some "show")
  f_Asker__next_step := He.fAd K ("Asker", some "_next_step")
  f_Asker__fill := He.fAd K ("Asker", some "_fill")
  f_Asker__judge := He.fAd K ("Asker", some "_judge")
  f_Asker__path := He.fAd K ("Asker", some "_path")
  f_Asker__begin := He.fAd K ("Asker", some "_begin")
  f_Asker__look := He.fAd K ("Asker", some "_look")
  f_search := He.fAd K ("search", none)
  f_parting_word := He.fAd K ("parting_word", none)
  f_ways_to := He.fAd K ("ways_to", none)
  f_outputs_from := He.fAd K ("outputs_from", none)
  f_in_order := He.fAd K ("in_order", none)
  f_telling_words := He.fAd K ("telling_words", none)
  f_all_words := He.fAd K ("all_words", none)
  f_most_words := He.fAd K ("most_words", none)
  f_suite_words := He.fAd K ("suite_words", none)
  f_list_bound := He.fAd K ("list_bound", none)
  f_TestedAsker___init__ := He.fAd K ("TestedAsker", some "__init__")
  f_TestedAsker__go_on := He.fAd K ("TestedAsker", some "_go_on")
  f_TestedAsker__test := He.fAd K ("TestedAsker", some "_test")
  f_TestedAsker_step := He.fAd K ("TestedAsker", some "step")
  f_TestedAsker_answer := He.fAd K ("TestedAsker", some "answer")
  f_TestedAsker_accept := He.fAd K ("TestedAsker", some "accept")
  f_TestedAsker_show := He.fAd K ("TestedAsker", some "show")
  f_TestedAsker_report := He.fAd K ("TestedAsker", some "report")
  f_beginnings_of := He.fAd K ("beginnings_of", none)
  f__law_row := He.fAd K ("_law_row", none)
  f__law_at := He.fAd K ("_law_at", none)
  f__law_machine := He.fAd K ("_law_machine", none)
  f__law_state := He.fAd K ("_law_state", none)
  f__law_output := He.fAd K ("_law_output", none)
  f__law_classes := He.fAd K ("_law_classes", none)
  f__law_least := He.fAd K ("_law_least", none)
  f__law_misfit := He.fAd K ("_law_misfit", none)
  f_law := He.fAd K ("law", none)
  C_Halving := He.ga K "Halving"
  C_Table := He.ga K "Table"
  C_Asker := He.ga K "Asker"
  C_TestedAsker := He.ga K "TestedAsker"
  C_Wrong := He.ga K "Wrong"
  C_MaieuticError := He.ga K "MaieuticError"
  k_MAX_LETTERS := kOf mg "MAX_LETTERS"
  k_MAX_OUTS := kOf mg "MAX_OUTS"
  k_MAX_STATES := kOf mg "MAX_STATES"
  k_MAX_WORD := kOf mg "MAX_WORD"
  k_MAX_SHOWN := kOf mg "MAX_SHOWN"
  k_MAX_KNOWN := kOf mg "MAX_KNOWN"
  k_MAX_EXTRA := kOf mg "MAX_EXTRA"
  k_MAX_LIST := kOf mg "MAX_LIST"
  c_in_order := cAd K
  P_in_order := pAd K
abbrev dE (K : PySem.W.Frag) : Fds where
  d_Halving___init__ := fdOf K ("Halving", some "__init__")
  d_Halving_place := fdOf K ("Halving", some "place")
  d_Halving_tell := fdOf K ("Halving", some "tell")
  d_Halving_found := fdOf K ("Halving", some "found")
  d_refined := fdOf K ("refined", none)
  d_classes := fdOf K ("classes", none)
  d_met_states := fdOf K ("met_states", none)
  d_least := fdOf K ("least", none)
  d_is_word_machines := fdOf K ("is_word_machines", none)
  d_fits := fdOf K ("fits", none)
  d_check_fits := fdOf K ("check_fits", none)
  d_state_after := fdOf K ("state_after", none)
  d_output_after := fdOf K ("output_after", none)
  d_Table___init__ := fdOf K ("Table", some "__init__")
  d_Table_state_words := fdOf K ("Table", some "state_words")
  d_Table_further_rows := fdOf K ("Table", some "further_rows")
  d_Table_all_wanted := fdOf K ("Table", some "all_wanted")
  d_Table_outputs_of := fdOf K ("Table", some "outputs_of")
  d_Table_numbers := fdOf K ("Table", some "numbers")
  d_Table_extend := fdOf K ("Table", some "extend")
  d_Table_add_column := fdOf K ("Table", some "add_column")
  d_Table_machine := fdOf K ("Table", some "machine")
  d_Table_mistake := fdOf K ("Table", some "mistake")
  d_is_word_asker := fdOf K ("is_word_asker", none)
  d_digits_of := fdOf K ("digits_of", none)
  d_read_known := fdOf K ("read_known", none)
  d_Asker___init__ := fdOf K ("Asker", some "__init__")
  d_Asker_step := fdOf K ("Asker", some "step")
  d_Asker_need := fdOf K ("Asker", some "need")
  d_Asker_answer := fdOf K ("Asker", some "answer")
  d_Asker_accept := fdOf K ("Asker", some "accept")
  d_Asker_show := fdOf K ("Asker", some "show")
  d_Asker__next_step := fdOf K ("Asker", some "_next_step")
  d_Asker__fill := fdOf K ("Asker", some "_fill")
  d_Asker__judge := fdOf K ("Asker", some "_judge")
  d_Asker__path := fdOf K ("Asker", some "_path")
  d_Asker__begin := fdOf K ("Asker", some "_begin")
  d_Asker__look := fdOf K ("Asker", some "_look")
  d_search := fdOf K ("search", none)
  d_parting_word := fdOf K ("parting_word", none)
  d_ways_to := fdOf K ("ways_to", none)
  d_outputs_from := fdOf K ("outputs_from", none)
  d_in_order := fdOf K ("in_order", none)
  d_telling_words := fdOf K ("telling_words", none)
  d_all_words := fdOf K ("all_words", none)
  d_most_words := fdOf K ("most_words", none)
  d_suite_words := fdOf K ("suite_words", none)
  d_list_bound := fdOf K ("list_bound", none)
  d_TestedAsker___init__ := fdOf K ("TestedAsker", some "__init__")
  d_TestedAsker__go_on := fdOf K ("TestedAsker", some "_go_on")
  d_TestedAsker__test := fdOf K ("TestedAsker", some "_test")
  d_TestedAsker_step := fdOf K ("TestedAsker", some "step")
  d_TestedAsker_answer := fdOf K ("TestedAsker", some "answer")
  d_TestedAsker_accept := fdOf K ("TestedAsker", some "accept")
  d_TestedAsker_show := fdOf K ("TestedAsker", some "show")
  d_TestedAsker_report := fdOf K ("TestedAsker", some "report")
  d_beginnings_of := fdOf K ("beginnings_of", none)
  d__law_row := fdOf K ("_law_row", none)
  d__law_at := fdOf K ("_law_at", none)
  d__law_machine := fdOf K ("_law_machine", none)
  d__law_state := fdOf K ("_law_state", none)
  d__law_output := fdOf K ("_law_output", none)
  d__law_classes := fdOf K ("_law_classes", none)
  d__law_least := fdOf K ("_law_least", none)
  d__law_misfit := fdOf K ("_law_misfit", none)
  d_law := fdOf K ("law", none)
theorem fE_Halving___init__ (c : SaysK K o) : Fun K "__init__" "Halving.__init__" s_Halving___init__ (He.fAd K ("Halving", some "__init__")) (fdOf K ("Halving", some "__init__")) := c.fun_ 0 (p := ("Halving", some "__init__")) (x := "__init__") (q := "Halving.__init__") (st := s_Halving___init__) rfl
theorem bE_Halving___init__ (c : SaysK K o) : Binds K (fdOf K ("Halving", some "__init__")) ["self", "length"] [] := (fE_Halving___init__ c).binds (fun _ _ _ _ _ _ us hl => match us, hl with | [_, _], _ => rfl)
theorem fE_Halving_place (c : SaysK K o) : Fun K "place" "Halving.place" s_Halving_place (He.fAd K ("Halving", some "place")) (fdOf K ("Halving", some "place")) := c.fun_ 1 (p := ("Halving", some "place")) (x := "place") (q := "Halving.place") (st := s_Halving_place) rfl
theorem bE_Halving_place (c : SaysK K o) : Binds K (fdOf K ("Halving", some "place")) ["self"] [] := (fE_Halving_place c).binds (fun _ _ _ _ _ _ us hl => match us, hl with | [_], _ => rfl)
theorem fE_Halving_tell (c : SaysK K o) : Fun K "tell" "Halving.tell" s_Halving_tell (He.fAd K ("Halving", some "tell")) (fdOf K ("Halving", some "tell")) := c.fun_ 2 (p := ("Halving", some "tell")) (x := "tell") (q := "Halving.tell") (st := s_Halving_tell) rfl
theorem bE_Halving_tell (c : SaysK K o) : Binds K (fdOf K ("Halving", some "tell")) ["self", "differs"] [] := (fE_Halving_tell c).binds (fun _ _ _ _ _ _ us hl => match us, hl with | [_, _], _ => rfl)
theorem fE_Halving_found (c : SaysK K o) : Fun K "found" "Halving.found" s_Halving_found (He.fAd K ("Halving", some "found")) (fdOf K ("Halving", some "found")) := c.fun_ 3 (p := ("Halving", some "found")) (x := "found") (q := "Halving.found") (st := s_Halving_found) rfl
theorem bE_Halving_found (c : SaysK K o) : Binds K (fdOf K ("Halving", some "found")) ["self"] [] := (fE_Halving_found c).binds (fun _ _ _ _ _ _ us hl => match us, hl with | [_], _ => rfl)
theorem fE_refined (c : SaysK K o) : Fun K "refined" "refined" s_refined (He.fAd K ("refined", none)) (fdOf K ("refined", none)) := c.fun_ 4 (p := ("refined", none)) (x := "refined") (q := "refined") (st := s_refined) rfl
theorem bE_refined (c : SaysK K o) : Binds K (fdOf K ("refined", none)) ["machine", "groups"] [] := (fE_refined c).binds (fun _ _ _ _ _ _ us hl => match us, hl with | [_, _], _ => rfl)
theorem fE_classes (c : SaysK K o) : Fun K "classes" "classes" s_classes (He.fAd K ("classes", none)) (fdOf K ("classes", none)) := c.fun_ 5 (p := ("classes", none)) (x := "classes") (q := "classes") (st := s_classes) rfl
theorem bE_classes (c : SaysK K o) : Binds K (fdOf K ("classes", none)) ["machine"] [] := (fE_classes c).binds (fun _ _ _ _ _ _ us hl => match us, hl with | [_], _ => rfl)
theorem fE_met_states (c : SaysK K o) : Fun K "met_states" "met_states" s_met_states (He.fAd K ("met_states", none)) (fdOf K ("met_states", none)) := c.fun_ 6 (p := ("met_states", none)) (x := "met_states") (q := "met_states") (st := s_met_states) rfl
theorem bE_met_states (c : SaysK K o) : Binds K (fdOf K ("met_states", none)) ["machine", "groups"] [] := (fE_met_states c).binds (fun _ _ _ _ _ _ us hl => match us, hl with | [_, _], _ => rfl)
theorem fE_least (c : SaysK K o) : Fun K "least" "least" s_least (He.fAd K ("least", none)) (fdOf K ("least", none)) := c.fun_ 7 (p := ("least", none)) (x := "least") (q := "least") (st := s_least) rfl
theorem bE_least (c : SaysK K o) : Binds K (fdOf K ("least", none)) ["machine"] [] := (fE_least c).binds (fun _ _ _ _ _ _ us hl => match us, hl with | [_], _ => rfl)
theorem fE_is_word_machines (c : SaysK K o) : Fun K "is_word" "is_word" s_is_word_machines (He.fAd K ("is_word_machines", none)) (fdOf K ("is_word_machines", none)) := c.fun_ 8 (p := ("is_word_machines", none)) (x := "is_word") (q := "is_word") (st := s_is_word_machines) rfl
theorem bE_is_word_machines (c : SaysK K o) : Binds K (fdOf K ("is_word_machines", none)) ["word", "letters"] [] := (fE_is_word_machines c).binds (fun _ _ _ _ _ _ us hl => match us, hl with | [_, _], _ => rfl)
theorem fE_fits (c : SaysK K o) : Fun K "fits" "fits" s_fits (He.fAd K ("fits", none)) (fdOf K ("fits", none)) := c.fun_ 9 (p := ("fits", none)) (x := "fits") (q := "fits") (st := s_fits) rfl
theorem bE_fits (c : SaysK K o) : Binds K (fdOf K ("fits", none)) ["machine", "word"] [] := (fE_fits c).binds (fun _ _ _ _ _ _ us hl => match us, hl with | [_, _], _ => rfl)
theorem fE_check_fits (c : SaysK K o) : Fun K "check_fits" "check_fits" s_check_fits (He.fAd K ("check_fits", none)) (fdOf K ("check_fits", none)) := c.fun_ 10 (p := ("check_fits", none)) (x := "check_fits") (q := "check_fits") (st := s_check_fits) rfl
theorem bE_check_fits (c : SaysK K o) : Binds K (fdOf K ("check_fits", none)) ["machine", "word"] [] := (fE_check_fits c).binds (fun _ _ _ _ _ _ us hl => match us, hl with | [_, _], _ => rfl)
theorem fE_state_after (c : SaysK K o) : Fun K "state_after" "state_after" s_state_after (He.fAd K ("state_after", none)) (fdOf K ("state_after", none)) := c.fun_ 11 (p := ("state_after", none)) (x := "state_after") (q := "state_after") (st := s_state_after) rfl
theorem bE_state_after (c : SaysK K o) : Binds K (fdOf K ("state_after", none)) ["machine", "word"] [] := (fE_state_after c).binds (fun _ _ _ _ _ _ us hl => match us, hl with | [_, _], _ => rfl)
theorem fE_output_after (c : SaysK K o) : Fun K "output_after" "output_after" s_output_after (He.fAd K ("output_after", none)) (fdOf K ("output_after", none)) := c.fun_ 12 (p := ("output_after", none)) (x := "output_after") (q := "output_after") (st := s_output_after) rfl
theorem bE_output_after (c : SaysK K o) : Binds K (fdOf K ("output_after", none)) ["machine", "word"] [] := (fE_output_after c).binds (fun _ _ _ _ _ _ us hl => match us, hl with | [_, _], _ => rfl)
theorem fE_Table___init__ (c : SaysK K o) : Fun K "__init__" "Table.__init__" s_Table___init__ (He.fAd K ("Table", some "__init__")) (fdOf K ("Table", some "__init__")) := c.fun_ 13 (p := ("Table", some "__init__")) (x := "__init__") (q := "Table.__init__") (st := s_Table___init__) rfl
theorem bE_Table___init__ (c : SaysK K o) : Binds K (fdOf K ("Table", some "__init__")) ["self", "letters"] [] := (fE_Table___init__ c).binds (fun _ _ _ _ _ _ us hl => match us, hl with | [_, _], _ => rfl)
theorem fE_Table_state_words (c : SaysK K o) : Fun K "state_words" "Table.state_words" s_Table_state_words (He.fAd K ("Table", some "state_words")) (fdOf K ("Table", some "state_words")) := c.fun_ 14 (p := ("Table", some "state_words")) (x := "state_words") (q := "Table.state_words") (st := s_Table_state_words) rfl
theorem bE_Table_state_words (c : SaysK K o) : Binds K (fdOf K ("Table", some "state_words")) ["self"] [] := (fE_Table_state_words c).binds (fun _ _ _ _ _ _ us hl => match us, hl with | [_], _ => rfl)
theorem fE_Table_further_rows (c : SaysK K o) : Fun K "further_rows" "Table.further_rows" s_Table_further_rows (He.fAd K ("Table", some "further_rows")) (fdOf K ("Table", some "further_rows")) := c.fun_ 15 (p := ("Table", some "further_rows")) (x := "further_rows") (q := "Table.further_rows") (st := s_Table_further_rows) rfl
theorem bE_Table_further_rows (c : SaysK K o) : Binds K (fdOf K ("Table", some "further_rows")) ["self"] [] := (fE_Table_further_rows c).binds (fun _ _ _ _ _ _ us hl => match us, hl with | [_], _ => rfl)
theorem fE_Table_all_wanted (c : SaysK K o) : Fun K "all_wanted" "Table.all_wanted" s_Table_all_wanted (He.fAd K ("Table", some "all_wanted")) (fdOf K ("Table", some "all_wanted")) := c.fun_ 16 (p := ("Table", some "all_wanted")) (x := "all_wanted") (q := "Table.all_wanted") (st := s_Table_all_wanted) rfl
theorem bE_Table_all_wanted (c : SaysK K o) : Binds K (fdOf K ("Table", some "all_wanted")) ["self", "known"] [] := (fE_Table_all_wanted c).binds (fun _ _ _ _ _ _ us hl => match us, hl with | [_, _], _ => rfl)
theorem fE_Table_outputs_of (c : SaysK K o) : Fun K "outputs_of" "Table.outputs_of" s_Table_outputs_of (He.fAd K ("Table", some "outputs_of")) (fdOf K ("Table", some "outputs_of")) := c.fun_ 17 (p := ("Table", some "outputs_of")) (x := "outputs_of") (q := "Table.outputs_of") (st := s_Table_outputs_of) rfl
theorem bE_Table_outputs_of (c : SaysK K o) : Binds K (fdOf K ("Table", some "outputs_of")) ["self", "row", "known"] [] := (fE_Table_outputs_of c).binds (fun _ _ _ _ _ _ us hl => match us, hl with | [_, _, _], _ => rfl)
theorem fE_Table_numbers (c : SaysK K o) : Fun K "numbers" "Table.numbers" s_Table_numbers (He.fAd K ("Table", some "numbers")) (fdOf K ("Table", some "numbers")) := c.fun_ 18 (p := ("Table", some "numbers")) (x := "numbers") (q := "Table.numbers") (st := s_Table_numbers) rfl
theorem bE_Table_numbers (c : SaysK K o) : Binds K (fdOf K ("Table", some "numbers")) ["self", "known"] [] := (fE_Table_numbers c).binds (fun _ _ _ _ _ _ us hl => match us, hl with | [_, _], _ => rfl)
theorem fE_Table_extend (c : SaysK K o) : Fun K "extend" "Table.extend" s_Table_extend (He.fAd K ("Table", some "extend")) (fdOf K ("Table", some "extend")) := c.fun_ 19 (p := ("Table", some "extend")) (x := "extend") (q := "Table.extend") (st := s_Table_extend) rfl
theorem bE_Table_extend (c : SaysK K o) : Binds K (fdOf K ("Table", some "extend")) ["self", "known"] [] := (fE_Table_extend c).binds (fun _ _ _ _ _ _ us hl => match us, hl with | [_, _], _ => rfl)
theorem fE_Table_add_column (c : SaysK K o) : Fun K "add_column" "Table.add_column" s_Table_add_column (He.fAd K ("Table", some "add_column")) (fdOf K ("Table", some "add_column")) := c.fun_ 20 (p := ("Table", some "add_column")) (x := "add_column") (q := "Table.add_column") (st := s_Table_add_column) rfl
theorem bE_Table_add_column (c : SaysK K o) : Binds K (fdOf K ("Table", some "add_column")) ["self", "word"] [] := (fE_Table_add_column c).binds (fun _ _ _ _ _ _ us hl => match us, hl with | [_, _], _ => rfl)
theorem fE_Table_machine (c : SaysK K o) : Fun K "machine" "Table.machine" s_Table_machine (He.fAd K ("Table", some "machine")) (fdOf K ("Table", some "machine")) := c.fun_ 21 (p := ("Table", some "machine")) (x := "machine") (q := "Table.machine") (st := s_Table_machine) rfl
theorem bE_Table_machine (c : SaysK K o) : Binds K (fdOf K ("Table", some "machine")) ["self", "outs", "known"] [] := (fE_Table_machine c).binds (fun _ _ _ _ _ _ us hl => match us, hl with | [_, _, _], _ => rfl)
theorem fE_Table_mistake (c : SaysK K o) : Fun K "mistake" "Table.mistake" s_Table_mistake (He.fAd K ("Table", some "mistake")) (fdOf K ("Table", some "mistake")) := c.fun_ 22 (p := ("Table", some "mistake")) (x := "mistake") (q := "Table.mistake") (st := s_Table_mistake) rfl
theorem bE_Table_mistake (c : SaysK K o) : Binds K (fdOf K ("Table", some "mistake")) ["self", "outs", "known"] [] := (fE_Table_mistake c).binds (fun _ _ _ _ _ _ us hl => match us, hl with | [_, _, _], _ => rfl)
theorem fE_is_word_asker (c : SaysK K o) : Fun K "is_word" "is_word" s_is_word_asker (He.fAd K ("is_word_asker", none)) (fdOf K ("is_word_asker", none)) := c.fun_ 23 (p := ("is_word_asker", none)) (x := "is_word") (q := "is_word") (st := s_is_word_asker) rfl
theorem bE_is_word_asker (c : SaysK K o) : Binds K (fdOf K ("is_word_asker", none)) ["word", "letters", "longest"] [] := (fE_is_word_asker c).binds (fun _ _ _ _ _ _ us hl => match us, hl with | [_, _, _], _ => rfl)
theorem fE_digits_of (c : SaysK K o) : Fun K "digits_of" "digits_of" s_digits_of (He.fAd K ("digits_of", none)) (fdOf K ("digits_of", none)) := c.fun_ 24 (p := ("digits_of", none)) (x := "digits_of") (q := "digits_of") (st := s_digits_of) rfl
theorem bE_digits_of (c : SaysK K o) : Binds K (fdOf K ("digits_of", none)) ["word"] [] := (fE_digits_of c).binds (fun _ _ _ _ _ _ us hl => match us, hl with | [_], _ => rfl)
theorem fE_read_known (c : SaysK K o) : Fun K "read_known" "read_known" s_read_known (He.fAd K ("read_known", none)) (fdOf K ("read_known", none)) := c.fun_ 25 (p := ("read_known", none)) (x := "read_known") (q := "read_known") (st := s_read_known) rfl
theorem bE_read_known (c : SaysK K o) : Binds K (fdOf K ("read_known", none)) ["letters", "outs", "known"] [] := (fE_read_known c).binds (fun _ _ _ _ _ _ us hl => match us, hl with | [_, _, _], _ => rfl)
theorem fE_Asker___init__ (c : SaysK K o) : Fun K "__init__" "Asker.__init__" s_Asker___init__ (He.fAd K ("Asker", some "__init__")) (fdOf K ("Asker", some "__init__")) := c.fun_ 26 (p := ("Asker", some "__init__")) (x := "__init__") (q := "Asker.__init__") (st := s_Asker___init__) rfl
theorem bE_Asker___init__ (c : SaysK K o) : Binds K (fdOf K ("Asker", some "__init__")) ["self", "letters", "outs", "most", "known"] [] := (fE_Asker___init__ c).binds (fun _ _ _ _ _ _ us hl => match us, hl with | [_, _, _, _, _], _ => rfl)
theorem fE_Asker_step (c : SaysK K o) : Fun K "step" "Asker.step" s_Asker_step (He.fAd K ("Asker", some "step")) (fdOf K ("Asker", some "step")) := c.fun_ 27 (p := ("Asker", some "step")) (x := "step") (q := "Asker.step") (st := s_Asker_step) rfl
theorem bE_Asker_step (c : SaysK K o) : Binds K (fdOf K ("Asker", some "step")) ["self"] [] := (fE_Asker_step c).binds (fun _ _ _ _ _ _ us hl => match us, hl with | [_], _ => rfl)
theorem fE_Asker_need (c : SaysK K o) : Fun K "need" "Asker.need" s_Asker_need (He.fAd K ("Asker", some "need")) (fdOf K ("Asker", some "need")) := c.fun_ 28 (p := ("Asker", some "need")) (x := "need") (q := "Asker.need") (st := s_Asker_need) rfl
theorem bE_Asker_need (c : SaysK K o) : Binds K (fdOf K ("Asker", some "need")) ["self", "kind"] [] := (fE_Asker_need c).binds (fun _ _ _ _ _ _ us hl => match us, hl with | [_, _], _ => rfl)
theorem fE_Asker_answer (c : SaysK K o) : Fun K "answer" "Asker.answer" s_Asker_answer (He.fAd K ("Asker", some "answer")) (fdOf K ("Asker", some "answer")) := c.fun_ 29 (p := ("Asker", some "answer")) (x := "answer") (q := "Asker.answer") (st := s_Asker_answer) rfl
theorem bE_Asker_answer (c : SaysK K o) : Binds K (fdOf K ("Asker", some "answer")) ["self", "output"] [] := (fE_Asker_answer c).binds (fun _ _ _ _ _ _ us hl => match us, hl with | [_, _], _ => rfl)
theorem fE_Asker_accept (c : SaysK K o) : Fun K "accept" "Asker.accept" s_Asker_accept (He.fAd K ("Asker", some "accept")) (fdOf K ("Asker", some "accept")) := c.fun_ 30 (p := ("Asker", some "accept")) (x := "accept") (q := "Asker.accept") (st := s_Asker_accept) rfl
theorem bE_Asker_accept (c : SaysK K o) : Binds K (fdOf K ("Asker", some "accept")) ["self"] [] := (fE_Asker_accept c).binds (fun _ _ _ _ _ _ us hl => match us, hl with | [_], _ => rfl)
theorem fE_Asker_show (c : SaysK K o) : Fun K "show" "Asker.show" s_Asker_show (He.fAd K ("Asker", some "show")) (fdOf K ("Asker", some "show")) := c.fun_ 31 (p := ("Asker", some "show")) (x := "show") (q := "Asker.show") (st := s_Asker_show) rfl
theorem bE_Asker_show (c : SaysK K o) : Binds K (fdOf K ("Asker", some "show")) ["self", "word"] [] := (fE_Asker_show c).binds (fun _ _ _ _ _ _ us hl => match us, hl with | [_, _], _ => rfl)
theorem fE_Asker__next_step (c : SaysK K o) : Fun K "_next_step" "Asker._next_step" s_Asker__next_step (He.fAd K ("Asker", some "_next_step")) (fdOf K ("Asker", some "_next_step")) := c.fun_ 32 (p := ("Asker", some "_next_step")) (x := "_next_step") (q := "Asker._next_step") (st := s_Asker__next_step) rfl
theorem bE_Asker__next_step (c : SaysK K o) : Binds K (fdOf K ("Asker", some "_next_step")) ["self"] [] := (fE_Asker__next_step c).binds (fun _ _ _ _ _ _ us hl => match us, hl with | [_], _ => rfl)
theorem fE_Asker__fill (c : SaysK K o) : Fun K "_fill" "Asker._fill" s_Asker__fill (He.fAd K ("Asker", some "_fill")) (fdOf K ("Asker", some "_fill")) := c.fun_ 33 (p := ("Asker", some "_fill")) (x := "_fill") (q := "Asker._fill") (st := s_Asker__fill) rfl
theorem bE_Asker__fill (c : SaysK K o) : Binds K (fdOf K ("Asker", some "_fill")) ["self"] [] := (fE_Asker__fill c).binds (fun _ _ _ _ _ _ us hl => match us, hl with | [_], _ => rfl)
theorem fE_Asker__judge (c : SaysK K o) : Fun K "_judge" "Asker._judge" s_Asker__judge (He.fAd K ("Asker", some "_judge")) (fdOf K ("Asker", some "_judge")) := c.fun_ 34 (p := ("Asker", some "_judge")) (x := "_judge") (q := "Asker._judge") (st := s_Asker__judge) rfl
theorem bE_Asker__judge (c : SaysK K o) : Binds K (fdOf K ("Asker", some "_judge")) ["self"] [] := (fE_Asker__judge c).binds (fun _ _ _ _ _ _ us hl => match us, hl with | [_], _ => rfl)
theorem fE_Asker__path (c : SaysK K o) : Fun K "_path" "Asker._path" s_Asker__path (He.fAd K ("Asker", some "_path")) (fdOf K ("Asker", some "_path")) := c.fun_ 35 (p := ("Asker", some "_path")) (x := "_path") (q := "Asker._path") (st := s_Asker__path) rfl
theorem bE_Asker__path (c : SaysK K o) : Binds K (fdOf K ("Asker", some "_path")) ["self", "state", "word"] [] := (fE_Asker__path c).binds (fun _ _ _ _ _ _ us hl => match us, hl with | [_, _, _], _ => rfl)
theorem fE_Asker__begin (c : SaysK K o) : Fun K "_begin" "Asker._begin" s_Asker__begin (He.fAd K ("Asker", some "_begin")) (fdOf K ("Asker", some "_begin")) := c.fun_ 36 (p := ("Asker", some "_begin")) (x := "_begin") (q := "Asker._begin") (st := s_Asker__begin) rfl
theorem bE_Asker__begin (c : SaysK K o) : Binds K (fdOf K ("Asker", some "_begin")) ["self", "state", "word"] [] := (fE_Asker__begin c).binds (fun _ _ _ _ _ _ us hl => match us, hl with | [_, _, _], _ => rfl)
theorem fE_Asker__look (c : SaysK K o) : Fun K "_look" "Asker._look" s_Asker__look (He.fAd K ("Asker", some "_look")) (fdOf K ("Asker", some "_look")) := c.fun_ 37 (p := ("Asker", some "_look")) (x := "_look") (q := "Asker._look") (st := s_Asker__look) rfl
theorem bE_Asker__look (c : SaysK K o) : Binds K (fdOf K ("Asker", some "_look")) ["self"] [] := (fE_Asker__look c).binds (fun _ _ _ _ _ _ us hl => match us, hl with | [_], _ => rfl)
theorem fE_search (c : SaysK K o) : Fun K "search" "search" s_search (He.fAd K ("search", none)) (fdOf K ("search", none)) := c.fun_ 38 (p := ("search", none)) (x := "search") (q := "search") (st := s_search) rfl
theorem bE_search (c : SaysK K o) : Binds K (fdOf K ("search", none)) ["first", "second", "state", "other"] [] := (fE_search c).binds (fun _ _ _ _ _ _ us hl => match us, hl with | [_, _, _, _], _ => rfl)
theorem fE_parting_word (c : SaysK K o) : Fun K "parting_word" "parting_word" s_parting_word (He.fAd K ("parting_word", none)) (fdOf K ("parting_word", none)) := c.fun_ 39 (p := ("parting_word", none)) (x := "parting_word") (q := "parting_word") (st := s_parting_word) rfl
theorem bE_parting_word (c : SaysK K o) : Binds K (fdOf K ("parting_word", none)) ["machine", "state", "other"] [] := (fE_parting_word c).binds (fun _ _ _ _ _ _ us hl => match us, hl with | [_, _, _], _ => rfl)
theorem fE_ways_to (c : SaysK K o) : Fun K "ways_to" "ways_to" s_ways_to (He.fAd K ("ways_to", none)) (fdOf K ("ways_to", none)) := c.fun_ 40 (p := ("ways_to", none)) (x := "ways_to") (q := "ways_to") (st := s_ways_to) rfl
theorem bE_ways_to (c : SaysK K o) : Binds K (fdOf K ("ways_to", none)) ["machine"] [] := (fE_ways_to c).binds (fun _ _ _ _ _ _ us hl => match us, hl with | [_], _ => rfl)
theorem fE_outputs_from (c : SaysK K o) : Fun K "outputs_from" "outputs_from" s_outputs_from (He.fAd K ("outputs_from", none)) (fdOf K ("outputs_from", none)) := c.fun_ 41 (p := ("outputs_from", none)) (x := "outputs_from") (q := "outputs_from") (st := s_outputs_from) rfl
theorem bE_outputs_from (c : SaysK K o) : Binds K (fdOf K ("outputs_from", none)) ["machine", "state", "word"] [] := (fE_outputs_from c).binds (fun _ _ _ _ _ _ us hl => match us, hl with | [_, _, _], _ => rfl)
theorem fE_in_order (c : SaysK K o) : Fun K "in_order" "in_order" s_in_order (He.fAd K ("in_order", none)) (fdOf K ("in_order", none)) := c.fun_ 42 (p := ("in_order", none)) (x := "in_order") (q := "in_order") (st := s_in_order) rfl
theorem bE_in_order (c : SaysK K o) : Binds K (fdOf K ("in_order", none)) ["words"] [] := (fE_in_order c).binds (fun _ _ _ _ _ _ us hl => match us, hl with | [_], _ => rfl)
theorem fE_telling_words (c : SaysK K o) : Fun K "telling_words" "telling_words" s_telling_words (He.fAd K ("telling_words", none)) (fdOf K ("telling_words", none)) := c.fun_ 43 (p := ("telling_words", none)) (x := "telling_words") (q := "telling_words") (st := s_telling_words) rfl
theorem bE_telling_words (c : SaysK K o) : Binds K (fdOf K ("telling_words", none)) ["machine"] [] := (fE_telling_words c).binds (fun _ _ _ _ _ _ us hl => match us, hl with | [_], _ => rfl)
theorem fE_all_words (c : SaysK K o) : Fun K "all_words" "all_words" s_all_words (He.fAd K ("all_words", none)) (fdOf K ("all_words", none)) := c.fun_ 44 (p := ("all_words", none)) (x := "all_words") (q := "all_words") (st := s_all_words) rfl
theorem bE_all_words (c : SaysK K o) : Binds K (fdOf K ("all_words", none)) ["letters", "most"] [] := (fE_all_words c).binds (fun _ _ _ _ _ _ us hl => match us, hl with | [_, _], _ => rfl)
theorem fE_most_words (c : SaysK K o) : Fun K "most_words" "most_words" s_most_words (He.fAd K ("most_words", none)) (fdOf K ("most_words", none)) := c.fun_ 45 (p := ("most_words", none)) (x := "most_words") (q := "most_words") (st := s_most_words) rfl
theorem bE_most_words (c : SaysK K o) : Binds K (fdOf K ("most_words", none)) ["states", "letters", "extra"] [] := (fE_most_words c).binds (fun _ _ _ _ _ _ us hl => match us, hl with | [_, _, _], _ => rfl)
theorem fE_suite_words (c : SaysK K o) : Fun K "suite_words" "suite_words" s_suite_words (He.fAd K ("suite_words", none)) (fdOf K ("suite_words", none)) := c.fun_ 46 (p := ("suite_words", none)) (x := "suite_words") (q := "suite_words") (st := s_suite_words) rfl
theorem bE_suite_words (c : SaysK K o) : Binds K (fdOf K ("suite_words", none)) ["machine", "extra"] [] := (fE_suite_words c).binds (fun _ _ _ _ _ _ us hl => match us, hl with | [_, _], _ => rfl)
theorem fE_list_bound (c : SaysK K o) : Fun K "list_bound" "list_bound" s_list_bound (He.fAd K ("list_bound", none)) (fdOf K ("list_bound", none)) := c.fun_ 47 (p := ("list_bound", none)) (x := "list_bound") (q := "list_bound") (st := s_list_bound) rfl
theorem bE_list_bound (c : SaysK K o) : Binds K (fdOf K ("list_bound", none)) ["states", "letters", "extra"] [] := (fE_list_bound c).binds (fun _ _ _ _ _ _ us hl => match us, hl with | [_, _, _], _ => rfl)
theorem fE_TestedAsker___init__ (c : SaysK K o) : Fun K "__init__" "TestedAsker.__init__" s_TestedAsker___init__ (He.fAd K ("TestedAsker", some "__init__")) (fdOf K ("TestedAsker", some "__init__")) := c.fun_ 48 (p := ("TestedAsker", some "__init__")) (x := "__init__") (q := "TestedAsker.__init__") (st := s_TestedAsker___init__) rfl
theorem bE_TestedAsker___init__ (c : SaysK K o) : Binds K (fdOf K ("TestedAsker", some "__init__")) ["self", "letters", "outs", "most"] [] := (fE_TestedAsker___init__ c).binds (fun _ _ _ _ _ _ us hl => match us, hl with | [_, _, _, _], _ => rfl)
theorem fE_TestedAsker__go_on (c : SaysK K o) : Fun K "_go_on" "TestedAsker._go_on" s_TestedAsker__go_on (He.fAd K ("TestedAsker", some "_go_on")) (fdOf K ("TestedAsker", some "_go_on")) := c.fun_ 49 (p := ("TestedAsker", some "_go_on")) (x := "_go_on") (q := "TestedAsker._go_on") (st := s_TestedAsker__go_on) rfl
theorem bE_TestedAsker__go_on (c : SaysK K o) : Binds K (fdOf K ("TestedAsker", some "_go_on")) ["self"] [] := (fE_TestedAsker__go_on c).binds (fun _ _ _ _ _ _ us hl => match us, hl with | [_], _ => rfl)
theorem fE_TestedAsker__test (c : SaysK K o) : Fun K "_test" "TestedAsker._test" s_TestedAsker__test (He.fAd K ("TestedAsker", some "_test")) (fdOf K ("TestedAsker", some "_test")) := c.fun_ 50 (p := ("TestedAsker", some "_test")) (x := "_test") (q := "TestedAsker._test") (st := s_TestedAsker__test) rfl
theorem bE_TestedAsker__test (c : SaysK K o) : Binds K (fdOf K ("TestedAsker", some "_test")) ["self", "machine"] [] := (fE_TestedAsker__test c).binds (fun _ _ _ _ _ _ us hl => match us, hl with | [_, _], _ => rfl)
theorem fE_TestedAsker_step (c : SaysK K o) : Fun K "step" "TestedAsker.step" s_TestedAsker_step (He.fAd K ("TestedAsker", some "step")) (fdOf K ("TestedAsker", some "step")) := c.fun_ 51 (p := ("TestedAsker", some "step")) (x := "step") (q := "TestedAsker.step") (st := s_TestedAsker_step) rfl
theorem bE_TestedAsker_step (c : SaysK K o) : Binds K (fdOf K ("TestedAsker", some "step")) ["self"] [] := (fE_TestedAsker_step c).binds (fun _ _ _ _ _ _ us hl => match us, hl with | [_], _ => rfl)
theorem fE_TestedAsker_answer (c : SaysK K o) : Fun K "answer" "TestedAsker.answer" s_TestedAsker_answer (He.fAd K ("TestedAsker", some "answer")) (fdOf K ("TestedAsker", some "answer")) := c.fun_ 52 (p := ("TestedAsker", some "answer")) (x := "answer") (q := "TestedAsker.answer") (st := s_TestedAsker_answer) rfl
theorem bE_TestedAsker_answer (c : SaysK K o) : Binds K (fdOf K ("TestedAsker", some "answer")) ["self", "output"] [] := (fE_TestedAsker_answer c).binds (fun _ _ _ _ _ _ us hl => match us, hl with | [_, _], _ => rfl)
theorem fE_TestedAsker_accept (c : SaysK K o) : Fun K "accept" "TestedAsker.accept" s_TestedAsker_accept (He.fAd K ("TestedAsker", some "accept")) (fdOf K ("TestedAsker", some "accept")) := c.fun_ 53 (p := ("TestedAsker", some "accept")) (x := "accept") (q := "TestedAsker.accept") (st := s_TestedAsker_accept) rfl
theorem bE_TestedAsker_accept (c : SaysK K o) : Binds K (fdOf K ("TestedAsker", some "accept")) ["self"] [] := (fE_TestedAsker_accept c).binds (fun _ _ _ _ _ _ us hl => match us, hl with | [_], _ => rfl)
theorem fE_TestedAsker_show (c : SaysK K o) : Fun K "show" "TestedAsker.show" s_TestedAsker_show (He.fAd K ("TestedAsker", some "show")) (fdOf K ("TestedAsker", some "show")) := c.fun_ 54 (p := ("TestedAsker", some "show")) (x := "show") (q := "TestedAsker.show") (st := s_TestedAsker_show) rfl
theorem bE_TestedAsker_show (c : SaysK K o) : Binds K (fdOf K ("TestedAsker", some "show")) ["self", "word"] [] := (fE_TestedAsker_show c).binds (fun _ _ _ _ _ _ us hl => match us, hl with | [_, _], _ => rfl)
theorem fE_TestedAsker_report (c : SaysK K o) : Fun K "report" "TestedAsker.report" s_TestedAsker_report (He.fAd K ("TestedAsker", some "report")) (fdOf K ("TestedAsker", some "report")) := c.fun_ 55 (p := ("TestedAsker", some "report")) (x := "report") (q := "TestedAsker.report") (st := s_TestedAsker_report) rfl
theorem bE_TestedAsker_report (c : SaysK K o) : Binds K (fdOf K ("TestedAsker", some "report")) ["self"] [] := (fE_TestedAsker_report c).binds (fun _ _ _ _ _ _ us hl => match us, hl with | [_], _ => rfl)
theorem fE_beginnings_of (c : SaysK K o) : Fun K "beginnings_of" "beginnings_of" s_beginnings_of (He.fAd K ("beginnings_of", none)) (fdOf K ("beginnings_of", none)) := c.fun_ 56 (p := ("beginnings_of", none)) (x := "beginnings_of") (q := "beginnings_of") (st := s_beginnings_of) rfl
theorem bE_beginnings_of (c : SaysK K o) : Binds K (fdOf K ("beginnings_of", none)) ["words"] [] := (fE_beginnings_of c).binds (fun _ _ _ _ _ _ us hl => match us, hl with | [_], _ => rfl)
theorem fE__law_row (c : SaysK K o) : Fun K "_law_row" "_law_row" s__law_row (He.fAd K ("_law_row", none)) (fdOf K ("_law_row", none)) := c.fun_ 57 (p := ("_law_row", none)) (x := "_law_row") (q := "_law_row") (st := s__law_row) rfl
theorem bE__law_row (c : SaysK K o) : Binds K (fdOf K ("_law_row", none)) ["_law_script"] [] := (fE__law_row c).binds (fun _ _ _ _ _ _ us hl => match us, hl with | [_], _ => rfl)
theorem fE__law_at (c : SaysK K o) : Fun K "_law_at" "_law_at" s__law_at (He.fAd K ("_law_at", none)) (fdOf K ("_law_at", none)) := c.fun_ 58 (p := ("_law_at", none)) (x := "_law_at") (q := "_law_at") (st := s__law_at) rfl
theorem bE__law_at (c : SaysK K o) : Binds K (fdOf K ("_law_at", none)) ["_law_row_here", "_law_at_here"] [] := (fE__law_at c).binds (fun _ _ _ _ _ _ us hl => match us, hl with | [_, _], _ => rfl)
theorem fE__law_machine (c : SaysK K o) : Fun K "_law_machine" "_law_machine" s__law_machine (He.fAd K ("_law_machine", none)) (fdOf K ("_law_machine", none)) := c.fun_ 59 (p := ("_law_machine", none)) (x := "_law_machine") (q := "_law_machine") (st := s__law_machine) rfl
theorem bE__law_machine (c : SaysK K o) : Binds K (fdOf K ("_law_machine", none)) ["_law_row_here", "_law_at_here", "_law_letters", "_law_outs", "_law_states"] [] := (fE__law_machine c).binds (fun _ _ _ _ _ _ us hl => match us, hl with | [_, _, _, _, _], _ => rfl)
theorem fE__law_state (c : SaysK K o) : Fun K "_law_state" "_law_state" s__law_state (He.fAd K ("_law_state", none)) (fdOf K ("_law_state", none)) := c.fun_ 60 (p := ("_law_state", none)) (x := "_law_state") (q := "_law_state") (st := s__law_state) rfl
theorem bE__law_state (c : SaysK K o) : Binds K (fdOf K ("_law_state", none)) ["_law_machine_here", "_law_word"] [] := (fE__law_state c).binds (fun _ _ _ _ _ _ us hl => match us, hl with | [_, _], _ => rfl)
theorem fE__law_output (c : SaysK K o) : Fun K "_law_output" "_law_output" s__law_output (He.fAd K ("_law_output", none)) (fdOf K ("_law_output", none)) := c.fun_ 61 (p := ("_law_output", none)) (x := "_law_output") (q := "_law_output") (st := s__law_output) rfl
theorem bE__law_output (c : SaysK K o) : Binds K (fdOf K ("_law_output", none)) ["_law_machine_here", "_law_word"] [] := (fE__law_output c).binds (fun _ _ _ _ _ _ us hl => match us, hl with | [_, _], _ => rfl)
theorem fE__law_classes (c : SaysK K o) : Fun K "_law_classes" "_law_classes" s__law_classes (He.fAd K ("_law_classes", none)) (fdOf K ("_law_classes", none)) := c.fun_ 62 (p := ("_law_classes", none)) (x := "_law_classes") (q := "_law_classes") (st := s__law_classes) rfl
theorem bE__law_classes (c : SaysK K o) : Binds K (fdOf K ("_law_classes", none)) ["_law_machine_here"] [] := (fE__law_classes c).binds (fun _ _ _ _ _ _ us hl => match us, hl with | [_], _ => rfl)
theorem fE__law_least (c : SaysK K o) : Fun K "_law_least" "_law_least" s__law_least (He.fAd K ("_law_least", none)) (fdOf K ("_law_least", none)) := c.fun_ 63 (p := ("_law_least", none)) (x := "_law_least") (q := "_law_least") (st := s__law_least) rfl
theorem bE__law_least (c : SaysK K o) : Binds K (fdOf K ("_law_least", none)) ["_law_machine_here"] [] := (fE__law_least c).binds (fun _ _ _ _ _ _ us hl => match us, hl with | [_], _ => rfl)
theorem fE__law_misfit (c : SaysK K o) : Fun K "_law_misfit" "_law_misfit" s__law_misfit (He.fAd K ("_law_misfit", none)) (fdOf K ("_law_misfit", none)) := c.fun_ 64 (p := ("_law_misfit", none)) (x := "_law_misfit") (q := "_law_misfit") (st := s__law_misfit) rfl
theorem bE__law_misfit (c : SaysK K o) : Binds K (fdOf K ("_law_misfit", none)) ["_law_asker", "_law_kind"] [] := (fE__law_misfit c).binds (fun _ _ _ _ _ _ us hl => match us, hl with | [_, _], _ => rfl)
theorem fE_law (c : SaysK K o) : Fun K "law" "law" s_law (He.fAd K ("law", none)) (fdOf K ("law", none)) := c.fun_ 65 (p := ("law", none)) (x := "law") (q := "law") (st := s_law) rfl
theorem bE_law (c : SaysK K o) : Binds K (fdOf K ("law", none)) ["_law_script"] [] := (fE_law c).binds (fun _ _ _ _ _ _ us hl => match us, hl with | [_], _ => rfl)
theorem txE {base : Heap} (X : K.In h) (G : h.Ns mainGlobals mg) (c : SaysK K o) (TB : LamX.TabB base mg (cAd K) (pAd K)) : TX K mg base (aE K mg) (dE K) where
  F_Halving___init__ := fE_Halving___init__ c
  B_Halving___init__ := bE_Halving___init__ c
  F_Halving_place := fE_Halving_place c
  B_Halving_place := bE_Halving_place c
  M_Halving_place := He.meth_ok (c.fact 0 (f := .meth "Halving" "place") rfl)
  F_Halving_tell := fE_Halving_tell c
  B_Halving_tell := bE_Halving_tell c
  M_Halving_tell := He.meth_ok (c.fact 1 (f := .meth "Halving" "tell") rfl)
  F_Halving_found := fE_Halving_found c
  B_Halving_found := bE_Halving_found c
  M_Halving_found := He.meth_ok (c.fact 2 (f := .meth "Halving" "found") rfl)
  F_refined := fE_refined c
  B_refined := bE_refined c
  g_refined := He.glo_ok X G (c.fact 3 (f := .glo "refined") rfl)
  F_classes := fE_classes c
  B_classes := bE_classes c
  g_classes := He.glo_ok X G (c.fact 4 (f := .glo "classes") rfl)
  F_met_states := fE_met_states c
  B_met_states := bE_met_states c
  g_met_states := He.glo_ok X G (c.fact 5 (f := .glo "met_states") rfl)
  F_least := fE_least c
  B_least := bE_least c
  g_least := He.glo_ok X G (c.fact 6 (f := .glo "least") rfl)
  F_is_word_machines := fE_is_word_machines c
  B_is_word_machines := bE_is_word_machines c
  g_is_word_machines := He.glo_ok X G (c.fact 7 (f := .glo "is_word_machines") rfl)
  F_fits := fE_fits c
  B_fits := bE_fits c
  g_fits := He.glo_ok X G (c.fact 8 (f := .glo "fits") rfl)
  F_check_fits := fE_check_fits c
  B_check_fits := bE_check_fits c
  g_check_fits := He.glo_ok X G (c.fact 9 (f := .glo "check_fits") rfl)
  F_state_after := fE_state_after c
  B_state_after := bE_state_after c
  g_state_after := He.glo_ok X G (c.fact 10 (f := .glo "state_after") rfl)
  F_output_after := fE_output_after c
  B_output_after := bE_output_after c
  g_output_after := He.glo_ok X G (c.fact 11 (f := .glo "output_after") rfl)
  F_Table___init__ := fE_Table___init__ c
  B_Table___init__ := bE_Table___init__ c
  F_Table_state_words := fE_Table_state_words c
  B_Table_state_words := bE_Table_state_words c
  M_Table_state_words := He.meth_ok (c.fact 12 (f := .meth "Table" "state_words") rfl)
  F_Table_further_rows := fE_Table_further_rows c
  B_Table_further_rows := bE_Table_further_rows c
  M_Table_further_rows := He.meth_ok (c.fact 13 (f := .meth "Table" "further_rows") rfl)
  F_Table_all_wanted := fE_Table_all_wanted c
  B_Table_all_wanted := bE_Table_all_wanted c
  M_Table_all_wanted := He.meth_ok (c.fact 14 (f := .meth "Table" "all_wanted") rfl)
  F_Table_outputs_of := fE_Table_outputs_of c
  B_Table_outputs_of := bE_Table_outputs_of c
  M_Table_outputs_of := He.meth_ok (c.fact 15 (f := .meth "Table" "outputs_of") rfl)
  F_Table_numbers := fE_Table_numbers c
  B_Table_numbers := bE_Table_numbers c
  M_Table_numbers := He.meth_ok (c.fact 16 (f := .meth "Table" "numbers") rfl)
  F_Table_extend := fE_Table_extend c
  B_Table_extend := bE_Table_extend c
  M_Table_extend := He.meth_ok (c.fact 17 (f := .meth "Table" "extend") rfl)
  F_Table_add_column := fE_Table_add_column c
  B_Table_add_column := bE_Table_add_column c
  M_Table_add_column := He.meth_ok (c.fact 18 (f := .meth "Table" "add_column") rfl)
  F_Table_machine := fE_Table_machine c
  B_Table_machine := bE_Table_machine c
  M_Table_machine := He.meth_ok (c.fact 19 (f := .meth "Table" "machine") rfl)
  F_Table_mistake := fE_Table_mistake c
  B_Table_mistake := bE_Table_mistake c
  M_Table_mistake := He.meth_ok (c.fact 20 (f := .meth "Table" "mistake") rfl)
  F_is_word_asker := fE_is_word_asker c
  B_is_word_asker := bE_is_word_asker c
  g_is_word_asker := He.glo_ok X G (c.fact 21 (f := .glo "is_word_asker") rfl)
  F_digits_of := fE_digits_of c
  B_digits_of := bE_digits_of c
  g_digits_of := He.glo_ok X G (c.fact 22 (f := .glo "digits_of") rfl)
  F_read_known := fE_read_known c
  B_read_known := bE_read_known c
  g_read_known := He.glo_ok X G (c.fact 23 (f := .glo "read_known") rfl)
  F_Asker___init__ := fE_Asker___init__ c
  B_Asker___init__ := bE_Asker___init__ c
  F_Asker_step := fE_Asker_step c
  B_Asker_step := bE_Asker_step c
  M_Asker_step := He.meth_ok (c.fact 24 (f := .meth "Asker" "step") rfl)
  F_Asker_need := fE_Asker_need c
  B_Asker_need := bE_Asker_need c
  M_Asker_need := He.meth_ok (c.fact 25 (f := .meth "Asker" "need") rfl)
  F_Asker_answer := fE_Asker_answer c
  B_Asker_answer := bE_Asker_answer c
  M_Asker_answer := He.meth_ok (c.fact 26 (f := .meth "Asker" "answer") rfl)
  F_Asker_accept := fE_Asker_accept c
  B_Asker_accept := bE_Asker_accept c
  M_Asker_accept := He.meth_ok (c.fact 27 (f := .meth "Asker" "accept") rfl)
  F_Asker_show := fE_Asker_show c
  B_Asker_show := bE_Asker_show c
  M_Asker_show := He.meth_ok (c.fact 28 (f := .meth "Asker" "show") rfl)
  F_Asker__next_step := fE_Asker__next_step c
  B_Asker__next_step := bE_Asker__next_step c
  M_Asker__next_step := He.meth_ok (c.fact 29 (f := .meth "Asker" "_next_step") rfl)
  F_Asker__fill := fE_Asker__fill c
  B_Asker__fill := bE_Asker__fill c
  M_Asker__fill := He.meth_ok (c.fact 30 (f := .meth "Asker" "_fill") rfl)
  F_Asker__judge := fE_Asker__judge c
  B_Asker__judge := bE_Asker__judge c
  M_Asker__judge := He.meth_ok (c.fact 31 (f := .meth "Asker" "_judge") rfl)
  F_Asker__path := fE_Asker__path c
  B_Asker__path := bE_Asker__path c
  M_Asker__path := He.meth_ok (c.fact 32 (f := .meth "Asker" "_path") rfl)
  F_Asker__begin := fE_Asker__begin c
  B_Asker__begin := bE_Asker__begin c
  M_Asker__begin := He.meth_ok (c.fact 33 (f := .meth "Asker" "_begin") rfl)
  F_Asker__look := fE_Asker__look c
  B_Asker__look := bE_Asker__look c
  M_Asker__look := He.meth_ok (c.fact 34 (f := .meth "Asker" "_look") rfl)
  F_search := fE_search c
  B_search := bE_search c
  g_search := He.glo_ok X G (c.fact 35 (f := .glo "search") rfl)
  F_parting_word := fE_parting_word c
  B_parting_word := bE_parting_word c
  g_parting_word := He.glo_ok X G (c.fact 36 (f := .glo "parting_word") rfl)
  F_ways_to := fE_ways_to c
  B_ways_to := bE_ways_to c
  g_ways_to := He.glo_ok X G (c.fact 37 (f := .glo "ways_to") rfl)
  F_outputs_from := fE_outputs_from c
  B_outputs_from := bE_outputs_from c
  g_outputs_from := He.glo_ok X G (c.fact 38 (f := .glo "outputs_from") rfl)
  F_in_order := fE_in_order c
  B_in_order := bE_in_order c
  g_in_order := He.glo_ok X G (c.fact 39 (f := .glo "in_order") rfl)
  F_telling_words := fE_telling_words c
  B_telling_words := bE_telling_words c
  g_telling_words := He.glo_ok X G (c.fact 40 (f := .glo "telling_words") rfl)
  F_all_words := fE_all_words c
  B_all_words := bE_all_words c
  g_all_words := He.glo_ok X G (c.fact 41 (f := .glo "all_words") rfl)
  F_most_words := fE_most_words c
  B_most_words := bE_most_words c
  g_most_words := He.glo_ok X G (c.fact 42 (f := .glo "most_words") rfl)
  F_suite_words := fE_suite_words c
  B_suite_words := bE_suite_words c
  g_suite_words := He.glo_ok X G (c.fact 43 (f := .glo "suite_words") rfl)
  F_list_bound := fE_list_bound c
  B_list_bound := bE_list_bound c
  g_list_bound := He.glo_ok X G (c.fact 44 (f := .glo "list_bound") rfl)
  F_TestedAsker___init__ := fE_TestedAsker___init__ c
  B_TestedAsker___init__ := bE_TestedAsker___init__ c
  F_TestedAsker__go_on := fE_TestedAsker__go_on c
  B_TestedAsker__go_on := bE_TestedAsker__go_on c
  M_TestedAsker__go_on := He.meth_ok (c.fact 45 (f := .meth "TestedAsker" "_go_on") rfl)
  F_TestedAsker__test := fE_TestedAsker__test c
  B_TestedAsker__test := bE_TestedAsker__test c
  M_TestedAsker__test := He.meth_ok (c.fact 46 (f := .meth "TestedAsker" "_test") rfl)
  F_TestedAsker_step := fE_TestedAsker_step c
  B_TestedAsker_step := bE_TestedAsker_step c
  M_TestedAsker_step := He.meth_ok (c.fact 47 (f := .meth "TestedAsker" "step") rfl)
  F_TestedAsker_answer := fE_TestedAsker_answer c
  B_TestedAsker_answer := bE_TestedAsker_answer c
  M_TestedAsker_answer := He.meth_ok (c.fact 48 (f := .meth "TestedAsker" "answer") rfl)
  F_TestedAsker_accept := fE_TestedAsker_accept c
  B_TestedAsker_accept := bE_TestedAsker_accept c
  M_TestedAsker_accept := He.meth_ok (c.fact 49 (f := .meth "TestedAsker" "accept") rfl)
  F_TestedAsker_show := fE_TestedAsker_show c
  B_TestedAsker_show := bE_TestedAsker_show c
  M_TestedAsker_show := He.meth_ok (c.fact 50 (f := .meth "TestedAsker" "show") rfl)
  F_TestedAsker_report := fE_TestedAsker_report c
  B_TestedAsker_report := bE_TestedAsker_report c
  M_TestedAsker_report := He.meth_ok (c.fact 51 (f := .meth "TestedAsker" "report") rfl)
  F_beginnings_of := fE_beginnings_of c
  B_beginnings_of := bE_beginnings_of c
  g_beginnings_of := He.glo_ok X G (c.fact 52 (f := .glo "beginnings_of") rfl)
  F__law_row := fE__law_row c
  B__law_row := bE__law_row c
  g__law_row := He.glo_ok X G (c.fact 53 (f := .glo "_law_row") rfl)
  F__law_at := fE__law_at c
  B__law_at := bE__law_at c
  g__law_at := He.glo_ok X G (c.fact 54 (f := .glo "_law_at") rfl)
  F__law_machine := fE__law_machine c
  B__law_machine := bE__law_machine c
  g__law_machine := He.glo_ok X G (c.fact 55 (f := .glo "_law_machine") rfl)
  F__law_state := fE__law_state c
  B__law_state := bE__law_state c
  g__law_state := He.glo_ok X G (c.fact 56 (f := .glo "_law_state") rfl)
  F__law_output := fE__law_output c
  B__law_output := bE__law_output c
  g__law_output := He.glo_ok X G (c.fact 57 (f := .glo "_law_output") rfl)
  F__law_classes := fE__law_classes c
  B__law_classes := bE__law_classes c
  g__law_classes := He.glo_ok X G (c.fact 58 (f := .glo "_law_classes") rfl)
  F__law_least := fE__law_least c
  B__law_least := bE__law_least c
  g__law_least := He.glo_ok X G (c.fact 59 (f := .glo "_law_least") rfl)
  F__law_misfit := fE__law_misfit c
  B__law_misfit := bE__law_misfit c
  g__law_misfit := He.glo_ok X G (c.fact 60 (f := .glo "_law_misfit") rfl)
  F_law := fE_law c
  B_law := bE_law c
  g_law := He.glo_ok X G (c.fact 61 (f := .glo "law") rfl)
  cl_Halving := He.cls_ok (c.fact 62 (f := .cls "Halving") rfl)
  mk_Halving := He.mkr_ok (c.fact 63 (f := .mkr "Halving") rfl)
  g_Halving := He.glo_ok X G (c.fact 64 (f := .glo "Halving") rfl)
  n_Halving__low := He.noat_ok (c.fact 65 (f := .noat "Halving" "_low") rfl)
  n_Halving__high := He.noat_ok (c.fact 66 (f := .noat "Halving" "_high") rfl)
  cl_Table := He.cls_ok (c.fact 67 (f := .cls "Table") rfl)
  mk_Table := He.mkr_ok (c.fact 68 (f := .mkr "Table") rfl)
  g_Table := He.glo_ok X G (c.fact 69 (f := .glo "Table") rfl)
  n_Table_letters := He.noat_ok (c.fact 70 (f := .noat "Table" "letters") rfl)
  n_Table__states := He.noat_ok (c.fact 71 (f := .noat "Table" "_states") rfl)
  n_Table__columns := He.noat_ok (c.fact 72 (f := .noat "Table" "_columns") rfl)
  n_Table__rows := He.noat_ok (c.fact 73 (f := .noat "Table" "_rows") rfl)
  cl_Asker := He.cls_ok (c.fact 74 (f := .cls "Asker") rfl)
  mk_Asker := He.mkr_ok (c.fact 75 (f := .mkr "Asker") rfl)
  g_Asker := He.glo_ok X G (c.fact 76 (f := .glo "Asker") rfl)
  n_Asker_letters := He.noat_ok (c.fact 77 (f := .noat "Asker" "letters") rfl)
  n_Asker_outs := He.noat_ok (c.fact 78 (f := .noat "Asker" "outs") rfl)
  n_Asker_most := He.noat_ok (c.fact 79 (f := .noat "Asker" "most") rfl)
  n_Asker__given := He.noat_ok (c.fact 80 (f := .noat "Asker" "_given") rfl)
  n_Asker__known := He.noat_ok (c.fact 81 (f := .noat "Asker" "_known") rfl)
  n_Asker__replies := He.noat_ok (c.fact 82 (f := .noat "Asker" "_replies") rfl)
  n_Asker__counts := He.noat_ok (c.fact 83 (f := .noat "Asker" "_counts") rfl)
  n_Asker__table := He.noat_ok (c.fact 84 (f := .noat "Asker" "_table") rfl)
  n_Asker__machine := He.noat_ok (c.fact 85 (f := .noat "Asker" "_machine") rfl)
  n_Asker__shown := He.noat_ok (c.fact 86 (f := .noat "Asker" "_shown") rfl)
  n_Asker__search := He.noat_ok (c.fact 87 (f := .noat "Asker" "_search") rfl)
  n_Asker__queue := He.noat_ok (c.fact 88 (f := .noat "Asker" "_queue") rfl)
  n_Asker__step := He.noat_ok (c.fact 89 (f := .noat "Asker" "_step") rfl)
  cl_TestedAsker := He.cls_ok (c.fact 90 (f := .cls "TestedAsker") rfl)
  mk_TestedAsker := He.mkr_ok (c.fact 91 (f := .mkr "TestedAsker") rfl)
  g_TestedAsker := He.glo_ok X G (c.fact 92 (f := .glo "TestedAsker") rfl)
  n_TestedAsker__asker := He.noat_ok (c.fact 93 (f := .noat "TestedAsker" "_asker") rfl)
  n_TestedAsker__outs := He.noat_ok (c.fact 94 (f := .noat "TestedAsker" "_outs") rfl)
  n_TestedAsker__most := He.noat_ok (c.fact 95 (f := .noat "TestedAsker" "_most") rfl)
  n_TestedAsker__known := He.noat_ok (c.fact 96 (f := .noat "TestedAsker" "_known") rfl)
  n_TestedAsker__asked := He.noat_ok (c.fact 97 (f := .noat "TestedAsker" "_asked") rfl)
  n_TestedAsker__letters := He.noat_ok (c.fact 98 (f := .noat "TestedAsker" "_letters") rfl)
  n_TestedAsker__tests := He.noat_ok (c.fact 99 (f := .noat "TestedAsker" "_tests") rfl)
  n_TestedAsker__at := He.noat_ok (c.fact 100 (f := .noat "TestedAsker" "_at") rfl)
  n_TestedAsker__step := He.noat_ok (c.fact 101 (f := .noat "TestedAsker" "_step") rfl)
  g_Wrong := He.glo_ok X G (c.fact 102 (f := .glo "Wrong") rfl)
  g_MaieuticError := He.glo_ok X G (c.fact 103 (f := .glo "MaieuticError") rfl)
  e_Wrong := (He.exc_ok (c.fact 104 (f := .exc "Wrong") rfl)).1
  k_Wrong := (He.exc_ok (c.fact 104 (f := .exc "Wrong") rfl)).2.1
  s_Wrong := (He.exc_ok (c.fact 104 (f := .exc "Wrong") rfl)).2.2.1
  t_Wrong := (He.exc_ok (c.fact 104 (f := .exc "Wrong") rfl)).2.2.2
  x_Wrong := He.exm_ok (c.fact 105 (f := .exm "Wrong" "Wrong" true) rfl)
  i_Wrong := c.ki
  c_Wrong := excB_ok c.ex
  t_in_order := TB
  l_in_order := c.ord 42 (st := s_in_order) rfl
  b_len := He.free_ok X G (c.fact 106 (f := .free "len") rfl)
  b_range := He.free_ok X G (c.fact 107 (f := .free "range") rfl)
  b_enumerate := He.free_ok X G (c.fact 108 (f := .free "enumerate") rfl)
  b_tuple := He.free_ok X G (c.fact 109 (f := .free "tuple") rfl)
  b_list := He.free_ok X G (c.fact 110 (f := .free "list") rfl)
  b_dict := He.free_ok X G (c.fact 111 (f := .free "dict") rfl)
  b_set := He.free_ok X G (c.fact 112 (f := .free "set") rfl)
  b_sorted := He.free_ok X G (c.fact 113 (f := .free "sorted") rfl)
  b_max := He.free_ok X G (c.fact 114 (f := .free "max") rfl)
  b_min := He.free_ok X G (c.fact 115 (f := .free "min") rfl)
  b_all := He.free_ok X G (c.fact 116 (f := .free "all") rfl)
  b_abs := He.free_ok X G (c.fact 117 (f := .free "abs") rfl)
  b_int := He.free_ok X G (c.fact 118 (f := .free "int") rfl)
  b_sum := He.free_ok X G (c.fact 119 (f := .free "sum") rfl)
  b_reversed := He.free_ok X G (c.fact 120 (f := .free "reversed") rfl)
  b_str := He.free_ok X G (c.fact 121 (f := .free "str") rfl)
  b_isinstance := He.free_ok X G (c.fact 122 (f := .free "isinstance") rfl)
  c_MAX_LETTERS := kOf_ok X G (c.fact 123 (f := .int "MAX_LETTERS" 4) rfl)
  c_MAX_OUTS := kOf_ok X G (c.fact 124 (f := .int "MAX_OUTS" 6) rfl)
  c_MAX_STATES := kOf_ok X G (c.fact 125 (f := .int "MAX_STATES" 30) rfl)
  c_MAX_WORD := kOf_ok X G (c.fact 126 (f := .int "MAX_WORD" 400) rfl)
  c_MAX_SHOWN := kOf_ok X G (c.fact 127 (f := .int "MAX_SHOWN" 300) rfl)
  c_MAX_KNOWN := kOf_ok X G (c.fact 128 (f := .int "MAX_KNOWN" 400) rfl)
  c_MAX_EXTRA := kOf_ok X G (c.fact 129 (f := .int "MAX_EXTRA" 29) rfl)
  c_MAX_LIST := kOf_ok X G (c.fact 130 (f := .int "MAX_LIST" 4000) rfl)
end
end Tk
/-! text S1 -/
namespace Tk
open PySem PySem.Spec PyProof.Rows L2
/-! S1: a set's table of up to 2048 slots, by its mask alone -/
def geo : Nat → Nat
  | 0 => 0
  | n + 1 => 5 * geo n + 1
theorem geo_pow : ∀ n, 4 * geo n + 1 = 5 ^ n
  | 0 => rfl
  | n + 1 => by
    have h := geo_pow n
    show 4 * (5 * geo n + 1) + 1 = 5 ^ (n + 1)
    rw [Nat.pow_succ]
    omega
theorem geo_add (a : Nat) : ∀ b, geo (a + b) = geo b + 5 ^ b * geo a
  | 0 => by show geo a = 0 + 5 ^ 0 * geo a; omega
  | b + 1 => by
    show 5 * geo (a + b) + 1 = 5 * geo b + 1 + 5 ^ (b + 1) * geo a
    rw [geo_add a b, Nat.pow_succ, Nat.mul_add, Nat.mul_comm (5 ^ b) 5, Nat.mul_assoc]
    omega
theorem cop_odd (k x : Nat) : Nat.Coprime (2 ^ k) (2 * x + 1) := by
  refine Nat.Coprime.pow_left k ?_
  show Nat.gcd 2 (2 * x + 1) = 1
  rw [Nat.gcd_rec]
  have e : (2 * x + 1) % 2 = 1 := by omega
  rw [e, Nat.gcd_one_left]
theorem geo_dvd : ∀ (k n : Nat), 2 ^ k ∣ geo n → 2 ^ k ∣ n
  | 0, n, _ => by rw [Nat.pow_zero]; exact Nat.one_dvd n
  | k + 1, n, h => by
    have par : ∀ n, geo n % 2 = n % 2 := by
      intro n
      induction n with
      | zero => rfl
      | succ n ih => show (5 * geo n + 1) % 2 = (n + 1) % 2; omega
    have h2 : 2 ∣ geo n := Nat.dvd_trans ⟨2 ^ k, by rw [Nat.pow_succ, Nat.mul_comm]⟩ h
    have e0 : geo n % 2 = 0 := Nat.mod_eq_zero_of_dvd h2
    rw [par] at e0
    obtain ⟨c, rfl⟩ : ∃ c, n = c + c := ⟨n / 2, by omega⟩
    have e1 : geo (c + c) = 2 * (geo c * (2 * geo c + 1)) := by
      rw [geo_add, ← geo_pow c, Nat.add_mul, Nat.mul_add, Nat.one_mul, Nat.mul_assoc, Nat.mul_one, Nat.mul_left_comm (geo c) 2 (geo c)]
      generalize geo c * geo c = q
      omega
    rw [e1, Nat.pow_succ, Nat.mul_comm (2 ^ k) 2] at h
    have h3 := Nat.dvd_of_mul_dvd_mul_left (by decide) h
    have h4 := geo_dvd k c ((cop_odd k (geo c)).dvd_of_dvd_mul_right h3)
    rw [Nat.pow_succ, ← Nat.mul_two]
    exact Nat.mul_dvd_mul_right h4 2
theorem geo_inj {k a b : Nat} (hab : a ≤ b) (hb : b - a < 2 ^ k) (h : geo a % 2 ^ k = geo b % 2 ^ k) : a = b := by
  obtain ⟨d, rfl⟩ : ∃ d, b = a + d := ⟨b - a, by omega⟩
  have hd : d < 2 ^ k := by omega
  have e : geo (a + d) = 5 ^ a * geo d + geo a := by rw [Nat.add_comm a d, geo_add, Nat.add_comm]
  rw [e] at h
  have h1 : 2 ^ k ∣ 5 ^ a * geo d := by
    have q := Nat.sub_mod_eq_zero_of_mod_eq h.symm
    rw [Nat.add_sub_cancel] at q
    exact Nat.dvd_of_mod_eq_zero q
  have h2 : (2 ^ k).Coprime (5 ^ a) := by
    have z := cop_odd k (2 * geo a)
    have z2 : 2 * (2 * geo a) + 1 = 5 ^ a := by rw [← geo_pow a]; omega
    rw [z2] at z
    exact z
  have h3 := geo_dvd k d (h2.dvd_of_dvd_mul_left h1)
  rcases Nat.eq_zero_or_pos d with z | z
  · omega
  · exact absurd (Nat.le_of_dvd z h3) (Nat.not_le.mpr hd)
theorem lcg_geo (m : Nat) : ∀ n, lcgN m n = geo n % (m + 1)
  | 0 => (Nat.zero_mod _).symm
  | n + 1 => by
    show (lcgN m n * 5 + 1) % (m + 1) = (5 * geo n + 1) % (m + 1)
    rw [lcg_geo m n, Nat.mul_comm 5 (geo n)]
    simp [Nat.add_mod, Nat.mul_mod]
/-- a row of all different numbers below its length holds each of them -/
theorem row_all {l : List Nat} {n j : Nat} (hl : l.length = n) (nd : l.Nodup) (hb : ∀ x ∈ l, x < n) (hj : j < n) : j ∈ l := by
  apply Classical.byContradiction
  intro c
  have h := nat_nodup_len l ((List.range n).erase j) nd fun x hx => (List.mem_erase_of_ne (fun e => c (by rw [← e]; exact hx))).2 (List.mem_range.mpr (hb x hx))
  rw [List.length_erase_of_mem (List.mem_range.mpr hj), List.length_range] at h
  omega
/-- the masks that come -/
def Msk (m : Nat) : Prop := m = 7 ∨ m = 31 ∨ m = 127 ∨ m = 511 ∨ m = 2047
theorem Msk.two {m : Nat} (h : Msk m) : (∃ k, m + 1 = 2 ^ k) ∧ m % 2 = 1 ∧ m ≤ 2047 := by
  rcases h with e | e | e | e | e <;> subst e
  · exact ⟨⟨3, by decide⟩, by decide, by decide⟩
  · exact ⟨⟨5, by decide⟩, by decide, by decide⟩
  · exact ⟨⟨7, by decide⟩, by decide, by decide⟩
  · exact ⟨⟨9, by decide⟩, by decide, by decide⟩
  · exact ⟨⟨11, by decide⟩, by decide, by decide⟩
theorem lcg_from {m : Nat} (hm : Msk m) (a : Nat) {j : Nat} (hj : j ≤ m) : ∃ k, k ≤ m ∧ lcgN m (a + k) = j := by
  obtain ⟨⟨e, he⟩, _, _⟩ := hm.two
  have inj : ∀ x y, x < m + 1 → y < m + 1 → x ≤ y → lcgN m (a + x) = lcgN m (a + y) → x = y := fun x y hx hy hxy h => by
    rw [lcg_geo, lcg_geo, he] at h
    have q := geo_inj (k := e) (a := a + x) (b := a + y) (by omega) (by omega) h
    omega
  have hm' := row_all (l := (List.range (m + 1)).map fun k => lcgN m (a + k)) (n := m + 1) (j := j) (by rw [List.length_map, List.length_range]) (by
      rw [List.Nodup, List.pairwise_map]
      refine List.Pairwise.imp_of_mem (fun {x y} hx hy hlt e => ?_) (List.pairwise_lt_range)
      have q := inj x y (List.mem_range.mp hx) (List.mem_range.mp hy) (Nat.le_of_lt hlt) e
      exact absurd q (Nat.ne_of_lt hlt))
    (fun x hx => by
      obtain ⟨k, _, e⟩ := List.mem_map.mp hx
      rw [← e, lcg_geo]
      exact Nat.mod_lt _ (Nat.succ_pos _)) (by omega)
  obtain ⟨k, hk, e⟩ := List.mem_map.mp hm'
  exact ⟨k, Nat.le_of_lt_succ (List.mem_range.mp hk), e⟩
theorem lcg_any {m : Nat} (hm : Msk m) {i j : Nat} (hi : i ≤ m) (hj : j ≤ m) : ∃ k, k ≤ m ∧ lcgI m i k = j := by
  obtain ⟨a, _, ea⟩ := lcg_from hm 0 hi
  rw [Nat.zero_add] at ea
  obtain ⟨k, hk, e⟩ := lcg_from hm a hj
  exact ⟨k, hk, by rw [← ea, lcgN_add]; exact e⟩
theorem run_hits {m : Nat} (hm : Msk m) (h : Int) {j : Nat} (hj : j ≤ m) : ∃ n, n < SetTable.turns m - 2 ∧ runI m (SetTable.bits h) n = j := by
  obtain ⟨k, hk, e⟩ := lcg_any hm (runI_le m (SetTable.bits h) 12) hj
  refine ⟨12 + k, ?_, (runI_tail (bits_lt h) k).trans e⟩
  show 12 + k < m + 15 - 2
  omega
theorem way_hits {m : Nat} (hm : Msk m) (h : Int) {j : Nat} (hj : j ≤ m) : ∃ k, k < 10 * SetTable.turns m ∧ way m h k = j := by
  obtain ⟨n, hn, e⟩ := run_hits hm h hj
  obtain ⟨k, hk, e2⟩ := run_nth m (SetTable.bits h) n
  exact ⟨k, by omega, (congrArg SetTable.Probe.j e2).trans e⟩
theorem way_bd (m : Nat) (h : Int) (k : Nat) : way m h k ≤ m := by
  have b := runEnd_bd (m := m) (i := SetTable.bits h % (m + 1)) (Nat.le_of_lt_succ (Nat.mod_lt (SetTable.bits h) (Nat.succ_pos m)))
  have q := nth_in (m := m) k (runAt m (SetTable.bits h % (m + 1)) (SetTable.bits h)) (by unfold runAt; simp only; omega)
  exact Nat.le_trans (Nat.le_add_right _ _) q
/-- K is the first place of h's way that l leaves out -/
def Fst (m : Nat) (l : List Nat) (h : Int) (K : Nat) : Prop := way m h K ∉ l ∧ ∀ c, c < K → way m h c ∈ l
/-- j is met on h's way over places of l alone -/
def Met (m : Nat) (l : List Nat) (h : Int) (j : Nat) : Prop := ∃ k, way m h k = j ∧ ∀ c, c < k → way m h c ∈ l
theorem Met.more {m : Nat} {l l' : List Nat} {h : Int} {j : Nat} (x : Met m l h j) (s : ∀ y, y ∈ l → y ∈ l') : Met m l' h j := by
  obtain ⟨k, e, z⟩ := x
  exact ⟨k, e, fun c hc => s _ (z c hc)⟩
/-- the table t of elements with the hashes hs -/
structure Tb (t : SetTable) (hs : List Int) : Prop where
  up : Ris t.place.toList
  nod : t.dummies = #[]
  cnt : t.place.size = hs.length
  ms : Msk t.mask
  ub : ∀ x, x ∈ t.place.toList → x ≤ t.mask
  met : ∀ (i : Nat) (h : Int) (j : Nat), hs[i]? = some h → t.place.toList[i]? = some j → Met t.mask t.place.toList h j
theorem Tb.first {t : SetTable} {hs : List Int} (T : Tb t hs) (hl : hs.length ≤ t.mask) (h : Int) : ∃ K, K < 10 * SetTable.turns t.mask ∧ Fst t.mask t.place.toList h K := by
  obtain ⟨j, hj, out⟩ := st_missing t.place.toList (t.mask + 1) (by
    have q : t.place.toList.length = hs.length := T.cnt
    omega)
  obtain ⟨k, hk, e⟩ := way_hits T.ms h (Nat.le_of_lt_succ hj)
  obtain ⟨K, a, b, c⟩ := st_least (p := fun k => way t.mask h k ∉ t.place.toList) k (by show way t.mask h k ∉ _; rw [show way t.mask h k = j from e]; exact out)
  exact ⟨K, Nat.lt_of_le_of_lt a hk, b, fun x hx => Classical.byContradiction (c x hx)⟩
theorem Tb.sooner {t : SetTable} {hs : List Int} (T : Tb t hs) {h : Int} {K i j : Nat} (F : Fst t.mask t.place.toList h K) (hi : hs[i]? = some h) (hj : t.place.toList[i]? = some j) : ∃ k, k < K ∧ way t.mask h k = j := by
  obtain ⟨k, e, z⟩ := T.met i h j hi hj
  have hin : j ∈ t.place.toList := List.mem_of_getElem? hj
  refine ⟨k, Nat.lt_of_not_le fun c => ?_, e⟩
  rcases Nat.lt_or_eq_of_le c with c | c
  · exact F.1 (z K c)
  · exact F.1 (by rw [c]; exact e.symm ▸ hin)
/-- an element more, at the first free place of its way -/
theorem Tb.more {t : SetTable} {hs : List Int} (T : Tb t hs) {h : Int} {K j p : Nat} (F : Fst t.mask t.place.toList h K) (ej : way t.mask h K = j) (ep : SetTable.below t.place j = p) :
    (t.put j).2 = p ∧ p ≤ hs.length ∧ Tb (t.put j).1 (hs.take p ++ h :: hs.drop p) ∧ (t.put j).1.fill = hs.length + 1 := by
  have cut := (below_cut T.up j).1
  rw [ep] at cut
  have lp : p ≤ t.place.toList.length := cut
  have lh : p ≤ hs.length := T.cnt ▸ cut
  have pl : (t.put j).1.place.toList = t.place.toList.take p ++ j :: t.place.toList.drop p := by rw [put_place, ep]
  have sz : (t.put j).1.place.size = hs.length + 1 := by
    have q := congrArg List.length pl
    rw [len_ins _ lp, Array.length_toList, Array.length_toList, T.cnt] at q
    exact q
  have hnj : j ∉ t.place.toList := ej ▸ F.1
  have wide : ∀ y, y ∈ t.place.toList → y ∈ (t.put j).1.place.toList := fun y hy => by rw [pl]; exact mem_ins.2 (.inr hy)
  have up' : Ris (t.put j).1.place.toList := ris_insert T.up fun e => hnj (List.mem_of_getElem? (by rw [Array.getElem?_toList]; exact e))
  refine ⟨ep, lh, ⟨up', put_dm T.nod j, by rw [len_ins _ lh]; exact sz, T.ms, fun x hx => ?_, fun i h' j' a b => ?_⟩, ?_⟩
  · rw [pl] at hx
    rcases mem_ins.1 hx with e | e
    · rw [e, ← ej]; exact way_bd _ _ _
    · exact T.ub x e
  · show Met t.mask _ h' j'
    rw [tins_get hs lh] at a
    rw [pl, tins_get _ lp] at b
    by_cases c : i < p
    · rw [if_pos c] at a b
      exact (T.met i h' j' a b).more wide
    · rw [if_neg c] at a b
      by_cases d : i = p
      · rw [if_pos d] at a b
        cases a
        cases b
        exact ⟨K, ej, fun x hx => wide _ (F.2 x hx)⟩
      · rw [if_neg d] at a b
        exact (T.met (i - 1) h' j' a b).more wide
  · have dm := put_dm T.nod j
    unfold SetTable.fill
    rw [sz, dm]
    rfl
/-! laying all anew -/
theorem free_hits {m : Nat} (hm : Msk m) (ow : Array (Option Nat)) (h : Int) {j : Nat} (hj : j ≤ m) (hf : oAt ow j = none) :
    ∃ K, SetTable.layClean.free m ow (SetTable.turns m) (SetTable.bits h % (m + 1)) (SetTable.bits h) = some (way m h K) ∧ oAt ow (way m h K) = none ∧ ∀ c, c < K → oAt ow (way m h c) ≠ none := by
  obtain ⟨n, hn, e⟩ := run_hits hm h hj
  obtain ⟨i0, hi0⟩ : ∃ i0, i0 = SetTable.bits h % (m + 1) := ⟨_, rfl⟩
  have w1 : way m h (off m (SetTable.bits h % (m + 1)) (SetTable.bits h) n) = j := by
    unfold way
    rw [nth_off, itL_run]
    exact e
  obtain ⟨K, a, b, c⟩ := st_least (p := fun k => oAt ow (way m h k) = none) _ (show oAt ow (way m h (off m (SetTable.bits h % (m + 1)) (SetTable.bits h) n)) = none by rw [w1]; exact hf)
  refine ⟨K, free_spec m ow (SetTable.turns m) n _ _ K (by omega) a (fun k hk => ?_) ?_, b, c⟩
  · have z := c k hk
    show (oAt ow (way m h k)).isNone = false
    cases q : oAt ow (way m h k) with
    | none => exact absurd q z
    | some _ => rfl
  · show (oAt ow (way m h K)).isNone = true
    rw [show oAt ow (way m h K) = none from b]
    rfl
theorem own_next {m : Nat} (hm : Msk m) {dn : List Int} {ow : Array (Option Nat)} (W : Own m dn ow) (hl : dn.length ≤ m) (h : Int) :
    ∃ ow', stepF m (some (ow, dn.length)) h = some (ow', (dn ++ [h]).length) ∧ Own m (dn ++ [h]) ow' := by
  obtain ⟨ps, hps, inp⟩ := W.ps
  obtain ⟨j0, lt0, out0⟩ := st_missing ps (m + 1) (by omega)
  have free0 : oAt ow j0 = none := Classical.byContradiction fun c => out0 (inp j0 (by omega) c)
  obtain ⟨K, e1, e2, e3⟩ := free_hits hm ow h (Nat.le_of_lt_succ lt0) free0
  obtain ⟨j, ej⟩ : ∃ j, j = way m h K := ⟨_, rfl⟩
  rw [← ej] at e1 e2
  have jm : j ≤ m := ej ▸ way_bd m h K
  have here := oAt_set_self (owner := ow) (some dn.length) (show j < ow.size by rw [W.sz]; omega)
  have there : ∀ {i : Nat}, i ≠ j → oAt (ow.setIfInBounds j (some dn.length)) i = oAt ow i := fun hi => oAt_set_ne _ hi
  have stays : ∀ i, oAt ow i ≠ none → oAt (ow.setIfInBounds j (some dn.length)) i ≠ none := fun i hi => by
    rcases Nat.decEq i j with c | c
    · rw [there c]; exact hi
    · rw [c, here]; simp
  have len1 : (dn ++ [h]).length = dn.length + 1 := by simp
  refine ⟨_, (stepF_some e1).trans (by rw [len1]), ⟨by simpa using W.sz, fun i k hi e => ?_, fun k hk => ?_, j :: ps, by simp [hps], fun i hi e => ?_⟩⟩
  · rcases Nat.decEq i j with c | c
    · rw [there c] at e
      obtain ⟨h', K', a, b, z⟩ := W.at_ i k hi e
      exact ⟨h', K', by rw [List.getElem?_append_left (List.getElem?_eq_some_iff.mp a).1]; exact a, b, fun x hx => stays _ (z x hx)⟩
    · rw [c, here] at e
      cases e
      exact ⟨h, K, by simp, c ▸ ej.symm, fun x hx => stays _ (e3 x hx)⟩
  · rcases Nat.lt_or_eq_of_le (Nat.le_of_lt_succ (len1 ▸ hk)) with c | c
    · obtain ⟨i, hi, e⟩ := W.all k c
      exact ⟨i, hi, by rw [there (fun z => by rw [z, e2] at e; cases e)]; exact e⟩
    · exact ⟨j, jm, by rw [here, c]⟩
  · rcases Nat.decEq i j with c | c
    · exact List.mem_cons_of_mem _ (inp i hi (by rw [there c] at e; exact e))
    · rw [c]; exact List.mem_cons_self
theorem own_all {m : Nat} (hm : Msk m) : ∀ (rest dn : List Int) (ow : Array (Option Nat)), Own m dn ow → (dn ++ rest).length ≤ m →
    ∃ ow', rest.foldl (stepF m) (some (ow, dn.length)) = some (ow', (dn ++ rest).length) ∧ Own m (dn ++ rest) ow'
  | [], dn, ow, W, _ => ⟨ow, by simp, by simpa using W⟩
  | h :: rest, dn, ow, W, hl => by
    have el : dn ++ h :: rest = (dn ++ [h]) ++ rest := by simp
    rw [el] at hl ⊢
    obtain ⟨o1, e1, W1⟩ := own_next hm W (by simp at hl; omega) h
    obtain ⟨o2, e2, W2⟩ := own_all hm rest (dn ++ [h]) o1 W1 hl
    exact ⟨o2, by rw [List.foldl_cons, e1]; exact e2, W2⟩
theorem lays {m : Nat} (hm : Msk m) {hs : Array Int} (hn : hs.size ≤ m) : ∃ ow, SetTable.layClean m hs = some ow ∧ Own m hs.toList ow := by
  obtain ⟨ow, e, W⟩ := own_all hm hs.toList [] _ (Own.init m) (by simpa using hn)
  refine ⟨ow, ?_, by simpa using W⟩
  have e' : hs.toList.foldl (stepF m) (some (Array.replicate (m + 1) none, 0)) = some (ow, ([] ++ hs.toList).length) := e
  rw [layClean_eq, e']
  rfl
theorem relays (t : SetTable) {hs : Array Int} {wt M : Nat} (hw : SetTable.sizeAbove wt - 1 = M) (hM : Msk M) (hn : hs.size ≤ M) :
    ∃ t' ord, t.relaid hs wt = some (t', ord) ∧ ord.toList.Perm (List.range hs.size) ∧ Tb t' (ord.toList.map fun i => hs.getD i 0) ∧ t'.mask = M ∧ t'.led = t.led ∧ t'.plain = t.plain := by
  obtain ⟨ow, e, W⟩ := lays hM hn
  obtain ⟨lv, elv⟩ : ∃ lv, lv = liveOf M ow := ⟨_, rfl⟩
  have inl : ∀ {j k : Nat}, (j, k) ∈ lv ↔ j ≤ M ∧ oAt ow j = some k := fun {j k} => by rw [elv]; exact mem_live W.sz
  have rl := ris_live (fun j => ow.getD j none) (List.range (M + 1)) (by unfold Ris; exact List.pairwise_lt_range)
  have r1 : Ris (lv.map (·.1)) := by rw [elv]; exact rl.1
  have r2 : ∀ x, x ∈ lv.map (·.1) → x ≤ M := fun x hx => Nat.le_of_lt_succ (List.mem_range.mp (rl.2 x (by rw [elv] at hx; exact hx)))
  have every : ∀ k, k < hs.size → k ∈ lv.map (·.2) := fun k hk => by
    obtain ⟨j, a, b⟩ := W.all k hk
    exact List.mem_map.mpr ⟨(j, k), inl.2 ⟨a, b⟩, rfl⟩
  have ln : lv.length = hs.size := by
    obtain ⟨ps, p1, p2⟩ := W.ps
    have a := nat_nodup_len (lv.map (·.1)) ps (show (lv.map (·.1)).Nodup from r1.imp fun h => Nat.ne_of_lt h) fun x hx => by
      obtain ⟨⟨y, k⟩, q, rfl⟩ := List.mem_map.mp hx
      have z := inl.1 q
      exact p2 y z.1 (by rw [z.2]; simp)
    have b := nat_nodup_len (List.range hs.size) (lv.map (·.2)) List.nodup_range fun k hk => every k (List.mem_range.mp hk)
    simp only [List.length_map, List.length_range, p1, Array.length_toList] at a b
    omega
  have hr : t.relaid hs wt = some (tabOf t M ow, (lv.map (·.2)).toArray) := by
    rw [relaid_eq, hw, e, elv]
    rfl
  have epl : (tabOf t M ow).place.toList = lv.map (·.1) := by rw [elv]; rfl
  refine ⟨_, _, hr, perm_range _ _ (by simpa using ln) every, ⟨epl ▸ r1, rfl, ?_, hM, fun x hx => r2 x (epl ▸ hx), fun i h j a b => ?_⟩, rfl, rfl, rfl⟩
  · have q := congrArg List.length epl
    rw [Array.length_toList] at q
    rw [q]
    simp
  · rw [epl, List.getElem?_map] at b
    simp only [List.getElem?_map] at a
    cases z : lv[i]? with
    | none => rw [z] at b; cases b
    | some q =>
      obtain ⟨y, k⟩ := q
      rw [z] at a b
      cases b
      obtain ⟨ym, yk⟩ := inl.1 (List.mem_of_getElem? z)
      obtain ⟨h0, K, c1, c2, c3⟩ := W.at_ y k ym yk
      have eh : h0 = h := by
        have a' : hs.getD k 0 = h := Option.some.inj a
        rw [← a', Array.getD_eq_getD_getElem?, ← Array.getElem?_toList, c1]
        rfl
      subst eh
      refine ⟨K, c2, fun x hx => ?_⟩
      rw [epl]
      cases u : oAt ow (way M h0 x) with
      | none => exact absurd u (c3 x hx)
      | some k2 => exact List.mem_map.mpr ⟨(way M h0 x, k2), inl.2 ⟨way_bd M h0 x, u⟩, rfl⟩
theorem grow_77 : SetTable.sizeAbove (SetTable.grown 77) = 512 := by decide +kernel
theorem grow_307 : SetTable.sizeAbove (SetTable.grown 307) = 2048 := by decide +kernel
end Tk
/-! text S2 -/
namespace Tk
open PySem PySem.Spec PyProof.Rows L2
/-! S2: sets of tuples of ints, at the library's level -/
/-- the tuples' keys and where they lie -/
abbrev Kys := List (Addr × List Int)
structure Ts (P : Program) (w : World) (h : Heap) (a : Addr) (L : Kys) (es : Array (Int × Value)) (ep : Nat) (t : SetTable) : Prop where
  lies : ∃ o, h.get? a = some o ∧ o.ExactSet ∧ o.data = .set es ep t
  ents : es.toList = rowsOf P w L
  tb : Tb t (L.map fun p => thash P w p.2)
  one : (L.map (·.2)).Nodup
  tups : ∀ p, p ∈ L → IsT P w h p.2 p.1
  pl : t.plain = true
  ld : w.params.followText "set-order" = true ∨ t.led = true
  gap : L.length * 5 < t.mask * 3
  most : L.length ≤ 1210
section
variable {P : Program} {w : World} {A : Around} {E : Value → Shared → Prop} {s : Shared} {a : Addr} {L : Kys} {es : Array (Int × Value)} {ep : Nat} {t : SetTable}
theorem ents_size {es : Array (Int × Value)} (h : es.toList = rowsOf P w L) : es.size = L.length := by
  have q := congrArg List.length h
  rw [Array.length_toList] at q
  rw [q]
  exact List.length_map _
theorem ents_fit (h : es.toList = rowsOf P w L) (c : t.place.size = L.length) (n : t.dummies = #[]) (l : L.length ≤ t.mask) : t.fits es.size = true := by
  have q := ents_size h
  simp [SetTable.fits, SetTable.fill, n]
  omega
theorem Ts.cnt (R : Ts P w s.heap a L es ep t) : t.place.size = L.length := by
  have q := R.tb.cnt
  rw [List.length_map] at q
  exact q
theorem Ts.fit (R : Ts P w s.heap a L es ep t) : t.fits es.size = true := by
  have g := R.gap
  exact ents_fit R.ents R.cnt R.tb.nod (by omega)
theorem ent_at (h : es.toList = rowsOf P w L) {i : Nat} {p : Addr × List Int} (e : L[i]? = some p) : es[i]? = some (thash P w p.2, Value.ref p.1) := by
  have q : es.toList[i]? = (L.map fun p => (thash P w p.2, Value.ref p.1))[i]? := congrArg (·[i]?) h
  rw [Array.getElem?_toList, List.getElem?_map, e] at q
  exact q
/-- the c-th stand of the way -/
abbrev pr (m : Nat) (h : Int) (c : Nat) : SetTable.Probe := nth m (runAt m (SetTable.bits h % (m + 1)) (SetTable.bits h)) c
theorem pr_dummy (m : Nat) (h : Int) (c : Nat) : (pr m h c).dummy = none := by
  have key : ∀ (n : Nat) (p : SetTable.Probe), p.dummy = none → (nth m p n).dummy = none := by
    intro n
    induction n with
    | zero => exact fun _ z => z
    | succ n ih =>
      refine fun p z => ih _ ?_
      unfold adv
      split
      · exact z
      · exact z
  exact key c _ rfl
theorem pr_on (m : Nat) (h : Int) (c q : Nat) : nth m (pr m h c) q = pr m h (c + q) := (nth_add m c _ q).symm
/-- the search, from the c-th stand on -/
theorem find_run (R : Ts P w s.heap a L es ep t) {x : Addr} {k : List Int} (hx : IsT P w s.heap k x) (lu : A.units < cLine) (ad : Bool) {hk : Int} (ek : hk = thash P w k) {K : Nat} (Kf : K < 10 * SetTable.turns t.mask) (F : Fst t.mask t.place.toList hk K)
    {Q : SetFound → Shared → Prop} (yes : k ∈ L.map (·.2) → ∀ r : Option Nat, r.isSome = !ad → Q (.there r) s) (no : k ∉ L.map (·.2) → Q (.free (way t.mask hk K) false) s) :
    ∀ (f c : Nat) (st : Option SetTable.Probe), st.getD (t.probeStart hk) = pr t.mask hk c → c ≤ K → K - c < f →
      (∀ (i : Nat) p, L[i]? = some p → p.2 = k → ∃ d, c ≤ d ∧ d < K ∧ t.place.toList[i]? = some (way t.mask hk d)) →
      wpAny (model P w) A (setSearchFrom a (.ref x) hk ad f st) Q E s
  | 0, c, _, _, _, ff, _ => absurd ff (Nat.not_lt_zero _)
  | f + 1, c, st, est, cK, ff, ahead => by
    obtain ⟨o, go, gx, gd⟩ := R.lies
    have up := R.tb.up
    have tag : ∀ (i : Nat) p, L[i]? = some p → (fun i => (es[i]?.map (·.1)).getD 0) i = thash P w p.2 := fun i p e => by
      show (es[i]?.map (·.1)).getD 0 = _
      rw [ent_at R.ents e]
      rfl
    have at_ : ∀ q, (nth t.mask (pr t.mask hk c) q).j = way t.mask hk (c + q) := fun q => congrArg SetTable.Probe.j (pr_on t.mask hk c q)
    have cKe : c + (K - c) = K := by omega
    have gos := go_spec t up R.tb.nod (fun i => (es[i]?.map (·.1)).getD 0) hk (10 * SetTable.turns t.mask) (K - c) _ (pr_dummy t.mask hk c) (by omega)
      (fun q hq => at_ q ▸ F.2 (c + q) (by omega)) (by rw [at_, cKe]; exact F.1)
    -- what is passed has another hash
    have passed : ∀ {q : Nat},  (∀ k' i', k' < q → t.place.toList[i']? = some (nth t.mask (pr t.mask hk c) k').j → (fun i : Nat => (es[i]?.map (·.1)).getD 0) i' ≠ hk) →
        ∀ (i : Nat) (p : Addr × List Int) (d : Nat), L[i]? = some p → p.2 = k → c ≤ d → d < c + q → t.place.toList[i]? = some (way t.mask hk d) → False := fun {q} hn i p d e e2 l1 l2 e3 => by
      refine hn (d - c) i (by omega) (by rw [at_, show c + (d - c) = d by omega]; exact e3) ?_
      rw [tag i p e, e2, ek]
    rw [setSearchFrom_succ]
    refine wpAny_bind (wpAny_setState_of go gd R.fit ?_)
    simp only []
    refine wp_if_neg (by unfold SetTable.gaveWay; rw [R.tb.ms.two.2.1]; decide) ?_
    try refine wpAny_bind (wpAny_pure (?_))
    rcases gos with ⟨q, i, lq, ei, eh, hn, epr⟩ | ⟨hn, epr⟩
    · -- an element of the same hash
      have eprobe : t.probe (fun i => (es[i]?.map (·.1)).getD 0) hk (st.getD (t.probeStart hk)) = some (.candidate (way t.mask hk (c + q)) i (pr t.mask hk (c + (q + 1)))) := by
        rw [est, ← at_ q, ← pr_on]
        exact epr
      rw [eprobe]
      simp only []
      rw [at_] at ei
      obtain ⟨p, ep0⟩ : ∃ p, L[i]? = some p := by
        have l1 := (List.getElem?_eq_some_iff.mp ei).1
        rw [Array.length_toList, R.cnt] at l1
        exact ⟨_, List.getElem?_eq_getElem l1⟩
      have pin : p ∈ L := List.mem_of_getElem? ep0
      have back : wpAny (model P w) A (searchRest a (.ref x) hk ad f es t (way t.mask hk (c + q)) i (pr t.mask hk (c + (q + 1)))) Q E s := by
        unfold searchRest
        rw [ent_at R.ents ep0]
        simp only []
        refine wpAny_bind (wpAny_holding (wpAny_eqBool_tuple lu (R.tups p pin) hx ?_))
        refine wpAny_bind (wpAny_setState_of go gd R.fit ?_)
        simp only []
        have live := slot_live up ei
        by_cases both : (ad && decide (p.2 = k)) = true
        · refine wp_if_pos both (wpAny_pure ?_)
          have z : ad = true ∧ p.2 = k := by simpa using both
          exact yes (List.mem_map.mpr ⟨p, pin, z.2⟩) none (by rw [z.1]; rfl)
        · refine wp_if_neg both ?_
          try refine wpAny_bind (wpAny_pure (?_))
          rw [sameMem]
          simp only []
          simp only [if_true, live, ent_at R.ents ep0]
          refine wpAny_bind (wpAny_isSame_ref_self (wpAny_bind (wpAny_pure (?_))))
          simp only [if_true]
          by_cases pk : p.2 = k
          · refine wp_if_pos (decide_eq_true pk) (wpAny_pure ?_)
            have ad0 : ad = false := by simpa [pk] using both
            exact yes (List.mem_map.mpr ⟨p, pin, pk⟩) _ (by rw [ad0]; rfl)
          · refine wp_if_neg (by simp [pk]) (find_run R hx lu ad ek Kf F yes no f (c + (q + 1)) _ rfl (by omega) (by omega) fun i0 p0 e0 k0 => ?_)
            obtain ⟨d, l1, l2, l3⟩ := ahead i0 p0 e0 k0
            refine ⟨d, Nat.lt_of_not_le fun z => ?_, l2, l3⟩
            rcases Nat.lt_or_eq_of_le (show d ≤ c + q by omega) with z | z
            · exact passed hn i0 p0 d e0 k0 l1 z l3
            · rw [z] at l3
              have two := slot_live up l3
              rw [live] at two
              cases two
              rw [ep0] at e0
              exact pk (Option.some.inj e0 ▸ k0)
      rcases Bool.eq_false_or_eq_true t.led with l | l
      · refine wp_if_neg (by rw [l]; decide) ?_
        try refine wpAny_bind (wpAny_pure (?_))
        exact back
      · refine wp_if_pos (by rw [l]; rfl) (wpAny_bind (seen_tup hx (fun y hy => ?_) ?_))
        · obtain ⟨e, he, ee⟩ := List.mem_map.mp hy
          have h2 : e ∈ es.toList := by
            have h3 : e ∈ es ∧ e.1 = hk := by simpa using he
            simpa using h3.1
          rw [R.ents] at h2
          obtain ⟨p2, m2, e2⟩ := List.mem_map.mp h2
          exact ⟨p2.2, p2.1, by rw [← ee, ← e2], R.tups p2 m2⟩
        · refine wp_if_neg Bool.false_ne_true ?_
          try refine wpAny_bind (wpAny_pure (?_))
          exact back
    · -- the free place
      have eprobe : t.probe (fun i => (es[i]?.map (·.1)).getD 0) hk (st.getD (t.probeStart hk)) = some (.empty (way t.mask hk K) none) := by
        have e2 := at_ (K - c)
        rw [cKe] at e2
        rw [est, ← e2]
        exact epr
      rw [eprobe]
      simp only []
      refine wpAny_pure (no fun m => ?_)
      obtain ⟨p0, m0, k0⟩ := List.mem_map.mp m
      obtain ⟨i0, e0⟩ := List.mem_iff_getElem?.mp m0
      obtain ⟨d, l1, l2, l3⟩ := ahead i0 p0 e0 k0
      exact passed (q := K - c) hn i0 p0 d e0 k0 l1 (by omega) l3
theorem find_at (R : Ts P w s.heap a L es ep t) {x : Addr} {k : List Int} (hx : IsT P w s.heap k x) (lu : A.units < cLine) (ad : Bool) {Q : SetFound → Shared → Prop} (yes : k ∈ L.map (·.2) → ∀ r : Option Nat, r.isSome = !ad → Q (.there r) s)
    (no : ∀ K, k ∉ L.map (·.2) → Fst t.mask t.place.toList (thash P w k) K → Q (.free (way t.mask (thash P w k) K) false) s) : wpAny (model P w) A (setSearch a (.ref x) (thash P w k) ad) Q E s := by
  have g := R.gap
  obtain ⟨K, Kf, F⟩ := R.tb.first (by rw [List.length_map]; omega) (thash P w k)
  have small : K < 100000 := by
    have z := R.tb.ms.two.2.2
    unfold SetTable.turns at Kf
    omega
  refine find_run R hx lu ad rfl Kf F yes (fun z => no K z F) 100000 0 none rfl (Nat.zero_le K) small fun i p e ke => ?_
  have eh : (L.map fun p => thash P w p.2)[i]? = some (thash P w k) := by rw [List.getElem?_map, e, ← ke]; rfl
  obtain ⟨j, ej⟩ : ∃ j, t.place.toList[i]? = some j := by
    have l1 := (List.getElem?_eq_some_iff.mp e).1
    exact ⟨_, List.getElem?_eq_getElem (by rw [Array.length_toList, R.cnt]; exact l1)⟩
  obtain ⟨d, l, ed⟩ := R.tb.sooner F eh ej
  exact ⟨d, Nat.zero_le d, l, by rw [ej, ed]⟩
/-- x in the set -/
theorem has_at (R : Ts P w s.heap a L es ep t) {x : Addr} {k : List Int} (hx : IsT P w s.heap k x) (lu : A.units < cLine) {Q : Bool → Shared → Prop} (hQ : Q (decide (k ∈ L.map (·.2))) { s with toks := s.toks + (k.length + 1) }) :
    wpAny (model P w) A (setContains a (.ref x)) Q E s := by
  obtain ⟨o, go, gx, gd⟩ := R.lies
  unfold setContains
  refine wpAny_holding (wpAny_bind (wpAny_pyHash_tuple lu hx ?_))
  have R' : Ts P w ({ s with toks := s.toks + (k.length + 1) } : Shared).heap a L es ep t := R
  unfold setFind
  rw [show (100000 : Nat) = 99999 + 1 from rfl]
  unfold setFindIn
  refine wpAny_bind (wpAny_bind (wpAny_setState_of (s := { s with toks := s.toks + (k.length + 1) }) go gd R.fit ?_))
  simp only []
  refine wp_if_neg (by simp [byScan, Value.scannable]) ?_
  try refine wpAny_bind (wpAny_pure (?_))
  refine wpAny_bind (find_at R' hx lu false (fun m r hr => ?_) fun K m _ => ?_)
  · simp only []
    refine wpAny_pure (wpAny_pure ?_)
    rw [hr, show (!false) = decide (k ∈ L.map (·.2)) by simp [m]]
    exact hQ
  · simp only []
    refine wpAny_pure (wpAny_pure ?_)
    rw [show (none : Option Nat).isSome = decide (k ∈ L.map (·.2)) by simp [m]]
    exact hQ
/-- the same rows, laid anew in a larger table -/
theorem relay_run {o : Obj} (go : s.heap.get? a = some o) (gx : o.ExactSet) (gd : o.data = .set es ep t) (er : es.toList = rowsOf P w L) (cn : t.place.size = L.length) (nd : t.dummies = #[]) (lm : L.length ≤ t.mask)
    (one : (L.map (·.2)).Nodup) (tups : ∀ p, p ∈ L → IsT P w s.heap p.2 p.1) (pl : t.plain = true) (ld : w.params.followText "set-order" = true ∨ t.led = true) (most : L.length ≤ 1210) {wt M : Nat}
    (ew : SetTable.sizeAbove wt - 1 = M) (hM : Msk M) (lw : SetTable.sizeAbove wt ≤ 2048) (gap : L.length * 5 < M * 3) {Q : Unit → Shared → Prop}
    (hQ : ∀ h' L' es' ep' t', Heap.SameBut a s.heap h' → Ts P w h' a L' es' ep' t' → L'.Perm L → Q () { s with heap := h' }) : wpAny (model P w) A (setRelay a wt) Q E s := by
  have sz := ents_size er
  obtain ⟨t', ord, e, pm, T, em, el, epl⟩ := relays t (hs := es.map (·.1)) ew hM (by rw [Array.size_map, sz]; omega)
  rw [Array.size_map, sz] at pm
  obtain ⟨L2, r1, r2, r3⟩ := order_rows L es ord er pm
  rw [← r3] at T
  have sz2 : (ord.filterMap (es[·]?)).size = es.size := by rw [ents_size r1, r2.length_eq, sz]
  rw [setRelay_eq]
  refine wpAny_bind (wpAny_setState_of go gd (ents_fit er cn nd lm) ?_)
  simp only []
  refine wp_if_neg (by rw [sizeLine_eq]; omega) ?_
  try refine wpAny_bind (wpAny_pure (?_))
  rw [e]
  simp only []
  refine wpAny_bind (wp_if_neg (by rw [sz2]; simp) ?_)
  try refine wpAny_bind (wpAny_pure (?_))
  refine wpAny_pure (wpAny_storeSet_of go gd ?_ (by rw [sz2, sz, sizeLine_eq]; omega))
  have sb : Heap.SameBut a s.heap (s.heap.update a (Obj.putSet (ord.filterMap (es[·]?)) t')) := Heap.SameBut.update ..
  exact hQ _ L2 _ (ep + 1) t' sb ⟨⟨_, store_at go gd, ⟨gx.1, gx.2.1, gx.2.2⟩, rfl⟩, r1, T, (r2.map (·.2)).nodup_iff.mpr one, fun p hp => isT_same (tups p (r2.mem_iff.mp hp)) go gd sb,
    epl.trans pl, by rw [el]; exact ld, by rw [r2.length_eq, em]; exact gap, by rw [r2.length_eq]; exact most⟩ r2
/-- what adding to a full table leads to -/
theorem grows {m n : Nat} (hm : Msk m) (g : n * 5 < m * 3) (f : (n + 1) * 5 ≥ m * 3) (l : n + 1 ≤ 1210) :
    ∃ M, SetTable.sizeAbove (SetTable.grown (n + 1)) - 1 = M ∧ Msk M ∧ SetTable.sizeAbove (SetTable.grown (n + 1)) ≤ 2048 ∧ (n + 1) * 5 < M * 3 := by
  rcases hm with e | e | e | e | e <;> subst e
  · obtain rfl : n = 4 := by omega
    exact ⟨31, by rw [size_20], .inr (.inl rfl), by rw [size_20]; decide, by decide⟩
  · obtain rfl : n = 18 := by omega
    exact ⟨127, by rw [size_76], .inr (.inr (.inl rfl)), by rw [size_76]; decide, by decide⟩
  · obtain rfl : n = 76 := by omega
    exact ⟨511, by rw [grow_77], .inr (.inr (.inr (.inl rfl))), by rw [grow_77]; decide, by decide⟩
  · obtain rfl : n = 306 := by omega
    exact ⟨2047, by rw [grow_307], .inr (.inr (.inr (.inr rfl))), by rw [grow_307]; decide, by decide⟩
  · omega
/-- x is added -/
theorem put_at (R : Ts P w s.heap a L es ep t) {x : Addr} {k : List Int} (hx : IsT P w s.heap k x) (lu : A.units < cLine) (most : L.length + 1 ≤ 1210) {Q : Bool → Shared → Prop}
    (hQ : ∀ b h' L' es' ep' t', Heap.SameBut a s.heap h' → Ts P w h' a L' es' ep' t' → (k ∈ L.map (·.2) → L' = L) → (k ∉ L.map (·.2) → L'.Perm ((x, k) :: L)) → Q b { s with heap := h' }) :
    wpAny (model P w) A (setAddHashed a (.ref x) (thash P w k)) Q E s := by
  obtain ⟨o, go, gx, gd⟩ := R.lies
  have sz := ents_size R.ents
  have g := R.gap
  unfold setAddHashed
  rw [show (100000 : Nat) = 99999 + 1 from rfl, setAddHashedIn_succ]
  refine wpAny_holding (wpAny_bind (wpAny_setState_of go gd R.fit ?_))
  simp only []
  refine wp_if_neg (by simp [byScan, Value.scannable]) ?_
  try refine wpAny_bind (wpAny_pure (?_))
  refine wpAny_bind (find_at R hx lu true (fun m r _ => ?_) fun K m F => ?_)
  · exact wpAny_pure (hQ false s.heap L es ep t (Heap.SameBut.refl a s.heap) R (fun _ => rfl) fun z => absurd m z)
  · simp only []
    refine wpAny_bind (wpAny_setState_of go gd R.fit ?_)
    simp only []
    obtain ⟨j, ej⟩ : ∃ j, way t.mask (thash P w k) K = j := ⟨_, rfl⟩
    obtain ⟨p, epp⟩ : ∃ p, SetTable.below t.place j = p := ⟨_, rfl⟩
    obtain ⟨q1, q2, q3, q4⟩ := R.tb.more F ej epp
    rw [List.length_map] at q2 q4
    obtain ⟨t1, et1⟩ : ∃ t1, (t.put j).1 = t1 := ⟨_, rfl⟩
    have eput : t.put j = (t1, p) := Prod.ext et1 q1
    have emask : t1.mask = t.mask := et1 ▸ rfl
    have eplain : t1.plain = true := by
      have z : t1.plain = t.plain := et1 ▸ rfl
      exact z.trans R.pl
    have eled : t1.led = t.led := et1 ▸ rfl
    rw [et1] at q3 q4
    rw [ej, eput]
    simp only []
    first
      | (refine wpAny_bind (wp_if_pos eplain (hashBy_tup hx ?_)))
      | (refine wp_if_pos eplain (wpAny_bind (hashBy_tup hx ?_)))
    simp only [if_true]
    obtain ⟨L1, eL1⟩ : ∃ L1, L1 = L.take p ++ (x, k) :: L.drop p := ⟨_, rfl⟩
    have pm : L1.Perm ((x, k) :: L) := eL1 ▸ put_perm L p (x, k)
    have len1 : L1.length = L.length + 1 := pm.length_eq
    have in1 : (SetTable.insertAt es p (thash P w k, Value.ref x)).toList = rowsOf P w L1 := by rw [SetTable.toList_insertAt, eL1, rows_put, R.ents]
    have hs1 : L1.map (fun p => thash P w p.2) = (L.map fun p => thash P w p.2).take p ++ thash P w k :: (L.map fun p => thash P w p.2).drop p := by rw [eL1]; simp
    rw [← hs1] at q3
    have one1 : (L1.map (·.2)).Nodup := (pm.map (·.2)).nodup_iff.mpr (List.nodup_cons.mpr ⟨m, R.one⟩)
    have sz1 := ents_size in1
    rw [len1] at sz1
    generalize SetTable.insertAt es p (thash P w k, Value.ref x) = es1 at in1 sz1 ⊢
    refine wpAny_bind (wpAny_storeSet_of go gd ?_ (by rw [sz1, sizeLine_eq]; omega))
    have sb : Heap.SameBut a s.heap (s.heap.update a (Obj.putSet es1 t1)) := Heap.SameBut.update ..
    have go1 := store_at (es' := es1) (t' := t1) go gd
    generalize s.heap.update a (Obj.putSet es1 t1) = h1 at sb go1 ⊢
    have tups1 : ∀ p, p ∈ L1 → IsT P w h1 p.2 p.1 := fun q hq => by
      rcases List.mem_cons.mp (pm.mem_iff.mp hq) with z | z
      · rw [z]; exact isT_same hx go gd sb
      · exact isT_same (R.tups q z) go gd sb
    have ld1 : w.params.followText "set-order" = true ∨ t1.led = true := by rw [eled]; exact R.ld
    have cn1 : t1.place.size = L1.length := by
      have z := q3.cnt
      rw [List.length_map] at z
      exact z
    rcases Bool.eq_false_or_eq_true t1.tooFull with full | full
    · have f2 : (L.length + 1) * 5 ≥ t.mask * 3 := by
        have z := full
        unfold SetTable.tooFull at z
        rw [q4, emask] at z
        exact of_decide_eq_true z
      obtain ⟨M, m1, m2, m3, m4⟩ := grows R.tb.ms g f2 most
      have done : wpAny (model P w) A (setRelay a (SetTable.grown (es.size + 1))) (fun _ s' => wpAny (model P w) A (pure true) Q E s') E { s with heap := h1 } := by
        rw [sz]
        refine relay_run (s := { s with heap := h1 }) go1 ⟨gx.1, gx.2.1, gx.2.2⟩ rfl in1 cn1 q3.nod (by rw [len1, emask]; omega) one1 tups1 eplain ld1 (by rw [len1]; exact most) m1 m2 m3 (by rw [len1]; exact m4) fun h2 L2 es2 ep2 t2 sb2 R2 pm2 => ?_
        exact wpAny_pure (hQ true h2 L2 es2 ep2 t2 (sb.trans sb2) R2 (fun z => absurd z m) fun _ => pm2.trans pm)
      first
        | exact wpAny_bind (wp_if_pos (by rw [full]; rfl) done)
        | exact wp_if_pos (by rw [full]; rfl) (wpAny_bind done)
    · have f2 : ¬ (L.length + 1) * 5 ≥ t.mask * 3 := by
        have z := full
        unfold SetTable.tooFull at z
        rw [q4, emask] at z
        exact of_decide_eq_false z
      have R1 : Ts P w h1 a L1 es1 (ep + 1) t1 := ⟨⟨_, go1, ⟨gx.1, gx.2.1, gx.2.2⟩, rfl⟩, in1, q3, one1, tups1, eplain, ld1, by rw [len1, emask]; omega, by rw [len1]; exact most⟩
      have done : wpAny (model P w) A (pure true) Q E { s with heap := h1 } := wpAny_pure (hQ true h1 L1 es1 (ep + 1) t1 sb R1 (fun z => absurd z m) fun _ => pm)
      first
        | exact wp_if_neg (by rw [full]; simp) done
        | exact wpAny_bind (wp_if_neg (by rw [full]; simp) (wpAny_pure done))
end
end Tk
/-! text S3 -/
namespace Tk
open PySem PySem.Spec PyProof.Rows L2
/-! S3: set(), set(xs), x not in s, s.add(x), len(s), for tuples of ints -/
section
variable {P : Program} {w : World} {A : Around} {E : Value → Shared → Prop} {s : Shared} {a : Addr} {L : Kys} {es : Array (Int × Value)} {ep : Nat} {t : SetTable}
theorem Ts.carry {h h' : Heap} (R : Ts P w h a L es ep t) (k : ∀ o, h.get? a = some o → h'.get? a = some o) (kt : ∀ p, p ∈ L → IsT P w h' p.2 p.1) : Ts P w h' a L es ep t := by
  obtain ⟨o, go, r⟩ := R.lies
  exact ⟨⟨o, k o go, r⟩, R.ents, R.tb, R.one, kt, R.pl, R.ld, R.gap, R.most⟩
abbrev newSet (w : World) : Obj := { cls := .type "set", dict := none, data := .set #[] 0 (.fresh 0 0 (!w.params.followText "set-order")) }
theorem Ts.new {h : Heap} (go : h.get? a = some (newSet w)) : Ts P w h a [] #[] 0 (.fresh 0 0 (!w.params.followText "set-order")) where
  lies := ⟨_, go, ⟨rfl, rfl, rfl⟩, rfl⟩
  ents := rfl
  tb := ⟨.nil, rfl, rfl, .inl rfl, fun _ z => (nomatch z), fun i h j z => (by simp at z)⟩
  one := .nil
  tups := fun _ z => (nomatch z)
  pl := rfl
  ld := by
    show _ ∨ (!w.params.followText "set-order") = true
    rcases Bool.eq_false_or_eq_true (w.params.followText "set-order") with z | z
    · exact .inl z
    · exact .inr (by rw [z]; rfl)
  gap := by
    show 0 * 5 < 7 * 3
    decide
  most := Nat.zero_le _
theorem Ts.isSet (R : Ts P w s.heap a L es ep t) : s.TypeIs (.ref a) "set" := let ⟨o, go, gx, _⟩ := R.lies; ⟨o, go, gx.1⟩
theorem Ts.bare (R : Ts P w s.heap a L es ep t) : ∀ b, Value.ref a = .ref b → ∃ ob, s.heap.get? b = some ob ∧ ob.dict = none := fun b e => by
  cases e
  obtain ⟨o, go, gx, _⟩ := R.lies
  exact ⟨o, go, gx.2.1⟩
theorem notin_at (R : Ts P w s.heap a L es ep t) {x : Addr} {k : List Int} (hx : IsT P w s.heap k x) (lu : A.units + 1 < cLine) {Q : Value → Shared → Prop} (hQ : Q (.bool (!decide (k ∈ L.map (·.2)))) { s with toks := s.toks + (k.length + 1) }) :
    wpAny (model P w) A (compareOp .NotIn (.ref x) (.ref a)) Q E s := by
  show wpAny _ _ (do return .bool (!(← contains (.ref a) (.ref x)))) Q E s
  unfold contains
  have is := R.isSet
  refine wpAny_bind ?_
  try with_reducible refine wpAny_holding ?_
  refine wpAny_bind (wpAny_specialOf is F.slot_set_contains.lookup ?_)
  refine wp_if_neg (by rw [beq_builtin_none]; exact Bool.false_ne_true) ?_
  have body : wpAny (model P w) A.in1 (Builtin.«frozenset.__contains__» ⟨[.ref a, .ref x], []⟩) (fun fin s' => ∃ r, fin = .done (.ret r) ∧ r = .bool (decide (k ∈ L.map (·.2))) ∧ s' = { s with toks := s.toks + (k.length + 1) }) E s := by
    unfold Builtin.«frozenset.__contains__» Builtin.Frozenset.oneOther
    simp only [List.isEmpty_nil, bind_assoc]
    unfold Builtin.Frozenset.addrOf Builtin.Frozenset.withSetAsKey
    refine wpAny_bind (wpAny_pure (?_))
    try simp only []
    refine wpAny_bind (wpAny_pure (?_))
    try simp only []
    refine wpAny_bind (wpAny_tryCatch (has_at R hx (by show A.units + _ < _; first | omega | exact lu) ?_))
    show wpAny _ _ (ret (Value.bool _)) _ _ _
    exact wpAny_pure ⟨_, rfl, rfl, rfl⟩
  refine wpAny_bind (wpAny_callSpecialUnlessNone?_slot (name := Str.ofString "__contains__") is F.slot_set_contains (wpAny_call_entry F.slot_set_contains is entry_set_contains (wpAny_mono body (fun fin s' z => ?_) fun _ _ z => z) (F.args_set_contains_2 _ _)))
  obtain ⟨r, e1, e2, e3⟩ := z
  subst e2 e3
  exact ⟨_, e1, wpAny_truthy_bool (wpAny_pure hQ)⟩
theorem add_call (R : Ts P w s.heap a L es ep t) {x : Addr} {k : List Int} (hx : IsT P w s.heap k x) (lu : A.units + 1 < cLine) (most : L.length + 1 ≤ 1210) {Q : Value → Shared → Prop}
    (hQ : ∀ h' L' es' ep' t', Heap.SameBut a s.heap h' → Ts P w h' a L' es' ep' t' → (k ∈ L.map (·.2) → L' = L) → (k ∉ L.map (·.2) → L'.Perm ((x, k) :: L)) → Q .none { s with heap := h', toks := s.toks + (k.length + 1) }) :
    wpAny (model P w) A (call (.builtin "set.add") [.ref a, .ref x]) Q E s := by
  refine wpAny_call_entry F.slot_set_add R.isSet F.entry_set_add ?_ (F.args_set_add_2 (.ref a) (.ref x))
  unfold Builtin.«set.add» Builtin.Frozenset.oneOther
  simp only [List.isEmpty_nil, bind_assoc]
  unfold Builtin.Frozenset.addrOf setAdd
  refine wpAny_bind (wpAny_pure (?_))
  try simp only []
  refine wpAny_bind (wpAny_pure (?_))
  try simp only []
  have lu1 : A.in1.units < cLine := by show A.units + _ < _; first | omega | exact lu
  refine wpAny_bind (wpAny_holding (wpAny_bind (wpAny_pyHash_tuple lu1 hx ?_)))
  refine put_at (s := { s with toks := s.toks + (k.length + 1) }) R hx lu1 most fun b h' L' es' ep' t' sb R' c1 c2 => ?_
  show wpAny _ _ (ret Value.none) _ _ _
  exact wpAny_pure ⟨.none, rfl, hQ h' L' es' ep' t' sb R' c1 c2⟩
/-- all that stood at h₀ stands -/
abbrev Stands (h₀ h : Heap) : Prop := ∀ b o, h₀.get? b = some o → h.get? b = some o
theorem Stands.isT {h h' : Heap} {k : List Int} {b : Addr} (x : Stands h h') (y : IsT P w h k b) : IsT P w h' k b := isT_keep y x
theorem upd_loop {I : Addr} {fp wr : List Addr} {G : Array GenState → Array GenState → Prop} {n : Nat} {Pv : Nat → Value → Prop} {St : Nat → Shared → Prop} {Z : Result → Shared → Prop} (W : WalksS P w A.in1 I fp wr G n Pv St) (S : Addr) (nf : S ∉ fp)
    (ks : Kys) (en : n = ks.length) (most : ks.length ≤ 1210) (dis : (ks.map (·.2)).Nodup) (val : ∀ i v, Pv i v → ∃ p, ks[i]? = some p ∧ v = .ref p.1) (h₀ : Heap) (tups : ∀ p, p ∈ ks → IsT P w h₀ p.2 p.1) (fS : h₀.get? S = none)
    (fW : ∀ b, b ∈ wr → h₀.get? b = none) (lu : A.in1.units < cLine) :
    ∀ (k i : Nat) (s : Shared), n - i = k → i ≤ n → St i s → Stands h₀ s.heap → (∃ L es ep t, Ts P w s.heap S L es ep t ∧ L.Perm (ks.take i)) →
      (∀ s' L es ep t, Moved (S :: wr) G s s' → Ts P w s'.heap S L es ep t → L.Perm ks → Stands h₀ s'.heap → Z (.ok (.ret .none)) s') →
      codeAny (model P w) A (.builtin "set.update.loop" ⟨[.ref S, .ref I], []⟩) Z s := by
  have nw : S ∉ wr := fun z => nf (W.sub S z)
  have wide : ∀ b, b ∈ wr → b ∈ S :: wr := fun b z => .tail _ z
  have stay : ∀ {u v : Shared}, Moved wr G u v → Stands h₀ u.heap → Stands h₀ v.heap := fun mv st b o e => mv.heap b o (fun z => by rw [fW b z] at e; cases e) (st b o e)
  intro k
  induction k with
  | zero =>
    intro i s ek li st kp ⟨L, es, ep, t, R, pm⟩ fin
    obtain rfl : i = n := by omega
    refine codeAny_builtin F.entry_set_update_loop ?_
    rw [Around.under_plainId F.plain_set_update_loop _]
    show wpAny _ A.in1 ((pyNext (.ref I)) >>= _) _ _ s
    refine wpAny_bind (W.done s _ _ st fun s' mv => ?_)
    have all : ks.take i = ks := List.take_of_length_le (by omega)
    rw [all] at pm
    show wpAny _ A.in1 (ret Value.none) _ _ s'
    exact wpAny_pure (fin s' L es ep t (mv.mono wide) (R.carry (fun o e => mv.heap S o nw e) fun p hp => (stay mv kp).isT (tups p (pm.mem_iff.mp hp))) pm (stay mv kp))
  | succ k ih =>
    intro i s ek li st kp ⟨L, es, ep, t, R, pm⟩ fin
    have lt : i < n := by omega
    refine codeAny_builtin F.entry_set_update_loop ?_
    rw [Around.under_plainId F.plain_set_update_loop _]
    show wpAny _ A.in1 ((pyNext (.ref I)) >>= _) _ _ s
    refine wpAny_bind (W.item i s _ _ lt st fun v s' pv st' mv => ?_)
    obtain ⟨p, ep0, rfl⟩ := val i v pv
    have kp' := stay mv kp
    have sub : ∀ q, q ∈ L → q ∈ ks := fun q hq => List.mem_of_mem_take (pm.mem_iff.mp hq)
    have R' := R.carry (h' := s'.heap) (fun o e => mv.heap S o nw e) fun q hq => kp'.isT (tups q (sub q hq))
    have hx : IsT P w s'.heap p.2 p.1 := kp'.isT (tups p (List.mem_of_getElem? ep0))
    have lenL : L.length = i := by
      have z := pm.length_eq
      rw [List.length_take] at z
      omega
    have new : p.2 ∉ L.map (·.2) := fun z => by
      have z2 : p.2 ∈ (ks.take i).map (·.2) := (pm.map (·.2)).mem_iff.mp z
      rw [List.map_take] at z2
      obtain ⟨j, hj, ej⟩ := List.mem_take_iff_getElem.mp z2
      have hi : (ks.map (·.2))[i]? = some p.2 := by rw [List.getElem?_map, ep0]; rfl
      have hi2 := List.getElem?_eq_some_iff.mp hi
      obtain ⟨li2, ei2⟩ := hi2
      have nd := List.pairwise_iff_getElem.mp dis j i (by omega) li2 (by omega)
      exact nd (ej.trans ei2.symm)
    show wpAny _ A.in1 (holding [Value.ref p.1] (setAdd S (.ref p.1)) >>= _) _ _ s'
    refine wpAny_bind (wpAny_holding ?_)
    unfold setAdd
    refine wpAny_holding (wpAny_bind (wpAny_pyHash_tuple lu hx ?_))
    refine put_at (s := { s' with toks := s'.toks + (p.2.length + 1) }) R' hx lu (by omega) fun b h' L' es' ep' t' sb R2 _ c2 => ?_
    have nx : ks.take (i + 1) = ks.take i ++ [p] := by rw [List.take_add_one, ep0]; rfl
    have pm2 : L'.Perm (ks.take (i + 1)) := by
      rw [nx]
      exact (c2 new).trans ((pm.cons p).trans (List.perm_append_singleton p _).symm)
    have kp2 : Stands h₀ h' := fun b o e => (sb.2 b fun z => by rw [z, fS] at e; cases e).trans (kp' b o e)
    refine wpAny_pure ⟨plainId_quiet F.plain_set_update_loop _, ih (i + 1) _ (by omega) lt (W.frame _ s' _ _ st' (Nat.le_add_right _ _) fun b hb o e => (sb.2 b fun z => nf (z ▸ hb)).trans e) kp2 ⟨L', es', ep', t', R2, pm2⟩ fun s2 L2 es2 ep2 t2 mv2 R3 pm3 kp3 => ?_⟩
    exact fin s2 L2 es2 ep2 t2 (Moved.trans W.gtrans ((mv.mono wide).then_heap (Nat.le_add_right _ _) fun b o hb e => (sb.2 b fun z => hb (z ▸ .head _)).trans e) mv2) R3 pm3 kp3
set_option maxHeartbeats 3200000 in
/-- set(xs), all of xs different -/
theorem set_call {l : Addr} {items : Array Value} (ks : Kys) {Q : Value → Shared → Prop} (calm : A.handled = none) (il : s.heap.IsList l items) (ei : items.toList = ks.map fun p => Value.ref p.1) (tups : ∀ p, p ∈ ks → IsT P w s.heap p.2 p.1)
    (most : ks.length ≤ 1210) (dis : (ks.map (·.2)).Nodup) (lu : A.units + 3 < cLine)
    (hQ : ∀ (h' : Heap) (tk : Nat) L es ep t, Ts P w h' s.heap.objs.size L es ep t → L.Perm ks → Stands s.heap h' → Q (.ref s.heap.objs.size) { s with heap := h', toks := tk }) :
    wpAny (model P w) A (call (.type "set") [.ref l]) Q E s := by
  have zs : items.size = ks.length := by
    rw [← Array.length_toList, ei]
    exact List.length_map _
  obtain ⟨c, tl, mro⟩ := F.called_set.mro
  have made := F.called_set.made
  have sub0 := F.called_set.sub
  refine wpAny_call (codeAny_of_tree ?_)
  show wpAny _ _ (callAny (.type "set") _) _ _ s
  refine wpAny_pure ⟨Code.quiet_builtin _ (by decide +kernel), codeAny_builtin F.entry_type_call ?_⟩
  rw [Around.under_plain (weight_type_call_type "set" [.ref l] []) rfl]
  have f1 := F.called_set.notType
  have f2 := F.called_set.canCreate
  have f3 := F.typeCall_set_1 (.ref l)
  repeat (any_goals (first | assumption | wp_step))
  refine codeAny_mono (code_set_led1 (.ref l) (E := E) (Q₁ := fun ob u => ob = .ref s.heap.objs.size ∧ u = { s with heap := s.heap.push (newSet w) }) ⟨rfl, rfl⟩) fun r u hr => ?_
  rcases r with e | fl
  · exact hr
  rcases fl with ob | _ | _ | _
  all_goals try exact hr.elim
  obtain ⟨rfl, rfl⟩ := hr
  obtain ⟨n, en⟩ : ∃ n, n = s.heap.objs.size := ⟨_, rfl⟩
  rw [← en] at hQ ⊢
  have at0 : (s.heap.push (newSet w)).get? n = some (newSet w) := by rw [en]; exact Heap.get?_push_size _ rfl
  have is0 : Shared.TypeIs { s with heap := s.heap.push (newSet w) } (.ref n) "set" := ⟨_, at0, rfl⟩
  have f4 := F.called_set.init.lookup
  have f5 := F.called_set.init.bind (.ref n)
  repeat (any_goals (first | assumption | wp_step))
  refine codeAny_mono (codeAny_call_builtin (R := wants (fun r u => r = .none ∧ ∃ h' tk L es ep t, u = { s with heap := h', toks := tk } ∧ Ts P w h' n L es ep t ∧ L.Perm ks ∧ Stands s.heap h') E) F.called_set.init.plain F.entry_set_init (check_set_init_1 is0 ?_)) fun r2 u2 hr2 => ?_
  · obtain ⟨ol, gol, col, nl, dol⟩ := il
    obtain ⟨ocls, odict, odata, oslots⟩ := ol
    simp only at col dol
    subst col
    subst dol
    have ll : l < n := by rw [en]; exact Heap.lt_size gol
    have gol1 : (s.heap.push (newSet w)).get? l = some { cls := .type "list", dict := odict, data := .seq items nl, slots := oslots } := Heap.get?_push_of_some _ gol
    have f6 := F.sub_list_set
    have f7 := F.sub_list_frozenset
    have f8 : (Value.type "list" == Value.type "dict") = false := by decide
    have il1 : (s.heap.push (newSet w)).IsList l items := ⟨_, gol1, rfl, nl, rfl⟩
    unfold Builtin.«set.__init__» noKeywords Builtin.Frozenset.updateFrom
    generalize hIt : pyIter = It
    wp_walk
    subst hIt
    refine wpAny_pyIter_list il1 ?_
    refine wpAny_bind (wpAny_runValue (?_))
    have calm3 : A.in1.in1.in1.handled = none := by simp [calm]
    have z1 : (s.heap.push (newSet w)).objs.size = n + 1 := by rw [en]; exact Heap.size_push ..
    have free : ∀ b, n ≤ b → s.heap.get? b = none := fun b hb => Heap.get?_none_of_le (by rw [← en]; exact hb)
    have val : ∀ (i : Nat) (v : Value), items[i]? = some v → ∃ p, ks[i]? = some p ∧ v = .ref p.1 := fun i v hv => by
      rw [← Array.getElem?_toList, ei, List.getElem?_map] at hv
      cases q : ks[i]? with
      | none => rw [q] at hv; cases hv
      | some p => rw [q] at hv; exact ⟨p, rfl, (Option.some.inj hv).symm⟩
    have at1 : ((s.heap.push (newSet w)).push { cls := .type "list_iterator", data := .fields #[.ref l, .int 0 0] }).get? n = some (newSet w) := Heap.get?_push_of_some _ at0
    have l1 : l ≠ (s.heap.push (newSet w)).objs.size := by
      rw [z1]
      exact Nat.ne_of_lt (Nat.lt_succ_of_lt ll)
    have l2 : n ∉ [(s.heap.push (newSet w)).objs.size, l] := fun z => by
      rw [z1] at z
      rcases List.mem_cons.mp z with e | e
      · exact Nat.ne_of_lt (Nat.lt_succ_self n) e
      · exact Nat.ne_of_gt ll (List.mem_singleton.mp e)
    refine upd_loop ((Walks.list calm3 _ l l1 items).toS) n l2 ks zs most dis val s.heap tups (free n (Nat.le_refl n)) (fun b hb => free b (by
        rw [List.mem_singleton.mp hb, z1]
        exact Nat.le_succ n)) lu (items.size - 0) 0 _ rfl (Nat.zero_le _) ⟨⟨_, Heap.get?_push_size _ rfl, rfl, rfl⟩, il1.push _⟩ (fun b o e => Heap.get?_push_of_some _ (Heap.get?_push_of_some _ e)) ⟨[], #[], 0, _, Ts.new at1, .nil⟩ ?_
    intro s' L es ep t mv R pm kp
    obtain ⟨h', g2, d', tk', os'⟩ := s'
    obtain rfl : g2 = s.gens := mv.gens
    obtain rfl : d' = s.drawn := mv.drawn
    obtain rfl : os' = s.os := mv.os
    show wpAny _ _ _ _ _ _
    refine wpAny_pure ?_
    show wpAny _ _ (ret Value.none) _ _ _
    exact wpAny_pure ⟨rfl, h', tk', L, es, ep, t, rfl, R, pm, kp⟩
  · rcases r2 with e | fl
    · exact hr2
    rcases fl with v | _ | _ | _
    all_goals try exact hr2.elim
    obtain ⟨rfl, h', tk, L, es, ep, t, rfl, R, pm, kp⟩ := hr2
    repeat (any_goals (first | assumption | wp_step))
    exact hQ _ _ _ _ _ _ R pm kp
/-- set() -/
theorem set_call0 {Q : Value → Shared → Prop} (hQ : (∃ es ep t, Ts P w (s.heap.push (newSet w)) s.heap.objs.size [] es ep t) → Q (.ref s.heap.objs.size) { s with heap := s.heap.push (newSet w) }) : wpAny (model P w) A (call (.type "set") []) Q E s :=
  setR_new fun _ => hQ ⟨#[], 0, _, Ts.new (Heap.get?_push_size _ rfl)⟩
/-- len(s) -/
theorem len_call (R : Ts P w s.heap a L es ep t) {Q : Value → Shared → Prop} (hQ : ∀ tk, Q (.int L.length (s.toks + 1)) { s with toks := tk }) : wpAny (model P w) A (call (.builtin "len") [.ref a]) Q E s := by
  obtain ⟨o, go, gx, gd⟩ := R.lies
  have sz := ents_size R.ents
  have m := R.most
  refine call_len_set go gx gd R.fit (by rw [sz]; omega) ?_
  rw [sz]
  exact hQ _
end
end Tk
/-! text S4 -/
namespace Tk
open PySem PySem.Calls PyProof.Rows PySem.W
/-! S4: sorted(xs, key=f), any length, where f's keys may hold lists that stood there before -/
section
variable {prog : Program} {w : World} {A : Around} {E : Value → Shared → Prop} {s : Shared} {a kS : Addr} {vs : List Value} {keys : Array Value} {e e1 : Nat} {kz : List PyData} {D : Addr → Prop}
/-- what a call f(x) gives: all stands, the key k, whose lists are places of D -/
def KeyTo (D : Addr → Prop) (k : PyData) (s₁ : Shared) (v : Value) (s₂ : Shared) : Prop := ∃ h' tk as, s₂ = { s₁ with heap := h', toks := tk } ∧ (∀ b o, s₁.heap.get? b = some o → h'.get? b = some o) ∧ Reads h' v k as ∧ ∀ b, b ∈ as → D b
theorem keys_made {f : Value} {h₁ : Heap} {b : Bool} {P : PySem.Fin → Shared → Prop} (kp : KeepsBut a h₁ s.heap) (nD : ¬ D kS) (fk : h₁.get? kS = none) (nk : s.heap.get? kS = some (seqObj "list" #[] 0)) (na : s.heap.get? a = some (seqObj "list" #[] e1)) (ka : kS ≠ a)
    (ln : kz.length = vs.length) (lz : vs.length ≤ sizeLine) (al : AllAlike kz) (sk : Sortable kz) (hu : ∀ d, d ∈ kz → A.units + d.depth < cLine)
    (turn : ∀ (i : Nat) (v : Value) (k : PyData), vs[i]? = some v → kz[i]? = some k → ∀ (h : Heap) (tk : Nat), KeepsBut a h₁ h →
      wpAny (model prog w) A (call f [v]) (KeyTo D k { s with heap := h, toks := tk }) (fun _ _ => False) { s with heap := h, toks := tk })
    (fin : ∀ h' tk out c, KeepsBut a h₁ h' → h'.get? a = some (seqObj "list" (List.toArray out) c) → KeyedOut b kz vs out → P (.done (.ret .none)) { s with heap := h', toks := tk }) :
    wpAny (model prog w) A (ksk_rest a f b vs.toArray e1 (.ref kS)) P E s := by
  -- behind i keys
  let J : Nat → Shared → Prop := fun i u => ∃ h' tk ks c, u = { s with heap := h', toks := tk } ∧ KeepsBut a h₁ h' ∧ h'.get? kS = some (seqObj "list" ks c) ∧ h'.get? a = some (seqObj "list" #[] e1) ∧
    EachIs (fun v k => (∃ as, Reads h' v k as ∧ ∀ b, b ∈ as → D b) ∧ alike k k = true) ks.toList (kz.take i)
  have start : J 0 s := ⟨s.heap, s.toks, #[], 0, rfl, kp, nk, na, .nil⟩
  unfold ksk_rest
  refine wpAny_bind (wpAny_rule ?_)
  rw [List.forIn_toArray]
  refine wpAny_bind (ksk_fold J vs 0 s start (fun j x u hx ju => ?_) fun u ju => ?_)
  · obtain ⟨h', tk, ks, c, rfl, k1, k2, k3, hk⟩ := ju
    rw [Nat.zero_add] at hk ⊢
    obtain ⟨lj, _⟩ := List.getElem?_eq_some_iff.mp hx
    obtain ⟨k, ek⟩ : ∃ k, kz[j]? = some k := ⟨_, List.getElem?_eq_getElem (by omega)⟩
    have kk : alike k k = true := al k (List.mem_of_getElem? ek) k (List.mem_of_getElem? ek)
    have zl : ks.size ≤ vs.length := by
      have z := hk.length
      rw [Array.length_toList, List.length_take] at z
      omega
    refine wpAny_bind (wpAny_attempt (wpAny_mono (turn j x k hx ek h' tk k1) (fun v u2 he => ?_) fun _ _ z => z.elim))
    obtain ⟨g, tk2, as, rfl, kg, rd, inD⟩ := he
    simp only []
    have k2' := kg _ _ k2
    have sb := Heap.SameBut.update g kS (Obj.mapSeq (·.push v))
    obtain ⟨c2, ec2⟩ : ∃ c2, (g.update kS (Obj.mapSeq (·.push v))).get? kS = some (seqObj "list" (ks.push v) c2) := ⟨_, get?_update_seq k2' (·.push v)⟩
    have over : ∀ (u : Value) (d : PyData), (∃ as, Reads g u d as ∧ ∀ b, b ∈ as → D b) ∧ alike d d = true → (∃ as, Reads (g.update kS (Obj.mapSeq (·.push v))) u d as ∧ ∀ b, b ∈ as → D b) ∧ alike d d = true := fun u d ⟨⟨as, r, q⟩, z⟩ =>
      ⟨⟨as, Reads.keepBut (a := kS) (fun b o nb eb => (sb.2 b nb).trans eb) (fun o eo => by rw [k2'] at eo; cases eo; rfl) d u as z r fun m => nD (q kS m), q⟩, z⟩
    refine wpAny_bind (listUpdate_at k2' rfl ?_ (Nat.le_trans zl lz) (by rw [Array.size_push]; exact Nat.succ_le_succ (Nat.le_trans zl lz)))
    refine wpAny_pure ⟨rfl, _, _, ks.push v, c2, rfl, (k1.trans_all kg).same sb (.inr fk), ec2, (sb.2 a ka.symm).trans (kg _ _ k3), ?_⟩
    have e1' : kz.take (j + 1) = kz.take j ++ [k] := by rw [List.take_add_one, ek]; rfl
    rw [e1', Array.toList_push]
    refine each_snoc (R := fun (u : Value) (d : PyData) => (∃ as, Reads (g.update kS (Obj.mapSeq (·.push v))) u d as ∧ ∀ b, b ∈ as → D b) ∧ alike d d = true) (over v k ⟨⟨as, rd, inD⟩, kk⟩) (hk.mono fun u d q => over u d ⟨?_, q.2⟩)
    obtain ⟨⟨as', r', q'⟩, _⟩ := q
    exact ⟨as', PyProof.Rows.Reads.keeps kg r', q'⟩
  · obtain ⟨h', tk, ks, c, rfl, k1, k2, k3, hk⟩ := ju
    rw [Nat.zero_add, List.take_of_length_le (by omega)] at hk
    have hk' : EachIs (fun v k => ∃ as, Reads h' v k as) ks.toList kz := hk.mono fun v k ⟨⟨as, r, _⟩, _⟩ => ⟨as, r⟩
    have zs : ks.size = vs.length := by
      have z := hk'.length
      rw [Array.length_toList] at z
      omega
    try simp only []
    refine wpAny_bind (listItems_at k2 rfl ?_)
    exact keyH_end (κ := dataKind h' kz) (h₁ := h₁) (s := { s with heap := h', toks := tk }) k1 fk k2 k3 ka (SortsAt.data hk' al sk hu) zs lz fun h3 tk3 c3 k4 n4 => fin h3 tk3 _ c3 k4 n4 ⟨h', ks.toList, al, rfl, hk'⟩
theorem keys_tree {f : Value} {n : Nat} {b : Bool} {P : PySem.Fin → Shared → Prop} (ho : s.heap.get? a = some (seqObj "list" vs.toArray n)) (inD : ∀ c, D c → s.heap.get? c ≠ none) (ln : kz.length = vs.length) (lz : vs.length ≤ sizeLine) (al : AllAlike kz) (sk : Sortable kz) (hu : ∀ d, d ∈ kz → A.units + d.depth < cLine)
    (turn : ∀ (i : Nat) (v : Value) (k : PyData), vs[i]? = some v → kz[i]? = some k → ∀ (h : Heap) (tk : Nat), KeepsBut a s.heap h →
      wpAny (model prog w) A (call f [v]) (KeyTo D k { s with heap := h, toks := tk }) (fun _ _ => False) { s with heap := h, toks := tk })
    (fin : ∀ h' tk out c, KeepsBut a s.heap h' → h'.get? a = some (seqObj "list" (List.toArray out) c) → KeyedOut b kz vs out → P (.done (.ret .none)) { s with heap := h', toks := tk }) :
    wpAny (model prog w) A (ksk_tree a f b) P E s := by
  obtain ⟨g1, eg1⟩ : ∃ g1, g1 = s.heap.update a (Obj.mapSeq fun _ => (#[] : Array Value)) := ⟨_, rfl⟩
  obtain ⟨e1, o1⟩ : ∃ e1, g1.get? a = some (seqObj "list" #[] e1) := ⟨_, eg1 ▸ get?_update_seq ho fun _ => #[]⟩
  have z1 : (g1.push (seqObj "tuple" vs.toArray 0)).objs.size = s.heap.objs.size + 1 := by rw [eg1, size_push', Heap.size_update]
  have la := Heap.lt_size ho
  have free : s.heap.get? (s.heap.objs.size + 1) = none := Heap.get?_none_of_le (Nat.le_succ _)
  unfold ksk_tree
  refine wpAny_bind (listItems_at ho rfl ?_)
  refine wpAny_bind (listUpdate_at ho rfl ?_ (by rw [List.size_toArray]; exact lz) (Nat.zero_le _))
  rw [← eg1]
  refine wpAny_bind (seqEpoch_at o1 rfl ?_)
  refine wpAny_bind (wpAny_newTuple ?_ lz)
  refine wpAny_bind (wpAny_newList ?_ (Nat.zero_le _))
  refine wpAny_holding ?_
  refine keys_made (kz := kz) (h₁ := s.heap) (D := D) (s := { s with heap := (g1.push (seqObj "tuple" vs.toArray 0)).push (seqObj "list" #[] 0) }) (kS := (g1.push (seqObj "tuple" vs.toArray 0)).objs.size) (fun c o nc q => ?_) ?_ ?_ (Heap.get?_push_size _ rfl)
    (Heap.get?_push_of_some _ (Heap.get?_push_of_some _ o1)) ?_ ln lz al sk hu turn fin
  · exact Heap.get?_push_of_some _ (Heap.get?_push_of_some _ (by rw [eg1, Heap.get?_update_ne _ _ _ _ nc]; exact q))
  · rw [z1]
    exact fun z => inD _ z free
  · rw [z1]
    exact free
  · rw [z1]
    exact Nat.ne_of_gt (Nat.lt_succ_of_lt la)
/-- sorted(xs, key=f) -/
theorem sorted_keyed {l f : Addr} {β : Type} {bs : List β} {R : Value → β → Prop} {Q : Value → Shared → Prop} (k : β → PyData) (il : s.heap.IsList l vs.toArray) (ea : EachIs R vs bs) (inD : ∀ c, D c → s.heap.get? c ≠ none) (al : AllAlike (bs.map k)) (sk : Sortable (bs.map k)) (lz : bs.length ≤ sizeLine)
    (hu : ∀ x, x ∈ bs → A.units + 2 + (k x).depth < cLine)
    (turn : ∀ (v : Value) (x : β), R v x → x ∈ bs → ∀ (h : Heap) (tk : Nat), (∀ b o, s.heap.get? b = some o → h.get? b = some o) →
      wpAny (model prog w) A.in1.in1 (call (.ref f) [v]) (KeyTo D (k x) { s with heap := h, toks := tk }) (fun _ _ => False) { s with heap := h, toks := tk })
    (fin : ∀ out c h' tk, (∀ b o, s.heap.get? b = some o → h'.get? b = some o) → h'.get? (s.heap.objs.size + 1) = some (seqObj "list" (List.toArray out) c) → EachIs R out (bs.mergeSort (dataLe false k)) →
      Q (.ref (s.heap.objs.size + 1)) { s with heap := h', toks := tk }) :
    wpAny (model prog w) A (call (.builtin "sorted") [.ref l] [(Str.ofString "key", .ref f)]) Q E s := by
  have up : ∀ {g : Heap}, KeepsBut (s.heap.objs.size + 1) (copyHeap s.heap vs) g → ∀ b o, s.heap.get? b = some o → g.get? b = some o := fun kp b o q => kp b o (Nat.ne_of_lt (Nat.lt_succ_of_lt (Heap.lt_size q))) (copyHeap_old q)
  have ev := ea.length
  refine sorted_of_sort il (by omega) (ksk_s1 _ _) (fun _ => ksk_l1 _ _) fun E' => ?_
  rw [ksk_t1]
  have lm : (bs.map k).length = vs.length := by rw [List.length_map]; exact ev.symm
  refine keys_tree (kz := bs.map k) (D := D) (s := { s with heap := copyHeap s.heap vs }) (copyHeap_at s.heap vs) (fun c z q => ?_) lm (by omega) al sk (fun d hd => ?_) (fun i v d ei ed h tk kp => ?_) fun h' tk out c kp hD ko => ⟨rfl, fin out c h' tk (up kp) hD (keyedOut_each k ko ea)⟩
  · cases q2 : s.heap.get? c with
    | none => exact inD c z q2
    | some o =>
      have q3 := copyHeap_old (vs := vs) q2
      rw [show (copyHeap s.heap vs).get? c = none from q] at q3
      cases q3
  · obtain ⟨x, hx, rfl⟩ := List.mem_map.mp hd
    exact hu x hx
  · rw [List.getElem?_map] at ed
    cases q : bs[i]? with
    | none => rw [q] at ed; cases ed
    | some x =>
      rw [q] at ed
      cases ed
      have zp : (v, x) ∈ vs.zip bs := List.mem_of_getElem? (i := i) (List.getElem?_zip_eq_some.mpr ⟨ei, q⟩)
      exact turn v x (ea.zip _ zp) (List.mem_of_getElem? q) h tk (up kp)
end
end Tk
/-! text W2 -/
set_option maxHeartbeats 4000000
namespace Tk
open PySem L2
theorem sz {n : Nat} (h : n ≤ 1000000) : n ≤ sizeLine := Nat.le_trans h (by decide)
theorem szl {n : Nat} (h : n ≤ 1000000) : n < sizeLine := Nat.lt_of_le_of_lt h (by decide)
/-- tuple(list): a new tuple, its object known -/
@[irreducible] def rTupF (K : PySem.W.Frag) : List V → Hp → VK → Prop := fun xs H Q => ∃ p ys, xs = [.ref p] ∧ SqL K H p ys ∧ ∀ l o, H l = none → o.dict = none → Q (.ref l) (upd H l (.frz o (.tup ys)))
theorem cr_tupF {X : Cx} : CallR X (.type "tuple") (rTupF X.K) := by
  unfold rTupF
  intro pins s σ H xs us Q I r h
  obtain ⟨p, ys, rfl, hq, q⟩ := h
  obtain ⟨u, rfl, rx⟩ := vals1 r
  cases rx
  obtain ⟨its, r', pl, hz⟩ := I.list hq
  have hlen := r'.length
  refine call_tuple_list pl.isList (fun h' kp => ?_) (by simp only [List.size_toArray] <;> omega)
  have I1 : Inv X pins σ H { s with heap := h' } := I.kept (t' := s.toks) kp
  have I2 : Inv X pins σ (upd H h'.objs.size (.frz { cls := .type "tuple", data := .seq its.toArray } (.tup ys))) { s with heap := h'.push { cls := .type "tuple", data := .seq its.toArray } } :=
    I1.laid (t' := s.toks) (fun b o e => Heap.get?_push_of_some _ e) (Nat.le_refl _) (show ObjOk X.prog X.w _ _ _ (.frz _ (.tup ys)) from ⟨Heap.get?_push_size _ rfl, hz, its, r', PyProof.Rows.IsTup.new _ _⟩)
  exact ⟨.ref h'.objs.size, _, I2, rfl, q _ _ (I1.hok.fresh (Nat.le_refl _)) rfl⟩
/-! ### relations that the unifier leaves as they are -/
@[irreducible] def rIxTm (K : PySem.W.Frag) : R2 := rIxT K
@[irreducible] def rIxLm (K : PySem.W.Frag) : R2 := rIxL K
@[irreducible] def rLen (K : PySem.W.Frag) : List V → Hp → VK → Prop := fun xs H Q => ∃ p ys, xs = [.ref p] ∧ (SqL K H p ys ∨ SqT K H p ys) ∧ Q (.int ys.length) H
@[irreducible] def rTupOf (K : PySem.W.Frag) : List V → Hp → VK → Prop := fun xs H Q => ∃ p ys, xs = [.ref p] ∧ ((SqL K H p ys ∧ ∀ l, H l = none → Q (.ref l) (upd H l (.tup ys))) ∨ (SqT K H p ys ∧ Q (.ref p) H))
@[irreducible] def rListOf (K : PySem.W.Frag) : List V → Hp → VK → Prop := fun xs H Q => ∃ p ys, xs = [.ref p] ∧ (SqL K H p ys ∨ SqT K H p ys) ∧ ∀ l, H l = none → Q (.ref l) (upd H l (.lst ys))
@[irreducible] def rCatTm (K : PySem.W.Frag) : R2 := rCatA K
@[irreducible] def rCatLm : R2 := rCat
@[irreducible] def rSlTm (K : PySem.W.Frag) : V → Option Int → Option Int → Hp → VK → Prop := rSlA K
@[irreducible] def rSlLm (K : PySem.W.Frag) : V → Option Int → Option Int → Hp → VK → Prop := rSlL K
@[irreducible] def rNotInm (K : PySem.W.Frag) : R2 := rIn K true
@[irreducible] def rAllm (K : PySem.W.Frag) : List V → Hp → VK → Prop := rAll K
@[irreducible] def rMkT : List V → Hp → VK → Prop := fun xs H1 Q => xs.length ≤ sizeLine ∧ ∀ p, H1 p = none → Q (.ref p) (upd H1 p (.tup xs))
@[irreducible] def rMkL : List V → Hp → VK → Prop := fun xs H1 Q => xs.length ≤ sizeLine ∧ ∀ p, H1 p = none → Q (.ref p) (upd H1 p (.lst xs))
@[irreducible] def rAppm : V → List V → Hp → VK → Prop := rAppend
@[irreducible] def rExtm : V → List V → Hp → VK → Prop := rExtend
@[irreducible] def rPopm : V → List V → Hp → VK → Prop := rPop
@[irreducible] def rSetm : V → V → V → Hp → (Hp → Prop) → Prop := rSetL
@[irreducible] def rFldm (K : PySem.W.Frag) (f : Str) : V → Hp → VK → Prop := fun x H1 Q => ∃ a C dx fs v, x = .ref a ∧ H1 a = some (.ins C dx fs) ∧ Cls K C ∧ NoAttr K C f ∧ fs.lookup f = some v ∧ Q v H1
@[irreducible] def rFldSet (K : PySem.W.Frag) (f : Str) : V → V → Hp → (Hp → Prop) → Prop := fun x y H2 Q => ∃ a C dx fs, x = .ref a ∧ H2 a = some (.ins C dx fs) ∧ Cls K C ∧ NoAttr K C f ∧ fs.length < 1000 ∧ Q (upd H2 a (.ins C dx (putF f y fs)))
def tFldm (K : PySem.W.Frag) (ta : TE) (f : Str) : TE := fun σ H Q => ta σ H fun x H1 => rFldm K f x H1 Q
def sFldm (K : PySem.W.Frag) (ta tv : TE) (f : Str) : TS := fun D σ H => tv σ H fun y H1 => ta σ H1 fun x H2 => rFldSet K f x y H2 fun H3 => D.nx σ H3
section
variable {X : Cx}
theorem mt_appendm : MtM X "list.append" rAppm := by unfold rAppm; exact mt_append
theorem mt_extendm : MtM X "list.extend" rExtm := by unfold rExtm; exact mt_extend
theorem mt_popm : MtM X "list.pop" rPopm := by unfold rPopm; exact mt_pop
theorem set_listm : PSet X rSetm := by unfold rSetm; exact set_list
theorem ix_tupm : IxR X (rIxTm X.K) := by unfold rIxTm; exact ix_tup
theorem ix_listm : IxR X (rIxLm X.K) := by unfold rIxLm; exact ix_list
theorem cr_len : CallR X (.builtin "len") (rLen X.K) := by unfold rLen; exact call_len_seq
theorem cr_tup : CallR X (.type "tuple") (rTupOf X.K) := by unfold rTupOf; exact call_tuple_of
theorem cr_list : CallR X (.type "list") (rListOf X.K) := by unfold rListOf; exact call_list_of
theorem op_catTm : OpR X (binaryOp .Add) (rCatTm X.K) := by unfold rCatTm; exact op_catA
theorem op_catLm : OpR X (binaryOp .Add) rCatLm := by unfold rCatLm; exact op_cat
theorem sl_tupm : SlR X (rSlTm X.K) := by unfold rSlTm; exact sl_tupA
theorem sl_listm : SlR X (rSlLm X.K) := by unfold rSlLm; exact sl_list
theorem op_notInm : OpR X (compareOp .NotIn) (rNotInm X.K) := by unfold rNotInm; exact op_notIn_seq
theorem cr_allm (hc : X.calm = true) : CallR X (.builtin "all") (rAllm X.K) := by unfold rAllm; exact cr_all hc
def tTupm (t : TA) : TE := fun σ H Q => t σ H fun xs H1 => rMkT xs H1 Q
def tLstm (t : TA) : TE := fun σ H Q => t σ H fun xs H1 => rMkL xs H1 Q
theorem pe_tupm {es : List Expr} {t : TA} {pos : Pos} {x1} (h : PA X es t) : PE X (.Tuple es x1 pos) (tTupm t) := by unfold tTupm rMkT; exact pe_tup h
theorem pe_lstm {es : List Expr} {t : TA} {pos : Pos} (h : PA X es t) : PE X (.List es pos) (tLstm t) := by unfold tLstm rMkL; exact pe_lst h
end
section
variable {K : PySem.W.Frag} {N F : Fp} {H : Hp} {x y v : V} {Q : VK} {ds es : List D} {σ : L2.St} {Dn : Ends}
/-! ### places of tuples and lists -/
theorem ixT (i : Nat) {d : D} (h : At N H x (.t ds)) (hi : ds[i]? = some d) (hy : y = .int (i : Int)) (q : ∀ z, At N H z d → Q z H) : rIxTm K x y H Q := by
  unfold rIxTm
  obtain ⟨a, vs, rfl, _, ha, r⟩ := At.tup h
  obtain ⟨z, hz, hd⟩ := r.get hi
  exact ⟨a, vs, i, z, rfl, hy, SqT.of ha, atI_nat hz, q z hd⟩
theorem ixF (i : Nat) {d : D} (h : At N H x (.f ds)) (hi : ds[i]? = some d) (hy : y = .int (i : Int)) (q : ∀ z, At N H z d → Q z H) : rIxTm K x y H Q := by
  unfold rIxTm
  obtain ⟨a, vs, o, rfl, _, ha, _, r⟩ := At.frz h
  obtain ⟨z, hz, hd⟩ := r.get hi
  exact ⟨a, vs, i, z, rfl, hy, SqT.frz ha, atI_nat hz, q z hd⟩
theorem ixL (i : Nat) {d : D} (h : At N H x (.l ds)) (hi : ds[i]? = some d) (hy : y = .int (i : Int)) (q : ∀ z, At N H z d → Q z H) : rIxLm K x y H Q := by
  unfold rIxLm
  obtain ⟨a, vs, rfl, _, ha, r⟩ := At.lst h
  obtain ⟨z, hz, hd⟩ := r.get hi
  exact ⟨a, vs, i, z, rfl, hy, SqL.of ha, atI_nat hz, q z hd⟩
/-- x[-1] -/
theorem ixLast {d : D} (h : At N H x (.l ds)) (hi : ds[ds.length - 1]? = some d) (q : ∀ z, At N H z d → Q z H) : rIxLm K x (.int (-1)) H Q := by
  unfold rIxLm
  obtain ⟨a, vs, rfl, _, ha, r⟩ := At.lst h
  obtain ⟨z, hz, hd⟩ := r.get hi
  have hl := r.len
  have h0 := (List.getElem?_eq_some_iff.mp hz).1
  refine ⟨a, vs, -1, z, rfl, rfl, SqL.of ha, ?_, q z hd⟩
  unfold atI ixN
  rw [if_neg (by omega), if_pos (by omega)]
  have e : (-1 + (vs.length : Int)).toNat = ds.length - 1 := by omega
  simp only [Option.bind_some]
  first
    | (rw [e]; exact hz)
    | (rw [show ((vs.length : Int) + -1).toNat = ds.length - 1 by omega]; exact hz)
/-- lens -/
theorem lenT (h : At N H x (.t ds)) (q : Q (nV ds.length) H) : rLen K [x] H Q := by
  unfold rLen
  obtain ⟨a, vs, rfl, _, ha, r⟩ := At.tup h
  exact ⟨a, vs, rfl, .inr (SqT.of ha), by rw [r.len]; exact q⟩
theorem lenF (h : At N H x (.f ds)) (q : Q (nV ds.length) H) : rLen K [x] H Q := by
  unfold rLen
  obtain ⟨a, vs, o, rfl, _, ha, _, r⟩ := At.frz h
  exact ⟨a, vs, rfl, .inr (SqT.frz ha), by rw [r.len]; exact q⟩
theorem lenL (h : At N H x (.l ds)) (q : Q (nV ds.length) H) : rLen K [x] H Q := by
  unfold rLen
  obtain ⟨a, vs, rfl, _, ha, r⟩ := At.lst h
  exact ⟨a, vs, rfl, .inl (SqL.of ha), by rw [r.len]; exact q⟩
theorem inV_ints (a : Nat) : ∀ ns : List Nat, inV (nV a) (ns.map nV) = decide (a ∈ ns)
  | [] => rfl
  | x :: ns => by
    have ih := inV_ints a ns
    show (eqV (nV x) (nV a) || inV (nV a) (ns.map nV)) = _
    rw [ih]
    have e : eqV (nV x) (nV a) = decide (x = a) := by
      show ((x : Int) == (a : Int)) = _
      by_cases h : x = a
      · subst h; simp
      · rw [decide_eq_false h]
        exact beq_eq_false_iff_ne.mpr (by omega)
    rw [e]
    by_cases h : x = a
    · subst h; simp
    · have h' : ¬ a = x := fun z => h z.symm
      simp [h, h']
theorem flat_ints : ∀ ns : List Nat, (ns.map nV).all flatV = true
  | [] => rfl
  | _ :: ns => flat_ints ns
theorem notInL {a : Nat} {ns : List Nat} (h : At N H y (.l (ns.map D.n))) (q : Q (.bl (!decide (a ∈ ns))) H) : rNotInm K (nV a) y H Q := by
  unfold rNotInm
  obtain ⟨l, vs, rfl, _, ha, r⟩ := At.lst h
  rw [r.isInts] at ha
  exact ⟨l, ns.map nV, rfl, .inl (SqL.of ha), rfl, flat_ints ns, by rw [inV_ints]; exact q⟩
theorem Ats.bools : ∀ {bs : List Bool} {vs : List V}, Ats N H vs (bs.map D.b) → vs = bs.map V.bl
  | [], _, .nil => rfl
  | x :: w, _, .cons h r => by
    cases h
    rw [Ats.bools (bs := w) r]
    rfl
theorem allL {bs : List Bool} (h : At N H x (.l (bs.map D.b))) (q : Q (.bl (bs.all id)) H) : rAllm K [x] H Q := by
  unfold rAllm
  obtain ⟨a, vs, rfl, _, ha, r⟩ := At.lst h
  rw [Ats.bools r] at ha
  exact ⟨a, bs, rfl, SqL.of ha, q⟩
theorem allTrue {α : Type} {xs : List α} (h : At N H x (.l (xs.map fun _ => D.b true))) (q : Q (.bl true) H) : rAllm K [x] H Q := by
  have e : (xs.map fun _ => D.b true) = (xs.map fun _ => true).map D.b := by rw [List.map_map]; rfl
  rw [e] at h
  refine allL h ?_
  have : ((xs.map fun _ => true).all id) = true := by simp
  rw [this]
  exact q
/-- new tuples and lists -/
theorem mkT {vs : List V} (W : Wf N H) (hl : ds.length ≤ 1000000) (r : Ats N H vs ds) (q : ∀ p H', Sm H H' → At N H' (.ref p) (.t ds) → Q (.ref p) H') : rMkT vs H Q := by
  unfold rMkT
  exact ⟨by rw [r.len]; exact sz hl, fun p hp => q p _ (.new hp) (.mkT W hp r)⟩
theorem mkL {vs : List V} (W : Wf N H) (hl : ds.length ≤ 1000000) (r : Ats N H vs ds) (q : ∀ p H', Sm H H' → At N H' (.ref p) (.l ds) → Q (.ref p) H') : rMkL vs H Q := by
  unfold rMkL
  exact ⟨by rw [r.len]; exact sz hl, fun p hp => q p _ (.new hp) (.mkL W hp r)⟩
/-- a new list that will be written -/
theorem mkLw {vs : List V} (hl : vs.length ≤ 1000000) (q : ∀ p, H p = none → Q (.ref p) (upd H p (.lst vs))) : rMkL vs H Q := by
  unfold rMkL
  exact ⟨sz hl, q⟩
/-- tuple(list), tuple(tuple) -/
theorem tupL (W : Wf N H) (h : At N H x (.l ds)) (q : ∀ p H', Sm H H' → At N H' (.ref p) (.t ds) → Q (.ref p) H') : rTupOf K [x] H Q := by
  unfold rTupOf
  obtain ⟨a, vs, rfl, _, ha, r⟩ := At.lst h
  exact ⟨a, vs, rfl, .inl ⟨SqL.of ha, fun l hl => q l _ (.new hl) (.mkT W hl r)⟩⟩
theorem tupF (W : Wf N H) (h : At N H x (.l ds)) (q : ∀ p H', Sm H H' → At N H' (.ref p) (.f ds) → Q (.ref p) H') : rTupF K [x] H Q := by
  unfold rTupF
  obtain ⟨a, vs, rfl, _, ha, r⟩ := At.lst h
  exact ⟨a, vs, rfl, SqL.of ha, fun l o hl hd => q l _ (.new hl) (.f (W.no hl) upd_same hd (r.ev (.new hl)))⟩
theorem tupT (h : At N H x (.t ds)) (q : Q x H) : rTupOf K [x] H Q := by
  unfold rTupOf
  obtain ⟨a, vs, rfl, _, ha, r⟩ := At.tup h
  exact ⟨a, vs, rfl, .inr ⟨SqT.of ha, q⟩⟩
/-- list(tuple), list(list): a new list -/
theorem listT (h : At N H x (.t ds)) (q : ∀ p vs, H p = none → Ats N H vs ds → Q (.ref p) (upd H p (.lst vs))) : rListOf K [x] H Q := by
  unfold rListOf
  obtain ⟨a, vs, rfl, _, ha, r⟩ := At.tup h
  exact ⟨a, vs, rfl, .inr (SqT.of ha), fun l hl => q l vs hl r⟩
theorem listL (h : At N H x (.l ds)) (q : ∀ p vs, H p = none → Ats N H vs ds → Q (.ref p) (upd H p (.lst vs))) : rListOf K [x] H Q := by
  unfold rListOf
  obtain ⟨a, vs, rfl, _, ha, r⟩ := At.lst h
  exact ⟨a, vs, rfl, .inl (SqL.of ha), fun l hl => q l vs hl r⟩
/-- t + u -/
theorem catT (W : Wf N H) (h : At N H x (.t ds)) (g : At N H y (.t es)) (hl : ds.length + es.length ≤ 1000000) (q : ∀ z H', Sm H H' → At N H' z (.t (ds ++ es)) → Q z H') : rCatTm K x y H Q := by
  unfold rCatTm
  obtain ⟨a, vs, rfl, na, ha, r⟩ := At.tup h
  obtain ⟨b, us, rfl, nb, hb, r'⟩ := At.tup g
  refine ⟨a, b, vs, us, rfl, rfl, SqT.of ha, SqT.of hb, by rw [r.len, r'.len]; exact sz hl, fun e => ?_, fun _ e => ?_, fun _ _ p hp => q _ _ (.new hp) (.mkT W hp (r.app r'))⟩
  · subst e
    cases r
    exact q _ _ (.refl _ _) (.t nb hb r')
  · subst e
    cases r'
    rw [List.append_nil] at q
    exact q _ _ (.refl _ _) (.t na ha r)
/-- xs + ys -/
theorem catL (h : At N H x (.l ds)) (g : At F H y (.l es)) (hl : ds.length + es.length ≤ 1000000) (q : ∀ p vs us, H p = none → Ats N H vs ds → Ats F H us es → Q (.ref p) (upd H p (.lst (vs ++ us)))) : rCatLm x y H Q := by
  unfold rCatLm
  obtain ⟨a, vs, rfl, na, ha, r⟩ := At.lst h
  obtain ⟨b, us, rfl, nb, hb, r'⟩ := At.lst g
  exact ⟨a, b, vs, us, rfl, rfl, ha, hb, by rw [r.len, r'.len]; exact sz hl, fun p hp => q p vs us hp r r'⟩
theorem cut_from (i : Nat) (vs : List V) : cutV vs (some (i : Int)) none = vs.drop i := by
  unfold cutV
  rw [HT.sIx_none, HT.sIx_nat]
  by_cases h : i ≤ vs.length
  · rw [Nat.min_eq_left h, List.take_of_length_le (by rw [List.length_drop]; exact Nat.le_refl _)]
  · rw [Nat.min_eq_right (by omega), List.drop_of_length_le (Nat.le_refl _), List.drop_of_length_le (by omega), List.take_nil]
theorem cut_to (i : Nat) (vs : List V) : cutV vs none (some (i : Int)) = vs.take i := by
  unfold cutV
  rw [HT.sIx_none, HT.sIx_nat, List.drop_zero]
  by_cases h : i ≤ vs.length
  · rw [Nat.min_eq_left h]; rfl
  · rw [Nat.min_eq_right (by omega), List.take_of_length_le (by omega), List.take_of_length_le (by omega)]
/-- t[i:] -/
theorem slT (i : Nat) (W : Wf N H) (h : At N H x (.t ds)) (q : ∀ z H', Sm H H' → At N H' z (.t (ds.drop i)) → Q z H') : rSlTm K x (some (i : Int)) none H Q := by
  unfold rSlTm
  obtain ⟨a, vs, rfl, na, ha, r⟩ := At.tup h
  refine ⟨a, vs, rfl, SqT.of ha, fun ⟨e, _⟩ => ?_, fun _ p hp => ?_⟩
  · rw [HT.sIx_nat] at e
    have hl := r.len
    have e0 : ds.drop i = ds := by
      by_cases z : i = 0
      · rw [z, List.drop_zero]
      · have : ds.length = 0 := by omega
        rw [List.length_eq_zero_iff.mp this, List.drop_nil]
    rw [e0] at q
    exact q _ _ (.refl _ _) (.t na ha r)
  · rw [cut_from]
    exact q _ _ (.new hp) (.mkT W hp (r.drop i))
/-- l[i:], l[:i] -/
theorem slLfrom (i : Nat) (h : At N H x (.l ds)) (q : ∀ p vs, H p = none → Ats N H vs (ds.drop i) → Q (.ref p) (upd H p (.lst vs))) : rSlLm K x (some (i : Int)) none H Q := by
  unfold rSlLm
  obtain ⟨a, vs, rfl, na, ha, r⟩ := At.lst h
  refine ⟨a, vs, rfl, SqL.of ha, fun p hp => ?_⟩
  rw [cut_from]
  exact q p _ hp (r.drop i)
theorem slLto (i : Nat) (h : At N H x (.l ds)) (q : ∀ p vs, H p = none → Ats N H vs (ds.take i) → Q (.ref p) (upd H p (.lst vs))) : rSlLm K x none (some (i : Int)) H Q := by
  unfold rSlLm
  obtain ⟨a, vs, rfl, na, ha, r⟩ := At.lst h
  refine ⟨a, vs, rfl, SqL.of ha, fun p hp => ?_⟩
  rw [cut_to]
  exact q p _ hp (r.take i)
/-! ### fors -/
abbrev FR (J : It) (g : TG) (tb : TS) (Dn : Ends) (σ : L2.St) (H : Hp) : Prop := ∃ W : Nat → Nat → L2.St → Hp → Prop, (∃ m, W 0 m σ H) ∧ ∀ i m σ H, W i m σ H →
  (J.stop i H ∧ Dn.nx σ H) ∨ (J.go i H ∧ ∃ N : L2.St → Hp → Prop, (∀ σ' H', N σ' H' → ∃ m', m' < m ∧ W (i + 1) m' σ' H') ∧ ∀ x H', J.yld i H x H' → g x σ H' fun σ2 H2 => tb { Dn with nx := N, ct := N, bk := Dn.nx } σ2 H2)
@[irreducible] def rForL (K : PySem.W.Frag) (g : TG) (tb : TS) (x : V) (Dn : Ends) (σ : L2.St) (H : Hp) : Prop := ∃ a, x = V.ref a ∧ (∃ xs, SqL K H a xs) ∧ FR (Itl K a) g tb Dn σ H
@[irreducible] def rForT (K : PySem.W.Frag) (g : TG) (tb : TS) (x : V) (Dn : Ends) (σ : L2.St) (H : Hp) : Prop := ∃ a, x = V.ref a ∧ (∃ xs, SqT K H a xs) ∧ FR (Itt K a) g tb Dn σ H
@[irreducible] def rForR (g : TG) (tb : TS) (vs : List V) (Dn : Ends) (σ : L2.St) (H : Hp) : Prop := ∃ j : Int, vs = [V.int j] ∧ -(2 ^ 62) ≤ j ∧ j < 2 ^ 62 ∧ FR (Itr 0 j.toNat) g tb Dn σ H
@[irreducible] def rForR2 (g : TG) (tb : TS) (vs : List V) (Dn : Ends) (σ : L2.St) (H : Hp) : Prop := ∃ i j : Int, vs = [V.int i, V.int j] ∧ (-(2 ^ 62) ≤ i ∧ i < 2 ^ 62 ∧ -(2 ^ 62) ≤ j ∧ j < 2 ^ 62) ∧ FR (Itr i (j - i).toNat) g tb Dn σ H
def tForL (K : PySem.W.Frag) (tl : TE) (g : TG) (tb : TS) : TS := fun D σ H => tl σ H fun x H1 => rForL K g tb x D σ H1
def tForT (K : PySem.W.Frag) (tl : TE) (g : TG) (tb : TS) : TS := fun D σ H => tl σ H fun x H1 => rForT K g tb x D σ H1
def tForR (ta : TA) (g : TG) (tb : TS) : TS := fun D σ H => ta σ H fun vs H1 => rForR g tb vs D σ H1
def tForR2 (ta : TA) (g : TG) (tb : TS) : TS := fun D σ H => ta σ H fun vs H1 => rForR2 g tb vs D σ H1
section
variable {X : Cx} {tg iter a b : Expr} {body : List Stmt} {g : TG} {tb : TS} {tl : TE} {ta : TA} {p cpos pos : Pos}
theorem ps_forL (hp : PassesOwn (model X.prog X.w) X.A X.env X.xe) (hc : X.calm = true) (hl : PE X iter tl) (hg : PG X tg g) (hb : PSs X body tb) (hs : ∀ x, foldedSetIterable iter X.env x = pure x := by intro _; rfl) : PS X (.For tg iter body [] pos) (tForL X.K tl g tb) := by
  unfold tForL rForL
  exact ps_for hp hc (pi_list hl) hg hb hs
theorem ps_forT (hp : PassesOwn (model X.prog X.w) X.A X.env X.xe) (hc : X.calm = true) (hl : PE X iter tl) (hg : PG X tg g) (hb : PSs X body tb) (hs : ∀ x, foldedSetIterable iter X.env x = pure x := by intro _; rfl) : PS X (.For tg iter body [] pos) (tForT X.K tl g tb) := by
  unfold tForT rForT
  exact ps_for hp hc (pi_tup hl) hg hb hs
theorem ps_forR (hp : PassesOwn (model X.prog X.w) X.A X.env X.xe) (hc : X.calm = true) (hgl : Gl X "range") (hm : X.mg "range" = none) (ha : PA X [a] ta) (hg : PG X tg g) (hb : PSs X body tb)
    (he : starEach [a] X.env = [(false, eval a X.env)] := by rfl) : PS X (.For tg (.Call (.Name "range" p) [a] [] cpos) body [] pos) (tForR ta g tb) := by
  unfold tForR rForR
  exact ps_for hp hc (pi_range1 hgl hm ha he) hg hb (fun _ => rfl)
theorem ps_forR2 (hp : PassesOwn (model X.prog X.w) X.A X.env X.xe) (hc : X.calm = true) (hgl : Gl X "range") (hm : X.mg "range" = none) (ha : PA X [a, b] ta) (hg : PG X tg g) (hb : PSs X body tb)
    (he : starEach [a, b] X.env = [(false, eval a X.env), (false, eval b X.env)] := by rfl) (he2 : starEach [b] X.env = [(false, eval b X.env)] := by rfl) : PS X (.For tg (.Call (.Name "range" p) [a, b] [] cpos) body [] pos) (tForR2 ta g tb) := by
  unfold tForR2 rForR2
  exact ps_for hp hc (pi_range2 hgl hm ha he he2) hg hb (fun _ => rfl)
end
theorem forL {g : TG} {tb : TS} (hv : At N H x (.l ds)) (Pv : Nat → L2.St → Hp → Prop) (h0 : Pv 0 σ H) (hk : ∀ i σ' H', Pv i σ' H' → Ev N H H')
    (hs : ∀ i e z σ' H', ds[i]? = some e → At N H' z e → Pv i σ' H' → g z σ' H' fun σ2 H2 => tb { Dn with nx := Pv (i + 1), ct := Pv (i + 1), bk := Dn.nx } σ2 H2) (hd : ∀ σ' H', Pv ds.length σ' H' → Dn.nx σ' H') : rForL K g tb x Dn σ H := by
  unfold rForL
  obtain ⟨a, vs, rfl, na, ha, r⟩ := At.lst hv
  refine ⟨a, rfl, ⟨vs, SqL.of ha⟩, for_list (K := K) (a := a) (xs := vs) Pv h0 (fun i σ' H' _ p => SqL.of ((hk i σ' H' p).kp a _ ha na)) (fun i z σ' H' hi p => ?_) fun σ' H' p => hd σ' H' (r.len ▸ p)⟩
  obtain ⟨e, he, hz⟩ := r.get' hi
  exact hs i e z σ' H' he (hz.ev (hk i σ' H' p)) p
theorem forT {g : TG} {tb : TS} (hv : At N H x (.t ds)) (Pv : Nat → L2.St → Hp → Prop) (h0 : Pv 0 σ H) (hk : ∀ i σ' H', Pv i σ' H' → Ev N H H')
    (hs : ∀ i e z σ' H', ds[i]? = some e → At N H' z e → Pv i σ' H' → g z σ' H' fun σ2 H2 => tb { Dn with nx := Pv (i + 1), ct := Pv (i + 1), bk := Dn.nx } σ2 H2) (hd : ∀ σ' H', Pv ds.length σ' H' → Dn.nx σ' H') : rForT K g tb x Dn σ H := by
  unfold rForT
  obtain ⟨a, vs, rfl, na, ha, r⟩ := At.tup hv
  refine ⟨a, rfl, ⟨vs, SqT.of ha⟩, for_tup (K := K) (a := a) (xs := vs) Pv h0 (fun i σ' H' _ p => SqT.of ((hk i σ' H' p).kp a _ ha na)) (fun i z σ' H' hi p => ?_) fun σ' H' p => hd σ' H' (r.len ▸ p)⟩
  obtain ⟨e, he, hz⟩ := r.get' hi
  exact hs i e z σ' H' he (hz.ev (hk i σ' H' p)) p
theorem forR {g : TG} {tb : TS} (n : Nat) (hx : x = nV n) (hn : n ≤ 1000000) (Pv : Nat → L2.St → Hp → Prop) (h0 : Pv 0 σ H)
    (hs : ∀ i σ' H', i < n → Pv i σ' H' → g (nV i) σ' H' fun σ2 H2 => tb { Dn with nx := Pv (i + 1), ct := Pv (i + 1), bk := Dn.nx } σ2 H2) (hd : ∀ σ' H', Pv n σ' H' → Dn.nx σ' H') : rForR g tb [x] Dn σ H := by
  unfold rForR
  refine ⟨(n : Int), by rw [hx]; rfl, by omega, by omega, ?_⟩
  have e : ((n : Int)).toNat = n := by omega
  rw [e]
  refine for_range (lo := 0) (n := n) Pv h0 (fun i σ' H' hi p => ?_) hd
  rw [Int.zero_add]
  exact hs i σ' H' hi p
theorem forR2 {g : TG} {tb : TS} (lo n : Nat) (hx : x = nV lo) (hy : y = nV n) (hlo : lo ≤ 1000000) (hn : n ≤ 1000000) (Pv : Nat → L2.St → Hp → Prop) (h0 : Pv 0 σ H)
    (hs : ∀ i σ' H', lo + i < n → Pv i σ' H' → g (nV (lo + i)) σ' H' fun σ2 H2 => tb { Dn with nx := Pv (i + 1), ct := Pv (i + 1), bk := Dn.nx } σ2 H2) (hd : ∀ σ' H', Pv (n - lo) σ' H' → Dn.nx σ' H') : rForR2 g tb [x, y] Dn σ H := by
  unfold rForR2
  refine ⟨(lo : Int), (n : Int), by rw [hx, hy]; rfl, ⟨by omega, by omega, by omega, by omega⟩, ?_⟩
  have e : ((n : Int) - (lo : Int)).toNat = n - lo := by omega
  rw [e]
  refine for_range (lo := (lo : Int)) (n := n - lo) Pv h0 (fun i σ' H' hi p => ?_) hd
  have := hs i σ' H' (by omega) p
  exact this
/-! ### comprehensions -/
abbrev LC (J : It) (g : TG) (tt : TT) (te : TE) (vs : List Nat) (σ : L2.St) (H1 : Hp) (Q : VK) : Prop := ∀ D, H1 D = none → ∃ W : Nat → Nat → Hp → Prop, (∃ m, W 0 m (upd H1 D (.lst []))) ∧ ∀ i m H, W i m H →
  (J.stop i H ∧ Q (.ref D) H) ∨ (J.go i H ∧ ∃ Nx : Hp → Prop, (∀ H', Nx H' → ∃ m', m' < m ∧ W (i + 1) m' H') ∧ ∀ x H', J.yld i H x H' → g x (wipe σ vs) H' fun σ2 H2 => wipe σ2 vs = wipe σ vs ∧ tt σ2 H2 fun b H3 =>
    if b = true then te σ2 H3 fun y H4 => ∃ acc, H4 D = some (.lst acc) ∧ acc.length < sizeLine ∧ Nx (upd H4 D (.lst (acc ++ [y]))) else Nx H3)
@[irreducible] def rLcL (K : PySem.W.Frag) (g : TG) (tt : TT) (te : TE) (vs : List Nat) (σ : L2.St) (x : V) (H : Hp) (Q : VK) : Prop := ∃ a, x = V.ref a ∧ (∃ xs, SqL K H a xs) ∧ LC (Itl K a) g tt te vs σ H Q
@[irreducible] def rLcT (K : PySem.W.Frag) (g : TG) (tt : TT) (te : TE) (vs : List Nat) (σ : L2.St) (x : V) (H : Hp) (Q : VK) : Prop := ∃ a, x = V.ref a ∧ (∃ xs, SqT K H a xs) ∧ LC (Itt K a) g tt te vs σ H Q
@[irreducible] def rLcR (g : TG) (tt : TT) (te : TE) (vs : List Nat) (σ : L2.St) (us : List V) (H : Hp) (Q : VK) : Prop := ∃ j' : Int, us = [V.int j'] ∧ -(2 ^ 62) ≤ j' ∧ j' < 2 ^ 62 ∧ LC (Itr 0 j'.toNat) g tt te vs σ H Q
def tLcL (K : PySem.W.Frag) (tl : TE) (g : TG) (tt : TT) (te : TE) (vs : List Nat) : TE := fun σ H Q => tl σ H fun x H1 => rLcL K g tt te vs σ x H1 Q
def tLcT (K : PySem.W.Frag) (tl : TE) (g : TG) (tt : TT) (te : TE) (vs : List Nat) : TE := fun σ H Q => tl σ H fun x H1 => rLcT K g tt te vs σ x H1 Q
def tLcR (ta : TA) (g : TG) (tt : TT) (te : TE) (vs : List Nat) : TE := fun σ H Q => ta σ H fun us H1 => rLcR g tt te vs σ us H1 Q
theorem tLcL_eq {tl te : TE} {g : TG} {tt : TT} {vs : List Nat} : tLcL K tl g tt te vs = tLc (iList K tl) g tt te vs := by unfold tLcL rLcL tLc iList; rfl
theorem tLcT_eq {tl te : TE} {g : TG} {tt : TT} {vs : List Nat} : tLcT K tl g tt te vs = tLc (iTup K tl) g tt te vs := by unfold tLcT rLcT tLc iTup; rfl
theorem tLcR_eq {ta : TA} {te : TE} {g : TG} {tt : TT} {vs : List Nat} : tLcR ta g tt te vs = tLc (iRng1 ta) g tt te vs := by unfold tLcR rLcR tLc iRng1; rfl
section
variable {X : Cx} {e elt : Expr} {t : TE} {tl te : TE} {ta : TA} {g : TG} {tt : TT} {vs : List Nat} {s : Stmt} {i : Nat}
theorem peL (h : PE X e (tLc (iList X.K tl) g tt te vs)) : PE X e (tLcL X.K tl g tt te vs) := by rw [tLcL_eq]; exact h
theorem peT (h : PE X e (tLc (iTup X.K tl) g tt te vs)) : PE X e (tLcT X.K tl g tt te vs) := by rw [tLcT_eq]; exact h
theorem peR (h : PE X e (tLc (iRng1 ta) g tt te vs)) : PE X e (tLcR ta g tt te vs) := by rw [tLcR_eq]; exact h
theorem psL (h : PS X s (tAsg (tLc (iList X.K tl) g tt te vs) (gName i))) : PS X s (tAsg (tLcL X.K tl g tt te vs) (gName i)) := by rw [tLcL_eq]; exact h
theorem psT (h : PS X s (tAsg (tLc (iTup X.K tl) g tt te vs) (gName i))) : PS X s (tAsg (tLcT X.K tl g tt te vs) (gName i)) := by rw [tLcT_eq]; exact h
theorem psR (h : PS X s (tAsg (tLc (iRng1 ta) g tt te vs) (gName i))) : PS X s (tAsg (tLcR ta g tt te vs) (gName i)) := by rw [tLcR_eq]; exact h
end
/-- what is made so far -/
structure LcP (N : Fp) (H : Hp) (l : Addr) (ds : List D) (H' : Hp) : Prop where
  ex : ∃ vs, H' l = some (.lst vs) ∧ Ats (ad l N) H' vs ds
  sm : Sm H H'
theorem LcP.wf {H' : Hp} {l : Addr} (W : Wf N H) (p : LcP N H l ds H') : Wf (ad l N) H' := by
  obtain ⟨vs, hl, _⟩ := p.ex
  exact (W.ev p.sm).ad hl
theorem LcP.more {H' H2 : Hp} {l : Addr} {d : D} (hl : H l = none) (hz : ds.length < 100000) (p : LcP N H l ds H') (s : Sm H' H2) (h : At (ad l N) H2 y d) :
    ∃ acc, H2 l = some (.lst acc) ∧ acc.length < sizeLine ∧ LcP N H l (ds ++ [d]) (upd H2 l (.lst (acc ++ [y]))) := by
  obtain ⟨vs, e, r⟩ := p.ex
  refine ⟨vs, s.at e, by rw [r.len]; exact szl (by omega), ⟨_, upd_same, ?_⟩, (p.sm.trans s).mut hl⟩
  exact ((r.sm s).snoc h).ev (.put (.inl rfl))
theorem LcP.out {H' : Hp} {l : Addr} (W : Wf N H) (hl : H l = none) (p : LcP N H l ds H') : At N H' (.ref l) (.l ds) := by
  obtain ⟨vs, e, r⟩ := p.ex
  exact .l (W.no hl) e r.un
theorem LcP.start {l : Addr} (hl : H l = none) : LcP N H l [] (upd H l (.lst [])) := ⟨⟨[], upd_same, .nil⟩, .new hl⟩
/-- [e for z in list] -/
theorem lcL {α : Type} {te : TE} {vs : List Nat} {j : Nat} (xs : List α) (enc enc' : α → D) (W : Wf N H) (hv : At N H x (.l (xs.map enc))) (hz : xs.length ≤ 100000) (hw : ∀ z, wipe ((wipe σ vs).set j (some z)) vs = wipe σ vs)
    (hs : ∀ e ∈ xs, ∀ z H' N', Sm H H' → Wf N' H' → (∀ a, N a → N' a) → (∀ a, N' a → N a ∨ H a = none) → At N' H' z (enc e) → ∀ R : VK, (∀ y H2, Sm H' H2 → At N' H2 y (enc' e) → R y H2) → te ((wipe σ vs).set j (some z)) H' R)
    (q : ∀ p H', Sm H H' → H p = none → At N H' (.ref p) (.l (xs.map enc')) → Q (.ref p) H') : rLcL K (gName j) tYes te vs σ x H Q := by
  unfold rLcL
  obtain ⟨a, us, rfl, na, ha, r⟩ := At.lst hv
  have hl0 : us.length = xs.length := by rw [r.len, List.length_map]
  refine ⟨a, rfl, ⟨us, SqL.of ha⟩, fun l hl => lc_list (K := K) (a := a) (xs := us) (fun i H' => LcP N H l ((xs.take i).map enc') H') (.start hl) (fun i H' _ p => SqL.of (p.sm.at ha)) (fun i z H' hi p => ?_) fun H' p => ?_⟩
  · have hiu := (List.getElem?_eq_some_iff.mp hi).1
    have hix : i < xs.length := by omega
    obtain ⟨e, he, hz'⟩ := r.get' hi
    rw [List.getElem?_map, List.getElem?_eq_getElem hix] at he
    cases he
    refine ⟨hw z, ?_⟩
    unfold tYes
    dsimp only
    rw [if_pos rfl]
    refine hs xs[i] (List.getElem_mem hix) z H' (ad l N) p.sm (p.wf W) (fun _ z => .inr z) (fun b z => z.elim (fun e => .inr (e ▸ hl)) .inl) (hz'.ad hl p.sm) _ fun y H2 s2 hy => ?_
    have hm := p.more hl (by rw [List.length_map, List.length_take]; omega) s2 hy
    rw [List.take_succ_eq_append_getElem hix, List.map_append]
    exact hm
  · rw [hl0, List.take_of_length_le (Nat.le_refl _)] at p
    exact q l H' p.sm hl (p.out W hl)
theorem lcT {α : Type} {te : TE} {vs : List Nat} {j : Nat} (xs : List α) (enc enc' : α → D) (W : Wf N H) (hv : At N H x (.t (xs.map enc))) (hz : xs.length ≤ 100000) (hw : ∀ z, wipe ((wipe σ vs).set j (some z)) vs = wipe σ vs)
    (hs : ∀ e ∈ xs, ∀ z H' N', Sm H H' → Wf N' H' → (∀ a, N a → N' a) → (∀ a, N' a → N a ∨ H a = none) → At N' H' z (enc e) → ∀ R : VK, (∀ y H2, Sm H' H2 → At N' H2 y (enc' e) → R y H2) → te ((wipe σ vs).set j (some z)) H' R)
    (q : ∀ p H', Sm H H' → H p = none → At N H' (.ref p) (.l (xs.map enc')) → Q (.ref p) H') : rLcT K (gName j) tYes te vs σ x H Q := by
  unfold rLcT
  obtain ⟨a, us, rfl, na, ha, r⟩ := At.tup hv
  have hl0 : us.length = xs.length := by rw [r.len, List.length_map]
  refine ⟨a, rfl, ⟨us, SqT.of ha⟩, fun l hl => lc_tup (K := K) (a := a) (xs := us) (fun i H' => LcP N H l ((xs.take i).map enc') H') (.start hl) (fun i H' _ p => SqT.of (p.sm.at ha)) (fun i z H' hi p => ?_) fun H' p => ?_⟩
  · have hiu := (List.getElem?_eq_some_iff.mp hi).1
    have hix : i < xs.length := by omega
    obtain ⟨e, he, hz'⟩ := r.get' hi
    rw [List.getElem?_map, List.getElem?_eq_getElem hix] at he
    cases he
    refine ⟨hw z, ?_⟩
    unfold tYes
    dsimp only
    rw [if_pos rfl]
    refine hs xs[i] (List.getElem_mem hix) z H' (ad l N) p.sm (p.wf W) (fun _ z => .inr z) (fun b z => z.elim (fun e => .inr (e ▸ hl)) .inl) (hz'.ad hl p.sm) _ fun y H2 s2 hy => ?_
    have hm := p.more hl (by rw [List.length_map, List.length_take]; omega) s2 hy
    rw [List.take_succ_eq_append_getElem hix, List.map_append]
    exact hm
  · rw [hl0, List.take_of_length_le (Nat.le_refl _)] at p
    exact q l H' p.sm hl (p.out W hl)
theorem lcF {α : Type} {te : TE} {vs : List Nat} {j : Nat} (xs : List α) (enc enc' : α → D) (W : Wf N H) (hv : At N H x (.f (xs.map enc))) (hz : xs.length ≤ 100000) (hw : ∀ z, wipe ((wipe σ vs).set j (some z)) vs = wipe σ vs)
    (hs : ∀ e ∈ xs, ∀ z H' N', Sm H H' → Wf N' H' → (∀ a, N a → N' a) → (∀ a, N' a → N a ∨ H a = none) → At N' H' z (enc e) → ∀ R : VK, (∀ y H2, Sm H' H2 → At N' H2 y (enc' e) → R y H2) → te ((wipe σ vs).set j (some z)) H' R)
    (q : ∀ p H', Sm H H' → H p = none → At N H' (.ref p) (.l (xs.map enc')) → Q (.ref p) H') : rLcT K (gName j) tYes te vs σ x H Q := by
  unfold rLcT
  obtain ⟨a, us, o, rfl, na, ha, _, r⟩ := At.frz hv
  have hl0 : us.length = xs.length := by rw [r.len, List.length_map]
  refine ⟨a, rfl, ⟨us, SqT.frz ha⟩, fun l hl => lc_tup (K := K) (a := a) (xs := us) (fun i H' => LcP N H l ((xs.take i).map enc') H') (.start hl) (fun i H' _ p => SqT.frz (p.sm.at ha)) (fun i z H' hi p => ?_) fun H' p => ?_⟩
  · have hiu := (List.getElem?_eq_some_iff.mp hi).1
    have hix : i < xs.length := by omega
    obtain ⟨e, he, hz'⟩ := r.get' hi
    rw [List.getElem?_map, List.getElem?_eq_getElem hix] at he
    cases he
    refine ⟨hw z, ?_⟩
    unfold tYes
    dsimp only
    rw [if_pos rfl]
    refine hs xs[i] (List.getElem_mem hix) z H' (ad l N) p.sm (p.wf W) (fun _ z => .inr z) (fun b z => z.elim (fun e => .inr (e ▸ hl)) .inl) (hz'.ad hl p.sm) _ fun y H2 s2 hy => ?_
    have hm := p.more hl (by rw [List.length_map, List.length_take]; omega) s2 hy
    rw [List.take_succ_eq_append_getElem hix, List.map_append]
    exact hm
  · rw [hl0, List.take_of_length_le (Nat.le_refl _)] at p
    exact q l H' p.sm hl (p.out W hl)
theorem lcR {te : TE} {vs : List Nat} {j : Nat} (n : Nat) (enc' : Nat → D) (W : Wf N H) (hx : x = nV n) (hz : n ≤ 100000) (hw : ∀ z, wipe ((wipe σ vs).set j (some z)) vs = wipe σ vs)
    (hs : ∀ e, e < n → ∀ H' N', Sm H H' → Wf N' H' → (∀ a, N a → N' a) → (∀ a, N' a → N a ∨ H a = none) → ∀ R : VK, (∀ y H2, Sm H' H2 → At N' H2 y (enc' e) → R y H2) → te ((wipe σ vs).set j (some (nV e))) H' R)
    (q : ∀ p H', Sm H H' → H p = none → At N H' (.ref p) (.l ((List.range n).map enc')) → Q (.ref p) H') : rLcR (gName j) tYes te vs σ [x] H Q := by
  unfold rLcR
  refine ⟨(n : Int), by rw [hx]; rfl, by omega, by omega, ?_⟩
  have e : ((n : Int)).toNat = n := by omega
  rw [e]
  refine fun l hl => lc_range (lo := 0) (n := n) (fun i H' => LcP N H l ((List.range i).map enc') H') (.start hl) (fun i H' hi p => ?_) fun H' p => q l H' p.sm hl (p.out W hl)
  rw [Int.zero_add]
  refine ⟨hw _, ?_⟩
  unfold tYes
  dsimp only
  rw [if_pos rfl]
  refine hs i hi H' (ad l N) p.sm (p.wf W) (fun _ z => .inr z) (fun b z => z.elim (fun e => .inr (e ▸ hl)) .inl) _ fun y H2 s2 hy => ?_
  have hm := p.more hl (by rw [List.length_map, List.length_range]; omega) s2 hy
  rw [List.range_succ, List.map_append]
  exact hm
end
/-! ### the same, their K said -/
section
variable {X : Cx} {K : PySem.W.Frag} {e : Expr} {tl te : TE} {ta : TA} {g : TG} {tt : TT} {vs : List Nat} {f : Str} {pos : Pos}
theorem ix_tupk (K) (hK : X.K = K := by rfl) : IxR X (rIxTm K) := hK ▸ ix_tupm
theorem ix_listk (K) (hK : X.K = K := by rfl) : IxR X (rIxLm K) := hK ▸ ix_listm
theorem cr_lenk (K) (hK : X.K = K := by rfl) : CallR X (.builtin "len") (rLen K) := hK ▸ cr_len
theorem cr_tupk (K) (hK : X.K = K := by rfl) : CallR X (.type "tuple") (rTupOf K) := hK ▸ cr_tup
theorem cr_tupFk (K) (hK : X.K = K := by rfl) : CallR X (.type "tuple") (rTupF K) := hK ▸ cr_tupF
theorem cr_listk (K) (hK : X.K = K := by rfl) : CallR X (.type "list") (rListOf K) := hK ▸ cr_list
theorem op_catTk (K) (hK : X.K = K := by rfl) : OpR X (binaryOp .Add) (rCatTm K) := hK ▸ op_catTm
theorem sl_tupk (K) (hK : X.K = K := by rfl) : SlR X (rSlTm K) := hK ▸ sl_tupm
theorem sl_listk (K) (hK : X.K = K := by rfl) : SlR X (rSlLm K) := hK ▸ sl_listm
theorem op_notInk (K) (hK : X.K = K := by rfl) : OpR X (compareOp .NotIn) (rNotInm K) := hK ▸ op_notInm
theorem cr_allk (K) (hc : X.calm = true) (hK : X.K = K := by rfl) : CallR X (.builtin "all") (rAllm K) := hK ▸ cr_allm hc
theorem op_eqDk (K) (hu : X.A.units + 64 < cLine) (hK : X.K = K := by rfl) : OpR X (compareOp .Eq) (rEqD K) := hK ▸ op_eqD hu
theorem op_neDk (K) (hu : X.A.units + 64 < cLine) (hK : X.K = K := by rfl) : OpR X (compareOp .NotEq) (rNeD K) := hK ▸ op_neD hu
theorem op_inDk (K) (hu : X.A.units + 65 < cLine) (hK : X.K = K := by rfl) : OpR X (compareOp .In) (rInD K) := hK ▸ op_inD hu
theorem op_notInDk (K) (hu : X.A.units + 65 < cLine) (hK : X.K = K := by rfl) : OpR X (compareOp .NotIn) (rNotInD K) := hK ▸ op_notInD hu
theorem mt_indexDk (K) (hu : X.A.units + 65 < cLine) (hK : X.K = K := by rfl) : MtR X "list.index" (rIndexD K) := hK ▸ mt_indexD hu
theorem pe_fldk (K) (he : PE X e te) (hb : attributeBase e f X.env (eval e X.env) = eval e X.env) (hK : X.K = K := by rfl) : PE X (.Attribute e f pos) (tFldm K te f) := by
  unfold tFldm rFldm
  exact hK ▸ pe_fld he hb
theorem ps_fldk {o value : Expr} {to tv : TE} {pos' : Pos} (K) (ha : PE X o to) (hv : PE X value tv) (hs : swapsWith value (some (.Attribute o f pos')) pos.line X.env = pure false) (hK : X.K = K := by rfl) : PS X (.Assign [.Attribute o f pos'] value pos) (sFldm K to tv f) := by
  unfold sFldm rFldSet
  exact hK ▸ ps_fld ha hv hs
theorem peLk (K) (h : PE X e (tLc (iList K tl) g tt te vs)) : PE X e (tLcL K tl g tt te vs) := by rw [tLcL_eq]; exact h
theorem peTk (K) (h : PE X e (tLc (iTup K tl) g tt te vs)) : PE X e (tLcT K tl g tt te vs) := by rw [tLcT_eq]; exact h
theorem pi_listk {tg : Expr} (K) (h : PE X e te) (hK : X.K = K := by rfl) : PI X tg e (iList K te) := hK ▸ pi_list h
theorem pi_tupk {tg : Expr} (K) (h : PE X e te) (hK : X.K = K := by rfl) : PI X tg e (iTup K te) := hK ▸ pi_tup h
theorem pe_bm0k {o : Expr} {to : TE} {name : Str} {apos cpos : Pos} {T id : String} {r : V → List V → Hp → VK → Prop} (K) (pa : PlainAttrs T) (slot : Slot T name id) (hty : typeOf (.builtin id) = pure (.type "method_descriptor")) (hm : MtR X id r) (ho : PE X o to)
    (hbase : attributeBase o name X.env (eval o X.env) = eval o X.env := by rfl) (hline : (apos.endLine == cpos.line) = true := by rfl) (hK : X.K = K := by rfl) : PE X (.Call (.Attribute o name apos) [] [] cpos) (tBM0 K T r to) := hK ▸ pe_bm0 pa slot hty hm ho hbase hline
theorem pe_bmk {o e : Expr} {es : List Expr} {to : TE} {t : TA} {name : Str} {apos cpos : Pos} {T id : String} {r : V → List V → Hp → VK → Prop} (K) (pa : PlainAttrs T) (slot : Slot T name id) (hty : typeOf (.builtin id) = pure (.type "method_descriptor")) (hm : MtR X id r) (ho : PE X o to) (ha : PA X (e :: es) t)
    (hbase : attributeBase o name X.env (eval o X.env) = eval o X.env := by rfl)
    (hfew : ((backTo cpos (starEach (e :: es) X.env)).all (fun x => !x.1) && (backToKw cpos (keywordEach [] X.env)).all (fun x => x.1.isSome)
      && decide ((e :: es).length + ([] : List Keyword).length + (if ([] : List Keyword).isEmpty then 0 else 1) < 30)) = true := by rfl)
    (hline : (apos.endLine == cpos.line) = true := by rfl) (hs : starEach (e :: es) X.env = (false, eval e X.env) :: starEach es X.env := by rfl) (hplain : (backTo cpos (starEach es X.env)).any (·.1) = false := by rfl) (hK : X.K = K := by rfl) :
    PE X (.Call (.Attribute o name apos) (e :: es) [] cpos) (tBM K T r to t) := hK ▸ pe_bm pa slot hty hm ho ha hbase hfew hline hs hplain
end
/-! ### instances -/
def Ins (H : Hp) (a : Addr) (C : Addr) (fs : List (Str × V)) : Prop := ∃ dx, H a = some (.ins C dx fs)
section
variable {K : PySem.W.Frag} {F : Fp} {H H' : Hp} {a C : Addr} {fs : List (Str × V)} {f : Str} {v y : V} {Q : VK}
theorem Ins.ev (h : Ins H a C fs) (e : Ev F H H') (n : ¬ F a) : Ins H' a C fs := by
  obtain ⟨dx, h⟩ := h
  exact ⟨dx, e.kp a _ h n⟩
theorem Ins.sm (h : Ins H a C fs) (e : Sm H H') : Ins H' a C fs := h.ev e fun z => z
theorem Ins.tr (h : Ins H a C fs) : H a ≠ none := by
  obtain ⟨dx, h⟩ := h
  rw [h]; intro z; cases z
theorem fldR (h : Ins H a C fs) (c : Cls K C) (n : NoAttr K C f) (e : fs.lookup f = some v) (q : Q v H) : rFldm K f (.ref a) H Q := by
  unfold rFldm
  obtain ⟨dx, h⟩ := h
  exact ⟨a, C, dx, fs, v, rfl, h, c, n, e, q⟩
theorem fldS {Q : Hp → Prop} (h : Ins H a C fs) (c : Cls K C) (n : NoAttr K C f) (hl : fs.length < 1000) (q : ∀ H', Ev (fun b => b = a) H H' → Ins H' a C (putF f y fs) → Q H') : rFldSet K f (.ref a) y H Q := by
  unfold rFldSet
  obtain ⟨dx, h⟩ := h
  exact ⟨a, C, dx, fs, rfl, h, c, n, hl, q _ (.put rfl) ⟨dx, upd_same⟩⟩
end
end Tk
/-! text W3 -/
set_option maxHeartbeats 4000000
namespace Tk
open PySem PySem.Spec PyProof.Rows L2
/-! ### tuple.index, list.index of ints -/
@[irreducible] def rTIx : V → V → Hp → VK → Prop := fun x y H Q => ∃ (a : Addr) (o : Obj) (ns : List Nat) (k : Nat), x = .ref a ∧ y = nV k ∧ H a = some (.frz o (.tup (ns.map nV))) ∧ k ∈ ns ∧ Q (nV (ns.idxOf k)) H
def tTIx (td ty : TE) : TE := fun σ H Q => td σ H fun x H1 => (∃ a o vs, x = V.ref a ∧ H1 a = some (.frz o (.tup vs)) ∧ o.dict = none) ∧ ty σ H1 fun y H2 => rTIx x y H2 Q
theorem idx_cast : ∀ (ns : List Nat) (k : Nat), (ns.map fun (x : Nat) => (x : Int)).idxOf (k : Int) = ns.idxOf k
  | [], _ => rfl
  | x :: ns, k => by
    rw [List.map_cons, List.idxOf_cons, List.idxOf_cons, idx_cast ns k]
    by_cases e : x = k
    · subst e; simp
    · have e' : ¬ (x : Int) = (k : Int) := by omega
      rw [beq_eq_false_iff_ne.mpr e, beq_eq_false_iff_ne.mpr e']
theorem nV_map (ns : List Nat) : ns.map nV = (ns.map fun (x : Nat) => (x : Int)).map V.int := by
  rw [List.map_map]; rfl
theorem mem_cast {ns : List Nat} {k : Nat} (h : k ∈ ns) : (k : Int) ∈ ns.map fun (x : Nat) => (x : Int) := List.mem_map.mpr ⟨k, h, rfl⟩
section
variable {X : Cx} {o e : Expr} {td ty : TE} {apos cpos : Pos}
theorem pe_tupIndex (ho : PE X o td) (he : PE X e ty) (m : M1 X o "index" apos e cpos) : PE X (.Call (.Attribute o "index" apos) [e] [] cpos) (tTIx td ty) := by
  unfold tTIx rTIx
  refine ⟨fun pins s σ H Q I h => ?_⟩
  refine wpAny_Call_method m.base m.few m.line PySem.F.plainAttrs_tuple PySem.F.slot_tuple_index PySem.F.type_tuple_index (thn (ho.run pins s σ H _ I h) fun u s1 ⟨x, H1, I1, rx, ⟨a, ob, vs, ex, ha, hd⟩, q1⟩ => ?_)
  subst ex
  obtain rfl : u = Value.ref a := rx
  obtain ⟨g1, _, _, _, o', g2, hc, _⟩ := (show ObjOk X.prog X.w H1 s1.heap a (.frz ob (.tup vs)) from I1.hok a _ ha)
  refine ⟨⟨o', g2, hc⟩, fun b q => ?_, ?_⟩
  · cases q
    exact ⟨ob, g1, hd⟩
  · rw [m.trees]
    refine Calls.callWith_builtin rfl (Calls.evalArgs_plain (Calls.spliced_cons (thn (he.run pins s1 σ H1 _ I1 q1) fun iv s2 ⟨y, H2, I2, ry, a', o2, ns, k, e1, e2, e3, hk, q2⟩ => Calls.spliced_nil ?_)))
    cases e1
    subst e2
    obtain ⟨t, rfl⟩ := ry
    obtain ⟨its, rv, p, hz⟩ := I2.tuple (SqT.frz e3)
    rw [nV_map] at rv
    refine PySem.SeqAt.tuple_index_ints (show s2.heap.IsTuple a its.toArray from p) (intsAre_of rv) (mem_cast hk) ?_
    rw [idx_cast]
    exact ⟨nV (ns.idxOf k), H2, I2.tok _, ⟨_, rfl⟩, q2⟩
@[irreducible] def rIxN (K : PySem.W.Frag) : V → List V → Hp → VK → Prop := fun x xs H Q => ∃ (a : Addr) (ns : List Nat) (k : Nat), x = .ref a ∧ xs = [nV k] ∧ SqL K H a (ns.map nV) ∧ k ∈ ns ∧ Q (nV (ns.idxOf k)) H
theorem mt_indexN : MtR X "list.index" (rIxN X.K) := by
  unfold rIxN
  intro pins s σ H x xs v us Q I rx rs h
  obtain ⟨a, ns, k, rfl, rfl, hq, hk, q⟩ := h
  cases rx
  obtain ⟨u, rfl, t, rfl⟩ := vals1 rs
  obtain ⟨its, rv, p, hz⟩ := I.list hq
  rw [nV_map] at rv
  refine PySem.SeqAt.list_index_ints p.isList (intsAre_of rv) (by simpa using hz) (mem_cast hk) ?_
  rw [idx_cast]
  exact ⟨nV (ns.idxOf k), H, I.tok _, ⟨_, rfl⟩, q⟩
theorem pget_list : PGet X (rIxLm X.K) := by
  unfold rIxLm
  intro pins s σ H x y v u Q I rx ry h
  obtain ⟨p, xs, i, z, rfl, rfl, hq, he, q⟩ := h
  cases rx
  obtain ⟨t, rfl⟩ := ry
  obtain ⟨its, r, pl, hz⟩ := I.list hq
  obtain ⟨j, h1, h2, h3, h4, h5⟩ := atI_get he
  obtain ⟨w, ew, rw'⟩ := r.get h2
  have hl := r.length
  have hn := line63
  have fin : EP X pins σ Q w s := ⟨z, H, I, rw', q⟩
  by_cases h0 : 0 ≤ i
  · have hj : i.toNat = j := by
      rw [seqIndex_of h0 h5] at h1
      exact Option.some.inj h1
    exact wpAny_getItem_list pl.isList h0 (by omega) (by rw [hj]; simpa using ew) fin
  · have hj : (i + (its.toArray.size : Int)).toNat = j := by
      rw [seqIndex_neg (by omega) h4] at h1
      rw [List.size_toArray, ← hl]
      exact Option.some.inj h1
    exact wpAny_getItem_list_neg pl.isList (by omega) (by rw [List.size_toArray] <;> omega) (by omega) (by rw [hj]; simpa using ew) fin
end
section
variable {K : PySem.W.Frag} {N : Fp} {H : Hp} {x y : V} {Q : VK}
theorem tidx {ns : List Nat} {k : Nat} (h : At N H x (.f (ns.map D.n))) (hy : At N H y (.n k)) (hk : k ∈ ns) (q : Q (nV (ns.idxOf k)) H) : rTIx x y H Q := by
  unfold rTIx
  obtain ⟨a, vs, o, rfl, _, ha, _, r⟩ := At.frz h
  rw [r.isInts] at ha
  exact ⟨a, o, ns, k, rfl, hy.isN, ha, hk, q⟩
theorem tidx0 {ns : List Nat} (h : At N H x (.f (ns.map D.n))) : ∃ a o vs, x = V.ref a ∧ H a = some (.frz o (.tup vs)) ∧ o.dict = none := by
  obtain ⟨a, vs, o, rfl, _, ha, hd, r⟩ := At.frz h
  exact ⟨a, o, vs, rfl, ha, hd⟩
theorem lidx {ns : List Nat} {k : Nat} (h : At N H x (.l (ns.map D.n))) (hy : At N H y (.n k)) (hk : k ∈ ns) (q : Q (nV (ns.idxOf k)) H) : rIxN K x [y] H Q := by
  unfold rIxN
  obtain ⟨a, vs, rfl, _, ha, r⟩ := At.lst h
  rw [r.isInts] at ha
  exact ⟨a, ns, k, rfl, by rw [hy.isN], SqL.of ha, hk, q⟩
theorem tyL {ds : List D} (h : At N H x (.l ds)) : tyV K "list" x H := by
  obtain ⟨a, vs, rfl, _, ha, r⟩ := At.lst h
  exact .inl ⟨rfl, _, SqL.of ha⟩
end
/-! ### dicts with nested keys (a number, a tuple of numbers) -/
abbrev SG := Nat × List Nat
def sgD (g : SG) : D := .t [.n g.1, wT g.2]
def sgK (g : SG) : NestedKey := .tup [.num (g.1 : Int), .tup (g.2.map fun (x : Nat) => NestedKey.num (x : Int))]
theorem sgK_inj {a b : SG} (h : sgK a = sgK b) : a = b := by
  obtain ⟨a1, a2⟩ := a
  obtain ⟨b1, b2⟩ := b
  unfold sgK at h
  injection h with h
  injection h with h1 h2
  injection h1 with h1
  injection h2 with h2 _
  injection h2 with h2
  have e1 : a1 = b1 := by simp at h1; omega
  have e2 : a2 = b2 := (List.map_inj_right fun x y e => by
    injection e with e
    omega).mp h2
  rw [e1, e2]
theorem sgK_depth (g : SG) : (sgK g).depth ≤ 8 := by
  have h : ∀ l : List Nat, NestedKey.depthAll (l.map fun (x : Nat) => NestedKey.num (x : Int)) = 0 := by
    intro l
    induction l with
    | nil => rfl
    | cons x l ih => simp only [List.map_cons, NestedKey.depthAll, NestedKey.depth, ih]; rfl
  simp only [sgK, NestedKey.depth, NestedKey.depthAll, h]
  omega
theorem nested_ints {h : Heap} : ∀ {w : List Nat} {us : List Value}, Vals (w.map nV) us → NestedAll h (w.map fun (x : Nat) => NestedKey.num (x : Int)) us
  | [], _, r => by cases r; exact .nil
  | x :: w, _, r => by
    cases r with
    | cons r1 r2 =>
      obtain ⟨t, rfl⟩ := r1
      exact .cons (.int _ _) (nested_ints r2)
section
variable {X : Cx} {pins : List (Addr × Obj)} {σ : L2.St} {H : Hp} {s : Shared} {N : Fp}
theorem sg_is (I : Inv X pins σ H s) {a : Addr} {g : SG} (h : At N H (.ref a) (sgD g)) : (nestedKind X.prog X.w).is s.heap (sgK g) a := by
  obtain ⟨_, vs, e, _, ha, r⟩ := At.tup h
  cases e
  obtain ⟨its, rv, ⟨o, ho, hc, n, hd⟩, _⟩ := I.tuple (SqT.of ha)
  refine ⟨.tup ho hc hd ?_, sgK_depth g⟩
  cases r with
  | cons h1 r1 =>
    cases r1 with
    | cons h2 r2 =>
      cases r2
      obtain ⟨b, e2, _, hb⟩ := h2.word
      subst e2
      rw [h1.isN] at rv
      cases rv with
      | cons v1 rv1 =>
        cases rv1 with
        | cons v2 rv2 =>
          cases rv2
          obtain ⟨t, rfl⟩ := v1
          cases v2
          obtain ⟨its2, rw2, ⟨o2, ho2, hc2, n2, hd2⟩, _⟩ := I.tuple (SqT.of hb)
          exact .cons (.int _ _) (.cons (.tup ho2 hc2 hd2 (by simpa using nested_ints rw2)) .nil)
end
def NdR : List (SG × Addr × Nat) → List (NestedKey × Addr × Value) → Prop := Paired fun p q => q.1 = sgK p.1 ∧ q.2.1 = p.2.1 ∧ RelV (nV p.2.2) q.2.2
def NdPhi (P : Program) (w : World) (d : Addr) (xs : List (SG × Addr × Nat)) (h : Heap) : Prop :=
  (d == sysModules) = false ∧ ∃ us, NdR xs us ∧ ∃ o es ep, h.get? d = some o ∧ o.ExactDict ∧ o.data = .dict es ep ∧ es.toList = us.map (entryOfKey (nestedKind P w)) ∧ (us.map (·.1)).Nodup
def NdO (P : Program) (w : World) (d : Addr) (xs : List (SG × Addr × Nat)) : HO := .ext (NdPhi P w d xs)
/-- at d a dict from such keys to numbers -/
def NdAt (P : Program) (w : World) (N : Fp) (H : Hp) (d : Addr) (kvs : List (SG × Nat)) : Prop :=
  ∃ xs : List (SG × Addr × Nat), H d = some (NdO P w d xs) ∧ kvs = xs.map (fun p => (p.1, p.2.2)) ∧ ∀ p ∈ xs, At N H (.ref p.2.1) (sgD p.1)
def sgLook (kvs : List (SG × Nat)) (g : SG) : Option Nat := (kvs.find? fun p => decide (p.1 = g)).map (·.2)
theorem NdR.look {xs : List (SG × Addr × Nat)} {us : List (NestedKey × Addr × Value)} (r : NdR xs us) (g : SG) :
    RelO ((sgLook (xs.map fun p => (p.1, p.2.2)) g).map nV) ((atKey us (sgK g)).map (·.2)) := by
  unfold NdR at r
  induction r with
  | nil => exact True.intro
  | @cons p q ps qs h t ih =>
    obtain ⟨h1, _, h3⟩ := h
    by_cases e : p.1 = g
    · have e' : q.1 = sgK g := by rw [h1, e]
      have b : atKey (q :: qs) (sgK g) = some q.2 := by simp [atKey, List.find?_cons, e']
      have c : sgLook ((p :: ps).map fun p => (p.1, p.2.2)) g = some p.2.2 := by simp [sgLook, List.find?_cons, e]
      rw [b, c]
      exact h3
    · have e' : ¬ q.1 = sgK g := fun z => e (sgK_inj (h1.symm.trans z))
      have b : atKey (q :: qs) (sgK g) = atKey qs (sgK g) := by simp [atKey, List.find?_cons, e']
      have c : sgLook ((p :: ps).map fun p => (p.1, p.2.2)) g = sgLook (ps.map fun p => (p.1, p.2.2)) g := by simp [sgLook, List.find?_cons, e]
      rw [b, c]
      exact ih
section
variable {X : Cx} {pins : List (Addr × Obj)} {σ : L2.St} {H : Hp} {s : Shared} {N : Fp} {d : Addr} {kvs : List (SG × Nat)}
theorem nd_of (I : Inv X pins σ H s) {xs : List (SG × Addr × Nat)} (hd : H d = some (NdO X.prog X.w d xs)) (hk : ∀ p ∈ xs, At N H (.ref p.2.1) (sgD p.1)) :
    (d == sysModules) = false ∧ ∃ us, NdR xs us ∧ s.heap.DictOfH (nestedKind X.prog X.w) d us := by
  obtain ⟨⟨hs, us, r, o, es, ep, h1, h2, h3, h4, h5⟩, _⟩ := (show ObjOk X.prog X.w H s.heap d (.ext (NdPhi X.prog X.w d xs)) from I.hok d _ hd)
  refine ⟨hs, us, r, o, es, ep, h1, h2, h3, h4, ?_, h5⟩
  have all : ∀ {l : List (SG × Addr × Nat)} {m : List (NestedKey × Addr × Value)}, NdR l m → (∀ p ∈ l, At N H (.ref p.2.1) (sgD p.1)) → ∀ x ∈ m, (nestedKind X.prog X.w).is s.heap x.1 x.2.1 := by
    intro l m q
    unfold NdR at q
    induction q with
    | nil => intro _ x hx; exact nomatch hx
    | @cons p q ps qs hq t ih =>
      intro hl x hx
      rcases List.mem_cons.mp hx with e | hx
      · rw [e, hq.1, hq.2.1]
        exact sg_is I (hl p List.mem_cons_self)
      · exact ih (fun p hp => hl p (List.mem_cons_of_mem _ hp)) x hx
  exact all r hk
theorem nd_ok {P : Program} {w : World} {H : Hp} {h : Heap} {d : Addr} {xs : List (SG × Addr × Nat)} (p : NdPhi P w d xs h) : ObjOk P w H h d (NdO P w d xs) := by
  refine ⟨p, ?_, fun h1 h2 a b => ?_⟩
  · obtain ⟨_, _, _, o, _, _, e, _⟩ := p
    exact ⟨o, e⟩
  · obtain ⟨hs, us, r, o, es, ep, e, c⟩ := a
    exact ⟨hs, us, r, o, es, ep, b o e, c⟩
@[irreducible] def rNGet (P : Program) (w : World) : R2 := fun x y H Q => ∃ (N : Fp) (d a : Addr) (kvs : List (SG × Nat)) (g : SG) (n : Nat), x = .ref d ∧ y = .ref a ∧ NdAt P w N H d kvs ∧ At N H (.ref a) (sgD g) ∧ sgLook kvs g = some n ∧ Q (nV n) H
@[irreducible] def rNNotIn (P : Program) (w : World) : R2 := fun y x H Q => ∃ (N : Fp) (d a : Addr) (kvs : List (SG × Nat)) (g : SG), x = .ref d ∧ y = .ref a ∧ NdAt P w N H d kvs ∧ At N H (.ref a) (sgD g) ∧ Q (.bl (!(sgLook kvs g).isSome)) H
@[irreducible] def rNPut (P : Program) (w : World) : V → V → V → Hp → (Hp → Prop) → Prop := fun x y v H Q => ∃ (N : Fp) (d a : Addr) (kvs : List (SG × Nat)) (g : SG) (n : Nat), x = .ref d ∧ y = .ref a ∧ v = nV n ∧ NdAt P w N H d kvs ∧ At N H (.ref a) (sgD g) ∧ sgLook kvs g = none ∧ kvs.length < 100000 ∧
  ∀ o, NdAt P w N (upd H d o) d (kvs ++ [(g, n)]) → Q (upd H d o)
theorem op_notinN (hu : X.A.units + 64 < cLine) : OpR X (compareOp .NotIn) (rNNotIn X.prog X.w) := by
  unfold rNNotIn
  intro pins s σ H y x u v Q I ry rx h
  obtain ⟨N, d, a, kvs, g, rfl, rfl, ⟨xs, hd, rfl, hk⟩, hg, q⟩ := h
  cases rx
  cases ry
  obtain ⟨hs, us, r, dd⟩ := nd_of I hd hk
  refine notIn_keyed (knd := nestedKind X.prog X.w) (k := sgK g) (by show X.A.in1.units + 8 < cLine; rw [Around.in1_units]; omega) (sg_is I hg) hs ⟨us, dd, rfl⟩ ?_
  have e := (r.look g).isSome_eq
  rw [Option.isSome_map, Option.isSome_map] at e
  rw [valueAt_pairsH, Option.isSome_map, ← e]
  exact ⟨.bl _, H, I.tok _, rfl, q⟩
theorem d_getN (hu : X.A.units + 64 < cLine) (I : Inv X pins σ H s) {a : Addr} {g : SG} {n : Nat} {Q : Value → Shared → Prop} (hN : NdAt X.prog X.w N H d kvs) (hg : At N H (.ref a) (sgD g)) (hl : sgLook kvs g = some n)
    (h : ∀ w' s', Inv X pins σ H s' → RelV (nV n) w' → Q w' s') : wpAny (model X.prog X.w) X.A (getItem (.ref d) (.ref a)) Q X.xe s := by
  obtain ⟨xs, hd, rfl, hk⟩ := hN
  obtain ⟨hs, us, r, dd⟩ := nd_of I hd hk
  have e : RelO (some (nV n)) ((atKey us (sgK g)).map (·.2)) := by
    have e := r.look g
    rw [hl] at e
    exact e
  obtain ⟨w', hw, rw'⟩ := RelO.some_of e
  refine getItem_keyed (knd := nestedKind X.prog X.w) (k := sgK g) (by show X.A.in1.units + 8 < cLine; rw [Around.in1_units]; omega) (sg_is I hg) ⟨us, dd, rfl⟩ (by rw [valueAt_pairsH]; exact hw) (h w' _ (I.tok _) rw')
theorem nd_type (I : Inv X pins σ H s) (hN : NdAt X.prog X.w N H d kvs) : s.TypeIs (.ref d) "dict" := by
  obtain ⟨xs, hd, rfl, hk⟩ := hN
  obtain ⟨hs, us, r, dd⟩ := nd_of I hd hk
  exact dd.typeIs
end
section
variable {X : Cx} {o i e value : Expr} {pos pos' tpos : Pos} {td ty tv : TE}
def tDNewN (P : Program) (w : World) : TE := fun _ H Q => ∀ p, H p = none → Q (.ref p) (upd H p (NdO P w p []))
theorem pe_dnewN : PE X (.Dict [] [] pos) (tDNewN X.prog X.w) := ⟨fun pins s σ H Q I h =>
  wpAny_Dict_empty ⟨.ref s.heap.objs.size, _, I.laid (a := s.heap.objs.size) (o := NdO X.prog X.w s.heap.objs.size []) (t' := s.toks) (fun _ _ q => Heap.get?_push_of_some _ q) (Nat.le_refl _)
    (nd_ok ⟨beq_eq_false_iff_ne.mpr (Ne.symm (Nat.ne_of_lt I.big)), [], .nil, _, #[], 0, Heap.get?_push_size _ rfl, ⟨rfl, rfl, rfl⟩, rfl, rfl, List.nodup_nil⟩), rfl, h _ (I.hok.fresh (Nat.le_refl _))⟩⟩
def tNGet (P : Program) (w : World) (td ty : TE) : TE := fun σ H Q => td σ H fun x H1 => ty σ H1 fun y H2 => rNGet P w x y H2 Q
theorem pe_dgetN (hu : X.A.units + 64 < cLine) (ho : PE X o td) (hi : PE X i ty) (hs : NoSl i) : PE X (.Subscript o i pos) (tNGet X.prog X.w td ty) := by
  unfold tNGet rNGet
  refine ⟨fun pins s σ H Q I h => ?_⟩
  refine subD_of PySem.F.slot_dict_getitem.lookup hs (thn (ho.run pins s σ H _ I h) fun u s1 ⟨x, H1, I1, rx, q1⟩ => thn (hi.run pins s1 σ H1 _ I1 q1) fun iv s2 ⟨y, H2, I2, ry, N, d, a, kvs, g, n, ex, ey, hN, hg, hl, q2⟩ => ?_)
  subst ex ey
  obtain rfl : u = Value.ref d := rx
  obtain rfl : iv = Value.ref a := ry
  exact ⟨nd_type I2 hN, d_getN hu I2 hN hg hl fun w' s3 I3 rw' => ⟨_, H2, I3, rw', q2⟩⟩
def sNPut (P : Program) (w : World) (td ty tv : TE) : TS := fun D σ H => tv σ H fun v H1 => td σ H1 fun x H2 => ty σ H2 fun y H3 => rNPut P w x y v H3 fun H4 => D.nx σ H4
theorem ps_dputN (hu : X.A.units + 64 < cLine) (ho : PE X o td) (hi : PE X i ty) (hv : PE X value tv) (hs : swapsWith value (some (.Subscript o i pos')) pos.line X.env = pure false := by rfl) :
    PS X (.Assign [.Subscript o i pos'] value pos) (sNPut X.prog X.w td ty tv) := by
  unfold sNPut rNPut
  refine ⟨fun pins s σ H D I h => ?_⟩
  refine wpAny_Assign_Subscript (thn (hv.run pins s σ H _ I h) fun r s1 ⟨v, H1, I1, rv, q1⟩ => thn (ho.run pins s1 σ H1 _ I1 q1) fun u s2 ⟨x, H2, I2, rx, q2⟩ => thn (hi.run pins s2 σ H2 _ I2 q2) fun iv s3 ⟨y, H3, I3, ry, N, d, a, kvs, g, n, ex, ey, ev, hN, hg, hl, hz, q3⟩ => ?_) hs
  subst ex ey ev
  obtain rfl : u = Value.ref d := rx
  obtain rfl : iv = Value.ref a := ry
  obtain ⟨xs, hd, rfl, hk⟩ := hN
  obtain ⟨hsm, us, rr, dd⟩ := nd_of I3 hd hk
  have hlen : xs.length = us.length := Paired.length rr
  rw [List.length_map] at hz
  have hnone : atKey us (sgK g) = none := by
    have e := rr.look g
    rw [hl] at e
    cases q : atKey us (sgK g) with
    | none => rfl
    | some z =>
      rw [q] at e
      exact (show False from e).elim
  refine wpAny_setItem_heap (knd := nestedKind X.prog X.w) (k := sgK g) (hsz := by rw [← hlen]; exact sz (by omega)) (by show X.A.in1.units + 8 < cLine; rw [Around.in1_units]; omega) (sg_is I3 hg) dd fun h' dd' hsb => ?_
  rw [storedH_new hnone] at dd'
  obtain ⟨ob, es, ep, g1, g2, g3, g4, _, g5⟩ := dd'
  have nr : NdR (xs ++ [(g, a, n)]) (us ++ [(sgK g, a, r)]) := Paired.snoc rr ⟨rfl, rfl, rv⟩
  refine ⟨σ, upd H3 d (NdO X.prog X.w d (xs ++ [(g, a, n)])), d_write I3 (by rw [hd]; exact True.intro) hsb ⟨ob, g1⟩ (nd_ok ⟨hsm, _, nr, ob, es, ep, g1, g2, g3, g4, g5⟩), q3 _ ⟨xs ++ [(g, a, n)], upd_same, by rw [List.map_append]; rfl, fun p hp => ?_⟩⟩
  have keep : ∀ {b : Addr} {g' : SG}, At N H3 (.ref b) (sgD g') → At N (upd H3 d (NdO X.prog X.w d (xs ++ [(g, a, n)]))) (.ref b) (sgD g') := fun {b g'} hb => by
    obtain ⟨_, vs, e, nb, hb', r⟩ := At.tup hb
    cases e
    have hne : b ≠ d := fun z => by rw [z, hd] at hb'; cases hb'
    refine .t nb (by rw [upd_ne hne]; exact hb') ?_
    cases r with
    | cons h1 r1 =>
      cases r1 with
      | cons h2 r2 =>
        cases r2
        obtain ⟨c, e2, nc, hc⟩ := h2.word
        subst e2
        have hne2 : c ≠ d := fun z => by rw [z, hd] at hc; cases hc
        rw [h1.isN]
        exact .cons (.n _) (.cons (.t nc (by rw [upd_ne hne2]; exact hc) (.ints _)) .nil)
  rcases List.mem_append.mp hp with hp | hp
  · exact keep (hk p hp)
  · rw [List.mem_singleton.mp hp]
    exact keep hg
end
section
variable {K : PySem.W.Frag} {N F : Fp} {H H' : Hp} {P : Program} {w : World} {d : Addr} {kvs : List (SG × Nat)}
theorem NdAt.ev (h : NdAt P w N H d kvs) (e : Ev F H H') (hF : ∀ a, F a → N a) (hd : H' d = H d) : NdAt P w N H' d kvs := by
  obtain ⟨xs, a, b, c⟩ := h
  exact ⟨xs, hd.trans a, b, fun p hp => (c p hp).evs e hF⟩
theorem NdAt.sm (h : NdAt P w N H d kvs) (e : Sm H H') : NdAt P w N H' d kvs := by
  obtain ⟨xs, a, b, c⟩ := h
  exact ⟨xs, e.at a, b, fun p hp => (c p hp).sm e⟩
end
/-! ### dicts with tuple keys: setdefault, a display of one pair, dict of an empty one -/
section
variable {X : Cx} {o e f k v : Expr} {td ty tx tk tv : TE} {apos cpos pos : Pos}
@[irreducible] def rDSetT : V → V → V → Hp → VK → Prop := fun x y z H Q => ∃ (d b : Addr) (kvs : List (List Key × V)) (ks : List Key), x = .ref d ∧ y = .ref b ∧ H d = some (.dT kvs) ∧ H b = some (.tup (ks.map kV)) ∧ valV kvs ks = none ∧ kvs.length < sizeLine ∧ Q z (upd H d (.dT (kvs ++ [(ks, z)])))
def tDSetT (td ty tx : TE) : TE := fun σ H Q => td σ H fun x H1 => (∃ d, x = V.ref d ∧ IsD H1 d) ∧ ty σ H1 fun y H2 => tx σ H2 fun z H3 => rDSetT x y z H3 Q
theorem pe_dsetdT (hu : X.A.units + 1 < cLine) (ho : PE X o td) (he : PE X e ty) (hf : PE X f tx) (m : M2 X o "setdefault" apos e f cpos) : PE X (.Call (.Attribute o "setdefault" apos) [e, f] [] cpos) (tDSetT td ty tx) := by
  unfold tDSetT rDSetT
  refine ⟨fun pins s σ H Q I h => ?_⟩
  refine wpAny_Call_method m.base m.few m.line PySem.F.plainAttrs_dict PySem.F.slot_dict_setdefault PySem.F.type_dict_setdefault (thn (ho.run pins s σ H _ I h) fun u s1 ⟨x, H1, I1, rx, ⟨a, ex, d⟩, q1⟩ => ?_)
  subst ex
  obtain rfl : u = Value.ref a := rx
  obtain ⟨t1, t2, _⟩ := isD_at I1 d
  refine ⟨t1, t2, ?_⟩
  rw [m.trees]
  refine Calls.callWith_builtin rfl (Calls.evalArgs_plain (Calls.spliced_cons (thn (he.run pins s1 σ H1 _ I1 q1) fun iv s2 ⟨y, H2, I2, ry, q2⟩ =>
    Calls.spliced_cons (thn (hf.run pins s2 σ H2 _ I2 q2) fun fv s3 ⟨z, H3, I3, rz, d', b, kvs, ks, ea, ey, hd, hb, hn, hl, q3⟩ => Calls.spliced_nil ?_))))
  cases ea
  subst ey
  obtain rfl : iv = Value.ref b := ry
  obtain ⟨hz, hsm, xs, rel, dd⟩ := dt_of I3.hok hd
  have hz2 : xs.length ≤ sizeLine := by rw [← Paired.length rel]; exact hz
  have hnone : atKey xs ks = none := by
    have q := rel.val ks
    rw [hn] at q
    cases e : atKey xs ks with
    | none => rfl
    | some z =>
      rw [e] at q
      exact (show False from q).elim
  refine call_setdefault_heap (hsz := hz2) (tupleKind_room_in1 hu) (key_of I3.hok hb) hsm dd (fun p hp => by rw [hnone] at hp; cases hp) fun _ h' dd' hs => ?_
  rw [storedH_new hnone] at dd'
  obtain ⟨q, es, ep, hq, h2, h3, h4, _, h5⟩ := dd'
  have hl2 : (kvs ++ [(ks, z)]).length ≤ sizeLine := by rw [List.length_append, List.length_singleton]; omega
  refine ⟨z, upd H3 a (.dT (kvs ++ [(ks, z)])), d_write I3 (by rw [hd]; exact True.intro) hs ⟨q, hq⟩ (show ObjOk X.prog X.w (upd H3 a (.dT (kvs ++ [(ks, z)]))) h' a (.dT (kvs ++ [(ks, z)])) from ⟨hl2, hsm, xs ++ [(ks, b, fv)], Paired.snoc (rel.keeps fun c ys ec => ?_) ⟨rfl, ?_, rz⟩, q, es, ep, hq, h2, h3, h4, h5⟩), rz, q3⟩
  · rw [upd_ne (ne_of ec hd (fun z => nomatch z))]
    exact ec
  · rw [upd_ne (ne_of hb hd (fun z => nomatch z))]
    exact hb
@[irreducible] def rDispT : Addr → V → V → Hp → VK → Prop := fun p x y H Q => ∃ (b : Addr) (ks : List Key), x = .ref b ∧ H b = some (.tup (ks.map kV)) ∧ H p = some (.dT []) ∧ Q (.ref p) (upd H p (.dT [(ks, y)]))
def tDispT (tk tv : TE) : TE := fun σ H Q => ∀ p, H p = none → tk σ (upd H p (.dT [])) fun x H1 => tv σ H1 fun y H2 => rDispT p x y H2 Q
theorem pe_dispT (hu : X.A.units + 64 < cLine) (hk : PE X k tk) (hv : PE X v tv) : PE X (.Dict [some k] [v] pos) (tDispT tk tv) := by
  unfold tDispT rDispT
  refine ⟨fun pins s σ H Q I q => ?_⟩
  have hn := I.hok.fresh (Nat.le_refl s.heap.objs.size)
  have I1 := I.laid (a := s.heap.objs.size) (o := .dT []) (h' := s.heap.push { cls := .type "dict", data := .dict #[] }) (t' := s.toks) (fun _ _ q => Heap.get?_push_of_some _ q) (Nat.le_refl _) (dt_empty s.heap I.big)
  rw [arm_eval_Dict, zip_pairTrees [some k] [v] X.env pos rfl rfl, dictDisplay_pairs (pairTrees [some k] [v] X.env pos) (by intro z; cases z) (by rw [pairTrees_length _ _ _ _ rfl rfl]; show (1 : Nat) < 17; decide)]
  refine wpAny_bind (wpAny_standAt (wpAny_bind (wpAny_subDictH (knd := tupleKind (mixKind X.prog X.w)) (Q := fun d s' => wpAny (model X.prog X.w) X.A (pure (Value.ref d)) (EP X pins σ Q) X.xe s') (by show X.A.units < cLine; omega) (by rw [pairTrees_length _ _ _ _ rfl rfl]; show (1 : Nat) ≤ 15; decide) ?_)))
  refine pairTrees_cons_walk (thn (hk.run pins _ σ _ _ I1 (q _ hn)) fun u s1 ⟨x, H1, I2, rx, q1⟩ => thn (hv.run pins s1 σ H1 _ I2 q1) fun w2 s2 ⟨y, H2, I3, ry, b, ks, ex, hb, hp, q2⟩ => pairTrees_nil_walk ?_)
  subst ex
  obtain rfl : u = Value.ref b := rx
  obtain ⟨_, hsm, xs0, r0, dd⟩ := dt_of I3.hok hp
  cases r0
  refine ⟨[(ks, b, w2)], ⟨rfl, rfl, key_of I3.hok hb, True.intro⟩, dd, fun h' tk' dd' hs => wpAny_pure ?_⟩
  have e0 : storedAllH ([] : List (List Key × Addr × Value)) [(ks, b, w2)] = [(ks, b, w2)] := by simp [storedAllH, storedH, atKey]
  rw [e0] at dd'
  obtain ⟨ob, es, ep, g1, g2, g3, g4, g5, g6⟩ := dd'
  refine ⟨.ref s.heap.objs.size, upd H2 s.heap.objs.size (.dT [(ks, y)]), d_write I3 (by rw [hp]; exact True.intro) hs ⟨ob, g1⟩ (show ObjOk X.prog X.w (upd H2 s.heap.objs.size (.dT [(ks, y)])) h' s.heap.objs.size (.dT [(ks, y)]) from ⟨show (1 : Nat) ≤ sizeLine by decide, hsm, [(ks, b, w2)], .cons ⟨rfl, ?_, ry⟩ .nil, ob, es, ep, g1, g2, g3, g4, g6⟩), rfl, q2⟩
  rw [upd_ne (ne_of hb hp (fun z => nomatch z))]
  exact hb
end
/-- dict(d) of an empty dict, to be of the kind that is wanted -/
@[irreducible] def rDict0 : List V → Hp → VK → Prop := fun xs H Q => ∃ (a : Addr), xs = [.ref a] ∧ H a = some (.dK []) ∧ ∀ p, H p = none → Q (.ref p) (upd H p (.dT []))
theorem cr_dict0 {X : Cx} : CallR X (.type "dict") rDict0 := by
  unfold rDict0
  intro pins s σ H xs us Q I r q
  obtain ⟨a, ex, hd, q⟩ := q
  subst ex
  obtain ⟨u, eu, rx⟩ := vals1 r
  subst eu
  cases rx
  obtain ⟨z, lo, vs, rel, dd⟩ := dk_rd I.hok (.inl hd)
  cases rel
  refine kt_call_dict lo dd (by decide) fun h' d' hs => ?_
  have hm : (s.heap.objs.size == sysModules) = false := beq_eq_false_iff_ne.mpr (Nat.ne_of_gt I.big)
  obtain ⟨o, es, ep, g1, g2, g3, g4, g5, g6⟩ := d'
  have e0 : es.toList = [] := by
    cases h : es.toList with
    | nil => rfl
    | cons x l => rw [h] at g5; cases g5
  exact ⟨.ref s.heap.objs.size, upd H s.heap.objs.size (.dT []), I.laid (t' := s.toks) (fun b u e => (hs.2 b (Nat.ne_of_lt (Heap.lt_size e))).trans (Heap.get?_push_of_some _ e)) (Nat.le_refl _)
    (show ObjOk X.prog X.w _ _ _ (.dT []) from ⟨Nat.zero_le _, hm, [], .nil, o, es, ep, g1, g2, g3, e0, List.nodup_nil⟩), rfl, q _ (I.hok.fresh (Nat.le_refl _))⟩
/-! ### list(reversed(list)) -/
theorem nolen_lri : typeLookup (.type "list_reverseiterator") "__len__" = pure none := by rw [typeLookup_type, builtinLookup_eq_fast]; kernel_rfl
theorem hint_lri : typeLookup (.type "list_reverseiterator") "__length_hint__" = pure (some (.builtin "list_reverseiterator.__length_hint__")) := by rw [typeLookup_type, builtinLookup_eq_fast]; kernel_rfl
section
variable {prog : Program} {w : World} {A : Around} {s : Shared}
theorem rev_extend {R : Result → Shared → Prop} {it l S : Addr} {items : Array Value} (hh : A.handled = none) (hit : s.heap.IsRevIter it l ((items.size : Int) - 1)) (hl : s.heap.IsList l items) (hne : l ≠ it) (hn : items.size ≤ sizeLine)
    (hSi : S ≠ it) (hSl : S ≠ l) (res : Value) (c₀ : Nat) (hS : s.heap.get? S = some { cls := .type "list", data := .seq #[] c₀ })
    (hR : ∀ h' tk acc' c', (∀ b o, b ≠ S → b ≠ it → s.heap.get? b = some o → h'.get? b = some o) → h'.get? S = some { cls := .type "list", dict := none, data := .seq acc' c', slots := #[] } → ItemsOf (fun i v => items[items.size - 1 - i]? = some v) acc' items.size → R (.ok (.ret res)) { s with heap := h', toks := tk }) :
    wpAny (model prog w) A.in1 (Builtin.List.listExtendWith (.ref S) (.ref it) res)
      (fun fin s' => match fin with | .done f => R (.ok f) s' | .again c' => c'.quiet = true ∧ codeAny (model prog w) A c' R s') (fun e s' => R (.error e) s') s := by
  have W := (Walks.listRev (prog := prog) (w := w) (A := A.in1) hh it l hne items).toS
  have hSf : S ∉ [it, l] := by simp only [List.mem_cons, List.not_mem_nil, or_false, not_or]; exact ⟨hSi, hSl⟩
  have hT : s.TypeIs (.ref it) "list_reverseiterator" := hit.typeIs
  have h1 : Builtin.List.listSameRef (.ref S) (.ref it) = false := by simp [Builtin.List.listSameRef, hSi]
  unfold Builtin.List.listExtendWith
  refine wpAny_bind (wpAny_typeOf hT ?_)
  rw [if_neg (by rw [h1]; decide)]
  refine wpAny_bind (wpAny_pyIter_revIter hit ?_)
  refine wpAny_bind (wpAny_holding ?_)
  unfold Builtin.List.listLengthHint
  refine wpAny_bind (wpAny_specialOf hT nolen_lri ?_)
  show wpAny _ A.in1 (specialOf (Value.ref it) (Str.ofString "__length_hint__") >>= _) _ _ _
  refine wpAny_bind (wpAny_specialOf hT hint_lri ?_)
  generalize hid : ("list_reverseiterator.__length_hint__" : String) = id0
  wp_delta
  rw [show splitId id0 = some ("list_reverseiterator", "__length_hint__") from by subst hid; decide +kernel]
  subst hid
  refine wpAny_bind (wpAny_isInstance (b := true) hT (by rw [isSubtype_type]; kernel_rfl) ?_)
  refine wpAny_pure ?_
  rw [if_neg (by decide)]
  have e0 : ((items.size : Nat) : Int) - 1 - ((0 : Nat) : Int) = (items.size : Int) - 1 := by omega
  refine wpAny_pure ⟨plainId_quiet PySem.F.plain_extend_loop _, codeAny_extend_loopS W hn _ hSf _ items.size 0 _ _ _ rfl (Nat.zero_le _) ⟨Nat.zero_le _, by rw [e0]; exact hit, hl⟩ hS (ItemsOf.nil _) fun s' acc' c' hm hS' hacc => ?_⟩
  rw [Moved.eq_with hm]
  refine hR s'.heap s'.toks acc' c' (fun b o hb hb2 e => hm.heap b o (fun hmem => ?_) e) hS' hacc
  rcases List.mem_cons.mp hmem with e' | hmem
  · exact hb e'
  · exact hb2 (List.mem_singleton.mp hmem)
theorem call_list_rev {it l : Addr} {items : Array Value} {Q : Value → Shared → Prop} {E : Value → Shared → Prop} (hh : A.handled = none) (hit : s.heap.IsRevIter it l ((items.size : Int) - 1)) (hl : s.heap.IsList l items) (hne : l ≠ it) (hn : items.size ≤ sizeLine)
    (hQ : ∀ h' tk acc' c', (∀ b o, b ≠ it → s.heap.get? b = some o → h'.get? b = some o) → h'.get? s.heap.objs.size = some { cls := .type "list", dict := none, data := .seq acc' c', slots := #[] } → ItemsOf (fun i v => items[items.size - 1 - i]? = some v) acc' items.size →
      Q (.ref s.heap.objs.size) { s with heap := h', toks := tk }) : wpAny (model prog w) A (call (.type "list") [.ref it]) Q E s := by
  refine callType_codes (Q₁ := fun obj s₁ => obj = .ref s.heap.objs.size ∧ s₁ = { s with heap := s.heap.push { cls := .type "list", data := .seq #[] } }) PySem.F.called_list (PySem.F.typeCall_list_1 _) PySem.F.entry_list_init
    (code_list_new _ ⟨rfl, rfl⟩) fun obj s₁ h₁ => ?_
  obtain ⟨rfl, rfl⟩ := h₁
  have hS : (s.heap.push { cls := .type "list", data := .seq #[] }).get? s.heap.objs.size = some { cls := .type "list", data := .seq #[] } := Heap.get?_push_size _ rfl
  obtain ⟨oi, hoi, _⟩ := id hit
  obtain ⟨ol, hol, _⟩ := id hl
  have hSi : s.heap.objs.size ≠ it := Nat.ne_of_gt (Heap.lt_size hoi)
  have hSl : s.heap.objs.size ≠ l := Nat.ne_of_gt (Heap.lt_size hol)
  refine ⟨⟨_, hS, rfl⟩, PySem.F.args_list_init_2 _ _, ?_⟩
  show wpAny _ _ (do let old ← Builtin.List.listItems (.ref s.heap.objs.size); Builtin.List.listUpdate (.ref s.heap.objs.size) (fun _ => #[]); letGo old.toList.reverse; Builtin.List.listExtendWith (.ref s.heap.objs.size) (.ref it) .none) _ _ _
  refine wpAny_bind ?_
  unfold Builtin.List.listItems
  refine wpAny_bind (wpAny_seqItems hS rfl (wpAny_pure ?_))
  show wpAny _ _ (updateSeq s.heap.objs.size (fun _ => #[]) >>= fun _ => letGo (#[] : Array Value).toList.reverse >>= fun _ => Builtin.List.listExtendWith (.ref s.heap.objs.size) (.ref it) .none) _ _ _
  refine wpAny_bind (wpAny_updateSeq hS rfl ?_)
  have hS₂ := Heap.get?_update_self (Obj.mapSeq (fun _ => (#[] : Array Value))) hS rfl
  have oth : ∀ b o, b ≠ s.heap.objs.size → s.heap.get? b = some o → ((s.heap.push { cls := .type "list", data := .seq #[] }).update s.heap.objs.size (Obj.mapSeq (fun _ => (#[] : Array Value)))).get? b = some o :=
    fun b o hb e => (Heap.get?_update_other _ _ (Ne.symm hb)).trans (Heap.get?_push_of_some _ e)
  refine wpAny_bind (wpAny_letGo ?_)
  refine rev_extend (A := A.in1) (s := { s with heap := (s.heap.push { cls := .type "list", data := .seq #[] }).update s.heap.objs.size (Obj.mapSeq (fun _ => (#[] : Array Value))) }) hh (hit.at fun o e => oth it o (Ne.symm hSi) e) (hl.at fun o e => oth l o (Ne.symm hSl) e) hne hn hSi hSl .none _ hS₂ fun h' tk acc' c' hk hS' hacc => ⟨rfl, ?_⟩
  exact hQ h' tk acc' c' (fun b o hb e => hk b o (Nat.ne_of_lt (Heap.lt_size e)) hb (oth b o (Nat.ne_of_lt (Heap.lt_size e)) e)) hS' hacc
end
@[irreducible] def rListRev (K : PySem.W.Frag) : V → Hp → VK → Prop := fun x H Q => ∃ a xs, x = .ref a ∧ SqL K H a xs ∧ ∀ p, H p = none → Q (.ref p) (upd H p (.lst xs.reverse))
def tListRev (K : PySem.W.Frag) (te : TE) : TE := fun σ H Q => te σ H fun x H1 => rListRev K x H1 Q
theorem pe_listRev {X : Cx} {e : Expr} {te : TE} {p p2 pos pos2 : Pos} (hc : X.calm = true) (hg : Gl X "list") (hm : X.mg "list" = none) (hg2 : Gl X "reversed") (hm2 : X.mg "reversed" = none) (he : PE X e te)
    (hs : starEach [e] X.env = (false, eval e X.env) :: starEach [] X.env := by rfl)
    (hs2 : starEach [.Call (.Name "reversed" p2) [e] [] pos2] X.env = (false, eval (.Call (.Name "reversed" p2) [e] [] pos2) X.env) :: starEach [] X.env := by rfl) :
    PE X (.Call (.Name "list" p) [.Call (.Name "reversed" p2) [e] [] pos2] [] pos) (tListRev X.K te) := by
  unfold tListRev rListRev
  refine ⟨fun pins s σ H Q I h => ?_⟩
  refine Call_ (ld_blt I hg hm (by decide +kernel : bootBuiltins "list" = some (.type "list")) (PyProof.Rows.callWith_type1 (args_cons (Call_ (ld_blt I hg2 hm2 PyProof.Rows.boot_reversed (PyProof.Rows.callWith_type1 (args_cons (thn (he.run pins s σ H _ I h) fun u s1 ⟨v, H1, I1, r1, q1⟩ => args_nil ?_) hs) hs rfl))) hs2) hs2 rfl))
  obtain ⟨a, xs, ev, hq, q⟩ := q1
  subst ev
  obtain rfl : u = Value.ref a := r1
  obtain ⟨its, rv, p', hz⟩ := I1.list hq
  refine call_reversed_list p'.isList (args_nil ?_)
  have k0 : ∀ b o, s1.heap.get? b = some o → (s1.heap.push (revObj a ((its.toArray.size : Int) - 1))).get? b = some o := fun b o e => Heap.get?_push_of_some _ e
  have I2 : Inv X pins σ H1 { s1 with heap := s1.heap.push (revObj a ((its.toArray.size : Int) - 1)) } := I1.kept (t' := s1.toks) k0
  obtain ⟨f0, f1, f2, f3, f4, f5⟩ := I1.fpOk (H' := H1) (b := s1.heap.objs.size) (Nat.le_refl _) (I1.hok.fresh (Nat.le_refl _))
  have hl := p'.isList
  obtain ⟨ol, hol, _⟩ := id hl
  have hne : a ≠ s1.heap.objs.size := Nat.ne_of_lt (Heap.lt_size hol)
  have hn : its.toArray.size ≤ sizeLine := by rw [List.size_toArray, ← rv.length]; exact hz
  refine call_list_rev (s := { s1 with heap := s1.heap.push (revObj a ((its.toArray.size : Int) - 1)) }) (I1.ok.hd hc) ⟨_, Heap.get?_push_size _ rfl, rfl, rfl⟩ (hl.push _) hne hn fun h' tk acc c' hk hS hi => ?_
  have ez : (s1.heap.push (revObj a ((its.toArray.size : Int) - 1))).objs.size = s1.heap.objs.size + 1 := Heap.size_push ..
  have I3 : Inv X pins σ (upd H1 (s1.heap.push (revObj a ((its.toArray.size : Int) - 1))).objs.size (.lst xs.reverse)) { s1 with heap := h', toks := tk } :=
    I2.turnedNew (t' := tk) (ch := [s1.heap.objs.size]) (fun b o hb e => hk b o (fun z => hb (by simp [z])) e) (fun b hb => by
      have e : b = s1.heap.objs.size := by simpa using hb
      subst e
      exact ⟨f0, f1, f2, f3, f4, f5⟩) (Nat.le_refl _)
      (show ObjOk X.prog X.w _ _ _ (.lst xs.reverse) from ⟨by rw [List.length_reverse]; exact hz, acc.toList, c', RT.vals_rev rv hi, by rw [Array.toArray_toList]; exact hS⟩)
  exact ⟨.ref _, _, I3, rfl, q _ (I2.hok.fresh (Nat.le_refl _))⟩
section
variable {K : PySem.W.Frag} {N F : Fp} {H : Hp} {x y v : V} {Q : VK} {ds es : List D} {σ : L2.St} {Dn : Ends}
theorem Ats.rev {vs : List V} {ds : List D} (h : Ats N H vs ds) : Ats N H vs.reverse ds.reverse := by
  have : ∀ {vs : List V} {ds : List D}, Ats N H vs ds → Ats N H vs.reverse ds.reverse := by
    intro vs
    induction vs with
    | nil => intro ds h; cases h; exact .nil
    | cons v vs ih =>
      intro ds h
      cases h with
      | cons h1 h2 =>
        rw [List.reverse_cons, List.reverse_cons]
        exact (ih h2).snoc h1
  exact this h
theorem revL (h : At N H x (.l ds)) (q : ∀ p vs, H p = none → Ats N H vs ds.reverse → Q (.ref p) (upd H p (.lst vs))) : rListRev K x H Q := by
  unfold rListRev
  obtain ⟨a, vs, rfl, _, ha, r⟩ := At.lst h
  exact ⟨a, vs, rfl, SqL.of ha, fun p hp => q p _ hp r.rev⟩
/-! ### for i, x in enumerate(list), enumerate(tuple) -/
abbrev gPair (K : PySem.W.Frag) (i j : Nat) : TG := gTup K 2 (gCons (gName i) (gCons (gName j) gNil))
@[irreducible] def rForEL (K : PySem.W.Frag) (g : TG) (tb : TS) (vs : List V) (Dn : Ends) (σ : L2.St) (H : Hp) : Prop := ∃ a xs, vs = [V.ref a] ∧ SqL K H a xs ∧ FR (Ite K a) g tb Dn σ H
def tForEL (K : PySem.W.Frag) (ta : TA) (g : TG) (tb : TS) : TS := fun D σ H => ta σ H fun vs H1 => rForEL K g tb vs D σ H1
theorem ps_forEL {X : Cx} {e : Expr} {elts : List Expr} {kk : Nat} {body : List Stmt} {g : TG} {tb : TS} {ta : TA} {p cpos pos tpos : Pos} (hp : PassesOwn (model X.prog X.w) X.A X.env X.xe) (hc : X.calm = true) (hgl : Gl X "enumerate") (hm : X.mg "enumerate" = none) (ha : PA X [e] ta)
    (hg : PG X (.Tuple elts kk tpos) g) (hb : PSs X body tb) (he : starEach [e] X.env = [(false, eval e X.env)] := by rfl) : PS X (.For (.Tuple elts kk tpos) (.Call (.Name "enumerate" p) [e] [] cpos) body [] pos) (tForEL X.K ta g tb) := by
  unfold tForEL rForEL
  exact ps_for hp hc (pi_enum hgl hm ha he) hg hb (fun _ => rfl)
theorem forEL {tb : TS} {i j : Nat} (hv : At N H x (.l ds)) (Pv : Nat → L2.St → Hp → Prop) (h0 : Pv 0 σ H) (hk : ∀ i σ' H', Pv i σ' H' → Ev N H H')
    (hs : ∀ n e z T σ' H', ds[n]? = some e → At N H' z e → Pv n σ' H' → H' T = none → tb { Dn with nx := Pv (n + 1), ct := Pv (n + 1), bk := Dn.nx } ((σ'.set i (some (nV n))).set j (some z)) (upd H' T (.tup [nV n, z]))) (hd : ∀ σ' H', Pv ds.length σ' H' → Dn.nx σ' H') :
    rForEL K (gPair K i j) tb [x] Dn σ H := by
  unfold rForEL
  obtain ⟨a, vs, rfl, na, ha, r⟩ := At.lst hv
  refine ⟨a, vs, rfl, SqL.of ha, fun n m σ' H' => m = vs.length - n ∧ n ≤ vs.length ∧ Pv n σ' H', ⟨vs.length, by simp, Nat.zero_le _, h0⟩, ?_⟩
  rintro n m σ' H' ⟨rfl, hn, p⟩
  have hq : SqL K H' a vs := SqL.of ((hk n σ' H' p).kp a _ ha na)
  by_cases hlt : n < vs.length
  · refine .inr ⟨⟨vs, vs[n], hq, by simp [hlt]⟩, Pv (n + 1), fun σ2 H2 p' => ⟨vs.length - (n + 1), by omega, rfl, hlt, p'⟩, fun u H2 y => ?_⟩
    obtain ⟨T, z, rfl, hT, rfl, hz⟩ := y
    have hz' := hz vs hq
    obtain ⟨e, he, hz2⟩ := r.get' hz'
    refine ⟨T, _, rfl, SqT.of upd_same, rfl, _, _, rfl, _, _, rfl, rfl, ?_⟩
    exact hs n e z T σ' H' he (hz2.ev (hk n σ' H' p)) p hT
  · have e : n = vs.length := by omega
    subst e
    exact .inl ⟨⟨vs, hq, Nat.le_refl _⟩, hd σ' H' (r.len ▸ p)⟩
end
/-- the tuple at a, each item in a new pair -/
def IteT (K : PySem.W.Frag) (a : Addr) : It :=
  ⟨fun i H => ∃ (xs : List V) (x : V), SqT K H a xs ∧ xs[i]? = some x, fun i H v H' => ∃ T x, v = .ref T ∧ H T = none ∧ H' = upd H T (.tup [.int (i : Nat), x]) ∧ ∀ xs, SqT K H a xs → xs[i]? = some x, fun i H => ∃ xs : List V, SqT K H a xs ∧ xs.length = i⟩
theorem turn_enumT {P : Program} {w : World} {K : PySem.W.Frag} {elts : List Expr} {kk : Nat} {tpos : Pos} (a e it : Addr) (hai : a ≠ it) :
    Turn P w K (.Tuple elts kk tpos) (IteT K a) [e, it] e (fun i h => (∃ old, IsEnum h e it ((i : Nat) : Int) old) ∧ h.IsTupleIter it a i ∧ e ≠ it ∧ e ≠ a) where
  mem := by simp
  obj := fun i h st b hb => by
    obtain ⟨⟨old, he⟩, ⟨o, ho, hc, hd⟩, _⟩ := st
    have e' : b = e ∨ b = it := by simpa using hb
    rcases e' with z | z
    · rw [z]; exact ⟨_, he, fun v q => nomatch q⟩
    · rw [z]; exact ⟨o, ho, fun v q => by rw [hd] at q; cases q⟩
  keep := fun i h h' st k => let ⟨⟨old, he⟩, hi, hne⟩ := st; ⟨⟨old, k e (by simp) _ he⟩, hi.at fun o q => k it (by simp) o q, hne⟩
  item := by
    intro X hP hw hK hc i pins s σ H E I hf st hg
    subst hP hw hK
    obtain ⟨⟨old, he⟩, hit, hne, hea⟩ := st
    obtain ⟨xs, x, hq, hx⟩ := hg
    obtain ⟨its, rv, p, hz⟩ := I.tuple hq
    have hel : e < s.heap.objs.size := Heap.lt_size he
    have hil : it < s.heap.objs.size := by obtain ⟨_, q, _⟩ := hit; exact Heap.lt_size q
    have hlt : i < its.toArray.size := by rw [List.size_toArray, ← rv.length]; exact (List.getElem?_eq_some_iff.mp hx).1
    refine wpAny_pyNext_enum_itemD (Draws.tuple (A := X.A.in1) (show X.A.in1.handled = none from I.ok.hd hc) it a hai its.toArray) he ⟨hit, show s.heap.IsTuple a its.toArray from p⟩ hlt hne (by simp [hne, hea]) fun u h' tk hu ho hit' hT hsz hk => ?_
    have ru : RelV x u := by
      obtain ⟨u', hu', ru⟩ := rv.get hx
      have : its.toArray[i]? = some u' := by simpa using hu'
      rw [hu] at this
      cases this
      exact ru
    refine ⟨_, rfl, wpAny_letOwnedTupleGo_enum (s := { s with heap := h', toks := tk + 1 }) ho fun h'' he' sb => ?_⟩
    have hT2 : h''.get? s.heap.objs.size = some { cls := .type "tuple", data := .seq #[.int i tk, u] } := (sb.2 _ (Nat.ne_of_gt hel)).trans hT
    have new : ObjOk X.prog X.w (upd H s.heap.objs.size (.tup [.int (i : Nat), x])) h'' s.heap.objs.size (.tup [.int (i : Nat), x]) :=
      ⟨by show 2 ≤ sizeLine; decide, [.int i tk, u], .cons ⟨_, rfl⟩ (.cons ru .nil), ⟨_, hT2, rfl, _, rfl⟩⟩
    have I1 : Inv X pins σ (upd H s.heap.objs.size (.tup [.int (i : Nat), x])) { s with heap := h'', toks := tk + 1 } :=
      I.turnedNew (ch := [e, it]) (fun b ob hb q => (sb.2 b (fun z => hb (by simp [z]))).trans (hk b ob (fun z => hb (by simp [z])) (fun z => hb (by simp [z])) q)) hf (Nat.le_refl _) new
    refine ⟨.ref s.heap.objs.size, _, I1, rfl, ⟨_, x, rfl, I.hok.fresh (Nat.le_refl _), rfl, fun ys hy => by rw [I.tuple_inj hy hq]; exact hx⟩, ⟨⟨u, ?_⟩, hit'.1.at fun o q => (sb.2 it (Ne.symm hne)).trans q, hne, hea⟩, fun b hb => ?_⟩
    · have e1 : ((i + 1 : Nat) : Int) = (i : Int) + 1 := by omega
      rw [e1]; exact he'
    · have hb' : b < s.heap.objs.size := by
        have e' : b = e ∨ b = it := by simpa using hb
        rcases e' with z | z
        · rw [z]; exact hel
        · rw [z]; exact hil
      rw [upd_ne (Nat.ne_of_lt hb')]
      exact (hf b hb).1
  done := by
    intro X hP hw hK hc i pins s σ H E I hf st hg
    subst hP hw hK
    obtain ⟨⟨old, he⟩, hit, hne, hea⟩ := st
    obtain ⟨xs, hq, hx⟩ := hg
    obtain ⟨its, rv, p, hz⟩ := I.tuple hq
    obtain ⟨f0, f1, f2, f3, f4, f5⟩ := hf it (by simp)
    have hn : i = its.toArray.size := by rw [List.size_toArray, ← rv.length]; exact hx.symm
    subst hn
    exact wpAny_pyNext_enum_endD (Draws.tuple (A := X.A.in1) (show X.A.in1.handled = none from I.ok.hd hc) it a hai its.toArray) he ⟨hit, show s.heap.IsTuple a its.toArray from p⟩ fun h' eb => ⟨rfl, I.turned (t' := s.toks) (fun b o hb q => eb b o hb q) f0 f1 f3 f4 f5⟩
  self := fun A i s Q E st h => let ⟨⟨_, he⟩, _⟩ := st; wpAny_pyIter_enum he h
open AutoSeq1 (wpAny_loadPart') in
theorem meets_enumerate_newT (l : Addr) (items : Array Value) (ol : Obj) :
    Meets (Builtin.«enumerate.__new__» ⟨[.type "enumerate", .ref l], []⟩) (fun _ R s => (s.heap.get? l = some ol ∧ s.heap.IsTuple l items) ∧
      R (.ok (.ret (.ref (s.heap.push { cls := .type "tuple_iterator", data := .fields #[.ref l, .int 0 0] }).objs.size)))
        { s with heap := (s.heap.push { cls := .type "tuple_iterator", data := .fields #[.ref l, .int 0 0] }).push { cls := .type "enumerate", data := .fields #[.none, .bool false, .ref s.heap.objs.size, rawInt 0, .none, .none] } }) :=
  .of_wp fun prog w A R s h => by
    obtain ⟨hp, g, d, tk, os⟩ := s; obtain ⟨⟨hl, hL⟩, h⟩ := h
    have hsub := sub_enumerate
    wp_walk using wpAny_loadPart' hl
    refine wpAny_stack_any fun st => wpAny_pure ?_
    split
    · rename_i c _ _ _ _ _
      cases (c == Value.type "enumerate")
      · wp_walk using wpAny_loadPart' hl, wpAny_pyIter_tuple hL
        exact ⟨_, rfl, h⟩
      · wp_walk using wpAny_loadPart' hl, wpAny_pyIter_tuple hL
        exact ⟨_, rfl, h⟩
    · wp_walk using wpAny_loadPart' hl, wpAny_pyIter_tuple hL
      exact ⟨_, rfl, h⟩
theorem call_enumerate_tuple {prog : Program} {w : World} {A : Around} {E : Value → Shared → Prop} {s : Shared} {l : Addr} {items : Array Value} {Q : Value → Shared → Prop} (hL : s.heap.IsTuple l items)
    (h : ∀ h', IsEnum h' (s.heap.objs.size + 1) s.heap.objs.size 0 .none → h'.IsTupleIter s.heap.objs.size l 0 → h'.objs.size = s.heap.objs.size + 2 →
      (∀ b o, s.heap.get? b = some o → h'.get? b = some o) → Q (.ref (s.heap.objs.size + 1)) { s with heap := h' }) :
    wpAny (model prog w) A (call (.type "enumerate") [.ref l]) Q E s := by
  obtain ⟨ol, hl, _⟩ := id hL
  refine callType_new PySem.F.called_enumerate (by decide) (PySem.F.typeCall_enumerate_1 _) (PySem.F.newCall_enumerate_1 _) (fun obj => PySem.F.args_object_init_2 obj _) PySem.F.entry_enumerate_new
    (meets_enumerate_newT l items ol) ⟨⟨hl, hL⟩, ?_⟩
  have hz : (s.heap.push { cls := .type "tuple_iterator", data := .fields #[.ref l, .int 0 0] }).objs.size = s.heap.objs.size + 1 := Heap.size_push ..
  show _ ∧ _
  rw [hz]
  have he : IsEnum ((s.heap.push { cls := .type "tuple_iterator", data := .fields #[.ref l, .int 0 0] }).push
      { cls := .type "enumerate", data := .fields #[.none, .bool false, .ref s.heap.objs.size, rawInt 0, .none, .none] }) (s.heap.objs.size + 1) s.heap.objs.size 0 .none := by
    have := Heap.get?_push_size (s.heap.push { cls := .type "tuple_iterator", data := .fields #[.ref l, .int 0 0] }) (o := { cls := .type "enumerate", data := .fields #[.none, .bool false, .ref s.heap.objs.size, rawInt 0, .none, .none] }) rfl
    rw [hz] at this; exact this
  exact ⟨⟨_, he, rfl⟩, h _ he ⟨_, Heap.get?_push_of_some _ (Heap.get?_push_size _ rfl), rfl, rfl⟩ (by rw [Heap.size_push, hz]) fun b o x => Heap.get?_push_of_some _ (Heap.get?_push_of_some _ x)⟩
def iEnumT (K : PySem.W.Frag) (ta : TA) : TI := fun σ H R => ta σ H fun vs H1 => ∃ a xs, vs = [.ref a] ∧ SqT K H1 a xs ∧ R (IteT K a) H1
theorem pi_enumT {X : Cx} {e : Expr} {ta : TA} {p pos tpos : Pos} {elts : List Expr} {kk : Nat} (hg : Gl X "enumerate") (hm : X.mg "enumerate" = none) (ha : PA X [e] ta) (hs : starEach [e] X.env = [(false, eval e X.env)] := by rfl) :
    PI X (.Tuple elts kk tpos) (.Call (.Name "enumerate" p) [e] [] pos) (iEnumT X.K ta) := by
  refine ⟨fun pins s σ H R I h => ?_⟩
  refine Call_ (ld_blt I hg hm boot_enumerate (PyProof.Rows.callWith_type1 (thn (ha.run pos pins s σ H _ I h) fun us s1 ⟨vs, H1, I1, r1, q1⟩ => ?_) hs rfl))
  obtain ⟨a, xs, ex, hq, q⟩ := q1
  subst ex
  cases r1 with
  | cons r rr =>
    cases rr
    cases r
    obtain ⟨its, rv, p', hz⟩ := I1.tuple hq
    obtain ⟨oa, hoa, _⟩ := id p'
    have hla : a < s1.heap.objs.size := Heap.lt_size hoa
    refine call_enumerate_tuple (show s1.heap.IsTuple a its.toArray from p') fun h' he hit hsz hk => wpAny_pyIter_enum he ?_
    have I2 : Inv X pins σ H1 { s1 with heap := h' } := I1.kept (t' := s1.toks) hk
    refine ⟨s1.heap.objs.size + 1, [s1.heap.objs.size + 1, s1.heap.objs.size], _, _, H1, rfl, I2, turn_enumT a (s1.heap.objs.size + 1) s1.heap.objs.size (Nat.ne_of_lt hla), ⟨⟨.none, he⟩, hit, Nat.succ_ne_self _, Nat.ne_of_gt (Nat.lt_succ_of_lt hla)⟩, fun b hb => ?_, q⟩
    have e' : b = s1.heap.objs.size + 1 ∨ b = s1.heap.objs.size := by simpa using hb
    have hle : s1.heap.objs.size ≤ b := by
      rcases e' with z | z
      · rw [z]; exact Nat.le_add_right _ _
      · rw [z]; exact Nat.le_refl _
    exact I1.fpOk hle (I1.hok.fresh hle)
@[irreducible] def rForET (K : PySem.W.Frag) (g : TG) (tb : TS) (vs : List V) (Dn : Ends) (σ : L2.St) (H : Hp) : Prop := ∃ a xs, vs = [V.ref a] ∧ SqT K H a xs ∧ FR (IteT K a) g tb Dn σ H
def tForET (K : PySem.W.Frag) (ta : TA) (g : TG) (tb : TS) : TS := fun D σ H => ta σ H fun vs H1 => rForET K g tb vs D σ H1
theorem ps_forET {X : Cx} {e : Expr} {elts : List Expr} {kk : Nat} {body : List Stmt} {g : TG} {tb : TS} {ta : TA} {p cpos pos tpos : Pos} (hp : PassesOwn (model X.prog X.w) X.A X.env X.xe) (hc : X.calm = true) (hgl : Gl X "enumerate") (hm : X.mg "enumerate" = none) (ha : PA X [e] ta)
    (hg : PG X (.Tuple elts kk tpos) g) (hb : PSs X body tb) (he : starEach [e] X.env = [(false, eval e X.env)] := by rfl) : PS X (.For (.Tuple elts kk tpos) (.Call (.Name "enumerate" p) [e] [] cpos) body [] pos) (tForET X.K ta g tb) := by
  unfold tForET rForET
  exact ps_for hp hc (pi_enumT hgl hm ha he) hg hb (fun _ => rfl)
section
variable {K : PySem.W.Frag} {N F : Fp} {H : Hp} {x y v : V} {Q : VK} {ds es : List D} {σ : L2.St} {Dn : Ends}
theorem forET {tb : TS} {i j : Nat} (hv : At N H x (.t ds)) (Pv : Nat → L2.St → Hp → Prop) (h0 : Pv 0 σ H) (hk : ∀ i σ' H', Pv i σ' H' → Ev N H H')
    (hs : ∀ n e z T σ' H', ds[n]? = some e → At N H' z e → Pv n σ' H' → H' T = none → tb { Dn with nx := Pv (n + 1), ct := Pv (n + 1), bk := Dn.nx } ((σ'.set i (some (nV n))).set j (some z)) (upd H' T (.tup [nV n, z]))) (hd : ∀ σ' H', Pv ds.length σ' H' → Dn.nx σ' H') :
    rForET K (gPair K i j) tb [x] Dn σ H := by
  unfold rForET
  obtain ⟨a, vs, rfl, na, ha, r⟩ := At.tup hv
  refine ⟨a, vs, rfl, SqT.of ha, fun n m σ' H' => m = vs.length - n ∧ n ≤ vs.length ∧ Pv n σ' H', ⟨vs.length, by simp, Nat.zero_le _, h0⟩, ?_⟩
  rintro n m σ' H' ⟨rfl, hn, p⟩
  have hq : SqT K H' a vs := SqT.of ((hk n σ' H' p).kp a _ ha na)
  by_cases hlt : n < vs.length
  · refine .inr ⟨⟨vs, vs[n], hq, by simp [hlt]⟩, Pv (n + 1), fun σ2 H2 p' => ⟨vs.length - (n + 1), by omega, rfl, hlt, p'⟩, fun u H2 y => ?_⟩
    obtain ⟨T, z, rfl, hT, rfl, hz⟩ := y
    have hz' := hz vs hq
    obtain ⟨e, he, hz2⟩ := r.get' hz'
    refine ⟨T, _, rfl, SqT.of upd_same, rfl, _, _, rfl, _, _, rfl, rfl, ?_⟩
    exact hs n e z T σ' H' he (hz2.ev (hk n σ' H' p)) p hT
  · have e : n = vs.length := by omega
    subst e
    exact .inl ⟨⟨vs, hq, rfl⟩, hd σ' H' (r.len ▸ p)⟩
end
section
variable {X : Cx}
theorem mt_indexNk (K : PySem.W.Frag) (hK : X.K = K := by rfl) : MtR X "list.index" (rIxN K) := hK ▸ mt_indexN
end
section
variable {X : Cx} {o i value : Expr} {td ty tv : TE} {pos pos' : Pos} (P : Program) (w : World)
theorem pe_dnewNk (h1 : X.prog = P := by rfl) (h2 : X.w = w := by rfl) : PE X (.Dict [] [] pos) (tDNewN P w) := h1 ▸ h2 ▸ pe_dnewN
theorem op_notinNk (hu : X.A.units + 64 < cLine) (h1 : X.prog = P := by rfl) (h2 : X.w = w := by rfl) : OpR X (compareOp .NotIn) (rNNotIn P w) := h1 ▸ h2 ▸ op_notinN hu
theorem pe_dgetNk (hu : X.A.units + 64 < cLine) (ho : PE X o td) (hi : PE X i ty) (hs : NoSl i) (h1 : X.prog = P := by rfl) (h2 : X.w = w := by rfl) : PE X (.Subscript o i pos) (tNGet P w td ty) := h1 ▸ h2 ▸ pe_dgetN hu ho hi hs
theorem ps_dputNk (hu : X.A.units + 64 < cLine) (ho : PE X o td) (hi : PE X i ty) (hv : PE X value tv) (hs : swapsWith value (some (.Subscript o i pos')) pos.line X.env = pure false := by rfl) (h1 : X.prog = P := by rfl) (h2 : X.w = w := by rfl) :
    PS X (.Assign [.Subscript o i pos'] value pos) (sNPut P w td ty tv) := h1 ▸ h2 ▸ ps_dputN hu ho hi hv hs
end
end Tk
/-! text W4 -/
set_option maxHeartbeats 4000000
namespace Tk
open PySem PySem.Spec PyProof.Rows L2
/-! ### sets of words -/
def kz (v : List Nat) : List Int := v.map fun (x : Nat) => (x : Int)
theorem kz_inj {v u : List Nat} (h : kz v = kz u) : v = u := (List.map_inj_right fun a b e => Int.ofNat.inj e).mp h
theorem kz_V (v : List Nat) : (kz v).map V.int = v.map nV := by
  unfold kz
  rw [List.map_map]
  rfl
structure TsPhi (P : Program) (w : World) (a : Addr) (L : Kys) (h : Heap) : Prop where
  ex : ∃ es ep t, (∃ o, h.get? a = some o ∧ o.ExactSet ∧ o.data = .set es ep t) ∧ es.toList = rowsOf P w L ∧ Tb t (L.map fun p => thash P w p.2) ∧ (L.map (·.2)).Nodup ∧ t.plain = true ∧
    (w.params.followText "set-order" = true ∨ t.led = true) ∧ L.length * 5 < t.mask * 3 ∧ L.length ≤ 1210
def TsO (P : Program) (w : World) (a : Addr) (L : Kys) : HO := .ext (TsPhi P w a L)
theorem Ts.phi {P : Program} {w : World} {h : Heap} {a : Addr} {L : Kys} {es : Array (Int × Value)} {ep : Nat} {t : SetTable} (R : Ts P w h a L es ep t) : TsPhi P w a L h := ⟨es, ep, t, R.lies, R.ents, R.tb, R.one, R.pl, R.ld, R.gap, R.most⟩
theorem TsPhi.ts {P : Program} {w : World} {h : Heap} {a : Addr} {L : Kys} (x : TsPhi P w a L h) (ht : ∀ p, p ∈ L → IsT P w h p.2 p.1) : ∃ es ep t, Ts P w h a L es ep t := by
  obtain ⟨es, ep, t, a1, a2, a3, a4, a5, a6, a7, a8⟩ := x.ex
  exact ⟨es, ep, t, a1, a2, a3, a4, ht, a5, a6, a7, a8⟩
theorem tsO_ok {P : Program} {w : World} {H : Hp} {h : Heap} {a : Addr} {L : Kys} (x : TsPhi P w a L h) : ObjOk P w H h a (TsO P w a L) := by
  have ⟨_, _, _, ⟨o, go, _⟩, _⟩ := x.ex
  refine ⟨x, ⟨o, go⟩, fun h1 h2 y k => ?_⟩
  have ⟨es, ep, t, ⟨o, go, r⟩, q⟩ := TsPhi.ex y
  exact ⟨es, ep, t, ⟨o, k o go, r⟩, q⟩
theorem tsO_tup {P : Program} {w : World} {a : Addr} {L : Kys} (xs : List V) : TsO P w a L ≠ .tup xs := fun z => by
  unfold TsO at z
  cases z
/-- at a a set of the words S -/
def TsAt (P : Program) (w : World) (N : Fp) (H : Hp) (a : Addr) (S : List (List Nat)) : Prop :=
  ∃ L : Kys, H a = some (TsO P w a L) ∧ (∀ v, v ∈ S ↔ kz v ∈ L.map (·.2)) ∧ S.length = L.length ∧ ∀ p, p ∈ L → ∃ v, kz v = p.2 ∧ At N H (.ref p.1) (wT v)
section
variable {K : PySem.W.Frag} {N F : Fp} {H H' : Hp} {P : Program} {w : World} {d : Addr} {S : List (List Nat)}
theorem TsAt.ev (h : TsAt P w N H d S) (e : Ev F H H') (hF : ∀ a, F a → N a) (hd : H' d = H d) : TsAt P w N H' d S := by
  obtain ⟨L, a, b, b2, c⟩ := h
  exact ⟨L, hd.trans a, b, b2, fun p hp => let ⟨v, e1, e2⟩ := c p hp; ⟨v, e1, e2.evs e hF⟩⟩
theorem TsAt.sm (h : TsAt P w N H d S) (e : Sm H H') : TsAt P w N H' d S := by
  obtain ⟨L, a, b, b2, c⟩ := h
  exact ⟨L, e.at a, b, b2, fun p hp => let ⟨v, e1, e2⟩ := c p hp; ⟨v, e1, e2.sm e⟩⟩
theorem TsAt.ext (h : TsAt P w N H d S) : ∃ L, H d = some (TsO P w d L) := let ⟨L, a, _⟩ := h; ⟨L, a⟩
end
@[irreducible] def rSet0T (P : Program) (w : World) : List V → Hp → VK → Prop := fun xs H Q => xs = [] ∧ ∀ (p : Addr), H p = none → ∀ o, (∀ o', o ≠ HO.tup o') → (∀ N, TsAt P w N (upd H p o) p []) → Q (.ref p) (upd H p o)
@[irreducible] def rNotInST (P : Program) (w : World) : R2 := fun y x H Q => ∃ (N : Fp) (d : Addr) (S : List (List Nat)) (v : List Nat), x = .ref d ∧ TsAt P w N H d S ∧ At N H y (wT v) ∧ S.length ≤ 1200 ∧ Q (.bl (!decide (v ∈ S))) H
@[irreducible] def rSAddT (P : Program) (w : World) : V → V → Hp → VK → Prop := fun x y H Q => ∃ (N : Fp) (d : Addr) (S : List (List Nat)) (v : List Nat), x = .ref d ∧ TsAt P w N H d S ∧ N d ∧ At N H y (wT v) ∧ v ∉ S ∧ S.length ≤ 1200 ∧ ∀ o, (∀ o', o ≠ HO.tup o') → TsAt P w N (upd H d o) d (S ++ [v]) → Q .non (upd H d o)
@[irreducible] def rLenSetT (K : PySem.W.Frag) : V → Hp → VK → Prop := fun x H Q => ∃ (N : Fp) (S : List (List Nat)), At N H x (.l (S.map wT)) ∧ S.Nodup ∧ S.length ≤ 1200 ∧ Q (nV S.length) H
section
variable {X : Cx} {o e a : Expr} {to te : TE} {apos cpos p p2 q pos : Pos} {pins : List (Addr × Obj)} {σ : L2.St} {H : Hp} {s : Shared} {N : Fp}
theorem word_isT {v : List Nat} {b : Addr} (I : Inv X pins σ H s) (h : At N H (.ref b) (wT v)) : IsT X.prog X.w s.heap (kz v) b := by
  obtain ⟨c, e, _, g⟩ := h.word
  cases e
  rw [← kz_V] at g
  exact I.isT (.of g)
theorem TsAt.full {d : Addr} {S : List (List Nat)} (I : Inv X pins σ H s) (h : TsAt X.prog X.w N H d S) : ∃ L es ep t, H d = some (TsO X.prog X.w d L) ∧ Ts X.prog X.w s.heap d L es ep t ∧ (∀ v, v ∈ S ↔ kz v ∈ L.map (·.2)) ∧ S.length = L.length ∧ ∀ p, p ∈ L → ∃ v, kz v = p.2 ∧ At N H (.ref p.1) (wT v) := by
  obtain ⟨L, a, b, b2, c⟩ := h
  have x : TsPhi X.prog X.w d L s.heap := (I.hok d _ a).1
  obtain ⟨es, ep, t, R⟩ := x.ts fun p hp => by
    obtain ⟨v, e1, e2⟩ := c p hp
    rw [← e1]
    exact word_isT I e2
  exact ⟨L, es, ep, t, a, R, b, b2, c⟩
theorem cr_set0T : CallR X (.type "set") (rSet0T X.prog X.w) := by
  intro pins s σ H xs us Q I r h
  unfold rSet0T at h
  obtain ⟨rfl, q⟩ := h
  cases r
  refine set_call0 fun ⟨es, ep, t, R⟩ => ?_
  exact ⟨.ref _, upd H s.heap.objs.size (TsO X.prog X.w s.heap.objs.size []), I.laid (t' := s.toks) (fun b u e => Heap.get?_push_of_some _ e) (Nat.le_refl _) (tsO_ok R.phi), rfl,
    q _ (I.hok.fresh (Nat.le_refl _)) _ tsO_tup fun N => ⟨[], upd_same, fun v => by simp, rfl, fun p hp => nomatch hp⟩⟩
theorem op_notinST (hu : X.A.units + 1 < cLine) : OpR X (compareOp .NotIn) (rNotInST X.prog X.w) := by
  intro pins s σ H y x v u Q I ry rx h
  unfold rNotInST at h
  obtain ⟨N, d, S, k, rfl, hT, hy, hl, q⟩ := h
  obtain ⟨L, es, ep, t, hd, R, m, ml, mt⟩ := hT.full I
  obtain ⟨b, rfl, _, _⟩ := hy.word
  cases ry
  cases rx
  have e : decide (kz k ∈ L.map (·.2)) = decide (k ∈ S) := decide_eq_decide.mpr (m k).symm
  exact notin_at R (word_isT I hy) hu ⟨.bl (!decide (k ∈ S)), H, I.tok _, by rw [e]; rfl, q⟩
def tSAddT (P : Program) (w : World) (to te : TE) : TE := fun σ H Q => to σ H fun x H1 => (∃ d L, x = V.ref d ∧ H1 d = some (TsO P w d L)) ∧ te σ H1 fun y H2 => rSAddT P w x y H2 Q
theorem pe_saddT (hu : X.A.units + 1 < cLine) (ho : PE X o to) (he : PE X e te)
    (hbase : attributeBase o "add" X.env (eval o X.env) = eval o X.env := by rfl)
    (hfew : ((backTo cpos (starEach [e] X.env)).all (fun x => !x.1) && (backToKw cpos (keywordEach [] X.env)).all (fun x => x.1.isSome)
      && decide ([e].length + ([] : List Keyword).length + (if ([] : List Keyword).isEmpty then 0 else 1) < 30)) = true := by rfl)
    (hline : (apos.endLine == cpos.line) = true := by rfl) (hs : starEach [e] X.env = (false, eval e X.env) :: starEach [] X.env := by rfl) :
    PE X (.Call (.Attribute o "add" apos) [e] [] cpos) (tSAddT X.prog X.w to te) := by
  refine ⟨fun pins s σ H Q I h => ?_⟩
  refine wpAny_Call_method_late hbase hfew hline rfl (thn (ho.run pins s σ H _ I h) fun v s1 ⟨x, H1, I1, r1, ty, q1⟩ => ?_)
  obtain ⟨d, L, rfl, hd⟩ := ty
  cases r1
  have ⟨_, _, _, ⟨ob, go, gx, _⟩, _⟩ := TsPhi.ex (I1.hok d _ hd).1
  refine ⟨"set", "set.add", F.plainAttrs_set, F.slot_set_add, F.type_set_add, ⟨ob, go, gx.1⟩, fun b e => (by cases e; exact ⟨ob, go, gx.2.1⟩), ?_⟩
  rw [hs]
  refine Calls.callWith_builtin (by rfl) (Calls.evalArgs_plain ?_)
  refine Calls.spliced_cons (thn (he.run pins s1 σ H1 _ I1 q1) fun u s2 ⟨y, H2, I2, r2, q2⟩ => Calls.spliced_nil ?_)
  unfold rSAddT at q2
  obtain ⟨N, d', S, k, e1, hT, nd, hy, hk, hl, q⟩ := q2
  cases e1
  obtain ⟨L2, es, ep, t, hd2, R, m, ml, mt⟩ := hT.full I2
  obtain ⟨b, rfl, _, _⟩ := hy.word
  cases r2
  have new : kz k ∉ L2.map (·.2) := fun z => hk ((m k).2 z)
  refine add_call R (word_isT I2 hy) hu (by omega) fun h' L' es' ep' t' sb R' _ c2 => ?_
  have pm := c2 new
  have ex : ∃ u, h'.get? d = some u := let ⟨o, go, _⟩ := R'.lies; ⟨o, go⟩
  refine ⟨.non, upd H2 d (TsO X.prog X.w d L'), I2.write (e := d) (t' := _) (by rw [hd2]; trivial) (.inl rfl) (fun b u hb hu => (sb.2 b hb).trans hu) ex (tsO_ok R'.phi), rfl, q _ tsO_tup ⟨L', upd_same, fun v => ?_, ?_, fun p hp => ?_⟩⟩
  · rw [(pm.map (·.2)).mem_iff, List.map_cons, List.mem_cons, List.mem_append, List.mem_singleton, m v, or_comm]
    exact or_congr ⟨fun z => congrArg kz z, kz_inj⟩ Iff.rfl
  · rw [pm.length_eq, List.length_append, ml]
    rfl
  · have ev : Ev N H2 (upd H2 d (TsO X.prog X.w d L')) := .put nd tsO_tup
    rcases List.mem_cons.mp (pm.mem_iff.mp hp) with z | z
    · exact ⟨k, by rw [z], by rw [z]; exact hy.ev ev⟩
    · obtain ⟨v, a1, a2⟩ := mt p z
      exact ⟨v, a1, a2.ev ev⟩
def tLenSetT (K : PySem.W.Frag) (te : TE) : TE := fun σ H Q => te σ H fun x H1 => rLenSetT K x H1 Q
theorem words_kys : ∀ {S : List (List Nat)} {vs : List V}, Ats N H vs (S.map wT) → ∃ ks : Kys, vs = ks.map (fun p => V.ref p.1) ∧ ks.map (·.2) = S.map kz ∧ ∀ p, p ∈ ks → ∃ v, kz v = p.2 ∧ At N H (.ref p.1) (wT v)
  | [], _, .nil => ⟨[], rfl, rfl, fun p hp => nomatch hp⟩
  | v :: S, _, .cons h r => by
    obtain ⟨ks, e1, e2, e3⟩ := words_kys (S := S) r
    obtain ⟨b, rfl, _, _⟩ := h.word
    refine ⟨(b, kz v) :: ks, by rw [e1]; rfl, by rw [List.map_cons, e2]; rfl, fun p hp => ?_⟩
    rcases List.mem_cons.mp hp with z | z
    · rw [z]; exact ⟨v, rfl, h⟩
    · exact e3 p z
theorem pe_lenSetTT (hc : X.calm = true) (hu : X.A.units + 3 < cLine) (hg : Gl X "len") (hm : X.mg "len" = none) (hg2 : Gl X "set") (hm2 : X.mg "set" = none) (ha : PE X a te)
    (na : starEach [a] X.env = (false, eval a X.env) :: starEach [] X.env := by rfl) : PE X (.Call (.Name "len" p) [.Call (.Name "set" p2) [a] [] q] [] pos) (tLenSetT X.K te) := by
  refine ⟨fun pins s σ H Q I h => ?_⟩
  refine Call_ (ld_blt I hg hm PySem.boot_len ?_)
  refine PyProof.Rows.callWith_builtin1 (PyProof.Rows.args_cons ?_ rfl) rfl rfl
  refine Call_ (ld_blt I hg2 hm2 PyProof.Rows.boot_set ?_)
  refine PyProof.Rows.callWith_type1 (PyProof.Rows.args_cons (thn (ha.run pins s σ H _ I h) fun v s1 ⟨x, H1, I1, r1, q1⟩ => PyProof.Rows.args_nil ?_) na) na rfl
  unfold rLenSetT at q1
  obtain ⟨N, S, hx, nd, hl, q1⟩ := q1
  obtain ⟨l, vs, rfl, _, hla, r⟩ := hx.lst
  cases r1
  obtain ⟨its, rv, pl, hz⟩ := I1.list (SqL.of hla)
  obtain ⟨ks, e1, e2, e3⟩ := words_kys r
  have lk : ks.length = S.length := by
    have z := congrArg List.length e2
    rw [List.length_map, List.length_map] at z
    exact z
  refine set_call ks (I1.ok.hd hc) pl.isList (by rw [e1] at rv; simpa using refs_of_vals rv) (fun p hp => ?_) (by omega) (by rw [e2]; exact List.pairwise_map.mpr (nd.imp fun ne z => ne (kz_inj z))) hu fun h' tk L es ep t R pm kp => ?_
  · obtain ⟨v, a1, a2⟩ := e3 p hp
    rw [← a1]
    exact word_isT I1 a2
  · refine PyProof.Rows.args_nil ?_
    have I2 : Inv X pins σ H1 { s1 with heap := h', toks := tk } := I1.kept fun b o e => kp b o e
    refine len_call (s := { s1 with heap := h', toks := tk }) R fun tk2 => ?_
    exact ⟨nV S.length, H1, I2.tok tk2, ⟨_, by rw [pm.length_eq, lk]⟩, q1⟩
end
section
variable {X : Cx} {o e : Expr} {to te : TE} {apos cpos : Pos} (P : Program) (w : World)
theorem cr_set0Tk (h1 : X.prog = P := by rfl) (h2 : X.w = w := by rfl) : CallR X (.type "set") (rSet0T P w) := h1 ▸ h2 ▸ cr_set0T
theorem op_notinSTk (hu : X.A.units + 1 < cLine) (h1 : X.prog = P := by rfl) (h2 : X.w = w := by rfl) : OpR X (compareOp .NotIn) (rNotInST P w) := h1 ▸ h2 ▸ op_notinST hu
theorem pe_saddTk (hu : X.A.units + 1 < cLine) (ho : PE X o to) (he : PE X e te) (h1 : X.prog = P := by rfl) (h2 : X.w = w := by rfl)
    (hbase : attributeBase o "add" X.env (eval o X.env) = eval o X.env := by rfl)
    (hfew : ((backTo cpos (starEach [e] X.env)).all (fun x => !x.1) && (backToKw cpos (keywordEach [] X.env)).all (fun x => x.1.isSome)
      && decide ([e].length + ([] : List Keyword).length + (if ([] : List Keyword).isEmpty then 0 else 1) < 30)) = true := by rfl)
    (hline : (apos.endLine == cpos.line) = true := by rfl) (hs : starEach [e] X.env = (false, eval e X.env) :: starEach [] X.env := by rfl) :
    PE X (.Call (.Attribute o "add" apos) [e] [] cpos) (tSAddT P w to te) := h1 ▸ h2 ▸ pe_saddT hu ho he hbase hfew hline hs
end
/-! ### the order of words -/
def lamQ : Str := "in_order.<locals>.<lambda>"
/-- at P the table of the lambda's code objects, off the written places N -/
structure Tab (N : Fp) (H : Hp) (P : Addr) : Prop where
  ex : ∃ ps : Array Value, H P = some (.tbl ps) ∧ TriplesOk ps.toList ∧ ∀ (pos : Pos) (cv : Value), codeAmong pos ps.toList = some cv → ∃ c, cv = .ref c ∧ ¬ N c ∧ H c = some (LamX.CodeO c lamQ)
theorem Tab.ev {N F : Fp} {H H' : Hp} {P : Addr} (t : Tab N H P) (e : Ev F H H') (s : ∀ a, F a → N a) (n : ¬ F P) : Tab N H' P := by
  obtain ⟨ps, h1, h2, h3⟩ := t.ex
  refine ⟨ps, e.kp _ _ h1 n, h2, fun pos cv hc => ?_⟩
  obtain ⟨c, e1, nc, e2⟩ := h3 pos cv hc
  exact ⟨c, e1, nc, e.kp _ _ e2 fun z => nc (s c z)⟩
theorem Tab.sm {N : Fp} {H H' : Hp} {P : Addr} (t : Tab N H P) (e : Sm H H') : Tab N H' P := t.ev e (fun _ z => z.elim) fun z => z
theorem Tab.ad {N : Fp} {H H' : Hp} {P a : Addr} (t : Tab N H P) (h : H a = none) (e : Sm H H') : Tab (ad a N) H' P := by
  obtain ⟨ps, h1, h2, h3⟩ := t.ex
  refine ⟨ps, e.at h1, h2, fun pos cv hc => ?_⟩
  obtain ⟨c, e1, nc, e2⟩ := h3 pos cv hc
  exact ⟨c, e1, fun z => z.elim (fun w => by rw [w, h] at e2; cases e2) nc, e.at e2⟩
theorem Tab.sub {N N' : Fp} {H : Hp} {P : Addr} (t : Tab N H P) (s : ∀ a, N' a → N a) : Tab N' H P := by
  obtain ⟨ps, h1, h2, h3⟩ := t.ex
  refine ⟨ps, h1, h2, fun pos cv hc => ?_⟩
  obtain ⟨c, e1, nc, e2⟩ := h3 pos cv hc
  exact ⟨c, e1, fun z => nc (s c z), e2⟩
def Ft (P : Addr) : Fp := fun b => b = P
def sp_in_order (a : Ads) : Sp := fun vs H Q _ => ∃ (N : Fp) (v : V) (ws : List (List Nat)), vs = [v] ∧ Wf N H ∧ N a.P_in_order ∧ Tab N H a.P_in_order ∧ At N H v (.l (ws.map wL)) ∧ ws.length ≤ 100000 ∧
  ∀ (r : V) (H' : Hp) (ws' : List (List Nat)), Ev (Ft a.P_in_order) H H' → Tab N H' a.P_in_order → ws'.Perm ws → At N H' r (.l (ws'.map wL)) → Q r H'
section
variable {X : Cx} {pins : List (Addr × Obj)} {σ : L2.St} {H : Hp} {s : Shared} {N : Fp}
/-- the lambda is made: its code object is new, or found in the table -/
theorem lam_mk {c P : Addr} {params : Arguments} {body : Expr} {scope : Scope} {pos : Pos} {E : Value → Shared → Prop} {Q : Value → Shared → Prop} (I : Inv X pins σ H s) (B : LamX.TabB X.base X.mg c P) (ec : X.env.code = .ref c) (eq : X.env.qual ++ "<lambda>" = lamQ) (W : Wf N H) (nP : N P) (t : Tab N H P)
    (nodef : defaultsOf params X.env = ([], [])) (ncl : closureFor scope X.env = pure [])
    (h : ∀ (f c' : Addr) (pm ctv : Value) (H1 : Hp) (s' : Shared), Inv X pins σ H1 s' → Ev (Ft P) H H1 → Tab N H1 P → s'.heap.get? f = some (PySem.W.kla_obj "<lambda>" lamQ params body scope [] pm c' ctv) → s'.heap.CodeRec (.ref c') lamQ → Q (.ref f) s') :
    wpAny (model X.prog X.w) X.A (eval (.Lambda params body scope pos) X.env) Q E s := by
  obtain ⟨ps, tP, ok, ha⟩ := t.ex
  have bm : s.heap.BuiltinsAt X.mg P := B.bm.keeps I.bk
  have gl := I.mod.glob.keeps I.bk
  have rawP : s.heap.get? P = some { cls := .none, data := .fields ps } := I.hok P _ tP
  refine PySem.W.kla_eval nodef ?_
  rw [eq]
  cases among : codeAmong pos ps.toList with
  | none =>
    refine PySem.W.kla_makeFunction (mg := X.mg) (c := c) (P := P) (ps := ps) ncl I.ok.glob gl ec (B.code.keeps I.bk) rawP ok among B.gP bm fun c' ctv h' tk hx ge lt hrec htb => ?_
    obtain ⟨c2, oc, fs, tq, e2, hoc, hd, hv⟩ := hrec
    cases e2
    have nC : H c' = none := I.hok.fresh ge
    have nPc : P ≠ c' := ne_of_none tP nC
    have kp : ∀ b o, b ≠ P → s.heap.get? b = some o → (h'.push (PySem.W.kla_obj "<lambda>" lamQ params body scope [] ((X.mg "__name__").getD .none) c' ctv)).get? b = some o := fun b o nb e => Heap.get?_push_of_some _ (hx b o nb e)
    have I1 := LamX.inv_table (t' := tk) (q := lamQ) (more := #[rawInt pos.line, rawInt pos.col, .ref c']) I tP kp (Heap.get?_push_of_some _ htb) ge ⟨oc, fs, tq, Heap.get?_push_of_some _ hoc, hd, hv⟩
    have ev : Ev (Ft P) H (upd (upd H P (.tbl (ps ++ #[rawInt pos.line, rawInt pos.col, .ref c']))) c' (LamX.CodeO c' lamQ)) := Ev.mut (.put rfl) nC
    refine h h'.objs.size c' _ ctv _ _ I1 ev ⟨_, by rw [upd_ne nPc, upd_same], by rw [Array.toList_append]; exact PySem.TriplesOk_snoc _ _ _ _ ok, fun p' cv hcv => ?_⟩ (Heap.get?_push_size _ rfl) ⟨c', oc, fs, tq, rfl, Heap.get?_push_of_some _ hoc, hd, hv⟩
    rw [Array.toList_append] at hcv
    rcases LamX.among_app _ ok hcv with z | z
    · obtain ⟨c0, e1, n0, e2⟩ := ha p' cv z
      exact ⟨c0, e1, n0, ev.kp _ _ e2 fun y => by
        rw [show c0 = P from y, tP] at e2
        exact LamX.codeO_ne _ (Option.some.inj e2).symm⟩
    · exact ⟨c', z, W.no nC, upd_same⟩
  | some cv =>
    obtain ⟨c', e, _, hco⟩ := ha pos cv among
    subst e
    have ⟨⟨oc, fs, tq, hoc, hd, hv⟩, _, _⟩ := I.hok c' _ hco
    refine PySem.W.kla_makeFunctionHit (mg := X.mg) (c := c) (P := P) (ps := ps) ncl I.ok.glob gl ec (B.code.keeps I.bk) rawP ok among bm fun ctv h' tk hx _ => ?_
    exact h h'.objs.size c' _ ctv H _ (I.kept (t' := tk) fun b o e => Heap.get?_push_of_some _ (hx b o e)) (.refl _ _) t (Heap.get?_push_size _ rfl) ⟨c', oc, fs, tq, rfl, Heap.get?_push_of_some _ (hx _ _ hoc), hd, hv⟩
end
/-- a word as data -/
def pyW (v : List Nat) : PyData := .list (v.map fun (x : Nat) => .int (x : Int))
def keyW (v : List Nat) : PyData := .tuple [.int (v.length : Int), pyW v]
theorem reads_ints {h : Heap} : ∀ {v : List Nat} {us : List Value}, Vals (v.map nV) us → ReadsAll h us (v.map fun (x : Nat) => PyData.int (x : Int)) []
  | [], _, .nil => .nil
  | x :: v, _, .cons r t => by
    obtain ⟨k, rfl⟩ := r
    exact .cons (.int _ k) (reads_ints t)
theorem alike_ints : ∀ (v u : List Nat), PySem.W.alikeAll (v.map fun (x : Nat) => PyData.int (x : Int)) (u.map fun (x : Nat) => PyData.int (x : Int)) = true
  | [], _ => by simp [PySem.W.alikeAll]
  | x :: v, [] => by simp [PySem.W.alikeAll]
  | x :: v, y :: u => by simp [PySem.W.alikeAll, PySem.W.alike, alike_ints v u]
theorem alike_keys (v u : List Nat) : PySem.W.alike (keyW v) (keyW u) = true := by
  simp [keyW, pyW, PySem.W.alike, PySem.W.alikeAll, alike_ints v u]
/-- the key's body -/
def KeyBody (body : Expr) (scope : Scope) (params : Arguments) : Prop :=
  (∃ k p1 p2 p3 p4 p5, body = .Tuple [.Call (.Name "len" p1) [.Name "word" p2] [] p3, .Name "word" p4] k p5) ∧ scope.kind = .function ∧ scope.isCoroutine = false ∧ scope.isGenerator = false ∧ scope.names = [(Str.ofString "word", NameKind.local), (Str.ofString "len", NameKind.globalImplicit)] ∧
  ∀ (q : Str) (cl : List (Str × Addr)) (pm cv ctv u : Value), bindArgs (PySem.W.kla_fn "<lambda>" q params body scope cl pm cv ctv) ⟨[u], []⟩ = pure [(Str.ofString "word", u)]
section
variable {P : Program} {w : World} {A : Around} {E : Value → Shared → Prop} {s : Shared} {D : Addr → Prop} {mg mb : Str → Option Value}
theorem lam_key {f c' b : Addr} {params : Arguments} {body : Expr} {scope : Scope} {pm ctv : Value} {v : List Nat} {items : Array Value} (kb : KeyBody body scope params) (deep : A.depth < recursionLimit) (gl : s.heap.Ns mainGlobals mg) (ml : mg "len" = none) (bl : s.heap.Ns builtinsNs mb) (bb : mb "len" = some (.builtin "len")) (lim : s.heap.NoLimit)
    (of : s.heap.get? f = some (PySem.W.kla_obj "<lambda>" lamQ params body scope [] pm c' ctv)) (hc : s.heap.CodeRec (.ref c') lamQ) (il : s.heap.IsList b items) (rv : Vals (v.map nV) items.toList) (lv : v.length ≤ sizeLine) (inD : D b) :
    wpAny (model P w) A (call (.ref f) [.ref b]) (KeyTo D (keyW v) s) E s := by
  obtain ⟨⟨k, p1, p2, p3, p4, p5, rfl⟩, kd, co, gen, nm, bind⟩ := kb
  refine PySem.wpAny_call (PySem.W.kla_callFunE deep of rfl co gen rfl hc ?_)
  rw [bind]
  have loc : scope.names.lookup (Str.ofString "word") = some NameKind.local := by rw [nm]; rfl
  have glo : scope.names.lookup (Str.ofString "len") = some NameKind.globalImplicit := by rw [nm]; rfl
  refine wpAny_pure (wpAny_newFunctionEnv (fun y hy => ?_) (fun y hy => ?_) (fun h₁ ns sb => ⟨lim.fresh _ sb, ?_⟩) kd)
  · rw [nm] at hy
    rcases List.mem_cons.mp hy with e | hy
    · rw [e]; exact (fun z => nomatch z)
    · rw [List.mem_singleton.mp hy]; exact (fun z => nomatch z)
  · rw [List.mem_singleton.mp hy]
    exact loc
  · have kp : ∀ b o, s.heap.get? b = some o → h₁.get? b = some o := fun b o e => sb.extBut b o (Nat.ne_of_lt (Heap.lt_size e)) (Heap.get?_push_of_some _ e)
    show codeAny _ _ (.expr _ (PySem.W.envX lamQ scope s.heap.objs.size f (.ref c') [])) _ _
    have word : ∀ {A' : Around} {E' : Value → Shared → Prop} {Q : Value → Shared → Prop} {p : Pos} (tk : Nat), Q (.ref b) { s with heap := h₁, toks := tk } →
        wpAny (model P w) A' (eval (.Name "word" p) (PySem.W.envX lamQ scope s.heap.objs.size f (.ref c') [])) Q E' { s with heap := h₁, toks := tk } := fun tk q =>
      wpAny_Name (wpAny_loadName_local kd loc ns (by rfl) q) (by decide)
    obtain ⟨ob, gob, cob, n, dob⟩ := il
    have il1 : h₁.IsList b items := ⟨ob, kp b ob gob, cob, n, dob⟩
    have zi : items.size = v.length := by
      have z := rv.length
      rw [List.length_map, Array.length_toList] at z
      exact z.symm
    refine PySem.W.kla_codeExpr (wpAny_Tuple_spliced (args_cons ?_ rfl))
    refine Call_ (Calls.Name_function_global kd glo (Calls.loadGlobal_builtin (gl.keeps kp) ml (bl.keeps kp) bb ?_)) rfl
    refine callWith_builtin1 (args_cons (word _ (args_nil ?_)) rfl) rfl rfl
    refine Calls.call_len_list (s := { s with heap := h₁, toks := _ }) il1 (by rw [zi]; rw [sizeLine_eq] at lv; omega) ?_
    refine args_cons (word _ (args_nil ⟨by simp [sizeLine_eq], ?_⟩)) rfl
    refine ⟨h₁.push { cls := .type "tuple", data := .seq #[.int (items.size : Int) _, .ref b] }, _, [b] ++ [], rfl, fun b o e => Heap.get?_push_of_some _ (kp b o e), ?_, fun x hx => ?_⟩
    · refine .tuple (Heap.get?_push_size _ rfl) rfl rfl ?_
      have r1 : Reads (h₁.push { cls := .type "tuple", data := .seq #[.int (items.size : Int) (s.toks + 1 + 1), .ref b] }) (.ref b) (pyW v) [b] := .list (Heap.get?_push_of_some _ (kp b ob gob)) cob dob (reads_ints rv)
      have e : (v.length : Int) = (items.size : Int) := by rw [zi]
      rw [e]
      exact .cons (as := []) (.int _ _) (.cons r1 .nil)
    · have z : x = b := by simpa using hx
      rw [z]
      exact inD
end
theorem depth_ints : ∀ v : List Nat, PyData.depthAll (v.map fun (x : Nat) => PyData.int (x : Int)) ≤ 1
  | [] => by simp [PyData.depthAll]
  | x :: v => by
    have h := depth_ints v
    simp only [List.map_cons, PyData.depthAll, PyData.depth]
    omega
theorem depth_key (v : List Nat) : (keyW v).depth ≤ 10 := by
  have h := depth_ints v
  simp only [keyW, pyW, PyData.depth, PyData.depthAll]
  omega
/-- the words of a list and where they lie -/
theorem words_at {N : Fp} {H : Hp} : ∀ {ws : List (List Nat)} {vs : List V}, Ats N H vs (ws.map wL) → ∃ bs : List (Addr × List Nat), vs = bs.map (fun x => V.ref x.1) ∧ ws = bs.map (·.2) ∧ ∀ x, x ∈ bs → At N H (.ref x.1) (wL x.2)
  | [], _, .nil => ⟨[], rfl, rfl, fun _ z => nomatch z⟩
  | u :: ws, _, .cons h r => by
    obtain ⟨bs, e1, e2, e3⟩ := words_at (ws := ws) r
    obtain ⟨b, rfl, _, _⟩ := h.wordL
    refine ⟨(b, u) :: bs, by rw [e1]; rfl, by rw [e2]; rfl, fun x hx => ?_⟩
    rcases List.mem_cons.mp hx with z | z
    · rw [z]; exact h
    · exact e3 x z
theorem words_back {N : Fp} {H : Hp} : ∀ {bs : List (Addr × List Nat)}, (∀ x, x ∈ bs → At N H (.ref x.1) (wL x.2)) → Ats N H (bs.map fun x => V.ref x.1) ((bs.map (·.2)).map wL)
  | [], _ => .nil
  | x :: bs, h => .cons (h x (.head _)) (words_back fun y hy => h y (.tail _ hy))
theorem refs_each : ∀ {bs : List (Addr × List Nat)} {us : List Value}, Vals (bs.map fun x => V.ref x.1) us → PySem.W.EachIs (fun v (x : Addr × List Nat) => v = Value.ref x.1) us bs
  | [], _, .nil => .nil
  | x :: bs, _, .cons r t => by
    cases r
    exact .cons rfl (refs_each t)
theorem each_refs : ∀ {bs : List (Addr × List Nat)} {us : List Value}, PySem.W.EachIs (fun v (x : Addr × List Nat) => v = Value.ref x.1) us bs → Vals (bs.map fun x => V.ref x.1) us
  | _, _, .nil => .nil
  | _, _, .cons e t => by
    subst e
    exact .cons rfl (each_refs t)
def tSortLam (P : Addr) (t : TA) : TE := fun σ H Q => t σ H fun vs H1 => ∃ (v : V) (N : Fp) (ws : List (List Nat)), vs = [v] ∧ Wf N H1 ∧ N P ∧ Tab N H1 P ∧ At N H1 v (.l (ws.map wL)) ∧ ws.length ≤ 100000 ∧
  ∀ (r : V) (H' : Hp) (ws' : List (List Nat)), Ev (Ft P) H1 H' → Tab N H' P → ws'.Perm ws → At N H' r (.l (ws'.map wL)) → Q r H'
theorem pe_sortedLam {X : Cx} {e : Expr} {ta : TA} {params : Arguments} {body : Expr} {scope : Scope} {p pos lpos kpos : Pos} {c P : Addr} (kb : KeyBody body scope params) (B : LamX.TabB X.base X.mg c P) (hr : Room 0 X.A) (hg : Gl X "sorted") (hm : X.mg "sorted" = none) (ml : X.mg "len" = none) (ec : X.env.code = .ref c)
    (eq : X.env.qual ++ "<lambda>" = lamQ) (nodef : defaultsOf params X.env = ([], [])) (ncl : closureFor scope X.env = pure []) (ha : PA X [e] ta)
    (he : backTo pos (starEach [e] X.env) = (false, eval e X.env) :: backTo pos (starEach [] X.env) := by rfl) (hp : ((backTo pos (starEach [e] X.env)).any fun x => x.1) = false := by rfl) :
    PE X (.Call (.Name "sorted" p) [e] [⟨some "key", .Lambda params body scope lpos, kpos⟩] pos) (tSortLam P ta) := by
  refine ⟨fun pins s σ H Q I h => ?_⟩
  refine wpAny_Call_Name_kw (ld_blt I hg hm boot_sorted ?_)
  refine PyProof.Rows.callWith_kw (thn (ha.run pos pins s σ H _ I h) fun us s1 ⟨vs, H1, I1, r1, q1⟩ => ?_) he hp rfl rfl
  obtain ⟨v, N, ws, rfl, W, nP, t, hv, lw, q⟩ := q1
  obtain ⟨l, vs, rfl, nl, hl, ra⟩ := hv.lst
  obtain ⟨bs, rfl, rfl, hb⟩ := words_at ra
  obtain rfl := Vals.ref1 r1
  show wpAny _ _ (evalAll [do let v ← eval (.Lambda params body scope lpos) X.env; standAt pos; pure v]) _ _ s1
  refine wpAny_evalAll_cons (wpAny_bind (lam_mk I1 B ec eq W nP t nodef ncl fun f c' pm ctv H2 s2 I2 e2 t2 of hc => wpAny_bind (wpAny_standAt (wpAny_pure (wpAny_evalAll_nil ?_)))))
  have sN : ∀ b, Ft P b → N b := fun b z => by rw [show b = P from z]; exact nP
  have W2 := W.ev e2
  have hl2 : H2 l = some (.lst (bs.map fun x => V.ref x.1)) := e2.kp l _ hl fun z => nl (sN l z)
  have hb2 : ∀ x, x ∈ bs → At N H2 (.ref x.1) (wL x.2) := fun x hx => (hb x hx).evs e2 sN
  obtain ⟨its, rv, pl, lz⟩ := I2.list (SqL.of hl2)
  have raw : ∀ x, x ∈ bs → ∃ us : List Value, s2.heap.IsList x.1 us.toArray ∧ Vals (x.2.map nV) us ∧ x.2.length ≤ sizeLine := fun x hx => by
    obtain ⟨b, eb, _, hx2⟩ := (hb2 x hx).wordL
    cases eb
    obtain ⟨us, r, pl, z⟩ := I2.list (SqL.of hx2)
    rw [List.length_map] at z
    exact ⟨us, pl.isList, r, z⟩
  obtain ⟨mb, bl1, bl2⟩ := I2.mod.blt
  have lb : (bs.map (·.2)).length = bs.length := List.length_map _
  show wpAny _ _ (call (.builtin "sorted") [.ref l] [(Str.ofString "key", .ref f)]) _ _ s2
  refine sorted_keyed (D := fun b => ∃ x, x ∈ bs ∧ b = x.1) (fun x : Addr × List Nat => keyW x.2) pl.isList (refs_each rv) (fun b ⟨x, hx, eb⟩ => ?_) (fun d hd d' hd' => ?_) (.inl fun d hd => ?_) (by rw [sizeLine_eq]; omega) (fun x hx => ?_)
    (fun v x ev hx h tk kp => ?_) fun out k h' tk kp ho ea => ?_
  · obtain ⟨us, ⟨o, go, _⟩, _⟩ := raw x hx
    rw [eb, go]
    exact fun z => nomatch z
  · obtain ⟨x, _, rfl⟩ := List.mem_map.mp hd
    obtain ⟨y, _, rfl⟩ := List.mem_map.mp hd'
    exact alike_keys x.2 y.2
  · obtain ⟨x, _, rfl⟩ := List.mem_map.mp hd
    exact ⟨_, _, rfl⟩
  · have z := depth_key x.2
    have u := hr.un
    omega
  · subst ev
    obtain ⟨us, ⟨o, go, co, n, od⟩, r, z⟩ := raw x hx
    obtain ⟨c2, oc, fs, tq, ec2, go2, d2, v2⟩ := hc
    exact lam_key (s := { s2 with heap := h, toks := tk }) kb (by have := hr.dp; show X.A.depth < _; omega) (I2.mod.glob.keeps fun b o e => kp b o (I2.bk b o e)) ml (bl1.keeps fun b o e => kp b o (I2.bk b o e)) ((bl2 _ (by decide)).trans (by rfl)) (I2.nolimit.keeps kp) (kp _ _ of) ⟨c2, oc, fs, tq, ec2, kp _ _ go2, d2, v2⟩ ⟨o, kp _ _ go, co, n, od⟩ (by simpa using r) z ⟨x, hx, rfl⟩
  · have pm : (bs.mergeSort (PySem.W.dataLe false fun x => keyW x.2)).Perm bs := List.mergeSort_perm _ _
    generalize bs.mergeSort (PySem.W.dataLe false fun x => keyW x.2) = bs' at ea pm
    have fr : H2 (s2.heap.objs.size + 1) = none := I2.hok.fresh (Nat.le_succ _)
    have ev2 : Sm H2 (upd H2 (s2.heap.objs.size + 1) (.lst (bs'.map fun x => V.ref x.1))) := .new fr
    have hb3 : ∀ x, x ∈ bs' → At N H2 (.ref x.1) (wL x.2) := fun x hx => hb2 x (pm.mem_iff.mp hx)
    refine ⟨.ref _, upd H2 (s2.heap.objs.size + 1) (.lst (bs'.map fun x => V.ref x.1)), I2.laid (t' := tk) kp (Nat.le_succ _) ⟨by rw [List.length_map, pm.length_eq, sizeLine_eq]; omega, out, k, each_refs ea, ho⟩, rfl, q _ _ (bs'.map (·.2)) (e2.trans (.of ev2)) (t2.sm ev2) (pm.map _) (.mkL W2 fr (words_back hb3))⟩
section
variable {P : Program} {w : World} {K : PySem.W.Frag} {mg : Str → Option Value} {base : Heap} {a : Ads} {d : Fds}
theorem ok_in_order (T : TX K mg base a d) : FnOk P w K mg base CX0 1 a.f_in_order d.d_in_order ["words"] (sp_in_order a) := by
  obtain ⟨oc, od, kV, doc, pm, an, ct, osl, e, lk, hcd⟩ := T.l_in_order
  rw [e] at lk ⊢
  refine fn_of lk hcd sc_in_order (fun vs H Q E h => ?_) fun A outer s H vs Q E hr h => ?_
  · obtain ⟨_, _, _, rfl, _⟩ := h
    rfl
  · obtain ⟨N, v, ws, rfl, W, nP, t, hv, lw, q⟩ := h
    refine ⟨_, (pss_one (ps_ret (pe_sortedLam (P := a.P_in_order) (c := a.c_in_order) ⟨⟨_, _, _, _, _, _, rfl⟩, rfl, rfl, rfl, rfl, fun _ _ _ _ _ _ => rfl⟩ T.t_in_order hr rfl T.b_sorted T.b_len rfl rfl rfl rfl (pa_cons (pv 0) pa_nil)))), ?_⟩
    exact ⟨_, rfl, v, N, ws, rfl, W, nP, t, hv, lw, q⟩
end
end Tk
/-! text W5 -/
set_option maxHeartbeats 4000000
namespace Tk
open PySem L2
theorem ifT {b : Bool} {p q : Prop} (h : b = true) (x : p) : if b = true then p else q := by rw [if_pos h]; exact x
theorem ifF {b : Bool} {p q : Prop} (h : b = false) (x : q) : if b = true then p else q := by rw [h]; exact x
theorem whileI {c : TT} {tb : TS} {D : Ends} {σ : L2.St} {H : Hp} (B : Nat) (Pv : Nat → L2.St → Hp → Prop) (h0 : Pv 0 σ H)
    (hs : ∀ i σ H, Pv i σ H → c σ H fun b H1 => if b = true then ∃ N : L2.St → Hp → Prop, (∀ σ' H', N σ' H' → ∃ m', m' < B - i ∧ ∃ j, m' = B - j ∧ Pv j σ' H') ∧ tb { D with nx := N, ct := N, bk := D.nx } σ H1 else D.nx σ H1) : tWhile c tb D σ H := by
  refine ⟨fun m σ' H' => ∃ i, m = B - i ∧ Pv i σ' H', ⟨_, 0, rfl, h0⟩, ?_⟩
  rintro m σ' H' ⟨i, rfl, p⟩
  exact hs i σ' H' p
theorem whT {tb : TS} {D : Ends} {σ : L2.St} {H : Hp} {i B : Nat} {Pv : Nat → L2.St → Hp → Prop} (hi : i < B) (h : tb { D with nx := Pv (i + 1), ct := Pv (i + 1), bk := D.nx } σ H) :
    ∃ N : L2.St → Hp → Prop, (∀ σ' H', N σ' H' → ∃ m', m' < B - i ∧ ∃ j, m' = B - j ∧ Pv j σ' H') ∧ tb { D with nx := N, ct := N, bk := D.nx } σ H :=
  ⟨Pv (i + 1), fun _ _ p => ⟨_, by omega, i + 1, rfl, p⟩, h⟩
/-! ### one written place -/
abbrev on (a : Addr) : Fp := fun b => b = a
section
variable {K : PySem.W.Frag} {F G N N' : Fp} {H H' H1 : Hp} {x y v : V} {Q : VK} {ds es : List D} {d : D} {σ : L2.St} {Dn : Ends} {l : Addr}
theorem Ev.on (h : H l ≠ none) (o : HO) (ho : ∀ xs, o ≠ .tup xs := by intro _ z; cases z) : Ev (on l) H (upd H l o) := .put rfl ho
theorem Ev.kp' (e : Ev F H H') (h : H l ≠ none) (n : ¬ F l) : H' l = H l := by
  cases q : H l with
  | none => exact absurd q h
  | some o => exact e.kp l o q n
/-- at l stands a list of ds; l itself may be written -/
structure Lst (N : Fp) (H : Hp) (l : Addr) (ds : List D) : Prop where
  ex : ∃ vs, H l = some (.lst vs) ∧ Ats N H vs ds
theorem Lst.new {vs : List V} (s : Sm H H1) (hl : H l = none) (r : Ats N H vs ds) : Lst (ad l N) (upd H1 l (.lst vs)) l ds := ⟨_, upd_same, r.ad hl (s.mut hl)⟩
theorem Lst.tr (h : Lst N H l ds) : H l ≠ none := by obtain ⟨vs, e, _⟩ := h.ex; rw [e]; intro q; cases q
theorem Lst.ne (h : Lst N H l ds) {a : Addr} (e : H a = none) : l ≠ a := fun q => h.tr (q ▸ e)
theorem Lst.len' {vs : List V} (h : Lst N H l ds) (e : H l = some (.lst vs)) : vs.length = ds.length := by
  obtain ⟨us, e', r⟩ := h.ex
  rw [e] at e'
  cases e'
  exact r.len
theorem Lst.ev (h : Lst N H l ds) (e : Ev F H H') (s : ∀ a, F a → N a) (n : ¬ F l) : Lst N H' l ds := by
  obtain ⟨vs, hl, r⟩ := h.ex
  exact ⟨vs, e.kp l _ hl n, r.ev (e.mono s)⟩
theorem Lst.sm (h : Lst N H l ds) (e : Sm H H') : Lst N H' l ds := h.ev e (fun _ z => z.elim) fun z => z
theorem Lst.sub (h : Lst N H l ds) (s : ∀ a, N' a → N a) : Lst N' H l ds := by
  obtain ⟨vs, hl, r⟩ := h.ex
  exact ⟨vs, hl, r.sub s⟩
theorem Lst.ad {a : Addr} (h : Lst N H l ds) (e : H a = none) (s : Sm H H') : Lst (ad a N) H' l ds := by
  obtain ⟨vs, hl, r⟩ := h.ex
  exact ⟨vs, s.at hl, r.ad e s⟩
theorem Lst.at (h : Lst N H l ds) (n : ¬ N' l) (s : ∀ a, N' a → N a) : At N' H (.ref l) (.l ds) := by
  obtain ⟨vs, hl, r⟩ := h.ex
  exact .l n hl (r.sub s)
theorem Lst.of {vs : List V} (hl : H l = some (.lst vs)) (r : Ats N H vs ds) : Lst N H l ds := ⟨vs, hl, r⟩
theorem At.toLst (h : At N H (.ref l) (.l ds)) : Lst N H l ds := by
  cases h with
  | l n e r => exact ⟨_, e, r⟩
theorem Lst.ty (h : Lst N H l ds) : tyV K "list" (.ref l) H := by
  obtain ⟨vs, ha, r⟩ := h.ex
  exact .inl ⟨rfl, _, SqL.of ha⟩
theorem Lst.wf (h : Lst N H l ds) (W : Wf N' H) : Wf (Tk.ad l N') H := by
  obtain ⟨vs, hl, _⟩ := h.ex
  exact W.ad hl
/-- a new list that will be written -/
theorem newL {vs : List V} (W : Wf N H) (hl : ds.length ≤ 1000000) (r : Ats N H vs ds) (q : ∀ p H', H p = none → Sm H H' → Lst (Tk.ad p N) H' p ds → Wf (Tk.ad p N) H' → Q (.ref p) H') : rMkL vs H Q := by
  refine mkLw (by rw [r.len]; exact hl) fun p hp => ?_
  have L : Lst (Tk.ad p N) (upd H p (.lst vs)) p ds := .new (.refl _ _) hp r
  exact q p _ hp (.new hp) L (L.wf (W.ev (Ev.new (F := F0) hp)))
theorem newCat {a b : Addr} (W : Wf N H) (h : Lst N H a ds) (g : Lst N H b es) (hl : ds.length + es.length ≤ 1000000) (q : ∀ p H', H p = none → Sm H H' → At N H' (.ref p) (.l (ds ++ es)) → Q (.ref p) H') : rCatLm (.ref a) (.ref b) H Q := by
  unfold rCatLm
  obtain ⟨vs, ha, r⟩ := h.ex
  obtain ⟨us, hb, r'⟩ := g.ex
  exact ⟨a, b, vs, us, rfl, rfl, ha, hb, by rw [r.len, r'.len]; exact sz hl, fun p hp => q p _ hp (.new hp) (.mkL W hp (r.app r'))⟩
/-- xs + ys of data: new data -/
theorem catD (W : Wf N H) (h : At N H x (.l ds)) (g : At N H y (.l es)) (hl : ds.length + es.length ≤ 1000000) (q : ∀ p H', H p = none → Sm H H' → At N H' (.ref p) (.l (ds ++ es)) → Q (.ref p) H') : rCatLm x y H Q :=
  catL h g hl fun p vs us hp r r' => q p _ hp (.new hp) (.mkL W hp (r.app r'))
theorem appL (h : Lst N H l ds) (nl : N l) (hy : At N H y d) (hz : ds.length ≤ 1000000) (q : ∀ H', Ev (on l) H H' → Lst N H' l (ds ++ [d]) → Q .non H') : rAppm (.ref l) [y] H Q := by
  unfold rAppm
  obtain ⟨vs, hl, r⟩ := h.ex
  have e : Ev (on l) H (upd H l (.lst (vs ++ [y]))) := .put rfl
  exact ⟨l, vs, y, rfl, rfl, hl, by rw [r.len]; exact szl (by omega), q _ e ⟨_, upd_same, (r.snoc hy).ev (e.mono fun a z => by rw [show a = l from z]; exact nl)⟩⟩
theorem popL (h : Lst N H l (ds ++ [d])) (nl : N l) (q : ∀ z H', Ev (on l) H H' → Lst N H' l ds → At N H' z d → Q z H') : rPopm (.ref l) [] H Q := by
  unfold rPopm
  obtain ⟨vs, hl, r⟩ := h.ex
  have hn : vs.length = ds.length + 1 := by rw [r.len]; simp
  obtain ⟨z, hz, rz⟩ := r.get (i := ds.length) (d := d) (by simp)
  have e : Ev (on l) H (upd H l (.lst vs.dropLast)) := .put rfl
  have en : ∀ a, on l a → N a := fun a z => by rw [show a = l from z]; exact nl
  have ht : Ats N H vs.dropLast ds := by
    have := r.take ds.length
    rw [List.take_left] at this
    rw [List.dropLast_eq_take, show vs.length - 1 = ds.length by omega]
    exact this
  exact ⟨l, vs, z, rfl, rfl, hl, by rw [hn]; exact hz, q _ _ e ⟨_, upd_same, ht.ev (e.mono en)⟩ (rz.ev (e.mono en))⟩
theorem Ats.set : ∀ {vs : List V} {ds : List D} (i : Nat), Ats N H vs ds → At N H y d → Ats N H (vs.set i y) (ds.set i d)
  | _, _, _, .nil, _ => .nil
  | _, _, 0, .cons _ r, g => .cons g r
  | _, _, i + 1, .cons h r, g => .cons h (Ats.set i r g)
theorem setLs (i : Nat) {Q : Hp → Prop} (h : Lst N H l ds) (nl : N l) (hi : i < ds.length) (hx : x = nV i) (hy : At N H y d) (q : ∀ H', Ev (on l) H H' → Lst N H' l (ds.set i d) → Q H') : rSetm (.ref l) x y H Q := by
  unfold rSetm
  obtain ⟨vs, hl, r⟩ := h.ex
  have e : Ev (on l) H (upd H l (.lst (vs.set i y))) := .put rfl
  refine ⟨l, vs, i, i, rfl, hx, hl, ?_, q _ e ⟨_, upd_same, (Ats.set i r hy).ev (e.mono fun a z => by rw [show a = l from z]; exact nl)⟩⟩
  unfold ixN
  rw [if_pos (by omega), if_pos (by rw [r.len]; omega)]
  congr 1
theorem ixLs (i : Nat) (h : Lst N H l ds) (hi : ds[i]? = some d) (hx : x = nV i) (q : ∀ z, At N H z d → Q z H) : rIxLm K (.ref l) x H Q := by
  unfold rIxLm
  obtain ⟨vs, ha, r⟩ := h.ex
  obtain ⟨z, hz, hd⟩ := r.get hi
  exact ⟨l, vs, i, z, rfl, hx, SqL.of ha, atI_nat hz, q z hd⟩
theorem lenLs (h : Lst N H l ds) (q : Q (nV ds.length) H) : rLen K [.ref l] H Q := by
  unfold rLen
  obtain ⟨vs, ha, r⟩ := h.ex
  exact ⟨l, vs, rfl, .inl (SqL.of ha), by rw [r.len]; exact q⟩
theorem notInLs {a : Nat} {ns : List Nat} (h : Lst N H l (ns.map D.n)) (q : Q (.bl (!decide (a ∈ ns))) H) : rNotInm K (nV a) (.ref l) H Q := by
  unfold rNotInm
  obtain ⟨vs, ha, r⟩ := h.ex
  rw [r.isInts] at ha
  exact ⟨l, ns.map nV, rfl, .inl (SqL.of ha), rfl, flat_ints ns, by rw [inV_ints]; exact q⟩
/-- xs + ys, both raw -/
theorem catLs {a b : Addr} (h : Lst N H a ds) (g : Lst F H b es) (hl : ds.length + es.length ≤ 1000000) (q : ∀ p vs us, H p = none → Ats N H vs ds → Ats F H us es → Q (.ref p) (upd H p (.lst (vs ++ us)))) : rCatLm (.ref a) (.ref b) H Q := by
  unfold rCatLm
  obtain ⟨vs, ha, r⟩ := h.ex
  obtain ⟨us, hb, r'⟩ := g.ex
  exact ⟨a, b, vs, us, rfl, rfl, ha, hb, by rw [r.len, r'.len]; exact sz hl, fun p hp => q p vs us hp r r'⟩
theorem extLs {b : Addr} (h : Lst N H l ds) (nl : N l) (g : Lst N H b es) (hl : ds.length + es.length ≤ 1000000) (q : ∀ H', Ev (on l) H H' → Lst N H' l (ds ++ es) → Q .non H') : rExtm (.ref l) [.ref b] H Q := by
  unfold rExtm
  obtain ⟨vs, ha, r⟩ := h.ex
  obtain ⟨us, hb, r'⟩ := g.ex
  have e : Ev (on l) H (upd H l (.lst (vs ++ us))) := .put rfl
  exact ⟨l, b, vs, us, rfl, rfl, ha, hb, by rw [r.len, r'.len]; exact sz hl, q _ e ⟨_, upd_same, (r.app r').ev (e.mono fun a z => by rw [show a = l from z]; exact nl)⟩⟩
/-- l[i:] -/
theorem slLsfrom (i : Nat) (h : Lst N H l ds) (q : ∀ p vs, H p = none → Ats N H vs (ds.drop i) → Q (.ref p) (upd H p (.lst vs))) : rSlLm K (.ref l) (some (i : Int)) none H Q := by
  unfold rSlLm
  obtain ⟨vs, ha, r⟩ := h.ex
  refine ⟨l, vs, rfl, SqL.of ha, fun p hp => ?_⟩
  rw [cut_from]
  exact q p _ hp (r.drop i)
/-- list(raw list) -/
theorem listLs (h : Lst N H l ds) (q : ∀ p vs, H p = none → Ats N H vs ds → Q (.ref p) (upd H p (.lst vs))) : rListOf K [.ref l] H Q := by
  unfold rListOf
  obtain ⟨vs, ha, r⟩ := h.ex
  exact ⟨l, vs, rfl, .inl (SqL.of ha), fun p hp => q p vs hp r⟩
theorem tupLs (W : Wf N H) (h : Lst N H l ds) (q : ∀ p H', Sm H H' → At N H' (.ref p) (.t ds) → Q (.ref p) H') : rTupOf K [.ref l] H Q := by
  unfold rTupOf
  obtain ⟨vs, ha, r⟩ := h.ex
  exact ⟨l, vs, rfl, .inl ⟨SqL.of ha, fun p hp => q p _ (.new hp) (.mkT W hp r)⟩⟩
/-- for z in raw list, which stands unchanged -/
theorem forLs {g : TG} {tb : TS} (h : Lst N H l ds) (Pv : Nat → L2.St → Hp → Prop) (h0 : Pv 0 σ H) (hk : ∀ i σ' H', Pv i σ' H' → Ev N H H') (hl : ∀ i σ' H', Pv i σ' H' → H' l = H l)
    (hs : ∀ i e z σ' H', ds[i]? = some e → At N H' z e → Pv i σ' H' → g z σ' H' fun σ2 H2 => tb { Dn with nx := Pv (i + 1), ct := Pv (i + 1), bk := Dn.nx } σ2 H2) (hd : ∀ σ' H', Pv ds.length σ' H' → Dn.nx σ' H') : rForL K g tb (.ref l) Dn σ H := by
  unfold rForL
  obtain ⟨vs, ha, r⟩ := h.ex
  refine ⟨l, rfl, ⟨vs, SqL.of ha⟩, for_list (K := K) (a := l) (xs := vs) Pv h0 (fun i σ' H' _ p => SqL.of ((hl i σ' H' p).trans ha)) (fun i z σ' H' hi p => ?_) fun σ' H' p => hd σ' H' (r.len ▸ p)⟩
  obtain ⟨e, he, hz⟩ := r.get' hi
  exact hs i e z σ' H' he (hz.ev (hk i σ' H' p)) p
/-- [e for z in raw list] -/
theorem lcLs {α : Type} {te : TE} {vs : List Nat} {j : Nat} (xs : List α) (enc enc' : α → D) (W : Wf N H) (h : Lst N H l (xs.map enc)) (hz : xs.length ≤ 100000) (hw : ∀ z, wipe ((wipe σ vs).set j (some z)) vs = wipe σ vs)
    (hs : ∀ e ∈ xs, ∀ z H' N', Sm H H' → Wf N' H' → (∀ a, N a → N' a) → (∀ a, N' a → N a ∨ H a = none) → At N' H' z (enc e) → ∀ R : VK, (∀ y H2, Sm H' H2 → At N' H2 y (enc' e) → R y H2) → te ((wipe σ vs).set j (some z)) H' R)
    (q : ∀ p H', Sm H H' → H p = none → At N H' (.ref p) (.l (xs.map enc')) → Q (.ref p) H') : rLcL K (gName j) tYes te vs σ (.ref l) H Q := by
  unfold rLcL
  obtain ⟨us, ha, r⟩ := h.ex
  have hl0 : us.length = xs.length := by rw [r.len, List.length_map]
  refine ⟨l, rfl, ⟨us, SqL.of ha⟩, fun p hp => lc_list (K := K) (a := l) (xs := us) (fun i H' => LcP N H p ((xs.take i).map enc') H') (.start hp) (fun i H' _ p => SqL.of (p.sm.at ha)) (fun i z H' hi pp => ?_) fun H' pp => ?_⟩
  · have hiu := (List.getElem?_eq_some_iff.mp hi).1
    have hix : i < xs.length := by omega
    obtain ⟨e, he, hz'⟩ := r.get' hi
    rw [List.getElem?_map, List.getElem?_eq_getElem hix] at he
    cases he
    refine ⟨hw z, ?_⟩
    unfold tYes
    dsimp only
    rw [if_pos rfl]
    refine hs xs[i] (List.getElem_mem hix) z H' (Tk.ad p N) pp.sm (pp.wf W) (fun _ z => .inr z) (fun b z => z.elim (fun e => .inr (e ▸ hp)) .inl) (hz'.ad hp pp.sm) _ fun y H2 s2 hy => ?_
    have hm := pp.more hp (by rw [List.length_map, List.length_take]; omega) s2 hy
    rw [List.take_succ_eq_append_getElem hix, List.map_append]
    exact hm
  · rw [hl0, List.take_of_length_le (Nat.le_refl _)] at pp
    exact q p H' pp.sm hp (pp.out W hp)
end
/-! ### dicts whose keys are words -/
section
variable {α : Type} {F N : Fp} {H H' : Hp} {a : Addr} {x y v : V} {f : α → V} {ps : List (List Nat × α)} {w : List Nat}
def DtO (f : α → V) (ps : List (List Nat × α)) : HO := .dT (ps.map fun p => (mk p.1, f p.2))
theorem val_Dt : ∀ ps : List (List Nat × α), valV (ps.map fun p => (mk p.1, f p.2)) (mk w) = (ps.lookup w).map f
  | [] => rfl
  | (u, b) :: ps => by
    by_cases e : u = w
    · subst e
      rw [List.map_cons, valV_pos rfl, List.lookup_cons_self]; rfl
    · rw [List.map_cons, valV_neg (fun q => e (mk_inj q)), val_Dt ps, List.lookup_cons]
      rw [show (w == u) = false from beq_eq_false_iff_ne.mpr fun q => e q.symm]
theorem dget_Dt (h : H a = some (DtO f ps)) (g : At N H y (wT w)) {r : α} (e : ps.lookup w = some r) : DGet H a y (some (f r)) := by
  obtain ⟨b, rfl, _, hb⟩ := At.word g
  have := DGet.t (b := b) (k := mk w) h (by rw [mk_V]; exact hb)
  rw [val_Dt, e] at this
  exact this
theorem dgetO_Dt (h : H a = some (DtO f ps)) (g : At N H y (wT w)) : DGet H a y ((ps.lookup w).map f) := by
  obtain ⟨b, rfl, _, hb⟩ := At.word g
  have := DGet.t (b := b) (k := mk w) h (by rw [mk_V]; exact hb)
  rwa [val_Dt] at this
theorem dput_Dt {r : α} (h : H a = some (DtO f ps)) (g : At N H y (wT w)) (n : ps.lookup w = none) (hl : ps.length ≤ 100000) (hv : v = f r) : DPut H a y v (upd H a (DtO f (ps ++ [(w, r)]))) := by
  obtain ⟨b, rfl, _, hb⟩ := At.word g
  have := DPut.t (b := b) (k := mk w) (v := v) h (by rw [mk_V]; exact hb) (by rw [List.length_map]; exact szl (by omega))
  rw [putK_new _ (by rw [val_Dt, n]; rfl)] at this
  unfold DtO
  rw [List.map_append, List.map_singleton, ← hv]
  exact this
/-- the same value again: nothing is changed -/
theorem dput_same {r : α} (h : H a = some (DtO f ps)) (g : At N H y (wT w)) (hn : (ps.map (·.1)).Nodup) (n : (w, r) ∈ ps) (hl : ps.length ≤ 100000) (hv : v = f r) : DPut H a y v (upd H a (DtO f ps)) := by
  obtain ⟨b, rfl, _, hb⟩ := At.word g
  have := DPut.t (b := b) (k := mk w) (v := v) h (by rw [mk_V]; exact hb) (by rw [List.length_map]; exact szl (by omega))
  have e : putK (ps.map fun p => (mk p.1, f p.2)) (mk w) v = ps.map fun p => (mk p.1, f p.2) := by
    unfold putK
    rw [if_pos ?_]
    · rw [List.map_map]
      refine List.map_congr_left fun p hp => ?_
      show (if mk p.1 = mk w then (mk p.1, v) else (mk p.1, f p.2)) = _
      by_cases q : mk p.1 = mk w
      · rw [if_pos q, hv]
        have q' := mk_inj q
        have : p = (w, r) := by
          have h1 := List.pairwise_map.mp hn
          clear this
          obtain ⟨i, hi, rfl⟩ := List.getElem_of_mem hp
          obtain ⟨j, hj, ej⟩ := List.getElem_of_mem n
          have e3 : (ps.map (·.1))[i]'(by rw [List.length_map]; exact hi) = (ps.map (·.1))[j]'(by rw [List.length_map]; exact hj) := by
            rw [List.getElem_map, List.getElem_map, ej]
            exact q'
          have hp := List.pairwise_iff_getElem.mp hn
          rcases Nat.lt_trichotomy i j with l | l | l
          · exact absurd e3 (hp i j _ _ l)
          · subst l; exact ej
          · exact absurd e3.symm (hp j i _ _ l)
        rw [this]
      · rw [if_neg q]
    · rw [List.any_map, List.any_eq_true]
      exact ⟨(w, r), n, by simp⟩
  rw [e] at this
  exact this
theorem DtO.noT : ∀ xs, DtO f ps ≠ .tup xs := by intro xs z; unfold DtO at z; cases z
theorem dputN {r : α} {R : Hp → Prop} (h : H a = some (DtO f ps)) (g : At N H y (wT w)) (n : ps.lookup w = none) (hl : ps.length ≤ 100000) (hv : v = f r) (q : ∀ H', Ev (on a) H H' → H' a = some (DtO f (ps ++ [(w, r)])) → R H') : ∃ a' H4, V.ref a = .ref a' ∧ DPut H a' y v H4 ∧ R H4 :=
  ⟨a, _, rfl, dput_Dt h g n hl hv, q _ (.put rfl DtO.noT) upd_same⟩
theorem dputS {r : α} {R : Hp → Prop} (h : H a = some (DtO f ps)) (g : At N H y (wT w)) (hn : (ps.map (·.1)).Nodup) (n : (w, r) ∈ ps) (hl : ps.length ≤ 100000) (hv : v = f r) (q : ∀ H', Ev (on a) H H' → H' a = some (DtO f ps) → R H') : ∃ a' H4, V.ref a = .ref a' ∧ DPut H a' y v H4 ∧ R H4 :=
  ⟨a, _, rfl, dput_same h g hn n hl hv, q _ (.put rfl DtO.noT) upd_same⟩
theorem dispT {Q : VK} {r : α} (h : H a = some (.dT [])) (g : At N H y (wT w)) (hv : v = f r) (q : ∀ H', Ev (on a) H H' → H' a = some (DtO f [(w, r)]) → Q (.ref a) H') : rDispT a y v H Q := by
  unfold rDispT
  obtain ⟨b, rfl, _, hb⟩ := At.word g
  refine ⟨b, mk w, rfl, by rw [mk_V]; exact hb, h, q _ (.put rfl) ?_⟩
  rw [upd_same, hv]; rfl
end
end Tk
/-! text W6 -/
set_option maxHeartbeats 4000000
namespace Tk
open PySem L2
/-! ### [e(w, i) for w in list for i in range(n)] -/
abbrev LC2 (J : It) (g : TG) (tt : TT) (wi1 : TI) (g1 : TG) (tt1 : TT) (te : TE) (vs vs1 : List Nat) (σ : L2.St) (H1 : Hp) (Q : VK) : Prop := ∀ D, H1 D = none → ∃ W : Nat → Nat → Hp → Prop, (∃ m, W 0 m (upd H1 D (.lst []))) ∧ ∀ i m H, W i m H →
  (J.stop i H ∧ Q (.ref D) H) ∨ (J.go i H ∧ ∃ Nx : Hp → Prop, (∀ H', Nx H' → ∃ m', m' < m ∧ W (i + 1) m' H') ∧ ∀ x H', J.yld i H x H' → g x (wipe σ vs) H' fun σ2 H2 => wipe σ2 vs = wipe σ vs ∧ tt σ2 H2 fun b H3 =>
    if b = true then wi1 σ2 H3 fun J1 H4 => ∃ W1 : Nat → Nat → Hp → Prop, (∃ m, W1 0 m H4) ∧ ∀ j k H, W1 j k H →
      (J1.stop j H ∧ Nx H) ∨ (J1.go j H ∧ ∃ Nx1 : Hp → Prop, (∀ H', Nx1 H' → ∃ k', k' < k ∧ W1 (j + 1) k' H') ∧ ∀ x H', J1.yld j H x H' → g1 x (wipe σ2 vs1) H' fun σ3 H5 => wipe σ3 vs1 = wipe σ2 vs1 ∧ tt1 σ3 H5 fun b H6 =>
        if b = true then te σ3 H6 fun y H7 => ∃ acc, H7 D = some (.lst acc) ∧ acc.length < sizeLine ∧ Nx1 (upd H7 D (.lst (acc ++ [y]))) else Nx1 H6)
    else Nx H3)
@[irreducible] def rLc2L (K : PySem.W.Frag) (g : TG) (tt : TT) (wi1 : TI) (g1 : TG) (tt1 : TT) (te : TE) (vs vs1 : List Nat) (σ : L2.St) (x : V) (H : Hp) (Q : VK) : Prop := ∃ a, x = V.ref a ∧ (∃ xs, SqL K H a xs) ∧ LC2 (Itl K a) g tt wi1 g1 tt1 te vs vs1 σ H Q
def tLc2L (K : PySem.W.Frag) (tl : TE) (g : TG) (tt : TT) (wi1 : TI) (g1 : TG) (tt1 : TT) (te : TE) (vs vs1 : List Nat) : TE := fun σ H Q => tl σ H fun x H1 => rLc2L K g tt wi1 g1 tt1 te vs vs1 σ x H1 Q
theorem tLc2L_eq {K : PySem.W.Frag} {tl te : TE} {g g1 : TG} {tt tt1 : TT} {wi1 : TI} {vs vs1 : List Nat} : tLc2L K tl g tt wi1 g1 tt1 te vs vs1 = tLc2 (iList K tl) g tt wi1 g1 tt1 te vs vs1 := by unfold tLc2L rLc2L tLc2 iList; rfl
theorem psL2 {X : Cx} {s : Stmt} {i : Nat} {K : PySem.W.Frag} {tl te : TE} {g g1 : TG} {tt tt1 : TT} {wi1 : TI} {vs vs1 : List Nat} (h : PS X s (tAsg (tLc2 (iList K tl) g tt wi1 g1 tt1 te vs vs1) (gName i))) : PS X s (tAsg (tLc2L K tl g tt wi1 g1 tt1 te vs vs1) (gName i)) := by rw [tLc2L_eq]; exact h
section
variable {K : PySem.W.Frag} {N F : Fp} {H : Hp} {x y v : V} {Q : VK} {ds es : List D} {σ : L2.St} {Dn : Ends}
theorem lc2LR {α : Type} {te : TE} {vs vs1 : List Nat} {j j1 v : Nat} (xs : List α) (n : Nat) (enc : α → D) (enc' : α → Nat → D) (W : Wf N H) (hv : At N H x (.l (xs.map enc))) (hz : xs.length * n ≤ 100000) (hn : n ≤ 100000)
    (hw : ∀ z, wipe ((wipe σ vs).set j (some z)) vs = wipe σ vs) (hw1 : ∀ z z', wipe ((wipe ((wipe σ vs).set j (some z)) vs1).set j1 (some z')) vs1 = wipe ((wipe σ vs).set j (some z)) vs1)
    (hg : ∀ z, ((wipe σ vs).set j (some z))[v]? = some (some (nV n)))
    (hs : ∀ e ∈ xs, ∀ b, b < n → ∀ z H' N', Sm H H' → Wf N' H' → (∀ a, N a → N' a) → (∀ a, N' a → N a ∨ H a = none) → At N' H' z (enc e) → ∀ R : VK, (∀ y H2, Sm H' H2 → At N' H2 y (enc' e b) → R y H2) → te ((wipe ((wipe σ vs).set j (some z)) vs1).set j1 (some (nV b))) H' R)
    (q : ∀ p H', Sm H H' → H p = none → At N H' (.ref p) (.l (xs.flatMap fun e => (List.range n).map (enc' e))) → Q (.ref p) H') : rLc2L K (gName j) tYes (iRng1 (tCons (tVar v) tNil)) (gName j1) tYes te vs vs1 σ x H Q := by
  unfold rLc2L
  obtain ⟨a, us, rfl, na, ha, r⟩ := At.lst hv
  have hl0 : us.length = xs.length := by rw [r.len, List.length_map]
  have flen : ∀ i, i ≤ xs.length → ((xs.take i).flatMap fun e => (List.range n).map (enc' e)).length = i * n := fun i hi => by
    rw [List.length_flatMap]
    simp [List.map_const', Nat.min_eq_left hi]
  refine ⟨a, rfl, ⟨us, SqL.of ha⟩, fun l hl => ?_⟩
  refine ⟨fun i m H' => m = xs.length - i ∧ i ≤ xs.length ∧ LcP N H l ((xs.take i).flatMap fun e => (List.range n).map (enc' e)) H', ⟨xs.length, by simp, Nat.zero_le _, .start hl⟩, ?_⟩
  rintro i m H' ⟨rfl, hi, p⟩
  by_cases hlt : i < xs.length
  · refine .inr ⟨⟨us, us[i], SqL.of (p.sm.at ha), List.getElem?_eq_getElem (by omega)⟩, fun H' => LcP N H l ((xs.take (i + 1)).flatMap fun e => (List.range n).map (enc' e)) H', fun H' p' => ⟨xs.length - (i + 1), by omega, rfl, hlt, p'⟩, fun z H2 yy => ?_⟩
    obtain ⟨eH, yy⟩ := yy
    subst eH
    have hzi := yy us (SqL.of (p.sm.at ha))
    obtain ⟨e, he, hz'⟩ := r.get' hzi
    rw [List.getElem?_map, List.getElem?_eq_getElem hlt] at he
    cases he
    refine ⟨hw z, ?_⟩
    unfold tYes
    dsimp only
    rw [if_pos rfl]
    refine ⟨_, hg z, (n : Int), rfl, by omega, by omega, ?_⟩
    have en : ((n : Int)).toNat = n := by omega
    rw [en]
    refine ⟨fun b m H3 => m = n - b ∧ b ≤ n ∧ LcP N H l (((xs.take i).flatMap fun e => (List.range n).map (enc' e)) ++ (List.range b).map (enc' xs[i])) H3, ⟨n, by simp, Nat.zero_le _, by simpa using p⟩, ?_⟩
    rintro b m H3 ⟨rfl, hb, p3⟩
    by_cases hbn : b < n
    · refine .inr ⟨hbn, fun H3 => LcP N H l (((xs.take i).flatMap fun e => (List.range n).map (enc' e)) ++ (List.range (b + 1)).map (enc' xs[i])) H3, fun H' p' => ⟨n - (b + 1), by omega, rfl, hbn, p'⟩, fun z2 H4 yy => ?_⟩
      obtain ⟨eH, yy⟩ := yy
      subst eH yy
      rw [Int.zero_add]
      refine ⟨hw1 z _, ?_⟩
      rw [if_pos rfl]
      refine hs xs[i] (List.getElem_mem hlt) b hbn z H4 (ad l N) p3.sm (p3.wf W) (fun _ z => .inr z) (fun b z => z.elim (fun e => .inr (e ▸ hl)) .inl) ?_ _ fun y H5 s5 hy => ?_
      · exact hz'.ad hl p3.sm
      · have hm := p3.more hl (by
          rw [List.length_append, flen i hi, List.length_map, List.length_range]
          have := Nat.mul_le_mul_right n (Nat.succ_le_of_lt hlt)
          rw [Nat.succ_mul] at this
          omega) s5 hy
        obtain ⟨acc, c1, c2, c3⟩ := hm
        refine ⟨acc, c1, c2, ?_⟩
        rw [List.range_succ, List.map_append, ← List.append_assoc]
        exact c3
    · have e : b = n := by omega
      subst e
      refine .inl ⟨Nat.le_refl _, ?_⟩
      rw [List.take_succ_eq_append_getElem hlt, List.flatMap_append]
      simpa using p3
  · have e : i = xs.length := by omega
    subst e
    refine .inl ⟨⟨us, SqL.of (p.sm.at ha), by omega⟩, ?_⟩
    rw [List.take_of_length_le (Nat.le_refl _)] at p
    exact q l H' p.sm hl (p.out W hl)
/-- [e for z in raw list if c(z)] -/
theorem lcLsF {α : Type} {te : TE} {tt : TT} {vs : List Nat} {j : Nat} {a : Addr} (xs : List α) (c : α → Bool) (enc enc' : α → D) (W : Wf N H) (h : Lst N H a (xs.map enc)) (hz : xs.length ≤ 100000) (hw : ∀ z, wipe ((wipe σ vs).set j (some z)) vs = wipe σ vs)
    (hs : ∀ e ∈ xs, ∀ z H' N', Sm H H' → Wf N' H' → (∀ a, N a → N' a) → (∀ a, N' a → N a ∨ H a = none) → At N' H' z (enc e) → ∀ R : Bool → Hp → Prop, (∀ H2, Sm H' H2 → R (c e) H2) → tt ((wipe σ vs).set j (some z)) H' R)
    (he : ∀ e ∈ xs, c e = true → ∀ z H' N', Sm H H' → Wf N' H' → (∀ a, N a → N' a) → (∀ a, N' a → N a ∨ H a = none) → At N' H' z (enc e) → ∀ R : VK, (∀ y H2, Sm H' H2 → At N' H2 y (enc' e) → R y H2) → te ((wipe σ vs).set j (some z)) H' R)
    (q : ∀ p H', Sm H H' → H p = none → At N H' (.ref p) (.l ((xs.filter c).map enc')) → Q (.ref p) H') : rLcL K (gName j) tt te vs σ (.ref a) H Q := by
  unfold rLcL
  obtain ⟨us, ha, r⟩ := h.ex
  have hl0 : us.length = xs.length := by rw [r.len, List.length_map]
  refine ⟨a, rfl, ⟨us, SqL.of ha⟩, fun l hl => lc_list (K := K) (a := a) (xs := us) (fun i H' => LcP N H l (((xs.take i).filter c).map enc') H') (.start hl) (fun i H' _ p => SqL.of (p.sm.at ha)) (fun i z H' hi p => ?_) fun H' p => ?_⟩
  · have hiu := (List.getElem?_eq_some_iff.mp hi).1
    have hix : i < xs.length := by omega
    obtain ⟨e, he', hz'⟩ := r.get' hi
    rw [List.getElem?_map, List.getElem?_eq_getElem hix] at he'
    cases he'
    refine ⟨hw z, ?_⟩
    have hN : ∀ b, ad l N b → N b ∨ H b = none := fun b z => z.elim (fun e => .inr (e ▸ hl)) .inl
    refine hs xs[i] (List.getElem_mem hix) z H' (ad l N) p.sm (p.wf W) (fun _ z => .inr z) hN (hz'.ad hl p.sm) _ fun H2 s2 => ?_
    rw [List.take_succ_eq_append_getElem hix, List.filter_append, List.map_append]
    have p2 : LcP N H l (((xs.take i).filter c).map enc') H2 := by
      obtain ⟨vs', e, r'⟩ := p.ex
      exact ⟨⟨vs', s2.at e, r'.sm s2⟩, p.sm.trans s2⟩
    by_cases hc : c xs[i] = true
    · rw [if_pos hc]
      refine he xs[i] (List.getElem_mem hix) hc z H2 (ad l N) p2.sm (p2.wf W) (fun _ z => .inr z) hN (hz'.ad hl p2.sm) _ fun y H3 s3 hy => ?_
      have hm := p2.more hl (by rw [List.length_map]; have := List.length_filter_le c (xs.take i); rw [List.length_take] at this; omega) s3 hy
      rw [List.filter_cons_of_pos hc]
      exact hm
    · rw [if_neg hc, List.filter_cons_of_neg hc]
      simpa using p2
  · rw [hl0, List.take_of_length_le (Nat.le_refl _)] at p
    exact q l H' p.sm hl (p.out W hl)
end
/-! ### x *= y -/
section
variable {X : Cx}
def ipM : TIp := fun x y H Q => ∃ i j, x = .int i ∧ y = .int j ∧ CMul i j ∧ Q (.int (i * j)) H
theorem ip_mul : PIp X .Mult ipM := by
  intro pins s σ H x y v u Q I r1 r2 h
  obtain ⟨i, j, e1, e2, hc, q⟩ := h
  subst e1; subst e2
  obtain ⟨t, rfl⟩ := r1
  obtain ⟨t', rfl⟩ := r2
  exact PySem.AutoIntOps.imul_0 ⟨.int _, H, I.tok _, ⟨_, rfl⟩, q⟩ hc.ok
@[irreducible] def rRepm : R2 := rRep
theorem op_repm : OpR X (binaryOp .Mult) rRepm := by unfold rRepm; exact op_rep
end
section
variable {N : Fp} {H : Hp} {x y : V} {Q : VK} {d : D}
/-- [x] * n -/
theorem repL (W : Wf N H) (h : At N H x (.l [d])) (n : Nat) (hy : y = nV n) (hn : n ≤ 100000) (q : ∀ p H', H p = none → Sm H H' → Lst (ad p N) H' p (List.replicate n d) → Wf (ad p N) H' → Q (.ref p) H') : rRepm x y H Q := by
  unfold rRepm
  obtain ⟨a, vs, rfl, na, ha, r⟩ := At.lst h
  cases r with
  | cons r1 r2 =>
    cases r2
    rename_i v
    have en : ((n : Int)).toNat = n := by omega
    have rr : ∀ m : Nat, Ats N H (List.replicate m [v]).flatten (List.replicate m d) := fun m => by
      induction m with
      | zero => exact .nil
      | succ m ih => rw [List.replicate_succ, List.replicate_succ, List.flatten_cons]; exact .cons r1 ih
    refine ⟨a, n, [v], rfl, hy, ha, by omega, by omega, ?_, fun p hp => ?_⟩
    · rw [en, List.length_singleton, Nat.one_mul]; exact sz (by omega)
    · rw [en]
      have L : Lst (ad p N) (upd H p (.lst (List.replicate n [v]).flatten)) p (List.replicate n d) := .new (.refl _ _) hp (rr n)
      exact q p _ hp (.new hp) L (L.wf (W.ev (Ev.new (F := F0) hp)))
end
end Tk
/-! text W7 -/
set_option maxHeartbeats 4000000
namespace Tk
open PySem L2
/-! ### data compared -/
theorem lay_all {xs : List PyData} (h : ∀ x ∈ xs, x.canLay0 = true) : PyData.canLayAll0 xs = true := by
  induction xs with
  | nil => simp [PyData.canLayAll0]
  | cons x xs ih =>
    rw [PyData.canLayAll0, h x List.mem_cons_self, ih fun y hy => h y (List.mem_cons_of_mem _ hy)]
    rfl
theorem dep_all {xs : List PyData} {n : Nat} (h : ∀ x ∈ xs, x.depth ≤ n) : PyData.depthAll xs ≤ n := by
  induction xs with
  | nil => simp [PyData.depthAll]
  | cons x xs ih =>
    rw [PyData.depthAll]
    have h1 := h x List.mem_cons_self
    have h2 := ih fun y hy => h y (List.mem_cons_of_mem _ hy)
    omega
/-- may be laid, of at most that depth -/
structure Sh (n : Nat) (d : PyData) : Prop where
  lay : d.canLay0 = true
  dep : d.depth ≤ n
theorem Sh.mono {n m : Nat} {d : PyData} (h : Sh n d) (l : n ≤ m) : Sh m d := ⟨h.lay, Nat.le_trans h.dep l⟩
theorem Sh.int (i : Int) : Sh 0 (.int i) := ⟨by simp [PyData.canLay0], by simp [PyData.depth]⟩
theorem Sh.none : Sh 0 .none := ⟨by simp [PyData.canLay0], by simp [PyData.depth]⟩
theorem Sh.str {x : Str} (h : PyData.strOk x = true) : Sh 0 (.str x) := ⟨by simp [PyData.canLay0, h], by simp [PyData.depth]⟩
theorem Sh.list {n : Nat} {xs : List PyData} (h : ∀ x ∈ xs, Sh n x) : Sh (n + 1) (.list xs) := ⟨by rw [PyData.canLay0]; exact lay_all fun x hx => (h x hx).lay, by rw [PyData.depth]; exact Nat.succ_le_succ (dep_all fun x hx => (h x hx).dep)⟩
theorem Sh.tuple {n : Nat} {xs : List PyData} (h : ∀ x ∈ xs, Sh n x) : Sh (n + 1) (.tuple xs) := ⟨by rw [PyData.canLay0]; exact lay_all fun x hx => (h x hx).lay, by rw [PyData.depth]; exact Nat.succ_le_succ (dep_all fun x hx => (h x hx).dep)⟩
theorem Sh.ok {n : Nat} {d : PyData} (h : Sh n d) (l : n ≤ 64) : SeqAt.shaped d = true := by
  unfold SeqAt.shaped
  rw [h.lay, decide_eq_true (Nat.le_trans h.dep l)]
  rfl
def iP (x : Nat) : PyData := .int (x : Int)
theorem py_ints (us : List Nat) : D.pys (us.map D.n) = us.map iP := by
  rw [D.pys_map, List.map_map]
  refine List.map_congr_left fun x _ => ?_
  show D.py (.n x) = _
  rw [D.py]; rfl
theorem py_wT (us : List Nat) : (wT us).py = .tuple (us.map iP) := by unfold wT; rw [D.py, py_ints]
theorem py_wL (us : List Nat) : (wL us).py = .list (us.map iP) := by unfold wL; rw [D.py, py_ints]
theorem sh_ints (us : List Nat) : ∀ x ∈ us.map iP, Sh 0 x := fun x hx => by
  obtain ⟨i, _, rfl⟩ := List.mem_map.mp hx
  exact .int _
theorem sh_wT (us : List Nat) : Sh 1 (wT us).py := by rw [py_wT]; exact .tuple (sh_ints us)
theorem sh_wL (us : List Nat) : Sh 1 (wL us).py := by rw [py_wL]; exact .list (sh_ints us)
theorem eqv_ints : ∀ us vs : List Nat, PyData.eqvAll (us.map iP) (vs.map iP) = decide (us = vs)
  | [], [] => by simp [PyData.eqvAll]
  | [], _ :: _ => by simp [PyData.eqvAll]
  | _ :: _, [] => by simp [PyData.eqvAll]
  | u :: us, v :: vs => by
    rw [List.map_cons, List.map_cons, PyData.eqvAll, eqv_ints us vs]
    have e : PyData.eqv (iP u) (iP v) = decide (u = v) := by
      unfold iP
      rw [PyData.eqv]
      by_cases h : u = v
      · subst h; simp
      · rw [decide_eq_false h]
        exact beq_eq_false_iff_ne.mpr (by omega)
    rw [e]
    by_cases h1 : u = v <;> by_cases h2 : us = vs <;> simp [h1, h2]
theorem eqv_wT (us vs : List Nat) : PyData.eqv (wT us).py (wT vs).py = decide (us = vs) := by
  rw [py_wT, py_wT, PyData.eqv, eqv_ints]
theorem eqv_wL (us vs : List Nat) : PyData.eqv (wL us).py (wL vs).py = decide (us = vs) := by
  rw [py_wL, py_wL, PyData.eqv, eqv_ints]
section
variable {K : PySem.W.Frag} {N N2 F : Fp} {H : Hp} {x y v : V} {Q : VK} {ds es : List D}
theorem neW {us vs : List Nat} (h : At N H x (wL us)) (g : At N2 H y (wL vs)) (q : Q (.bl (!decide (us = vs))) H) : rNeD K x y H Q :=
  ⟨_, _, h.dp, g.dp, (sh_wL us).ok (by decide), (sh_wL vs).ok (by decide), by rw [eqv_wL]; exact q⟩
/-- equal data, by == -/
theorem eqSame {d : D} {n : Nat} (h : At N H x d) (g : At N2 H y d) (s : Sh n d.py) (hn : n ≤ 64) (q : Q (.bl true) H) : rEqD K x y H Q :=
  ⟨_, _, h.dp, g.dp, s.ok hn, s.ok hn, by rw [SeqAt.eqv_refl _ s.lay]; exact q⟩
theorem neSame {d : D} {n : Nat} (h : At N H x d) (g : At N2 H y d) (s : Sh n d.py) (hn : n ≤ 64) (q : Q (.bl false) H) : rNeD K x y H Q :=
  ⟨_, _, h.dp, g.dp, s.ok hn, s.ok hn, by rw [SeqAt.eqv_refl _ s.lay]; exact q⟩
end
theorem At.up {N N' : Fp} {H H' : Hp} {v : V} {d : D} (h : At N H v d) (s : Sm H H') (hn : ∀ a, N' a → N a ∨ H a = none) : At N' H' v d :=
  h.go fun b o q n => ⟨s.at q, fun z => (hn b z).elim n fun z => by rw [z] at q; cases q⟩
theorem Lst.up {N N' : Fp} {H H' : Hp} {l : Addr} {ds : List D} (h : Lst N H l ds) (s : Sm H H') (hn : ∀ a, N' a → N a ∨ H a = none) : Lst N' H' l ds := by
  obtain ⟨vs, hl, r⟩ := h.ex
  exact ⟨vs, s.at hl, r.go fun b o q n => ⟨s.at q, fun z => (hn b z).elim n fun z => by rw [z] at q; cases q⟩⟩
end Tk
/-! text W8 -/
set_option maxHeartbeats 4000000
namespace Tk
open PySem L2
/-! ### [e for word in dict] -/
@[irreducible] def tKeysLC (td : TE) (g : TG) (tt : TT) (te : TE) (vs : List Nat) : TE := tLockE (tLc (iKeys td) g tt te vs)
theorem peK {X : Cx} {e : Expr} {td te : TE} {g : TG} {tt : TT} {vs : List Nat} (h : PE X e (tLockE (tLc (iKeys td) g tt te vs))) : PE X e (tKeysLC td g tt te vs) := by unfold tKeysLC; exact h
section
variable {N : Fp} {H : Hp} {d : Addr} {Q : VK} {σ : L2.St} {i j : Nat} {te : TE} {vs : List Nat} {α : Type} {f : α → V} {ps : List (List Nat × α)} {enc' : List Nat → D}
theorem keysLC (hv : σ[i]? = some (some (.ref d))) (hd : H d = some (DtO f ps)) (W : Wf N H) (nd : N d) (hz : ps.length ≤ 100000) (hw : ∀ z, wipe ((wipe σ vs).set j (some z)) vs = wipe σ vs)
    (hs : ∀ u ∈ ps.map (·.1), ∀ z H' N', Wf N' H' → At N' H' z (wT u) → ∀ R : VK, (∀ y H2, Sm H' H2 → At N' H2 y (enc' u) → R y H2) → te ((wipe σ vs).set j (some z)) H' R)
    (q : ∀ p H', Sm H H' → H p = none → At N H' (.ref p) (.l ((ps.map (·.1)).map enc')) → Q (.ref p) H') : tKeysLC (tVar i) (gName j) tYes te vs σ H Q := by
  unfold tKeysLC
  refine ⟨d, _, hd, trivial, fun od => ?_⟩
  refine ⟨_, hv, d, od, rfl, .inr ⟨ps.map fun p => (mk p.1, f p.2), upd_same, fun l hl => ?_⟩⟩
  have hln : l ≠ d := fun e => by rw [e, upd_same] at hl; cases hl
  have hl0 : H l = none := by rwa [upd_ne hln] at hl
  have WL : Wf N (upd H d (.frz od (DtO f ps))) := fun b z => by
    by_cases e : b = d
    · subst e
      rw [upd_same]
      exact ⟨(fun q => nomatch q), fun xs q => nomatch q⟩
    · rw [upd_ne e]; exact W b z
  refine lc_it (walk_keysT (d := d) (o := od) (kvs := ps.map fun p => (mk p.1, f p.2))) (fun n H' => LcP N (upd H d (.frz od (DtO f ps))) l (((ps.take n).map (·.1)).map enc') H') (.start hl) (fun n H' _ p => p.sm.at upd_same) (fun n x H1 H' hn p y => ?_) fun H' p => ?_
  · obtain ⟨e, k, v, qa, hk, rfl, hq⟩ := y
    subst e
    rw [List.length_map] at hn
    rw [List.getElem?_map, List.getElem?_eq_getElem hn] at hk
    have ek : mk ps[n].1 = k := by
      have := Option.some.inj hk
      exact congrArg Prod.fst this
    rw [← ek, mk_V] at hq
    refine ⟨hw _, ?_⟩
    unfold tYes
    dsimp only
    rw [if_pos rfl]
    have W' := p.wf WL
    refine hs ps[n].1 (List.mem_map.mpr ⟨_, List.getElem_mem hn, rfl⟩) (.ref qa) H' (ad l N) W' (.t (W'.noT hq) hq (.ints _)) _ fun y H2 s2 hy => ?_
    have hm := p.more hl (by rw [List.length_map, List.length_map, List.length_take]; omega) s2 hy
    rw [List.take_succ_eq_append_getElem hn, List.map_append, List.map_append]
    exact hm
  · rw [List.length_map, List.take_of_length_le (Nat.le_refl _)] at p
    have hd' : H' d = some (.frz od (DtO f ps)) := p.sm.at upd_same
    have sm : Sm H (upd H' d (DtO f ps)) := by
      refine ⟨fun b o e _ => ?_, fun b e => ?_, fun b xs e => ?_⟩
      · by_cases z : b = d
        · subst z
          rw [upd_same, ← hd, e]
        · rw [upd_ne z]
          exact p.sm.at (by rw [upd_ne z]; exact e)
      · have z : b ≠ d := fun z => by rw [z, upd_same] at e; cases e
        rw [upd_ne z] at e
        have := p.sm.th b e
        rwa [upd_ne z] at this
      · have z : b ≠ d := fun z => by
          rw [z, upd_same] at e
          exact DtO.noT _ (Option.some.inj e)
        rw [upd_ne z] at e
        have := p.sm.tp b xs e
        rwa [upd_ne z] at this
    refine ⟨hd', q l _ sm hl0 ?_⟩
    exact (p.out WL hl).go fun b o e n => ⟨by rw [upd_ne (show b ≠ d from fun z => n (by rw [z]; exact nd))]; exact e, n⟩
end
end Tk
/-! text W9 -/
set_option maxHeartbeats 4000000
namespace Tk
open PySem L2
section
variable {K : PySem.W.Frag} {N N2 F : Fp} {H H' : Hp} {x y v : V} {Q : VK} {ds es : List D} {σ : L2.St} {Dn : Ends} {l : Addr}
/-! ### words in raw lists -/
theorem Lst.dp (h : Lst N H l ds) : Dp K H (.ref l) (.list (D.pys ds)) := by
  obtain ⟨vs, hl, r⟩ := h.ex
  exact .lst (SqL.of hl) r.dp
theorem words_py (S : List (List Nat)) : D.pys (S.map wT) = S.map fun w => (wT w).py := by
  rw [D.pys_map, List.map_map]; rfl
theorem any_words (w : List Nat) : ∀ S : List (List Nat), ((S.map fun u => (wT u).py).any fun z => PyData.eqv z (wT w).py) = decide (w ∈ S)
  | [] => by simp
  | u :: S => by
    rw [List.map_cons, List.any_cons, any_words w S, eqv_wT]
    by_cases h1 : u = w
    · subst h1; simp
    · have h2 : ¬ w = u := fun e => h1 e.symm
      simp [h1, h2]
theorem sh_words (S : List (List Nat)) : Sh 2 (.list (S.map fun w => (wT w).py)) := .list fun x hx => by
  obtain ⟨w, _, rfl⟩ := List.mem_map.mp hx
  exact sh_wT w
theorem notInW {w : List Nat} {S : List (List Nat)} (hx : At N H x (wT w)) (h : Lst N2 H l (S.map wT)) (q : Q (.bl (!decide (w ∈ S))) H) : rNotInD K x (.ref l) H Q := by
  have d := h.dp (K := K)
  rw [words_py] at d
  exact ⟨_, _, hx.dp, d, (sh_wT w).ok (by decide), (sh_words S).ok (by decide), by rw [any_words]; exact q⟩
theorem inW {w : List Nat} {S : List (List Nat)} (hx : At N H x (wT w)) (h : Lst N2 H l (S.map wT)) (q : Q (.bl (decide (w ∈ S))) H) : rInD K x (.ref l) H Q := by
  have d := h.dp (K := K)
  rw [words_py] at d
  exact ⟨_, _, hx.dp, d, (sh_wT w).ok (by decide), (sh_words S).ok (by decide), by rw [any_words]; exact q⟩
/-! ### for i, x in enumerate(raw list) -/
theorem forELs {tb : TS} {i j : Nat} (h : Lst N H l ds) (Pv : Nat → L2.St → Hp → Prop) (h0 : Pv 0 σ H) (hk : ∀ i σ' H', Pv i σ' H' → Ev N H H') (hl : ∀ i σ' H', Pv i σ' H' → H' l = H l)
    (hs : ∀ n e z T σ' H', ds[n]? = some e → At N H' z e → Pv n σ' H' → H' T = none → tb { Dn with nx := Pv (n + 1), ct := Pv (n + 1), bk := Dn.nx } ((σ'.set i (some (nV n))).set j (some z)) (upd H' T (.tup [nV n, z]))) (hd : ∀ σ' H', Pv ds.length σ' H' → Dn.nx σ' H') :
    rForEL K (gPair K i j) tb [.ref l] Dn σ H := by
  unfold rForEL
  obtain ⟨vs, ha, r⟩ := h.ex
  refine ⟨l, vs, rfl, SqL.of ha, fun n m σ' H' => m = vs.length - n ∧ n ≤ vs.length ∧ Pv n σ' H', ⟨vs.length, by simp, Nat.zero_le _, h0⟩, ?_⟩
  rintro n m σ' H' ⟨rfl, hn, p⟩
  have hq : SqL K H' l vs := SqL.of ((hl n σ' H' p).trans ha)
  by_cases hlt : n < vs.length
  · refine .inr ⟨⟨vs, vs[n], hq, by simp [hlt]⟩, Pv (n + 1), fun σ2 H2 p' => ⟨vs.length - (n + 1), by omega, rfl, hlt, p'⟩, fun u H2 y => ?_⟩
    obtain ⟨T, z, rfl, hT, rfl, hz⟩ := y
    have hz' := hz vs hq
    obtain ⟨e, he, hz2⟩ := r.get' hz'
    refine ⟨T, _, rfl, SqT.of upd_same, rfl, _, _, rfl, _, _, rfl, rfl, ?_⟩
    exact hs n e z T σ' H' he (hz2.ev (hk n σ' H' p)) p hT
  · have e : n = vs.length := by omega
    subst e
    exact .inl ⟨⟨vs, hq, Nat.le_refl _⟩, hd σ' H' (r.len ▸ p)⟩
theorem At.upE {v : V} {d : D} {N' : Fp} (h : At N H v d) (e : Ev F H H') (s : ∀ a, F a → N a) (hn : ∀ a, N' a → N a ∨ H a = none) : At N' H' v d :=
  h.go fun b o q n => ⟨e.kp b o q fun z => n (s b z), fun z => (hn b z).elim n fun z => by rw [z] at q; cases q⟩
theorem Lst.upE {N' : Fp} (h : Lst N H l ds) (e : Ev F H H') (s : ∀ a, F a → N a) (hn : ∀ a, N' a → N a ∨ H a = none) (nl : ¬ F l) : Lst N' H' l ds := by
  obtain ⟨vs, hl, r⟩ := h.ex
  exact ⟨vs, e.kp l _ hl nl, r.go fun b o q n => ⟨e.kp b o q fun z => n (s b z), fun z => (hn b z).elim n fun z => by rw [z] at q; cases q⟩⟩
end
end Tk
/-! text MA -/
/-! Machines, words, refinement, the W-method: plain Lean -/
namespace Tk
structure Mach where
  k : Nat
  o : Nat
  mv : List (List Nat)
  out : List Nat

def Mach.n (M : Mach) : Nat := M.out.length
def Mach.st (M : Mach) (s a : Nat) : Nat := (M.mv.getD s []).getD a 0
def Mach.run (M : Mach) (s : Nat) (w : List Nat) : Nat := w.foldl M.st s
def Mach.ou (M : Mach) (s : Nat) : Nat := M.out.getD s 0
def Mach.outp (M : Mach) (s : Nat) (w : List Nat) : Nat := M.ou (M.run s w)

structure Mach.Ok (M : Mach) : Prop where
  pos : 0 < M.n
  len : M.mv.length = M.n
  row : ∀ r ∈ M.mv, r.length = M.k ∧ ∀ x ∈ r, x < M.n
  outs : ∀ y ∈ M.out, y < M.o

def Wd (k : Nat) (w : List Nat) : Prop := ∀ a ∈ w, a < k
theorem Wd.nil {k : Nat} : Wd k [] := fun _ h => nomatch h
theorem Wd.cons {k a : Nat} {w : List Nat} (h : a < k) (t : Wd k w) : Wd k (a :: w) := fun b hb => by
  rcases List.mem_cons.mp hb with e | e
  · rw [e]; exact h
  · exact t b e
theorem Wd.append {k : Nat} {v w : List Nat} (h : Wd k v) (t : Wd k w) : Wd k (v ++ w) := fun b hb => by
  rcases List.mem_append.mp hb with e | e
  · exact h b e
  · exact t b e
theorem Wd.left {k : Nat} {v w : List Nat} (h : Wd k (v ++ w)) : Wd k v := fun b hb => h b (List.mem_append_left _ hb)
theorem Wd.right {k : Nat} {v w : List Nat} (h : Wd k (v ++ w)) : Wd k w := fun b hb => h b (List.mem_append_right _ hb)
theorem Wd.head {k a : Nat} {w : List Nat} (h : Wd k (a :: w)) : a < k := h a List.mem_cons_self
theorem Wd.tail {k a : Nat} {w : List Nat} (h : Wd k (a :: w)) : Wd k w := fun b hb => h b (List.mem_cons_of_mem _ hb)
theorem Wd.one {k a : Nat} (h : a < k) : Wd k [a] := Wd.cons h Wd.nil

theorem getD_mem {α : Type} {l : List α} {i : Nat} {d : α} (h : i < l.length) : l.getD i d ∈ l := by
  rw [List.getD_eq_getElem?_getD, List.getElem?_eq_getElem h]
  exact List.getElem_mem h
theorem getD_of_le {α : Type} {l : List α} {i : Nat} {d : α} (h : l.length ≤ i) : l.getD i d = d := by
  rw [List.getD_eq_getElem?_getD, List.getElem?_eq_none h]; rfl
theorem getD_lt {α : Type} {l : List α} {i : Nat} {d : α} (h : i < l.length) : l.getD i d = l[i] := by
  rw [List.getD_eq_getElem?_getD, List.getElem?_eq_getElem h]; rfl
theorem getD_of_get? {α : Type} {l : List α} {i : Nat} {d x : α} (h : l[i]? = some x) : l.getD i d = x := by
  rw [List.getD_eq_getElem?_getD, h]; rfl

section
variable {M : Mach}
theorem Mach.Ok.st_lt (h : M.Ok) (s a : Nat) : M.st s a < M.n := by
  unfold Mach.st
  by_cases hs : s < M.mv.length
  · have hr := h.row _ (getD_mem (d := []) hs)
    by_cases ha : a < (M.mv.getD s []).length
    · exact hr.2 _ (getD_mem ha)
    · rw [getD_of_le (Nat.le_of_not_lt ha)]; exact h.pos
  · rw [getD_of_le (Nat.le_of_not_lt hs)]
    exact h.pos
theorem Mach.run_nil (s : Nat) : M.run s [] = s := rfl
theorem Mach.run_cons (s a : Nat) (w : List Nat) : M.run s (a :: w) = M.run (M.st s a) w := rfl
theorem Mach.run_append (s : Nat) (v w : List Nat) : M.run s (v ++ w) = M.run (M.run s v) w := List.foldl_append
theorem Mach.outp_append (s : Nat) (v w : List Nat) : M.outp s (v ++ w) = M.outp (M.run s v) w := by
  unfold Mach.outp; rw [Mach.run_append]
theorem Mach.outp_cons (s a : Nat) (w : List Nat) : M.outp s (a :: w) = M.outp (M.st s a) w := rfl
theorem Mach.outp_nil (s : Nat) : M.outp s [] = M.ou s := rfl
theorem Mach.Ok.run_lt (h : M.Ok) : ∀ (w : List Nat) {s : Nat}, s < M.n → M.run s w < M.n
  | [], _, hs => hs
  | a :: w, s, _ => h.run_lt w (h.st_lt s a)
theorem Mach.Ok.ou_lt (h : M.Ok) {s : Nat} (hs : s < M.n) : M.ou s < M.o := h.outs _ (getD_mem hs)
theorem Mach.Ok.outp_lt (h : M.Ok) (w : List Nat) {s : Nat} (hs : s < M.n) : M.outp s w < M.o := h.ou_lt (h.run_lt w hs)
theorem Mach.Ok.opos (h : M.Ok) : 0 < M.o := Nat.lt_of_le_of_lt (Nat.zero_le _) (h.ou_lt h.pos)
end

/-- two machines' states answer alike -/
def Eqv (M N : Mach) (s t : Nat) : Prop := ∀ w, Wd M.k w → M.outp s w = N.outp t w
/-- .. on the words of at most i letters -/
def Eqi (M : Mach) (i s t : Nat) : Prop := ∀ w, Wd M.k w → w.length ≤ i → M.outp s w = M.outp t w
/-- .. behind every beginning of w -/
def Al (M N : Mach) (s t : Nat) (w : List Nat) : Prop := ∀ p, p <+: w → M.outp s p = N.outp t p

section
variable {M N L : Mach} {s t u : Nat} {w : List Nat}
theorem Eqv.refl : Eqv M M s s := fun _ _ => rfl
theorem Eqv.symm (hk : M.k = N.k) (h : Eqv M N s t) : Eqv N M t s := fun w hw => (h w (by rw [hk]; exact hw)).symm
theorem Eqv.trans (hk : M.k = N.k) (h : Eqv M N s t) (g : Eqv N L t u) : Eqv M L s u := fun w hw => (h w hw).trans (g w (by rw [← hk]; exact hw))
theorem Eqv.step {a : Nat} (h : Eqv M N s t) (ha : a < M.k) : Eqv M N (M.st s a) (N.st t a) := fun w hw => h (a :: w) (Wd.cons ha hw)
theorem Eqv.ou (h : Eqv M N s t) : M.ou s = N.ou t := h [] Wd.nil
theorem Eqv.run (h : Eqv M N s t) : ∀ {w : List Nat}, Wd M.k w → Eqv M N (M.run s w) (N.run t w) := fun {w} hw v hv => by
  have := h (w ++ v) (hw.append hv)
  rw [Mach.outp_append, Mach.outp_append] at this
  exact this
theorem Al.ou (h : Al M N s t w) : M.ou s = N.ou t := h [] (List.nil_prefix)
theorem Al.tail {a : Nat} (h : Al M N s t (a :: w)) : Al M N (M.st s a) (N.st t a) w := fun p hp => h (a :: p) (by
  rw [List.cons_prefix_cons]; exact ⟨rfl, hp⟩)
theorem Al.cons {a : Nat} (h0 : M.ou s = N.ou t) (h : Al M N (M.st s a) (N.st t a) w) : Al M N s t (a :: w) := fun p hp => by
  cases p with
  | nil => exact h0
  | cons b p =>
    rw [List.cons_prefix_cons] at hp
    obtain ⟨rfl, hp⟩ := hp
    exact h p hp
theorem Al.symm (h : Al M N s t w) : Al N M t s w := fun p hp => (h p hp).symm
theorem Al.trans (h : Al M N s t w) (g : Al N L t u w) : Al M L s u w := fun p hp => (h p hp).trans (g p hp)
theorem Al.drop {p v : List Nat} (h : Al M N s t (p ++ v)) : Al M N (M.run s p) (N.run t p) v := fun q hq => by
  have := h (p ++ q) (List.prefix_append_right_inj p |>.mpr hq)
  rw [Mach.outp_append, Mach.outp_append] at this
  exact this
end

/-! ### counting classes -/
open Classical in
/-- the least of each class, below n -/
noncomputable def reps (r : Nat → Nat → Prop) (n : Nat) : List Nat := (List.range n).filter fun b => decide (∀ c, c < b → ¬ r c b)
open Classical in
theorem mem_reps {r : Nat → Nat → Prop} {n b : Nat} : b ∈ reps r n ↔ b < n ∧ ∀ c, c < b → ¬ r c b := by
  unfold reps
  rw [List.mem_filter, List.mem_range, decide_eq_true_iff]
theorem reps_nodup (r : Nat → Nat → Prop) (n : Nat) : (reps r n).Nodup := List.Pairwise.filter _ List.nodup_range
theorem reps_le (r : Nat → Nat → Prop) (n : Nat) : (reps r n).length ≤ n := by
  unfold reps
  exact Nat.le_trans (List.length_filter_le ..) (by rw [List.length_range]; exact Nat.le_refl _)
theorem rep_of (r : Nat → Nat → Prop) (hr : ∀ s, r s s) : ∀ b : Nat, (∀ x y z, r x y → r y z → r x z) → ∃ c, c ≤ b ∧ r c b ∧ ∀ d, d < c → ¬ r d b := fun b tr => by
  have key : ∀ m, m ≤ b → r m b → ∃ c, c ≤ b ∧ r c b ∧ ∀ d, d < c → ¬ r d b := by
    intro m
    induction m using Nat.strongRecOn with
    | ind m ih =>
      intro hm h
      by_cases q : ∃ d, d < m ∧ r d b
      · obtain ⟨d, hd, rd⟩ := q
        exact ih d hd (by omega) rd
      · exact ⟨m, hm, h, fun d hd rd => q ⟨d, hd, rd⟩⟩
  exact key b (Nat.le_refl _) (hr b)
structure Eq3 (r : Nat → Nat → Prop) : Prop where
  refl : ∀ s, r s s
  symm : ∀ {s t}, r s t → r t s
  trans : ∀ {s t u}, r s t → r t u → r s u
theorem Eq3.rep {r : Nat → Nat → Prop} (E : Eq3 r) {n b : Nat} (hb : b < n) : ∃ c, c ∈ reps r n ∧ r c b ∧ c ≤ b := by
  obtain ⟨c, h1, h2, h3⟩ := rep_of r E.refl b fun _ _ _ => E.trans
  exact ⟨c, mem_reps.mpr ⟨by omega, fun d hd rd => h3 d hd (E.trans rd h2)⟩, h2, h1⟩
theorem reps_mono {r q : Nat → Nat → Prop} {n : Nat} (h : ∀ s t, q s t → r s t) : reps r n ⊆ reps q n := fun b hb => by
  rw [mem_reps] at hb ⊢
  exact ⟨hb.1, fun c hc rc => hb.2 c hc (h _ _ rc)⟩
/-- a strictly finer relation has more classes -/
theorem reps_more {r q : Nat → Nat → Prop} {n : Nat} (R : Eq3 r) (Q : Eq3 q) (h : ∀ s t, q s t → r s t) {b c : Nat} (hb : b < n) (hc : c < n) (rbc : r b c) (nq : ¬ q b c) : (reps r n).length + 1 ≤ (reps q n).length := by
  obtain ⟨a, ha, rab, _⟩ := R.rep hb
  -- one of b and c is not alike a
  have : ∃ d, d < n ∧ r a d ∧ ¬ q a d := by
    by_cases z : q a b
    · exact ⟨c, hc, R.trans rab rbc, fun z2 => nq (Q.trans (Q.symm z) z2)⟩
    · exact ⟨b, hb, rab, z⟩
  obtain ⟨d, hd, rad, nad⟩ := this
  obtain ⟨e, he, qed, _⟩ := Q.rep hd
  have rae : r a e := R.trans rad (R.symm (h _ _ qed))
  have nea : e ≠ a := fun z => nad (z ▸ qed)
  have ner : e ∉ reps r n := fun z => by
    rw [mem_reps] at z ha
    rcases Nat.lt_trichotomy a e with l | l | l
    · exact z.2 a l rae
    · exact nea l.symm
    · exact ha.2 e l (R.symm rae)
  have nd : (e :: reps r n).Nodup := List.nodup_cons.mpr ⟨ner, reps_nodup r n⟩
  have := List.Nodup.length_le_of_subset nd (l₂ := reps q n) fun x hx => by
    rcases List.mem_cons.mp hx with z | z
    · rw [z]; exact he
    · exact reps_mono h z
  simpa using this
/-- so many classes as there are things that are pairwise not alike -/
theorem reps_ge {r : Nat → Nat → Prop} {n : Nat} (R : Eq3 r) (g : Nat → Nat) : ∀ h : Nat, (∀ s, s < h → g s < n) → (∀ s t, s < h → t < h → s ≠ t → ¬ r (g s) (g t)) → h ≤ (reps r n).length := fun h hg hd => by
  have pick : ∀ s, s < h → ∃ c, c ∈ reps r n ∧ r c (g s) := fun s hs => let ⟨c, a, b, _⟩ := R.rep (hg s hs); ⟨c, a, b⟩
  have key : ∀ m, m ≤ h → ∃ l : List Nat, l.length = m ∧ l.Nodup ∧ ∀ x ∈ l, x ∈ reps r n ∧ ∃ s, s < m ∧ r x (g s) := by
    intro m
    induction m with
    | zero => exact fun _ => ⟨[], rfl, List.nodup_nil, fun _ z => nomatch z⟩
    | succ m ih =>
      intro hm
      obtain ⟨l, e, nd, hl⟩ := ih (by omega)
      obtain ⟨c, hc, rc⟩ := pick m (by omega)
      refine ⟨c :: l, by simp [e], List.nodup_cons.mpr ⟨fun z => ?_, nd⟩, fun x hx => ?_⟩
      · obtain ⟨_, s, hs, rs⟩ := hl c z
        exact hd s m (by omega) (by omega) (by omega) (R.trans (R.symm rs) rc)
      · rcases List.mem_cons.mp hx with z | z
        · rw [z]; exact ⟨hc, m, by omega, rc⟩
        · obtain ⟨a, s, hs, rs⟩ := hl x z
          exact ⟨a, s, by omega, rs⟩
  obtain ⟨l, e, nd, hl⟩ := key h (Nat.le_refl _)
  have := List.Nodup.length_le_of_subset nd (l₂ := reps r n) fun x hx => (hl x hx).1
  omega
/-- a row of finer and finer relations stands still behind n - h turns -/
theorem stab {n : Nat} (r : Nat → Nat → Nat → Prop) (E : ∀ i, Eq3 (r i)) (mono : ∀ i s t, r (i + 1) s t → r i s t)
    (det : ∀ i, (∀ s t, s < n → t < n → r i s t → r (i + 1) s t) → ∀ s t, s < n → t < n → r (i + 1) s t → r (i + 2) s t)
    (h e : Nat) (hN : h ≤ (reps (r 0) n).length) (he : n ≤ h + e) : ∀ s t, s < n → t < n → r e s t → r (e + 1) s t := by
  have grow : ∀ i, (∃ j, j ≤ i ∧ ∀ s t, s < n → t < n → r j s t → r (j + 1) s t) ∨ h + i + 1 ≤ (reps (r (i + 1)) n).length := by
    intro i
    induction i with
    | zero =>
      by_cases q : ∀ s t, s < n → t < n → r 0 s t → r 1 s t
      · exact .inl ⟨0, Nat.le_refl _, q⟩
      · right
        simp only [Classical.not_forall] at q
        obtain ⟨s, t, hs, ht, a, b⟩ := q
        have := reps_more (E 0) (E 1) (mono 0) hs ht a b
        simp only [Nat.zero_add] at *
        omega
    | succ i ih =>
      rcases ih with ⟨j, hj, q⟩ | ih
      · exact .inl ⟨j, by omega, q⟩
      · by_cases q : ∀ s t, s < n → t < n → r (i + 1) s t → r (i + 2) s t
        · exact .inl ⟨i + 1, Nat.le_refl _, q⟩
        · right
          simp only [Classical.not_forall] at q
          obtain ⟨s, t, hs, ht, a, b⟩ := q
          have := reps_more (E (i + 1)) (E (i + 2)) (mono (i + 1)) hs ht a b
          have e1 : i + 1 + 1 = i + 2 := rfl
          rw [e1]
          omega
  rcases grow e with ⟨j, hj, q⟩ | g
  · have up : ∀ d, ∀ s t, s < n → t < n → r (j + d) s t → r (j + d + 1) s t := by
      intro d
      induction d with
      | zero => exact q
      | succ d ih => exact det (j + d) ih
    have := up (e - j)
    rw [show j + (e - j) = e by omega] at this
    exact this
  · have := reps_le (r (e + 1)) n
    omega

/-! ### alike on all words m ++ w, m of at most i letters, w in E -/
def RE (M : Mach) (E : List (List Nat)) (i s t : Nat) : Prop := ∀ m, Wd M.k m → m.length ≤ i → ∀ w ∈ E, Al M M s t (m ++ w)
theorem RE.eq3 (M : Mach) (E : List (List Nat)) (i : Nat) : Eq3 (RE M E i) :=
  ⟨fun _ _ _ _ _ _ _ _ => rfl, fun h m a b w c => (h m a b w c).symm, fun h g m a b w c => (h m a b w c).trans (g m a b w c)⟩
theorem RE.mono {M : Mach} {E : List (List Nat)} {i s t : Nat} (h : RE M E (i + 1) s t) : RE M E i s t := fun m a b w c => h m a (by omega) w c
theorem RE.ou {M : Mach} {E : List (List Nat)} (ne : E ≠ []) {i s t : Nat} (h : RE M E i s t) : M.ou s = M.ou t := by
  cases E with
  | nil => exact absurd rfl ne
  | cons w _ => exact (h [] Wd.nil (Nat.zero_le _) w List.mem_cons_self).ou
theorem RE.step {M : Mach} {E : List (List Nat)} {i s t a : Nat} (ha : a < M.k) (h : RE M E (i + 1) s t) : RE M E i (M.st s a) (M.st t a) := fun m x y w c =>
  (h (a :: m) (Wd.cons ha x) (by simp; omega) w c).tail
theorem RE.det {M : Mach} (hM : M.Ok) {E : List (List Nat)} (ne : E ≠ []) (i : Nat) (q : ∀ s t, s < M.n → t < M.n → RE M E i s t → RE M E (i + 1) s t) : ∀ s t, s < M.n → t < M.n → RE M E (i + 1) s t → RE M E (i + 2) s t := by
  intro s t hs ht h m hm hl w hw
  cases m with
  | nil => exact h [] Wd.nil (Nat.zero_le _) w hw
  | cons a m =>
    refine Al.cons (h.ou ne) ?_
    exact q _ _ (hM.st_lt _ _) (hM.st_lt _ _) (h.step hm.head) m hm.tail (by simp at hl; omega) w hw
/-- a relation that stands still holds for ever -/
theorem RE.eqv {M : Mach} (hM : M.Ok) {E : List (List Nat)} (ne : E ≠ []) {i : Nat} (q : ∀ s t, s < M.n → t < M.n → RE M E i s t → RE M E (i + 1) s t) : ∀ {s t : Nat}, s < M.n → t < M.n → RE M E i s t → Eqv M M s t := by
  have key : ∀ (w : List Nat) (s t : Nat), s < M.n → t < M.n → RE M E i s t → Wd M.k w → M.outp s w = M.outp t w := by
    intro w
    induction w with
    | nil => exact fun s t _ _ h _ => h.ou ne
    | cons a w ih =>
      intro s t hs ht h hw
      rw [Mach.outp_cons, Mach.outp_cons]
      exact ih _ _ (hM.st_lt _ _) (hM.st_lt _ _) ((q s t hs ht h).step hw.head) hw.tail
  intro s t hs ht h w hw
  exact key w _ _ hs ht h hw

theorem eqi_re {M : Mach} {i s t : Nat} : RE M [[]] i s t ↔ Eqi M i s t := by
  constructor
  · intro h w hw hl
    have := h w hw hl [] (by simp)
    rw [List.append_nil] at this
    exact this w (List.prefix_refl _)
  · intro h m hm hl w hw p hp
    have e : w = [] := by simpa using hw
    rw [e, List.append_nil] at hp
    obtain ⟨r, rfl⟩ := hp
    exact h p hm.left (by rw [List.length_append] at hl; omega)
/-- Moore's bound -/
theorem moore {M : Mach} (hM : M.Ok) {i s t : Nat} (hi : M.n ≤ i + 1) (hs : s < M.n) (ht : t < M.n) (h : Eqi M i s t) : Eqv M M s t := by
  have one : 1 ≤ (reps (RE M [[]] 0) M.n).length := reps_ge (RE.eq3 M [[]] 0) (fun _ => 0) 1 (fun _ _ => hM.pos) fun s t a b c => by omega
  have := stab (n := M.n) (RE M [[]]) (RE.eq3 M [[]]) (fun _ _ _ => RE.mono) (fun i => RE.det hM (by simp) i) 1 i one (by omega)
  exact RE.eqv hM (by simp) this hs ht (eqi_re.mpr h)
theorem not_eqv {M : Mach} (hM : M.Ok) {s t : Nat} (hs : s < M.n) (ht : t < M.n) (h : ¬ Eqv M M s t) : ∃ w, Wd M.k w ∧ w.length + 1 ≤ M.n ∧ M.outp s w ≠ M.outp t w := by
  apply Classical.byContradiction
  intro q
  refine h (moore hM (i := M.n - 1) (by omega) hs ht fun w hw hl => ?_)
  apply Classical.byContradiction
  intro z
  exact q ⟨w, hw, by have := hM.pos; omega, z⟩

/-! ### the W-method -/
theorem wmethod {A B : Mach} (hA : A.Ok) (hB : B.Ok) (hk : B.k = A.k) (Vw : Nat → List Nat) (hV : ∀ s, s < A.n → Wd A.k (Vw s) ∧ A.run 0 (Vw s) = s)
    (hP : ∀ s, s < A.n → Vw s = [] ∨ ∃ t a, t < A.n ∧ a < A.k ∧ Vw s = Vw t ++ [a]) (E : List (List Nat)) (ne : E ≠ []) (hW : ∀ w ∈ E, Wd A.k w)
    (hE : ∀ s t, s < A.n → t < A.n → s ≠ t → ∃ w ∈ E, ¬ Al A A s t w) (e : Nat) (hn : B.n ≤ A.n + e)
    (hag : ∀ p, (p = [] ∨ ∃ s a, s < A.n ∧ a < A.k ∧ p = Vw s ++ [a]) → ∀ m, Wd A.k m → m.length ≤ e → ∀ w ∈ E, Al A B 0 0 (p ++ m ++ w)) : Eqv A B 0 0 := by
  -- related states
  let Rel : Nat → Nat → Prop := fun s b => ∀ m, Wd A.k m → m.length ≤ e → ∀ w ∈ E, Al A B s b (m ++ w)
  have relP : ∀ p, (p = [] ∨ ∃ s a, s < A.n ∧ a < A.k ∧ p = Vw s ++ [a]) → Rel (A.run 0 p) (B.run 0 p) := fun p hp m hm hl w hw => by
    have := hag p hp m hm hl w hw
    rw [List.append_assoc] at this
    exact this.drop
  have relV : ∀ s, s < A.n → Rel s (B.run 0 (Vw s)) := fun s hs => by
    have := relP (Vw s) ((hP s hs).elim .inl fun ⟨t, a, h1, h2, h3⟩ => .inr ⟨t, a, h1, h2, h3⟩)
    rw [(hV s hs).2] at this
    exact this
  have tr : ∀ {s b c}, Rel s b → Rel s c → RE B E e b c := fun h g m hm hl w hw => (h m (hk ▸ hm) hl w hw).symm.trans (g m (hk ▸ hm) hl w hw)
  have rt : ∀ {s b c}, Rel s b → RE B E e b c → Rel s c := fun h g m hm hl w hw => (h m hm hl w hw).trans (g m (by rw [hk]; exact hm) hl w hw)
  have cls : A.n ≤ (reps (RE B E 0) B.n).length := reps_ge (RE.eq3 B E 0) (fun s => B.run 0 (Vw s)) A.n (fun s _ => hB.run_lt _ hB.pos) fun s t hs ht hst q => by
    obtain ⟨w, hw, nal⟩ := hE s t hs ht hst
    have h1 := relV s hs [] Wd.nil (Nat.zero_le _) w hw
    have h2 := relV t ht [] Wd.nil (Nat.zero_le _) w hw
    have h3 := q [] Wd.nil (Nat.le_refl _) w hw
    exact nal ((h1.trans h3).trans h2.symm)
  have still := stab (n := B.n) (RE B E) (RE.eq3 B E) (fun _ _ _ => RE.mono) (fun i => RE.det hB ne i) A.n e cls hn
  have key : ∀ (w : List Nat) (s b : Nat), s < A.n → b < B.n → Rel s b → Wd A.k w → A.outp s w = B.outp b w := by
    intro w
    induction w with
    | nil =>
      intro s b _ _ h _
      cases hEe : E with
      | nil => exact absurd hEe ne
      | cons v _ =>
        have := h [] Wd.nil (Nat.zero_le _) v (by rw [hEe]; exact List.mem_cons_self)
        exact this.ou
    | cons a w ih =>
      intro s b hs hb h hw
      rw [Mach.outp_cons, Mach.outp_cons]
      refine ih _ _ (hA.st_lt _ _) (hB.st_lt _ _) ?_ hw.tail
      have r1 : RE B E e b (B.run 0 (Vw s)) := tr h (relV s hs)
      have r2 : RE B E e (B.st b a) (B.st (B.run 0 (Vw s)) a) := (still _ _ hb (hB.run_lt _ hB.pos) r1).step (by rw [hk]; exact hw.head)
      have r3 : Rel (A.run 0 (Vw s ++ [a])) (B.run 0 (Vw s ++ [a])) := relP _ (.inr ⟨s, a, hs, hw.head, rfl⟩)
      rw [Mach.run_append, Mach.run_append, (hV s hs).2] at r3
      exact rt r3 ((RE.eq3 B E e).symm r2)
  exact fun w hw => key w 0 0 hA.pos hB.pos (relP [] (.inl rfl)) hw
end Tk
/-! text MB -/
namespace Tk
/-! the least machine -/
structure Rep (M : Mach) (g : List Nat) : Prop where
  len : g.length = M.n
  lt : ∀ s, s < M.n → g.getD s 0 < M.n
  eq : ∀ s, s < M.n → Eqv M M (g.getD s 0) s
  same : ∀ s t, s < M.n → t < M.n → Eqv M M s t → g.getD s 0 = g.getD t 0
structure RepI (M : Mach) (i : Nat) (g : List Nat) : Prop where
  len : g.length = M.n
  lt : ∀ s, s < M.n → g.getD s 0 < M.n
  eq : ∀ s, s < M.n → Eqi M i (g.getD s 0) s
  same : ∀ s t, s < M.n → t < M.n → Eqi M i s t → g.getD s 0 = g.getD t 0
theorem RepI.rep {M : Mach} (hM : M.Ok) {g : List Nat} {i : Nat} (hi : M.n ≤ i + 1) (h : RepI M i g) : Rep M g :=
  ⟨h.len, h.lt, fun s hs => moore hM hi (h.lt s hs) hs (h.eq s hs), fun s t hs ht e => h.same s t hs ht fun w hw _ => e w hw⟩
theorem Rep.idem {M : Mach} {g : List Nat} (h : Rep M g) {s : Nat} (hs : s < M.n) : g.getD (g.getD s 0) 0 = g.getD s 0 := h.same _ _ (h.lt s hs) hs (h.eq s hs)

def scanRow (g o row : List Nat) : List Nat := row.foldl (fun o x => if g.getD x 0 ∈ o then o else o ++ [g.getD x 0]) o
theorem scanRow_nil (g o : List Nat) : scanRow g o [] = o := rfl
theorem scanRow_cons (g o : List Nat) (x : Nat) (row : List Nat) : scanRow g o (x :: row) = scanRow g (if g.getD x 0 ∈ o then o else o ++ [g.getD x 0]) row := rfl
theorem scanRow_append (g o r1 r2 : List Nat) : scanRow g o (r1 ++ r2) = scanRow g (scanRow g o r1) r2 := List.foldl_append
theorem scanRow_one (g o : List Nat) (x : Nat) : scanRow g o [x] = if g.getD x 0 ∈ o then o else o ++ [g.getD x 0] := rfl
theorem scanRow_pre (g : List Nat) : ∀ (row o : List Nat), o <+: scanRow g o row
  | [], o => List.prefix_refl _
  | x :: row, o => by
    rw [scanRow_cons]
    refine List.IsPrefix.trans ?_ (scanRow_pre g row _)
    split
    · exact List.prefix_refl _
    · exact List.prefix_append ..
theorem scanRow_mem (g : List Nat) : ∀ (row o : List Nat) (x : Nat), x ∈ row → g.getD x 0 ∈ scanRow g o row
  | y :: row, o, x, h => by
    rw [scanRow_cons]
    rcases List.mem_cons.mp h with e | h
    · subst e
      refine (scanRow_pre g row _).subset ?_
      split
      · assumption
      · simp
    · exact scanRow_mem g row _ x h
theorem scanRow_of (g : List Nat) : ∀ (row o : List Nat) (y : Nat), y ∈ scanRow g o row → y ∈ o ∨ ∃ x ∈ row, y = g.getD x 0
  | [], o, y, h => .inl h
  | x :: row, o, y, h => by
    rw [scanRow_cons] at h
    rcases scanRow_of g row _ y h with h | ⟨z, hz, e⟩
    · split at h
      · exact .inl h
      · rcases List.mem_append.mp h with h | h
        · exact .inl h
        · exact .inr ⟨x, List.mem_cons_self, by simpa using h⟩
    · exact .inr ⟨z, List.mem_cons_of_mem _ hz, e⟩
theorem scanRow_nodup (g : List Nat) : ∀ (row o : List Nat), o.Nodup → (scanRow g o row).Nodup
  | [], _, h => h
  | x :: row, o, h => by
    rw [scanRow_cons]
    refine scanRow_nodup g row _ ?_
    split
    · exact h
    · rename_i q
      rw [List.nodup_append]
      refine ⟨h, by simp, fun a ha b hb e => ?_⟩
      rw [List.mem_singleton] at hb
      exact q (hb ▸ e ▸ ha)

def ordA (M : Mach) (g : List Nat) : Nat → List Nat
  | 0 => [g.getD 0 0]
  | i + 1 => if i < (ordA M g i).length then scanRow g (ordA M g i) (M.mv.getD ((ordA M g i).getD i 0) []) else ordA M g i
theorem ordA_go {M : Mach} {g : List Nat} {i : Nat} (h : i < (ordA M g i).length) : ordA M g (i + 1) = scanRow g (ordA M g i) (M.mv.getD ((ordA M g i).getD i 0) []) := if_pos h
theorem ordA_stop {M : Mach} {g : List Nat} {i : Nat} (h : ¬ i < (ordA M g i).length) : ordA M g (i + 1) = ordA M g i := if_neg h
theorem ordA_still {M : Mach} {g : List Nat} {i : Nat} (h : ¬ i < (ordA M g i).length) : ∀ d, ordA M g (i + d) = ordA M g i
  | 0 => rfl
  | d + 1 => by
    have ih := ordA_still h d
    rw [← Nat.add_assoc, ordA_stop, ih]
    rw [ih]; omega
theorem ordA_pre (M : Mach) (g : List Nat) (i : Nat) : ordA M g i <+: ordA M g (i + 1) := by
  by_cases h : i < (ordA M g i).length
  · rw [ordA_go h]; exact scanRow_pre ..
  · rw [ordA_stop h]; exact List.prefix_refl _

theorem pre_get {α : Type} {l m : List α} {d : α} (h : l <+: m) {i : Nat} (hi : i < l.length) : m.getD i d = l.getD i d := by
  obtain ⟨r, rfl⟩ := h
  rw [List.getD_eq_getElem?_getD, List.getD_eq_getElem?_getD, List.getElem?_append_left hi]

section
variable {M : Mach} {g : List Nat} (hM : M.Ok) (R : Rep M g)
include hM R
theorem row_lt {s x : Nat} (hx : x ∈ M.mv.getD s []) : x < M.n := by
  by_cases hs : s < M.mv.length
  · exact (hM.row _ (getD_mem hs)).2 x hx
  · rw [getD_of_le (Nat.le_of_not_lt hs)] at hx
    cases hx
/-- each is the mark of its class -/
theorem ordA_rep : ∀ i, ∀ x ∈ ordA M g i, x < M.n ∧ g.getD x 0 = x
  | 0, x, h => by
    have e : x = g.getD 0 0 := by simpa [ordA] using h
    rw [e]
    exact ⟨R.lt 0 hM.pos, R.idem hM.pos⟩
  | i + 1, x, h => by
    by_cases q : i < (ordA M g i).length
    · rw [ordA_go q] at h
      rcases scanRow_of g _ _ x h with h | ⟨z, hz, e⟩
      · exact ordA_rep i x h
      · have := row_lt hM R hz
        rw [e]
        exact ⟨R.lt z this, R.idem this⟩
    · rw [ordA_stop q] at h
      exact ordA_rep i x h
theorem ordA_nodup : ∀ i, (ordA M g i).Nodup
  | 0 => by simp [ordA]
  | i + 1 => by
    by_cases q : i < (ordA M g i).length
    · rw [ordA_go q]; exact scanRow_nodup _ _ _ (ordA_nodup i)
    · rw [ordA_stop q]; exact ordA_nodup i
theorem ordA_len (i : Nat) : (ordA M g i).length ≤ M.n := by
  have := List.Nodup.length_le_of_subset (ordA_nodup hM R i) (l₂ := List.range M.n) fun x hx => List.mem_range.mpr (ordA_rep hM R i x hx).1
  rwa [List.length_range] at this
omit hM R in
theorem ordA_pos : ∀ i, 0 < (ordA M g i).length
  | 0 => by simp [ordA]
  | i + 1 => Nat.lt_of_lt_of_le (ordA_pos i) (ordA_pre M g i).length_le
omit hM R in
theorem ordA_zero : ∀ i, (ordA M g i).getD 0 0 = g.getD 0 0
  | 0 => rfl
  | i + 1 => by rw [pre_get (ordA_pre M g i) (ordA_pos i)]; exact ordA_zero i
/-- behind its turn all next states of a mark are marked -/
theorem ordA_closed : ∀ i j, j < i → j < (ordA M g i).length → ∀ x ∈ M.mv.getD ((ordA M g i).getD j 0) [], g.getD x 0 ∈ ordA M g i
  | i + 1, j, hj, hl, x, hx => by
    by_cases q : i < (ordA M g i).length
    · by_cases e : j = i
      · subst e
        rw [pre_get (ordA_pre M g j) q] at hx
        rw [ordA_go q]
        exact scanRow_mem g _ _ x hx
      · have hji : j < i := by omega
        have hl2 : j < (ordA M g i).length := by omega
        rw [pre_get (ordA_pre M g i) hl2] at hx
        exact (ordA_pre M g i).subset (ordA_closed i j hji hl2 x hx)
    · have hl2 : j < (ordA M g i).length := by rw [← ordA_stop q]; exact hl
      have hji : j < i := by omega
      rw [ordA_stop q] at hx ⊢
      exact ordA_closed i j hji hl2 x hx
theorem ordA_reach : ∀ i, ∀ x ∈ ordA M g i, ∃ w, Wd M.k w ∧ Eqv M M (M.run 0 w) x
  | 0, x, h => by
    have e : x = g.getD 0 0 := by simpa [ordA] using h
    rw [e]
    exact ⟨[], Wd.nil, (R.eq 0 hM.pos).symm rfl⟩
  | i + 1, x, h => by
    by_cases q : i < (ordA M g i).length
    · rw [ordA_go q] at h
      rcases scanRow_of g _ _ x h with h | ⟨z, hz, e⟩
      · exact ordA_reach i x h
      · obtain ⟨w, hw, ew⟩ := ordA_reach i ((ordA M g i).getD i 0) (getD_mem q)
        obtain ⟨a, ha, rfl⟩ := List.mem_iff_getElem.mp hz
        have hk : a < M.k := by
          have hs : (ordA M g i).getD i 0 < M.mv.length := by rw [hM.len]; exact (ordA_rep hM R i _ (getD_mem q)).1
          have := (hM.row _ (getD_mem (d := []) hs)).1
          omega
        have est : (M.mv.getD ((ordA M g i).getD i 0) [])[a] = M.st ((ordA M g i).getD i 0) a := (getD_lt (d := 0) ha).symm
        refine ⟨w ++ [a], hw.append (Wd.one hk), ?_⟩
        rw [Mach.run_append, e, est]
        have h1 : Eqv M M (M.st (M.run 0 w) a) (M.st ((ordA M g i).getD i 0) a) := ew.step hk
        exact h1.trans rfl ((R.eq _ (hM.st_lt _ _)).symm rfl)
    · rw [ordA_stop q] at h
      exact ordA_reach i x h
theorem ordA_all {N : Nat} (h : M.n ≤ N) : ordA M g N = ordA M g M.n := by
  have := ordA_len hM R M.n
  have := ordA_still (M := M) (g := g) (i := M.n) (by omega) (N - M.n)
  rw [← this]
  congr 1
  omega
/-- the loop's end -/
theorem ordA_end {i : Nat} (h : ¬ i < (ordA M g i).length) : ordA M g i = ordA M g M.n := by
  by_cases q : i ≤ M.n
  · have := ordA_still h (M.n - i)
    rw [show i + (M.n - i) = M.n by omega] at this
    exact this.symm
  · exact ordA_all hM R (by omega)
end

def leastOf (M : Mach) (g : List Nat) : Mach where
  k := M.k
  o := M.o
  mv := (ordA M g M.n).map fun x => (M.mv.getD x []).map fun t => (ordA M g M.n).idxOf (g.getD t 0)
  out := (ordA M g M.n).map fun x => M.out.getD x 0

section
variable {M : Mach} {g : List Nat} (hM : M.Ok) (R : Rep M g)
include hM R
theorem leastOf_n : (leastOf M g).n = (ordA M g M.n).length := List.length_map ..
theorem leastOf_ou {i : Nat} (hi : i < (ordA M g M.n).length) : (leastOf M g).ou i = M.ou ((ordA M g M.n).getD i 0) := by
  show ((ordA M g M.n).map fun x => M.out.getD x 0).getD i 0 = M.out.getD ((ordA M g M.n).getD i 0) 0
  rw [getD_lt (by rw [List.length_map]; exact hi), List.getElem_map, getD_lt hi]
theorem ordA_full {j x : Nat} (hj : j < (ordA M g M.n).length) (hx : x ∈ M.mv.getD ((ordA M g M.n).getD j 0) []) : g.getD x 0 ∈ ordA M g M.n :=
  ordA_closed hM R M.n j (Nat.lt_of_lt_of_le hj (ordA_len hM R _)) hj x hx
theorem leastOf_st {i a : Nat} (hi : i < (ordA M g M.n).length) (ha : a < M.k) : (leastOf M g).st i a = (ordA M g M.n).idxOf (g.getD (M.st ((ordA M g M.n).getD i 0) a) 0) := by
  show (((ordA M g M.n).map fun x => (M.mv.getD x []).map fun t => (ordA M g M.n).idxOf (g.getD t 0)).getD i []).getD a 0 = _
  rw [getD_lt (l := List.map _ _) (by rw [List.length_map]; exact hi), List.getElem_map, ← getD_lt (d := 0) hi]
  have hs : (ordA M g M.n).getD i 0 < M.mv.length := by rw [hM.len]; exact (ordA_rep hM R _ _ (getD_mem hi)).1
  have hl : a < (M.mv.getD ((ordA M g M.n).getD i 0) []).length := by rw [(hM.row _ (getD_mem hs)).1]; exact ha
  rw [getD_lt (by rw [List.length_map]; exact hl), List.getElem_map]
  unfold Mach.st
  rw [getD_lt hl]
theorem st_mem {i a : Nat} (hi : i < (ordA M g M.n).length) (ha : a < M.k) : M.st ((ordA M g M.n).getD i 0) a ∈ M.mv.getD ((ordA M g M.n).getD i 0) [] := by
  have hs : (ordA M g M.n).getD i 0 < M.mv.length := by rw [hM.len]; exact (ordA_rep hM R _ _ (getD_mem hi)).1
  exact getD_mem (by rw [(hM.row _ (getD_mem hs)).1]; exact ha)
theorem leastOf_lt {i a : Nat} (hi : i < (ordA M g M.n).length) (ha : a < M.k) : (leastOf M g).st i a < (ordA M g M.n).length := by
  rw [leastOf_st hM R hi ha]
  exact List.idxOf_lt_length_iff.mpr (ordA_full hM R hi (st_mem hM R hi ha))
theorem leastOf_at {i a : Nat} (hi : i < (ordA M g M.n).length) (ha : a < M.k) : (ordA M g M.n).getD ((leastOf M g).st i a) 0 = g.getD (M.st ((ordA M g M.n).getD i 0) a) 0 := by
  rw [getD_lt (leastOf_lt hM R hi ha)]
  simp only [leastOf_st hM R hi ha]
  exact List.getElem_idxOf _
theorem leastOf_corr : ∀ (w : List Nat) {i : Nat}, i < (ordA M g M.n).length → Wd M.k w → (leastOf M g).outp i w = M.outp ((ordA M g M.n).getD i 0) w
  | [], i, hi, _ => leastOf_ou hM R hi
  | a :: w, i, hi, hw => by
    rw [Mach.outp_cons, Mach.outp_cons, leastOf_corr w (leastOf_lt hM R hi hw.head) hw.tail, leastOf_at hM R hi hw.head]
    exact R.eq _ (hM.st_lt _ _) w hw.tail
theorem leastOf_eqv {i : Nat} (hi : i < (ordA M g M.n).length) : Eqv (leastOf M g) M i ((ordA M g M.n).getD i 0) := fun w hw => leastOf_corr hM R w hi hw
end

/-- L is the least machine of M -/
def IsL (M L : Mach) : Prop := ∃ g, Rep M g ∧ L = leastOf M g
structure LeastP (M L : Mach) : Prop where
  ok : L.Ok
  k : L.k = M.k
  o : L.o = M.o
  eqv : Eqv L M 0 0
  red : ∀ i j, i < L.n → j < L.n → Eqv L L i j → i = j
  reach : ∀ i, i < L.n → ∃ w, Wd L.k w ∧ L.run 0 w = i
  le : L.n ≤ M.n
theorem IsL.p {M L : Mach} (hM : M.Ok) (h : IsL M L) : LeastP M L := by
  obtain ⟨g, R, rfl⟩ := h
  have hn := leastOf_n hM R
  have kk : (leastOf M g).k = M.k := rfl
  have ok : (leastOf M g).Ok := by
    refine ⟨by rw [hn]; exact ordA_pos _, ?_, ?_, ?_⟩
    · rw [hn]; exact List.length_map ..
    · intro r hr
      obtain ⟨x, hx, rfl⟩ := List.mem_map.mp hr
      obtain ⟨j, hj, rfl⟩ := List.mem_iff_getElem.mp hx
      have hs : (ordA M g M.n)[j] < M.mv.length := by rw [hM.len]; exact (ordA_rep hM R _ _ hx).1
      refine ⟨by rw [List.length_map]; exact (hM.row _ (getD_mem hs)).1, fun y hy => ?_⟩
      obtain ⟨t, ht, rfl⟩ := List.mem_map.mp hy
      rw [hn]
      refine List.idxOf_lt_length_iff.mpr (ordA_full hM R hj (x := t) ?_)
      rw [getD_lt hj]; exact ht
    · intro y hy
      obtain ⟨x, hx, rfl⟩ := List.mem_map.mp hy
      exact hM.ou_lt (ordA_rep hM R _ _ hx).1
  have e0 : Eqv (leastOf M g) M 0 0 := by
    have h1 := leastOf_eqv hM R (ordA_pos M.n)
    rw [ordA_zero] at h1
    exact h1.trans kk (R.eq 0 hM.pos)
  have red : ∀ i j, i < (leastOf M g).n → j < (leastOf M g).n → Eqv (leastOf M g) (leastOf M g) i j → i = j := by
    intro i j hi hj e
    rw [hn] at hi hj
    have h1 : Eqv M M ((ordA M g M.n).getD i 0) ((ordA M g M.n).getD j 0) := ((leastOf_eqv hM R hi).symm kk).trans kk.symm (e.trans rfl (leastOf_eqv hM R hj))
    have ri := ordA_rep hM R _ _ (getD_mem (d := 0) hi)
    have rj := ordA_rep hM R _ _ (getD_mem (d := 0) hj)
    have h2 := R.same _ _ ri.1 rj.1 h1
    rw [ri.2, rj.2, getD_lt hi, getD_lt hj] at h2
    exact (List.getElem_inj (ordA_nodup hM R _)).mp h2
  refine ⟨ok, rfl, rfl, e0, red, fun i hi => ?_, by rw [hn]; exact ordA_len hM R _⟩
  have hi' := hi
  rw [hn] at hi'
  obtain ⟨w, hw, ew⟩ := ordA_reach hM R M.n _ (getD_mem (d := 0) hi')
  refine ⟨w, hw, red _ _ (ok.run_lt _ ok.pos) hi ?_⟩
  have h1 : Eqv (leastOf M g) M ((leastOf M g).run 0 w) (M.run 0 w) := e0.run hw
  exact h1.trans kk (ew.trans rfl ((leastOf_eqv hM R hi').symm kk))

/-! ### two machines that answer alike have one least machine -/
section
variable {M N : Mach} {g h : List Nat} (hM : M.Ok) (hN : N.Ok) (R : Rep M g) (S : Rep N h) (hk : M.k = N.k)
/-- pairs of marks that answer alike -/
structure PairsOk (M N : Mach) (g h : List Nat) (P : List (Nat × Nat)) : Prop where
  e : ∀ p ∈ P, Eqv M N p.1 p.2
  l : ∀ p ∈ P, p.1 < M.n ∧ g.getD p.1 0 = p.1
  r : ∀ p ∈ P, p.2 < N.n ∧ h.getD p.2 0 = p.2
include hM hN R S hk
theorem pair_iff {p : Nat × Nat} (e : Eqv M N p.1 p.2) (l : p.1 < M.n ∧ g.getD p.1 0 = p.1) (r : p.2 < N.n ∧ h.getD p.2 0 = p.2) {x y : Nat} (hx : x < M.n) (hy : y < N.n) (exy : Eqv M N x y) : p.1 = g.getD x 0 ↔ p.2 = h.getD y 0 := by
  constructor
  · intro q
    have h1 : Eqv M M p.1 x := q ▸ R.eq x hx
    have h2 : Eqv N N p.2 y := (e.symm hk).trans hk.symm (h1.trans rfl exy)
    rw [← r.2]
    exact S.same _ _ r.1 hy h2
  · intro q
    have h1 : Eqv N N p.2 y := q ▸ S.eq y hy
    have h2 : Eqv M M p.1 x := e.trans hk (h1.trans rfl (exy.symm hk))
    rw [← l.2]
    exact R.same _ _ l.1 hx h2
theorem pairs_mem {P : List (Nat × Nat)} (hP : PairsOk M N g h P) {x y : Nat} (hx : x < M.n) (hy : y < N.n) (exy : Eqv M N x y) : g.getD x 0 ∈ P.map (·.1) ↔ h.getD y 0 ∈ P.map (·.2) := by
  constructor
  · intro q
    obtain ⟨p, hp, e⟩ := List.mem_map.mp q
    exact List.mem_map.mpr ⟨p, hp, (pair_iff hM hN R S hk (hP.e p hp) (hP.l p hp) (hP.r p hp) hx hy exy).mp e⟩
  · intro q
    obtain ⟨p, hp, e⟩ := List.mem_map.mp q
    exact List.mem_map.mpr ⟨p, hp, (pair_iff hM hN R S hk (hP.e p hp) (hP.l p hp) (hP.r p hp) hx hy exy).mpr e⟩
theorem pairs_idx : ∀ {P : List (Nat × Nat)}, PairsOk M N g h P → ∀ {x y : Nat}, x < M.n → y < N.n → Eqv M N x y → (P.map (·.1)).idxOf (g.getD x 0) = (P.map (·.2)).idxOf (h.getD y 0)
  | [], _, _, _, _, _, _ => rfl
  | p :: P, hP, x, y, hx, hy, exy => by
    have ih := pairs_idx (P := P) ⟨fun q hq => hP.e q (List.mem_cons_of_mem _ hq), fun q hq => hP.l q (List.mem_cons_of_mem _ hq), fun q hq => hP.r q (List.mem_cons_of_mem _ hq)⟩ hx hy exy
    have it := pair_iff hM hN R S hk (hP.e p List.mem_cons_self) (hP.l p List.mem_cons_self) (hP.r p List.mem_cons_self) hx hy exy
    rw [List.map_cons, List.map_cons, List.idxOf_cons, List.idxOf_cons, ih]
    by_cases q : p.1 = g.getD x 0
    · rw [beq_iff_eq.mpr q, beq_iff_eq.mpr (it.mp q)]
    · rw [beq_eq_false_iff_ne.mpr q, beq_eq_false_iff_ne.mpr fun z => q (it.mpr z)]
/-- rows that answer alike, place by place -/
def RowsEq (M N : Mach) (r1 r2 : List Nat) : Prop := r1.length = r2.length ∧ (∀ x ∈ r1, x < M.n) ∧ (∀ y ∈ r2, y < N.n) ∧ ∀ i, i < r1.length → Eqv M N (r1.getD i 0) (r2.getD i 0)
omit hM hN R S hk in
theorem RowsEq.tail {x y : Nat} {r1 r2 : List Nat} (q : RowsEq M N (x :: r1) (y :: r2)) : x < M.n ∧ y < N.n ∧ Eqv M N x y ∧ RowsEq M N r1 r2 :=
  ⟨q.2.1 x List.mem_cons_self, q.2.2.1 y List.mem_cons_self, q.2.2.2 0 (by simp), by have := q.1; simpa using this, fun z hz => q.2.1 z (List.mem_cons_of_mem _ hz), fun z hz => q.2.2.1 z (List.mem_cons_of_mem _ hz), fun i hi => q.2.2.2 (i + 1) (by simpa using hi)⟩
theorem scan_pairs : ∀ (r1 r2 : List Nat) (P : List (Nat × Nat)), RowsEq M N r1 r2 → PairsOk M N g h P → ∃ P', PairsOk M N g h P' ∧ scanRow g (P.map (·.1)) r1 = P'.map (·.1) ∧ scanRow h (P.map (·.2)) r2 = P'.map (·.2)
  | [], [], P, _, hP => ⟨P, hP, rfl, rfl⟩
  | [], y :: r2, P, q, _ => by have := q.1; simp at this
  | x :: r1, [], P, q, _ => by have := q.1; simp at this
  | x :: r1, y :: r2, P, q, hP => by
    obtain ⟨hx, hy, exy, q⟩ := q.tail
    rw [scanRow_cons, scanRow_cons]
    have it := pairs_mem hM hN R S hk hP hx hy exy
    by_cases z : g.getD x 0 ∈ P.map (·.1)
    · rw [if_pos z, if_pos (it.mp z)]
      exact scan_pairs r1 r2 P q hP
    · rw [if_neg z, if_neg fun c => z (it.mpr c)]
      have := scan_pairs r1 r2 (P ++ [(g.getD x 0, h.getD y 0)]) q ⟨fun p hp => ?_, fun p hp => ?_, fun p hp => ?_⟩
      · simpa using this
      all_goals
        rcases List.mem_append.mp hp with hp | hp
      · exact hP.e p hp
      · rw [List.mem_singleton.mp hp]
        exact (R.eq x hx).trans rfl (exy.trans hk ((S.eq y hy).symm rfl))
      · exact hP.l p hp
      · rw [List.mem_singleton.mp hp]
        exact ⟨R.lt x hx, R.idem hx⟩
      · exact hP.r p hp
      · rw [List.mem_singleton.mp hp]
        exact ⟨S.lt y hy, S.idem hy⟩
theorem rows_eq {p : Nat × Nat} (e : Eqv M N p.1 p.2) (l : p.1 < M.n) (r : p.2 < N.n) : RowsEq M N (M.mv.getD p.1 []) (N.mv.getD p.2 []) := by
  have h1 := hM.row _ (getD_mem (d := []) (i := p.1) (by rw [hM.len]; exact l))
  have h2 := hN.row _ (getD_mem (d := []) (i := p.2) (by rw [hN.len]; exact r))
  exact ⟨by rw [h1.1, h2.1, hk], h1.2, h2.2, fun i hi => e.step (by rw [← h1.1]; exact hi)⟩
theorem ord_pairs (e0 : Eqv M N 0 0) : ∀ i, ∃ P, PairsOk M N g h P ∧ ordA M g i = P.map (·.1) ∧ ordA N h i = P.map (·.2)
  | 0 => ⟨[(g.getD 0 0, h.getD 0 0)], ⟨fun p hp => by
      rw [List.mem_singleton.mp hp]
      exact (R.eq 0 hM.pos).trans rfl (e0.trans hk ((S.eq 0 hN.pos).symm rfl)), fun p hp => by
      rw [List.mem_singleton.mp hp]
      exact ⟨R.lt 0 hM.pos, R.idem hM.pos⟩, fun p hp => by
      rw [List.mem_singleton.mp hp]
      exact ⟨S.lt 0 hN.pos, S.idem hN.pos⟩⟩, rfl, rfl⟩
  | i + 1 => by
    obtain ⟨P, hP, e1, e2⟩ := ord_pairs e0 i
    by_cases q : i < P.length
    · have q1 : i < (ordA M g i).length := by rw [e1, List.length_map]; exact q
      have q2 : i < (ordA N h i).length := by rw [e2, List.length_map]; exact q
      rw [ordA_go q1, ordA_go q2, e1, e2]
      have x1 : (P.map (·.1)).getD i 0 = P[i].1 := by rw [getD_lt (by rw [List.length_map]; exact q), List.getElem_map]
      have x2 : (P.map (·.2)).getD i 0 = P[i].2 := by rw [getD_lt (by rw [List.length_map]; exact q), List.getElem_map]
      rw [x1, x2]
      have hm : P[i] ∈ P := List.getElem_mem q
      exact scan_pairs hM hN R S hk _ _ P (rows_eq hM hN R S hk (hP.e _ hm) (hP.l _ hm).1 (hP.r _ hm).1) hP
    · have q1 : ¬ i < (ordA M g i).length := by rw [e1, List.length_map]; exact q
      have q2 : ¬ i < (ordA N h i).length := by rw [e2, List.length_map]; exact q
      rw [ordA_stop q1, ordA_stop q2]
      exact ⟨P, hP, e1, e2⟩
theorem leastOf_same (ho : M.o = N.o) (e0 : Eqv M N 0 0) : leastOf M g = leastOf N h := by
  obtain ⟨P, hP, e1, e2⟩ := ord_pairs hM hN R S hk e0 (max M.n N.n)
  rw [ordA_all hM R (Nat.le_max_left ..)] at e1
  rw [ordA_all hN S (Nat.le_max_right ..)] at e2
  unfold leastOf
  rw [e1, e2, hk, ho]
  congr 1
  · rw [List.map_map, List.map_map]
    refine List.map_congr_left fun p hp => ?_
    have re := rows_eq hM hN R S hk (hP.e p hp) (hP.l p hp).1 (hP.r p hp).1
    show (M.mv.getD p.1 []).map _ = (N.mv.getD p.2 []).map _
    refine List.ext_getElem (by simpa using re.1) fun i h1 h2 => ?_
    rw [List.length_map] at h1 h2
    rw [List.getElem_map, List.getElem_map]
    have := re.2.2.2 i h1
    rw [getD_lt h1, getD_lt h2] at this
    exact pairs_idx hM hN R S hk hP (re.2.1 _ (List.getElem_mem h1)) (re.2.2.1 _ (List.getElem_mem h2)) this
  · rw [List.map_map, List.map_map]
    exact List.map_congr_left fun p hp => (hP.e p hp).ou
end
theorem IsL.same {M N L K : Mach} (hM : M.Ok) (hN : N.Ok) (hk : M.k = N.k) (ho : M.o = N.o) (h : IsL M L) (g : IsL N K) (e : Eqv M N 0 0) : L = K := by
  obtain ⟨a, R, rfl⟩ := h
  obtain ⟨b, S, rfl⟩ := g
  exact leastOf_same hM hN R S hk ho e
/-- the least machine of a least one is itself -/
theorem IsL.idem {M L K : Mach} (hM : M.Ok) (h : IsL M L) (g : IsL L K) : K = L := by
  have p := h.p hM
  exact (IsL.same hM p.ok p.k.symm p.o.symm h g (p.eqv.symm p.k)).symm
end Tk
/-! text D1 -/
set_option maxHeartbeats 4000000
namespace Tk
open PySem L2
def mD (M : Mach) : D := .t [.n M.k, .n M.o, .t (M.mv.map wT), .f (M.out.map D.n)]
def sp_is_word_machines : Sp := fun vs H Q _ => ∃ (N : Fp) (v : V) (w : List Nat) (k : Nat), vs = [v, nV k] ∧ Wf N H ∧ At N H v (wL w) ∧ Wd k w ∧ w.length ≤ 400 ∧ ∀ H', Sm H H' → Q (.bl true) H'
def sp_fits : Sp := fun vs H Q _ => ∃ (N : Fp) (m v : V) (M : Mach) (w : List Nat), vs = [m, v] ∧ Wf N H ∧ At N H m (mD M) ∧ At N H v (wL w) ∧ Wd M.k w ∧ w.length ≤ 400 ∧ ∀ H', Sm H H' → Q (.bl true) H'
def sp_check_fits : Sp := fun vs H Q _ => ∃ (N : Fp) (m v : V) (M : Mach) (w : List Nat), vs = [m, v] ∧ Wf N H ∧ At N H m (mD M) ∧ At N H v (wL w) ∧ Wd M.k w ∧ w.length ≤ 400 ∧ ∀ H', Sm H H' → Q .non H'
def sp_state_after : Sp := fun vs H Q _ => ∃ (N : Fp) (m v : V) (M : Mach) (w : List Nat), vs = [m, v] ∧ Wf N H ∧ At N H m (mD M) ∧ M.Ok ∧ At N H v (wL w) ∧ Wd M.k w ∧ w.length ≤ 400 ∧ ∀ H', Sm H H' → Q (nV (M.run 0 w)) H'
def sp_output_after : Sp := fun vs H Q _ => ∃ (N : Fp) (m v : V) (M : Mach) (w : List Nat), vs = [m, v] ∧ Wf N H ∧ At N H m (mD M) ∧ M.Ok ∧ At N H v (wL w) ∧ Wd M.k w ∧ w.length ≤ 400 ∧ ∀ H', Sm H H' → Q (nV (M.outp 0 w)) H'
theorem word_get {w : List Nat} {i : Nat} {e : D} (h : (w.map D.n)[i]? = some e) : ∃ hi : i < w.length, e = .n w[i] := by
  have hi : i < w.length := by have := (List.getElem?_eq_some_iff.mp h).1; rwa [List.length_map] at this
  rw [List.getElem?_map, List.getElem?_eq_getElem hi] at h
  exact ⟨hi, (Option.some.inj h).symm⟩
theorem map_get {α : Type} {f : α → D} {w : List α} {i : Nat} {e : D} (h : (w.map f)[i]? = some e) : ∃ hi : i < w.length, e = f w[i] := by
  have hi : i < w.length := by have := (List.getElem?_eq_some_iff.mp h).1; rwa [List.length_map] at this
  rw [List.getElem?_map, List.getElem?_eq_getElem hi] at h
  exact ⟨hi, (Option.some.inj h).symm⟩
theorem get_map {α : Type} {f : α → D} {w : List α} {i : Nat} (hi : i < w.length) : (w.map f)[i]? = some (f w[i]) := by
  rw [List.getElem?_map, List.getElem?_eq_getElem hi]; rfl
theorem mv_get {M : Mach} (hM : M.Ok) {s : Nat} (hs : s < M.n) : (M.mv.map wT)[s]? = some (wT (M.mv.getD s [])) := by
  have h : s < M.mv.length := by rw [hM.len]; exact hs
  rw [get_map h, getD_lt h]
theorem row_get {M : Mach} (hM : M.Ok) {s x : Nat} (hs : s < M.n) (hx : x < M.k) : ((M.mv.getD s []).map D.n)[x]? = some (.n (M.st s x)) := by
  have h : s < M.mv.length := by rw [hM.len]; exact hs
  have hl : x < (M.mv.getD s []).length := by rw [(hM.row _ (getD_mem h)).1]; exact hx
  rw [get_map hl]
  unfold Mach.st
  rw [getD_lt hl]
theorem mD_parts {N : Fp} {H : Hp} {x : V} {M : Mach} (h : At N H x (mD M)) : ∃ (a : Addr) (b c : V), x = .ref a ∧ ¬ N a ∧ H a = some (.tup [nV M.k, nV M.o, b, c]) ∧ At N H b (.t (M.mv.map wT)) ∧ At N H c (.f (M.out.map D.n)) := by
  obtain ⟨a, vs, e, na, ha, r⟩ := At.tup h
  cases r with
  | cons h1 r =>
    cases r with
    | cons h2 r =>
      cases r with
      | cons h3 r =>
        cases r with
        | cons h4 r =>
          cases r
          rw [h1.isN, h2.isN] at ha
          exact ⟨a, _, _, e, na, ha, h3, h4⟩
theorem out_get {M : Mach} {s : Nat} (hs : s < M.n) : (M.out.map D.n)[s]? = some (.n (M.ou s)) := by
  rw [get_map hs]
  unfold Mach.ou
  rw [getD_lt hs]
section
variable {P : Program} {w : World} {K : PySem.W.Frag} {mg : Str → Option Value} {base : Heap} {a : Ads} {d : Fds}
theorem ok_is_word_machines (T : TX K mg base a d) : FnOk P w K mg base CX0 1 a.f_is_word_machines d.d_is_word_machines ["word", "letters"] (sp_is_word_machines) := by
  refine T.F_is_word_machines.ok sc_is_word_machines (fun vs H Q E h => ?_) (fun cdv A outer s H vs Q E hr h => ?_)
  · obtain ⟨_, _, _, _, rfl, _⟩ := h
    rfl
  · obtain ⟨N, v, wd, k, rfl, W, hv, hw, hl, q⟩ := h
    have hu := hu_of hr
    refine ⟨_, (pss_one (ps_ret (pe_and (pe_cmpR op_le (pe_callB (cr_lenk K) (by rfl) T.b_len (by decide +kernel) (pa_cons (pv 0) pa_nil)) (pe_glob (v := .int 400) rfl T.c_MAX_WORD ⟨_, rfl⟩) (nomark _)) (pe_one (pe_callB (cr_allk K rfl) (by rfl) T.b_all (by decide +kernel) (pa_cons (peLk K (pe_lc (own := [("letter", 2)]) rfl sc_is_word_machines.nd (pi_listk K (pv 0)) (blkOk_by (own := [("letter", 2)]) (N := N_is_word_machines) (sc := defScope s_is_word_machines) (by decide +kernel)) (fun _ _ _ _ _ => (pg_name (i := 2) sc_is_word_machines.nd rfl (Or.inl rfl))) (fun _ _ _ _ _ => pts_nil) (fun _ _ _ _ _ => (pe_chain op_le op_lt pe_int (pv 2) (pv 1))))) pa_nil)))))), ?_⟩
    refine ⟨_, rfl, lenL hv ?_⟩
    refine ⟨_, _, rfl, rfl, ?_⟩
    refine ⟨_, rfl, ?_⟩
    rw [if_pos (decide_eq_true (by show ((List.map D.n wd).length : Int) ≤ 400; rw [List.length_map]; omega))]
    refine ⟨_, rfl, ?_⟩
    refine lcL wd D.n (fun _ => D.b true) W hv (by omega) (fun _ => rfl) (fun e he z H' N' s' W' _ _ hz R k' => ?_) fun p H' s' hp hr' => ?_
    · rw [hz.isN]
      refine ⟨_, rfl, _, _, rfl, rfl, _, rfl, ?_⟩
      rw [if_pos (decide_eq_true (by omega))]
      refine ⟨_, rfl, _, _, rfl, rfl, k' _ _ (.refl _ _) ?_⟩
      show At N' H' (V.bl (decide ((e : Int) < (k : Int)))) (.b true)
      rw [decide_eq_true (by have := hw e he; omega)]
      exact .b true
    · exact allTrue hr' (q _ s')
theorem ok_fits (T : TX K mg base a d) : FnOk P w K mg base CX0 2 a.f_fits d.d_fits ["machine", "word"] (sp_fits) := by
  refine T.F_fits.ok sc_fits (fun vs H Q E h => ?_) (fun cdv A outer s H vs Q E hr h => ?_)
  · obtain ⟨_, _, _, _, _, rfl, _⟩ := h
    rfl
  · obtain ⟨N, m, v, M, wd, rfl, W, hm, hv, hw, hl, q⟩ := h
    have hu := hu_of hr
    refine ⟨_, (pss_one (ps_ret (pe_call (ok_is_word_machines T) (hr.mono (by decide)) rfl T.g_is_word_machines T.F_is_word_machines.kp T.B_is_word_machines .nil pass0 (pa_cons (pv 1) (pa_cons (pe_ix (ix_tupk K) (pv 0) pe_int (fun _ _ => rfl)) pa_nil))))), ?_⟩
    refine ⟨_, rfl, _, rfl, ixT 0 hm rfl rfl fun z hz => ?_⟩
    rw [hz.isN]
    exact ⟨N, v, wd, M.k, rfl, W, hv, hw, hl, q⟩
theorem ok_check_fits (T : TX K mg base a d) : FnOk P w K mg base CX0 3 a.f_check_fits d.d_check_fits ["machine", "word"] (sp_check_fits) := by
  refine T.F_check_fits.ok sc_check_fits (fun vs H Q E h => ?_) (fun cdv A outer s H vs Q E hr h => ?_)
  · obtain ⟨_, _, _, _, _, rfl, _⟩ := h
    rfl
  · obtain ⟨N, m, v, M, wd, rfl, W, hm, hv, hw, hl, q⟩ := h
    have hu := hu_of hr
    refine ⟨_, (pss_one (ps_if (pt_not (pt_val (pe_call (ok_fits T) (hr.mono (by decide)) rfl T.g_fits T.F_fits.kp T.B_fits .nil pass0 (pa_cons (pv 0) (pa_cons (pv 1) pa_nil))))) (pss_one ps_never) pss_nil)), ?_⟩
    refine ⟨_, rfl, _, rfl, N, m, v, M, wd, rfl, W, hm, hv, hw, hl, fun H' s' => ?_⟩
    exact ⟨_, rfl, q H' s'⟩
theorem ok_state_after (T : TX K mg base a d) : FnOk P w K mg base CX0 4 a.f_state_after d.d_state_after ["machine", "word"] (sp_state_after) := by
  refine T.F_state_after.ok sc_state_after (fun vs H Q E h => ?_) (fun cdv A outer s H vs Q E hr h => ?_)
  · obtain ⟨_, _, _, _, _, rfl, _⟩ := h
    rfl
  · obtain ⟨N, m, v, M, wd, rfl, W, hm, hM, hv, hw, hl, q⟩ := h
    have hu := hu_of hr
    refine ⟨_, (pss_cons (ps_expr (pe_call (ok_check_fits T) (hr.mono (by decide)) rfl T.g_check_fits T.F_check_fits.kp T.B_check_fits .nil pass0 (pa_cons (pv 0) (pa_cons (pv 1) pa_nil))))
    (pss_cons (ps_set (i := 2) sc_state_after.nd rfl (Or.inl rfl) pe_int)
    (pss_cons (ps_forL PassesOwn.never rfl (pv 1) (pg_name (i := 3) sc_state_after.nd rfl (Or.inl rfl)) (pss_one (ps_set (i := 2) sc_state_after.nd rfl (Or.inl rfl) (pe_ix (ix_tupk K) (pe_ix (ix_tupk K) (pe_ix (ix_tupk K) (pv 0) pe_int (fun _ _ => rfl)) (pv 2) (fun _ _ => rfl)) (pv 3) (fun _ _ => rfl)))))
    (pss_one (ps_ret (pv 2)))))), ?_⟩
    refine ⟨_, rfl, _, rfl, N, m, v, M, wd, rfl, W, hm, hv, hw, hl, fun H1 s1 => ?_⟩
    refine ⟨_, rfl, ?_⟩
    refine forL (N := N) (hv.sm s1) (fun i σ H2 => Sm H1 H2 ∧ ∃ z, σ = [some m, some v, some (nV (M.run 0 (wd.take i))), z]) ⟨.refl _ _, none, rfl⟩ (fun i σ' H' h => .of h.1) ?_ ?_
    · rintro i e z σ' H' he hz ⟨s2, y, rfl⟩
      obtain ⟨hi, rfl⟩ := word_get he
      rw [hz.isN]
      have hr1 : M.run 0 (wd.take i) < M.n := hM.run_lt _ hM.pos
      have hm2 := (hm.sm s1).sm s2
      refine ⟨_, rfl, ixT 2 hm2 rfl rfl fun z1 h1 => ⟨_, rfl, ixT _ h1 (mv_get hM hr1) rfl fun z2 h2 => ⟨_, rfl, ixT _ h2 (row_get hM hr1 (hw _ (List.getElem_mem hi))) rfl fun z3 h3 => ?_⟩⟩⟩
      rw [h3.isN]
      refine ⟨s2, some (nV wd[i]), ?_⟩
      rw [List.take_succ_eq_append_getElem hi, Mach.run_append]
      rfl
    · rintro σ' H' ⟨s2, y, rfl⟩
      refine ⟨_, rfl, ?_⟩
      rw [List.length_map, List.take_of_length_le (Nat.le_refl _)]
      exact q _ (s1.trans s2)
theorem ok_output_after (T : TX K mg base a d) : FnOk P w K mg base CX0 5 a.f_output_after d.d_output_after ["machine", "word"] (sp_output_after) := by
  refine T.F_output_after.ok sc_output_after (fun vs H Q E h => ?_) (fun cdv A outer s H vs Q E hr h => ?_)
  · obtain ⟨_, _, _, _, _, rfl, _⟩ := h
    rfl
  · obtain ⟨N, m, v, M, wd, rfl, W, hm, hM, hv, hw, hl, q⟩ := h
    have hu := hu_of hr
    refine ⟨_, (pss_one (ps_ret (pe_ix (ix_tupk K) (pe_ix (ix_tupk K) (pv 0) pe_int (fun _ _ => rfl)) (pe_call (ok_state_after T) (hr.mono (by decide)) rfl T.g_state_after T.F_state_after.kp T.B_state_after .nil pass0 (pa_cons (pv 0) (pa_cons (pv 1) pa_nil))) (fun _ _ => rfl)))), ?_⟩
    refine ⟨_, rfl, ixT 3 hm rfl rfl fun z hz => ⟨_, rfl, _, rfl, N, m, v, M, wd, rfl, W, hm, hM, hv, hw, hl, fun H1 s1 => ?_⟩⟩
    refine ixF (M.run 0 wd) (hz.sm s1) (out_get (hM.run_lt wd hM.pos)) rfl fun y hy => ?_
    rw [hy.isN]
    exact q _ s1
end
end Tk
/-! text MC -/
namespace Tk
/-! one turn of the refinement -/
def sgn (M : Mach) (g : List Nat) (s : Nat) : Nat × List Nat := (g.getD s 0, (List.range M.k).map fun a => g.getD (M.st s a) 0)
def fst1 (M : Mach) (g : List Nat) (s : Nat) : Nat := ((List.range (s + 1)).find? fun t => decide (sgn M g t = sgn M g s)).getD 0
theorem find_self (M : Mach) (g : List Nat) (s : Nat) : ∃ t, (List.range (s + 1)).find? (fun t => decide (sgn M g t = sgn M g s)) = some t := by
  cases h : (List.range (s + 1)).find? (fun t => decide (sgn M g t = sgn M g s)) with
  | some t => exact ⟨t, rfl⟩
  | none =>
    rw [List.find?_eq_none] at h
    have := h s (List.mem_range.mpr (Nat.lt_succ_self s))
    simp at this
theorem fst1_is (M : Mach) (g : List Nat) (s : Nat) : (List.range (s + 1)).find? (fun t => decide (sgn M g t = sgn M g s)) = some (fst1 M g s) := by
  obtain ⟨t, h⟩ := find_self M g s
  unfold fst1
  rw [h]; rfl
theorem fst1_spec (M : Mach) (g : List Nat) (s : Nat) : fst1 M g s ≤ s ∧ sgn M g (fst1 M g s) = sgn M g s ∧ ∀ t, t < fst1 M g s → sgn M g t ≠ sgn M g s := by
  have h := fst1_is M g s
  rw [List.find?_range_eq_some] at h
  obtain ⟨h1, h2, h3⟩ := h
  rw [List.mem_range] at h2
  refine ⟨by omega, by simpa using h1, fun t ht => by simpa using h3 t ht⟩
theorem fst1_same {M : Mach} {g : List Nat} {s t : Nat} (h : sgn M g s = sgn M g t) : fst1 M g s = fst1 M g t := by
  obtain ⟨a1, a2, a3⟩ := fst1_spec M g s
  obtain ⟨b1, b2, b3⟩ := fst1_spec M g t
  rcases Nat.lt_trichotomy (fst1 M g s) (fst1 M g t) with l | l | l
  · exact absurd (a2.trans h) (b3 _ l)
  · exact l
  · exact absurd (b2.trans h.symm) (a3 _ l)
theorem sgn_iff {M : Mach} (hM : M.Ok) {g : List Nat} {i : Nat} (R : RepI M i g) {s t : Nat} (hs : s < M.n) (ht : t < M.n) : sgn M g s = sgn M g t ↔ Eqi M (i + 1) s t := by
  have tr : ∀ {x y z}, Eqi M i x y → Eqi M i y z → Eqi M i x z := fun a b w hw hl => (a w hw hl).trans (b w hw hl)
  have sy : ∀ {x y}, Eqi M i x y → Eqi M i y x := fun a w hw hl => (a w hw hl).symm
  have rep : ∀ {x y}, x < M.n → y < M.n → g.getD x 0 = g.getD y 0 → Eqi M i x y := fun {x y} hx hy e => tr (sy (R.eq x hx)) (e ▸ R.eq y hy)
  constructor
  · intro h w hw hl
    unfold sgn at h
    injection h with h1 h2
    cases w with
    | nil => exact rep hs ht h1 [] Wd.nil (Nat.zero_le _)
    | cons a w =>
      have ha : a < M.k := hw.head
      have e : g.getD (M.st s a) 0 = g.getD (M.st t a) 0 := by
        have := congrArg (fun l => l[a]?) h2
        simpa [ha] using this
      exact rep (hM.st_lt _ _) (hM.st_lt _ _) e w hw.tail (by simp at hl; omega)
  · intro h
    unfold sgn
    have e1 : g.getD s 0 = g.getD t 0 := R.same s t hs ht fun w hw hl => h w hw (by omega)
    rw [e1]
    congr 1
    refine List.map_congr_left fun a ha => ?_
    exact R.same _ _ (hM.st_lt _ _) (hM.st_lt _ _) fun w hw hl => h (a :: w) (Wd.cons (List.mem_range.mp ha) hw) (by simp; omega)
theorem refined_rep {M : Mach} (hM : M.Ok) {g : List Nat} {i : Nat} (R : RepI M i g) : RepI M (i + 1) ((List.range M.n).map (fst1 M g)) := by
  have at_ : ∀ s, s < M.n → ((List.range M.n).map (fst1 M g)).getD s 0 = fst1 M g s := fun s hs => by
    rw [getD_lt (by simp; exact hs), List.getElem_map, List.getElem_range]
  refine ⟨by simp, fun s hs => ?_, fun s hs => ?_, fun s t hs ht e => ?_⟩
  · rw [at_ s hs]
    have := (fst1_spec M g s).1
    omega
  · rw [at_ s hs]
    have h := fst1_spec M g s
    exact (sgn_iff hM R (by omega) hs).mp h.2.1
  · rw [at_ s hs, at_ t ht]
    exact fst1_same ((sgn_iff hM R hs ht).mpr e)
theorem init_rep {M : Mach} (hM : M.Ok) : RepI M 0 (M.out.map fun y => M.out.idxOf y) := by
  have at_ : ∀ s, s < M.n → (M.out.map fun y => M.out.idxOf y).getD s 0 = M.out.idxOf (M.ou s) := fun s hs => by
    have h : s < M.out.length := hs
    rw [getD_lt (by simp; exact h), List.getElem_map]
    unfold Mach.ou
    rw [getD_lt h]
  have lt : ∀ s, s < M.n → M.out.idxOf (M.ou s) < M.n := fun s hs => List.idxOf_lt_length_iff.mpr (getD_mem hs)
  have ou : ∀ s, s < M.n → M.ou (M.out.idxOf (M.ou s)) = M.ou s := fun s hs => by
    have h : M.out.idxOf (M.ou s) < M.out.length := lt s hs
    show M.out.getD (M.out.idxOf (M.ou s)) 0 = M.ou s
    rw [getD_lt h]
    exact List.getElem_idxOf h
  refine ⟨List.length_map .., fun s hs => by rw [at_ s hs]; exact lt s hs, fun s hs w hw hl => ?_, fun s t hs ht e => ?_⟩
  · rw [at_ s hs]
    have : w = [] := List.length_eq_zero_iff.mp (by omega)
    subst this
    exact ou s hs
  · rw [at_ s hs, at_ t ht]
    have : M.ou s = M.ou t := e [] Wd.nil (Nat.le_refl _)
    rw [this]
end Tk
/-! text D2 -/
set_option maxHeartbeats 4000000
namespace Tk
open PySem L2
def sp_refined : Sp := fun vs H Q _ => ∃ (N : Fp) (m gv : V) (M : Mach) (g : List Nat) (i : Nat), vs = [m, gv] ∧ Wf N H ∧ At N H m (mD M) ∧ M.Ok ∧ M.n ≤ 1000 ∧ M.k ≤ 1000 ∧ At N H gv (.l (g.map D.n)) ∧ RepI M i g ∧
  ∀ (r : V) (H' : Hp) (g' : List Nat), Sm H H' → RepI M (i + 1) g' → At N H' r (.l (g'.map D.n)) → Q r H'
def sp_classes : Sp := fun vs H Q _ => ∃ (N : Fp) (m : V) (M : Mach), vs = [m] ∧ Wf N H ∧ At N H m (mD M) ∧ M.Ok ∧ M.n ≤ 1000 ∧ M.k ≤ 1000 ∧
  ∀ (r : V) (H' : Hp) (g : List Nat), Sm H H' → Rep M g → At N H' r (.l (g.map D.n)) → Q r H'
def sp_met_states : Sp := fun vs H Q _ => ∃ (N : Fp) (m gv : V) (M : Mach) (g : List Nat), vs = [m, gv] ∧ Wf N H ∧ At N H m (mD M) ∧ M.Ok ∧ M.n ≤ 1000 ∧ M.k ≤ 1000 ∧ At N H gv (.l (g.map D.n)) ∧ Rep M g ∧
  ∀ (r : V) (H' : Hp), Sm H H' → At N H' r (.l ((ordA M g M.n).map D.n)) → Q r H'
def sp_least : Sp := fun vs H Q _ => ∃ (N : Fp) (m : V) (M : Mach), vs = [m] ∧ Wf N H ∧ At N H m (mD M) ∧ M.Ok ∧ M.n ≤ 1000 ∧ M.k ≤ 1000 ∧
  ∀ (r : V) (H' : Hp) (L : Mach), Sm H H' → IsL M L → At N H' r (mD L) → Q r H'
def sgDn (M : Mach) (g : List Nat) (j : Nat) (kvs : List (SG × Nat)) : Prop := kvs.length ≤ j ∧ ∀ q : SG, sgLook kvs q = (List.range j).find? fun t => decide (sgn M g t = q)
theorem sgDn_zero (M : Mach) (g : List Nat) : sgDn M g 0 [] := ⟨Nat.le_refl _, fun _ => rfl⟩
theorem sgLook_snoc (kvs : List (SG × Nat)) (k : SG) (n : Nat) (q : SG) : sgLook (kvs ++ [(k, n)]) q = (sgLook kvs q).or (if k = q then some n else none) := by
  unfold sgLook
  rw [List.find?_append]
  cases h : kvs.find? fun p => decide (p.1 = q) with
  | some p => rfl
  | none =>
    by_cases e : k = q
    · simp [e, List.find?_cons]
    · simp [e, List.find?_cons]
theorem find_succ (M : Mach) (g : List Nat) (j : Nat) (q : SG) : ((List.range (j + 1)).find? fun t => decide (sgn M g t = q)) = ((List.range j).find? fun t => decide (sgn M g t = q)).or (if sgn M g j = q then some j else none) := by
  rw [List.range_succ, List.find?_append]
  congr 1
  by_cases e : sgn M g j = q
  · simp [e, List.find?_cons]
  · simp [e, List.find?_cons]
theorem sgDn_new {M : Mach} {g : List Nat} {j : Nat} {kvs : List (SG × Nat)} (h : sgDn M g j kvs) : sgDn M g (j + 1) (kvs ++ [(sgn M g j, j)]) :=
  ⟨by rw [List.length_append, List.length_singleton]; exact Nat.succ_le_succ h.1, fun q => by rw [sgLook_snoc, h.2, find_succ]⟩
theorem sgDn_old {M : Mach} {g : List Nat} {j n : Nat} {kvs : List (SG × Nat)} (h : sgDn M g j kvs) (e : sgLook kvs (sgn M g j) = some n) : sgDn M g (j + 1) kvs :=
  ⟨Nat.le_succ_of_le h.1, fun q => by
    rw [h.2, find_succ]
    by_cases z : sgn M g j = q
    · rw [← z, ← h.2, e]; rfl
    · rw [if_neg z]; cases ((List.range j).find? fun t => decide (sgn M g t = q)) <;> rfl⟩
section
variable {P : Program} {w : World} {N : Fp} {H : Hp} {d : Addr} {kvs : List (SG × Nat)} {g : SG} {n : Nat} {y v : V} {Q : VK}
theorem NdAt.tr (h : NdAt P w N H d kvs) : H d ≠ none := by
  obtain ⟨xs, a, _⟩ := h
  rw [a]; intro z; cases z
theorem ndNotIn (hN : NdAt P w N H d kvs) (hg : At N H y (sgD g)) (q : Q (.bl (!(sgLook kvs g).isSome)) H) : rNNotIn P w y (.ref d) H Q := by
  unfold rNNotIn
  obtain ⟨a, vs, rfl, na, ha, r⟩ := At.tup hg
  exact ⟨N, d, a, kvs, g, rfl, rfl, hN, hg, q⟩
theorem ndGet (hN : NdAt P w N H d kvs) (hg : At N H y (sgD g)) (hl : sgLook kvs g = some n) (q : Q (nV n) H) : rNGet P w (.ref d) y H Q := by
  unfold rNGet
  obtain ⟨a, vs, rfl, na, ha, r⟩ := At.tup hg
  exact ⟨N, d, a, kvs, g, n, rfl, rfl, hN, hg, hl, q⟩
theorem ndPut {Q : Hp → Prop} (hN : NdAt P w N H d kvs) (hg : At N H y (sgD g)) (hl : sgLook kvs g = none) (hz : kvs.length < 100000) (q : ∀ H', Ev (on d) H H' → NdAt P w N H' d (kvs ++ [(g, n)]) → Q H') : rNPut P w (.ref d) y (nV n) H Q := by
  unfold rNPut
  obtain ⟨a, vs, rfl, na, ha, r⟩ := At.tup hg
  refine ⟨N, d, a, kvs, g, n, rfl, rfl, rfl, hN, hg, hl, hz, fun o h => q _ (.put rfl fun xs e => ?_) h⟩
  obtain ⟨xs', h', _⟩ := h
  rw [upd_same, e] at h'
  cases h'
end
section
variable {P : Program} {w : World} {K : PySem.W.Frag} {mg : Str → Option Value} {base : Heap} {a : Ads} {d : Fds}
theorem ok_refined (T : TX K mg base a d) : FnOk P w K mg base CX0 1 a.f_refined d.d_refined ["machine", "groups"] (sp_refined) := by
  refine T.F_refined.ok sc_refined (fun vs H Q E h => ?_) (fun cdv A outer s H vs Q E hr h => ?_)
  · obtain ⟨_, _, _, _, _, _, rfl, _⟩ := h
    rfl
  · obtain ⟨N, m, gv, M, g, i, rfl, W, hm, hM, hn, hk, hg, R, q⟩ := h
    have hu := hu_of hr
    refine ⟨_, (pss_cons (ps_set (i := 2) sc_refined.nd rfl (Or.inl rfl) (pe_ix (ix_tupk K) (pv 0) pe_int (fun _ _ => rfl)))
    (pss_cons (ps_set (i := 3) sc_refined.nd rfl (Or.inl rfl) (pe_dnewNk P w))
    (pss_cons (ps_set (i := 4) sc_refined.nd rfl (Or.inl rfl) (pe_lstm pa_nil))
    (pss_cons (ps_forET PassesOwn.never rfl (by rfl) T.b_enumerate (pa_cons (pe_ix (ix_tupk K) (pv 0) pe_int (fun _ _ => rfl)) pa_nil) (pg_tup rfl (pgs_cons (pg_name (i := 5) sc_refined.nd rfl (Or.inl rfl)) (pgs_cons (pg_name (i := 6) sc_refined.nd rfl (Or.inr rfl)) pgs_nil))) (pss_cons (ps_set (i := 7) sc_refined.nd rfl (Or.inl rfl) (pe_tupm (pa_cons (pe_ix (ix_listk K) (pv 1) (pv 5) (fun _ _ => rfl)) (pa_cons (pe_callTy (cr_tupk K) (by rfl) T.b_tuple (by decide +kernel) (pa_cons (peR (pe_lc (own := [("letter", 8)]) rfl sc_refined.nd (pi_range1 rfl T.b_range (pa_cons (pv 2) pa_nil)) (blkOk_by (own := [("letter", 8)]) (N := N_refined) (sc := defScope s_refined) (by decide +kernel)) (fun _ _ _ _ _ => (pg_name (i := 8) sc_refined.nd rfl (Or.inl rfl))) (fun _ _ _ _ _ => pts_nil) (fun _ _ _ _ _ => (pe_ix (ix_listk K) (pv 1) (pe_ix (ix_tupk K) (pv 6) (pv 8) (fun _ _ => rfl)) (fun _ _ => rfl))))) pa_nil)) pa_nil))))
      (pss_cons (ps_if (pt_cmpR (op_notinNk P w (hu64 hr)) (pv 7) (pv 3) rfl) (pss_one (ps_dputNk P w (hu64 hr) (pv 3) (pv 7) (pv 5))) pss_nil)
      (pss_one (ps_expr (pe_bmk K PySem.F.plainAttrs_list PySem.F.slot_list_append PySem.F.type_list_append mt_appendm (pv 4) (pa_cons (pe_dgetNk P w (hu64 hr) (pv 3) (pv 7) (fun _ _ => rfl)) pa_nil)))))))
    (pss_one (ps_ret (pv 4))))))), ?_⟩
    refine ⟨_, rfl, ixT 0 hm rfl rfl fun z hz => ?_⟩
    rw [hz.isN]
    intro fd hfd
    have s1 : Sm H (upd H fd (NdO P w fd [])) := .new hfd
    have e1 : upd H fd (NdO P w fd []) fd = some (NdO P w fd []) := upd_same
    generalize upd H fd (NdO P w fd []) = H1 at s1 e1
    refine mkLw (by decide) fun rs hrs => ?_
    have s2 : Sm H1 (upd H1 rs (.lst [])) := .new hrs
    have nfr : fd ≠ rs := fun e => by rw [← e, e1] at hrs; cases hrs
    have e2 : upd H1 rs (.lst []) rs = some (.lst []) := upd_same
    generalize upd H1 rs (.lst []) = H2 at s2 e2
    have W2 : Wf (ad rs (ad fd N)) H2 := ((((W.ev s1).ad e1).ev s2).ad e2)
    have nd2 : NdAt P w (ad rs (ad fd N)) H2 fd [] := ⟨[], s2.at e1, rfl, fun _ z => by cases z⟩
    have l2 : Lst (ad rs (ad fd N)) H2 rs [] := ⟨[], e2, .nil⟩
    have hm2 : At (ad rs (ad fd N)) H2 m (mD M) := (hm.ad hfd s1).ad hrs s2
    have hg2 : At (ad rs (ad fd N)) H2 gv (.l (g.map D.n)) := (hg.ad hfd s1).ad hrs s2
    clear hm hg
    have hsub : ∀ b, (b = rs ∨ b = fd) → ad rs (ad fd N) b := fun b z => z.elim .inl fun z => .inr (.inl z)
    refine ⟨_, rfl, ixT 2 hm2 rfl rfl fun z3 h3 => ?_⟩
    refine forET (N := ad rs (ad fd N)) h3 (fun j σ H3 => Ev (fun b => b = rs ∨ b = fd) H2 H3 ∧ (∃ kvs, NdAt P w (ad rs (ad fd N)) H3 fd kvs ∧ sgDn M g j kvs) ∧ Lst (ad rs (ad fd N)) H3 rs (((List.range j).map (fst1 M g)).map D.n) ∧ ∃ x1 x2 x3, σ = [some m, some gv, some (nV M.k), some (.ref fd), some (.ref rs), x1, x2, x3, none]) ⟨.refl _ _, ⟨[], nd2, sgDn_zero M g⟩, l2, none, none, none, rfl⟩ (fun j σ' H' h => h.1.mono hsub) ?_ ?_
    · rintro j e z T' σ' H3 he hz' ⟨ev, ⟨kvs, hN, hD⟩, hL, x1, x2, x3, rfl⟩ hT
      obtain ⟨hj, rfl⟩ := map_get he
      have hjn : j < M.n := by rw [← hM.len]; exact hj
      have hrow : M.mv[j] = M.mv.getD j [] := (getD_lt hj).symm ▸ rfl
      rw [hrow] at hz'
      have s3 : Sm H3 (upd H3 T' (.tup [nV j, z])) := .new hT
      generalize upd H3 T' (.tup [nV j, z]) = H4 at s3
      have ev4 : Ev (fun b => b = rs ∨ b = fd) H2 H4 := ev.trans (.of s3)
      have hN := hN.sm s3
      have hL := hL.sm s3
      have hz' := hz'.sm s3
      have hm4 := hm2.evs ev4 hsub
      have hg4 := hg2.evs ev4 hsub
      have W4 := W2.ev (ev4.mono hsub)
      have gl : ∀ x, x < M.n → (g.map D.n)[x]? = some (.n (g.getD x 0)) := fun x hx => by
        have : x < g.length := by rw [R.len]; exact hx
        rw [get_map this, getD_lt this]
      refine ⟨_, rfl, _, rfl, ixL j hg4 (gl j hjn) rfl fun zg hzg => ?_⟩
      refine ⟨_, rfl, ?_⟩
      refine lcR M.k (fun x => D.n (g.getD (M.st j x) 0)) W4 rfl (by omega) (fun _ => rfl) (fun x hx H5 N5 s5 W5 hs5 hs5' R' k' => ?_) fun p H5 s5 hp hr' => ?_
      · have up : ∀ b o, H4 b = some o → ¬ (ad rs (ad fd N)) b → H5 b = some o ∧ ¬ N5 b := fun b o q n => ⟨s5.at q, fun z => (hs5' b z).elim n fun z => by rw [z] at q; cases q⟩
        refine ⟨_, rfl, _, rfl, _, rfl, ixT x (hz'.go up) (row_get hM hjn hx) rfl fun z1 h1 => ?_⟩
        refine ixL (M.st j x) (hg4.go up) (gl _ (hM.st_lt j x)) h1.isN fun z2 h2 => k' _ _ (.refl _ _) h2
      · refine tupL (W4.ev s5) hr' fun p6 H6 s6 h6 => ?_
        refine mkT ((W4.ev s5).ev s6) (by simp) (.cons ((hzg.sm s5).sm s6) (.cons h6 .nil)) fun p7 H7 s7 h7 => ?_
        have s47 := (s5.trans s6).trans s7
        have ev7 := ev4.trans (.of s47)
        have h7 : At (ad rs (ad fd N)) H7 (.ref p7) (sgD (sgn M g j)) := by
          unfold sgD wT sgn
          rw [List.map_map]
          exact h7
        have hN7 := hN.sm s47
        have hL7 := hL.sm s47
        refine ⟨_, rfl, _, rfl, ndNotIn hN7 h7 ?_⟩
        cases hlk : sgLook kvs (sgn M g j) with
        | none =>
          have hD8 := sgDn_new hD
          have look : sgLook (kvs ++ [(sgn M g j, j)]) (sgn M g j) = some (fst1 M g j) := by rw [hD8.2, fst1_is]
          refine ⟨_, rfl, ifT rfl ?_⟩
          refine ⟨_, rfl, _, rfl, _, rfl, ndPut hN7 h7 hlk (by have := hD.1; omega) fun H8 e8 hN8 => ?_⟩
          have ev8 := ev7.trans (e8.mono fun b z => .inr z)
          have hL8 := hL7.ev e8 (fun b z => .inr (.inl z)) (fun z => nfr z.symm)
          have h8 := h7.evs e8 (fun b z => .inr (.inl z))
          have hfr8 := hN8.tr
          refine ⟨_, rfl, hL8.ty, _, rfl, _, rfl, ndGet hN8 h8 look ?_⟩
          refine appL (N := ad rs (ad fd N)) hL8 (.inl rfl) (.n _) (by simp; omega) fun H9 e9 hL9 => ?_
          refine ⟨ev8.trans (e9.mono fun b z => .inl z), ⟨_, hN8.ev e9 (fun b z => .inl z) (e9.kp' hfr8 (fun z => nfr z)), hD8⟩, ?_, _, _, _, rfl⟩
          rw [List.range_succ, List.map_append, List.map_append]
          exact hL9
        | some n =>
          have hD8 := sgDn_old hD hlk
          have look : sgLook kvs (sgn M g j) = some (fst1 M g j) := by rw [hD8.2, fst1_is]
          refine ⟨_, rfl, ifF rfl ?_⟩
          have hfr7 := hN7.tr
          refine ⟨_, rfl, hL7.ty, _, rfl, _, rfl, ndGet hN7 h7 look ?_⟩
          refine appL (N := ad rs (ad fd N)) hL7 (.inl rfl) (.n _) (by simp; omega) fun H9 e9 hL9 => ?_
          refine ⟨ev7.trans (e9.mono fun b z => .inl z), ⟨_, hN7.ev e9 (fun b z => .inl z) (e9.kp' hfr7 (fun z => nfr z)), hD8⟩, ?_, _, _, _, rfl⟩
          rw [List.range_succ, List.map_append, List.map_append]
          exact hL9
    · rintro σ' H' ⟨ev, ⟨kvs, hN, hD⟩, hL, x1, x2, x3, rfl⟩
      rw [List.length_map, hM.len] at hL
      refine ⟨_, rfl, q (.ref rs) H' _ ((s1.trans s2).then ev ?_) (refined_rep hM R) (hL.at (N' := N) ?_ ?_)⟩
      · rintro b (rfl | rfl)
        · exact .inr (s1.free hrs)
        · exact .inr hfd
      · exact fun z => W.no (s1.free hrs) z
      · exact fun b z => .inr (.inr z)
theorem ok_classes (T : TX K mg base a d) : FnOk P w K mg base CX0 2 a.f_classes d.d_classes ["machine"] (sp_classes) := by
  refine T.F_classes.ok sc_classes (fun vs H Q E h => ?_) (fun cdv A outer s H vs Q E hr h => ?_)
  · obtain ⟨_, _, _, rfl, _⟩ := h
    rfl
  · obtain ⟨N, m, M, rfl, W, hm, hM, hn, hk, q⟩ := h
    have hu := hu_of hr
    refine ⟨_, (pss_cons (ps_set (i := 1) sc_classes.nd rfl (Or.inr rfl) (pe_ix (ix_tupk K) (pv 0) pe_int (fun _ _ => rfl)))
    (pss_cons (psT (ps_setLc (i := 2) (own := [("output", 4)]) rfl sc_classes.nd rfl rfl (sw_true rfl rfl rfl (by decide +kernel)) (pi_tupk K (pv 1)) (blkOk_by (own := [("output", 4)]) (N := N_classes) (sc := defScope s_classes) (by decide +kernel)) (fun _ _ _ _ _ => (pg_name (i := 4) sc_classes.nd rfl (Or.inl rfl))) (fun _ _ _ _ _ => pts_nil) (fun _ _ _ _ _ => (pe_tupIndex (pv 1) (pv 4) ⟨rfl, rfl, rfl, rfl⟩))))
    (pss_cons (ps_forR PassesOwn.never rfl rfl T.b_range (pa_cons (pe_callB (cr_lenk K) (by rfl) T.b_len (by decide +kernel) (pa_cons (pv 1) pa_nil)) pa_nil) (pg_name (i := 3) sc_classes.nd rfl (Or.inl rfl)) (pss_one (ps_set (i := 2) sc_classes.nd rfl (Or.inl rfl) (pe_call (ok_refined T) (hr.mono (by decide)) rfl T.g_refined T.F_refined.kp T.B_refined .nil pass0 (pa_cons (pv 0) (pa_cons (pv 2) pa_nil))))))
    (pss_one (ps_ret (pv 2)))))), ?_⟩
    refine ⟨_, rfl, ixT 3 hm rfl rfl fun z hz => ?_⟩
    refine ⟨_, rfl, ?_⟩
    refine lcF M.out D.n (fun o => D.n (M.out.idxOf o)) W hz (by have : M.n = M.out.length := rfl; omega) (fun _ => rfl) (fun x hx y H' N' s' W' hs' _ hy R k' => ?_) fun p H1 s1 hp hr' => ?_
    · have hz' := (hz.sm s')
      refine ⟨_, rfl, tidx0 hz', _, rfl, tidx hz' (hy.sub hs') hx (k' _ _ (.refl _ _) (.n _))⟩
    · have e0 : M.out.map (fun o => D.n (M.out.idxOf o)) = (M.out.map M.out.idxOf).map D.n := by rw [List.map_map]; rfl
      rw [e0] at hr'
      refine ⟨_, rfl, lenF (hz.sm s1) ?_⟩
      refine forR M.n (by rw [List.length_map]; rfl) (by omega) (fun i σ H' => Sm H H' ∧ ∃ gv g x, At N H' gv (.l (g.map D.n)) ∧ RepI M i g ∧ σ = [some m, some z, some gv, x, none]) ⟨s1, _, _, none, hr', init_rep hM, rfl⟩ ?_ ?_
      · rintro i σ' H' hi ⟨s', gv, g, x, hg, R, rfl⟩
        exact ⟨_, rfl, _, rfl, N, m, gv, M, g, i, rfl, W.ev s', hm.sm s', hM, hn, hk, hg, R, fun r H2 g' s2 R' hr2 => ⟨s'.trans s2, r, g', _, hr2, R', rfl⟩⟩
      · rintro σ' H' ⟨s', gv, g, x, hg, R, rfl⟩
        exact ⟨_, rfl, q _ _ g s' (R.rep hM (by omega)) hg⟩
theorem ok_met_states (T : TX K mg base a d) : FnOk P w K mg base CX0 1 a.f_met_states d.d_met_states ["machine", "groups"] (sp_met_states) := by
  refine T.F_met_states.ok sc_met_states (fun vs H Q E h => ?_) (fun cdv A outer s H vs Q E hr h => ?_)
  · obtain ⟨_, _, _, _, _, rfl, _⟩ := h
    rfl
  · obtain ⟨N, m, gv, M, g, rfl, W, hm, hM, hn, hk, hg, R, q⟩ := h
    have hu := hu_of hr
    refine ⟨_, (pss_cons (ps_set (i := 2) sc_met_states.nd rfl (Or.inl rfl) (pe_lstm (pa_cons (pe_ix (ix_listk K) (pv 1) pe_int (fun _ _ => rfl)) pa_nil)))
    (pss_cons (ps_set (i := 3) sc_met_states.nd rfl (Or.inl rfl) pe_int)
    (pss_cons (ps_while PassesOwn.never (pt_cmpR op_lt (pv 3) (pe_callB (cr_lenk K) (by rfl) T.b_len (by decide +kernel) (pa_cons (pv 2) pa_nil)) (nomark _)) (pss_cons (ps_forT PassesOwn.never rfl (pe_ix (ix_tupk K) (pe_ix (ix_tupk K) (pv 0) pe_int (fun _ _ => rfl)) (pe_ix (ix_listk K) (pv 2) (pv 3) (fun _ _ => rfl)) (fun _ _ => rfl)) (pg_name (i := 4) sc_met_states.nd rfl (Or.inl rfl)) (pss_one (ps_if (pt_cmpR (op_notInk K) (pe_ix (ix_listk K) (pv 1) (pv 4) (fun _ _ => rfl)) (pv 2) rfl) (pss_one (ps_expr (pe_bmk K PySem.F.plainAttrs_list PySem.F.slot_list_append PySem.F.type_list_append mt_appendm (pv 2) (pa_cons (pe_ix (ix_listk K) (pv 1) (pv 4) (fun _ _ => rfl)) pa_nil)))) pss_nil)))
      (pss_one (ps_aug (i := 3) sc_met_states.nd rfl (Or.inl rfl) pe_int ip_add))))
    (pss_one (ps_ret (pv 2)))))), ?_⟩
    have gl : ∀ x, x < M.n → (g.map D.n)[x]? = some (.n (g.getD x 0)) := fun x hx => by
      have : x < g.length := by rw [R.len]; exact hx
      rw [get_map this, getD_lt this]
    refine ⟨_, rfl, ixL 0 hg (gl 0 hM.pos) rfl fun z hz => mkLw (by simp) fun l hl => ?_⟩
    rw [hz.isN]
    have s1 : Sm H (upd H l (.lst [nV (g.getD 0 0)])) := .new hl
    have L1 : Lst (ad l N) (upd H l (.lst [nV (g.getD 0 0)])) l ((ordA M g 0).map D.n) := .new (.refl _ _) hl (.cons (.n _) .nil)
    generalize upd H l (.lst [nV (g.getD 0 0)]) = H1 at s1 L1
    have hsub : ∀ b, on l b → ad l N b := fun b z => .inl z
    have hm1 := hm.ad hl s1
    have hg1 := hg.ad hl s1
    refine whileI M.n (fun i σ H2 => Ev (on l) H1 H2 ∧ Lst (ad l N) H2 l ((ordA M g i).map D.n) ∧ i ≤ M.n ∧ ∃ x, σ = [some m, some gv, some (.ref l), some (nV i), x]) ⟨.refl _ _, L1, by omega, none, rfl⟩ ?_
    · rintro i σ H2 ⟨e2, L2, hi, x, rfl⟩
      refine ⟨_, rfl, _, rfl, lenLs L2 ?_⟩
      refine ⟨_, _, rfl, rfl, _, rfl, ?_⟩
      rw [List.length_map]
      by_cases hlt : i < (ordA M g i).length
      · have hiM : i < M.n := Nat.lt_of_lt_of_le hlt (ordA_len hM R i)
        refine ifT (decide_eq_true (by omega)) (whT hiM ?_)
        have hx0 := (ordA_rep hM R i _ (getD_mem (d := 0) hlt)).1
        refine ⟨_, rfl, ixT 2 (hm1.evs e2 hsub) rfl rfl fun z1 h1 => ⟨_, rfl, _, rfl, ixLs i L2 (by rw [get_map hlt]) rfl fun z2 h2 => ?_⟩⟩
        rw [← getD_lt (d := 0) hlt] at h2
        refine ixT _ h1 (mv_get hM hx0) h2.isN fun z3 h3 => ?_
        have h3g : ∀ y ∈ M.mv.getD ((ordA M g i).getD i 0) [], y < M.n := fun y hy => (hM.row _ (getD_mem (by rw [hM.len]; exact hx0))).2 y hy
        refine forT (N := ad l N) h3 (fun j σ' H3 => Ev (on l) H1 H3 ∧ Ev (on l) H2 H3 ∧ Lst (ad l N) H3 l ((scanRow g (ordA M g i) ((M.mv.getD ((ordA M g i).getD i 0) []).take j)).map D.n) ∧ ∃ x, σ' = [some m, some gv, some (.ref l), some (nV i), x]) ⟨e2, .refl _ _, L2, x, rfl⟩ (fun j σ' H' h => h.2.1.mono hsub) ?_ ?_
        · rintro j e z σ' H3 he hz3 ⟨e3, e23, L3, x', rfl⟩
          obtain ⟨hj, rfl⟩ := map_get he
          have hyn := h3g _ (List.getElem_mem hj)
          have hg3 := hg1.evs e3 hsub
          refine ⟨_, rfl, _, rfl, ixL _ hg3 (gl _ hyn) hz3.isN fun z4 h4 => ⟨_, rfl, ?_⟩⟩
          rw [h4.isN]
          refine notInLs L3 ⟨_, rfl, ?_⟩
          rw [List.take_succ_eq_append_getElem hj, scanRow_append, scanRow_cons, scanRow_nil]
          by_cases hin : g.getD (M.mv.getD ((ordA M g i).getD i 0) [])[j] 0 ∈ scanRow g (ordA M g i) ((M.mv.getD ((ordA M g i).getD i 0) []).take j)
          · rw [if_pos hin]
            exact ifF (by rw [decide_eq_true hin]; rfl) ⟨e3, e23, L3, _, rfl⟩
          · rw [if_neg hin]
            refine ifT (by rw [decide_eq_false hin]; rfl) ?_
            refine ⟨_, rfl, L3.ty, _, rfl, _, rfl, ixL _ hg3 (gl _ hyn) hz3.isN fun z5 h5 => ?_⟩
            rw [h5.isN]
            refine appL (N := ad l N) L3 (.inl rfl) (.n _) ?_ fun H4 e4 L4 => ?_
            · have := List.Nodup.length_le_of_subset (scanRow_nodup g ((M.mv.getD ((ordA M g i).getD i 0) []).take j) _ (ordA_nodup hM R i)) (l₂ := List.range M.n) fun y hy => ?_
              · rw [List.length_range] at this
                rw [List.length_map]; omega
              · rw [List.mem_range]
                rcases scanRow_of _ _ _ _ hy with hy | ⟨y', hy', e'⟩
                · exact (ordA_rep hM R i _ hy).1
                · rw [e']; exact R.lt _ (h3g _ (List.mem_of_mem_take hy'))
            · rw [List.map_append]
              exact ⟨e3.trans e4, e23.trans e4, L4, _, rfl⟩
        · rintro σ' H3 ⟨e3, e23, L3, x', rfl⟩
          rw [List.length_map, List.take_of_length_le (Nat.le_refl _)] at L3
          refine ⟨_, rfl, _, _, rfl, rfl, e3, ?_, by omega, x', rfl⟩
          rw [ordA_go hlt]; exact L3
      · refine ifF (decide_eq_false (by omega)) ?_
        rw [ordA_end hM R hlt] at L2
        refine ⟨_, rfl, q _ _ (s1.then e2 fun b z => .inr (z ▸ hl)) (L2.at (fun z => W.no hl z) fun b z => .inr z)⟩
theorem ok_least (T : TX K mg base a d) : FnOk P w K mg base CX0 3 a.f_least d.d_least ["machine"] (sp_least) := by
  refine T.F_least.ok sc_least (fun vs H Q E h => ?_) (fun cdv A outer s H vs Q E hr h => ?_)
  · obtain ⟨_, _, _, rfl, _⟩ := h
    rfl
  · obtain ⟨N, m, M, rfl, W, hm, hM, hn, hk, q⟩ := h
    have hu := hu_of hr
    refine ⟨_, (pss_cons (ps_asg (pv 0) (pg_tup rfl (pgs_cons (pg_name (i := 1) sc_least.nd rfl (Or.inl rfl)) (pgs_cons (pg_name (i := 2) sc_least.nd rfl (Or.inl rfl)) (pgs_cons (pg_name (i := 3) sc_least.nd rfl (Or.inr rfl)) (pgs_cons (pg_name (i := 4) sc_least.nd rfl (Or.inr rfl)) pgs_nil))))))
    (pss_cons (ps_set (i := 5) sc_least.nd rfl (Or.inr rfl) (pe_call (ok_classes T) (hr.mono (by decide)) rfl T.g_classes T.F_classes.kp T.B_classes .nil pass0 (pa_cons (pv 0) pa_nil)))
    (pss_cons (ps_set (i := 6) sc_least.nd rfl (Or.inr rfl) (pe_call (ok_met_states T) (hr.mono (by decide)) rfl T.g_met_states T.F_met_states.kp T.B_met_states .nil pass0 (pa_cons (pv 0) (pa_cons (pv 5) pa_nil))))
    (pss_cons (ps_set (i := 7) sc_least.nd rfl (Or.inl rfl) (pe_callTy (cr_tupk K) (by rfl) T.b_tuple (by decide +kernel) (pa_cons (peLk K (pe_lc (own := [("old", 8)]) rfl sc_least.nd (pi_listk K (pv 6)) (blkOk_by (own := [("old", 8)]) (N := N_least) (sc := defScope s_least) (by decide +kernel)) (fun _ _ _ _ _ => (pg_name (i := 8) sc_least.nd rfl (Or.inl rfl))) (fun _ _ _ _ _ => pts_nil) (fun _ _ _ _ _ => (pe_callTy (cr_tupk K) (by rfl) T.b_tuple (by decide +kernel) (pa_cons (peTk K (pe_lc (own := [("state", 9)]) rfl sc_least.nd (pi_tupk K (pe_ix (ix_tupk K) (pv 3) (pv 8) (fun _ _ => rfl))) (blkOk_by (own := [("state", 9)]) (N := N_least) (sc := relS _ (defScope s_least)) (by decide +kernel)) (fun _ _ _ _ _ => (pg_name (i := 9) sc_least.nd rfl (Or.inl rfl))) (fun _ _ _ _ _ => pts_nil) (fun _ _ _ _ _ => (pe_bmk K PySem.F.plainAttrs_list PySem.F.slot_list_index PySem.F.type_list_index (mt_indexNk K) (pv 6) (pa_cons (pe_ix (ix_listk K) (pv 5) (pv 9) (fun _ _ => rfl)) pa_nil))))) pa_nil))))) pa_nil)))
    (pss_one (ps_ret (pe_tupm (pa_cons (pv 1) (pa_cons (pv 2) (pa_cons (pv 7) (pa_cons (pe_callTy (cr_tupFk K) (by rfl) T.b_tuple (by decide +kernel) (pa_cons (peLk K (pe_lc (own := [("old", 8)]) rfl sc_least.nd (pi_listk K (pv 6)) (blkOk_by (own := [("old", 8)]) (N := N_least) (sc := defScope s_least) (by decide +kernel)) (fun _ _ _ _ _ => (pg_name (i := 8) sc_least.nd rfl (Or.inl rfl))) (fun _ _ _ _ _ => pts_nil) (fun _ _ _ _ _ => (pe_ix (ix_tupk K) (pv 4) (pv 8) (fun _ _ => rfl))))) pa_nil)) pa_nil))))))))))), ?_⟩
    obtain ⟨ma, mb, mc, rfl, nma, hma, hmv, hout⟩ := mD_parts hm
    refine ⟨_, rfl, ma, _, rfl, SqT.of hma, rfl, _, _, rfl, _, _, rfl, _, _, rfl, _, _, rfl, rfl, ?_⟩
    refine ⟨_, rfl, N, _, M, rfl, W, hm, hM, hn, hk, fun gv H1 g s1 R hg => ?_⟩
    refine ⟨_, rfl, _, rfl, N, _, gv, M, g, rfl, W.ev s1, hm.sm s1, hM, hn, hk, hg, R, fun ov H2 s2 ho => ?_⟩
    have s02 := s1.trans s2
    have W2 := W.ev s02
    have hmv2 := hmv.sm s02
    have hout2 := hout.sm s02
    have hg2 := hg.sm s2
    have hol : (ordA M g M.n).length ≤ M.n := ordA_len hM R M.n
    have hor := ordA_rep hM R M.n
    have gl : ∀ x, x < M.n → (g.map D.n)[x]? = some (.n (g.getD x 0)) := fun x hx => by
      have : x < g.length := by rw [R.len]; exact hx
      rw [get_map this, getD_lt this]
    refine ⟨_, rfl, ?_⟩
    refine lcL (ordA M g M.n) D.n (fun x => wT ((M.mv.getD x []).map fun t => (ordA M g M.n).idxOf (g.getD t 0))) W2 ho (by omega) (fun _ => rfl) (fun x hx y H' N' s' W' hs' hn' hy R' k' => ?_) fun p H3 s3 hp hr3 => ?_
    · have hx0 := (hor x hx).1
      have up : ∀ b o, H2 b = some o → ¬ N b → H' b = some o ∧ ¬ N' b := fun b o q n => ⟨s'.at q, fun z => (hn' b z).elim n fun z => by rw [z] at q; cases q⟩
      refine ⟨_, rfl, _, rfl, ixT x (hmv2.go up) (mv_get hM hx0) hy.isN fun z h => ?_⟩
      refine lcT (M.mv.getD x []) D.n (fun t => D.n ((ordA M g M.n).idxOf (g.getD t 0))) W' h ?_ (fun _ => rfl) (fun t ht y2 H'' N'' s'' W'' hs'' hn'' hy2 R'' k'' => ?_) fun p H3 s3 hp hr3 => ?_
      · rw [(hM.row _ (getD_mem (by rw [hM.len]; exact hx0))).1]; omega
      · have up2 : ∀ b o, H' b = some o → ¬ N' b → H'' b = some o ∧ ¬ N'' b := fun b o q n => ⟨s''.at q, fun z => (hn'' b z).elim n fun z => by rw [z] at q; cases q⟩
        have ht0 := (hM.row _ (getD_mem (by rw [hM.len]; exact hx0))).2 t ht
        refine ⟨_, rfl, tyL ((ho.go up).go up2), _, rfl, _, rfl, ixL t ((hg2.go up).go up2) (gl t ht0) hy2.isN fun z2 h2 => ?_⟩
        refine lidx ((ho.go up).go up2) h2 ?_ (k'' _ _ (.refl _ _) (.n _))
        obtain ⟨j, hj, rfl⟩ := List.getElem_of_mem hx
        rw [← getD_lt (d := 0) hj] at ht
        exact ordA_full hM R hj ht
      · refine tupL (W'.ev s3) hr3 fun p4 H4 s4 h4 => k' _ _ (s3.trans s4) ?_
        unfold wT
        rw [List.map_map]
        exact h4
    · refine tupL (W2.ev s3) hr3 fun p4 H4 s4 h4 => ?_
      refine ⟨_, rfl, _, rfl, _, rfl, _, rfl, ?_⟩
      refine lcL (ordA M g M.n) D.n (fun x => D.n (M.out.getD x 0)) ((W2.ev s3).ev s4) ((ho.sm s3).sm s4) (by omega) (fun _ => rfl) (fun x hx y H' N' s' W' hs' hn' hy R' k' => ?_) fun p5 H5 s5 hp5 h5 => ?_
      · have up : ∀ b o, H4 b = some o → ¬ N b → H' b = some o ∧ ¬ N' b := fun b o q n => ⟨s'.at q, fun z => (hn' b z).elim n fun z => by rw [z] at q; cases q⟩
        refine ⟨_, rfl, _, rfl, ixF x (((hout2.sm s3).sm s4).go up) (out_get (hor x hx).1) hy.isN fun z h => k' _ _ (.refl _ _) h⟩
      · refine tupF (((W2.ev s3).ev s4).ev s5) h5 fun p6 H6 s6 h6 => ?_
        have s36 := ((s3.trans s4).trans s5).trans s6
        refine mkT (W2.ev s36) (by simp) (.cons (.n _) (.cons (.n _) (.cons ((h4.sm s5).sm s6) (.cons h6 .nil)))) fun p7 H7 s7 h7 => ?_
        refine q _ _ (leastOf M g) ((s02.trans s36).trans s7) ⟨g, R, rfl⟩ ?_
        unfold mD leastOf
        simp only [List.map_map]
        exact h7
end
end Tk
/-! text D3 -/
set_option maxHeartbeats 4000000
namespace Tk
open PySem L2
/-! ### Halving -/
abbrev hF (lo hi : Nat) : List (Str × V) := [("_low", nV lo), ("_high", nV hi)]
abbrev HalvAt (a : Ads) (H : Hp) (h : Addr) (lo hi : Nat) : Prop := Ins H h a.C_Halving (hF lo hi)
def hPl (lo hi : Nat) : V := if hi - lo = 1 then .non else nV ((lo + hi) / 2)
def sp_Halving___init__ (a : Ads) : Sp := fun vs H Q _ => ∃ (h : Addr) (n : Nat), vs = [.ref h, nV n] ∧ 1 ≤ n ∧ Ins H h a.C_Halving [] ∧ ∀ H', Ev (on h) H H' → HalvAt a H' h 0 n → Q .non H'
def sp_Halving_place (a : Ads) : Sp := fun vs H Q _ => ∃ (h : Addr) (lo hi : Nat), vs = [.ref h] ∧ lo < hi ∧ HalvAt a H h lo hi ∧ ∀ H', Sm H H' → Q (hPl lo hi) H'
def sp_Halving_tell (a : Ads) : Sp := fun vs H Q _ => ∃ (h : Addr) (lo hi : Nat) (b : Bool), vs = [.ref h, .bl b] ∧ lo + 1 < hi ∧ HalvAt a H h lo hi ∧
  ∀ H', Ev (on h) H H' → (b = true → HalvAt a H' h ((lo + hi) / 2) hi) → (b = false → HalvAt a H' h lo ((lo + hi) / 2)) → Q .non H'
def sp_Halving_found (a : Ads) : Sp := fun vs H Q _ => ∃ (h : Addr) (lo : Nat), vs = [.ref h] ∧ HalvAt a H h lo (lo + 1) ∧ ∀ H', Sm H H' → Q (nV lo) H'
section
variable {P : Program} {w : World} {K : PySem.W.Frag} {mg : Str → Option Value} {base : Heap} {a : Ads} {d : Fds}
theorem ok_Halving___init__ (T : TX K mg base a d) : FnOk P w K mg base CX0 1 a.f_Halving___init__ d.d_Halving___init__ ["self", "length"] (sp_Halving___init__ a) := by
  refine T.F_Halving___init__.ok sc_Halving___init__ (fun vs H Q E h => ?_) (fun cdv A outer s H vs Q E hr h => ?_)
  · obtain ⟨_, _, rfl, _⟩ := h
    rfl
  · obtain ⟨h, n, rfl, hn, hI, q⟩ := h
    have hu := hu_of hr
    refine ⟨_, (pss_cons (ps_if (pt_cmpR op_lt (pv 1) pe_int (nomark _)) (pss_one ps_never) pss_nil)
    (pss_cons (ps_fldk K (pv 0) pe_int rfl)
    (pss_one (ps_fldk K (pv 0) (pv 1) rfl)))), ?_⟩
    refine ⟨_, rfl, _, _, rfl, rfl, _, rfl, ifF (decide_eq_false (by omega)) ?_⟩
    refine ⟨_, rfl, fldS hI T.cl_Halving T.n_Halving__low (by decide) fun H1 e1 h1 => ?_⟩
    refine ⟨_, rfl, _, rfl, fldS h1 T.cl_Halving T.n_Halving__high (by first | decide | simp) fun H2 e2 h2 => ?_⟩
    exact q _ (e1.trans e2) h2
theorem ok_Halving_place (T : TX K mg base a d) : FnOk P w K mg base CX0 1 a.f_Halving_place d.d_Halving_place ["self"] (sp_Halving_place a) := by
  refine T.F_Halving_place.ok sc_Halving_place (fun vs H Q E h => ?_) (fun cdv A outer s H vs Q E hr h => ?_)
  · obtain ⟨_, _, _, rfl, _⟩ := h
    rfl
  · obtain ⟨h, lo, hi, rfl, hlt, hI, q⟩ := h
    have hu := hu_of hr
    refine ⟨_, (pss_cons (ps_if (pt_cmpR op_eq (pe_op op_sub (pe_fldk K (pv 0) rfl) (pe_fldk K (pv 0) rfl)) pe_int (nomark _)) (pss_one (ps_ret pe_non)) pss_nil)
    (pss_one (ps_ret (pe_op op_fdiv (pe_op op_add (pe_fldk K (pv 0) rfl) (pe_fldk K (pv 0) rfl)) pe_int)))), ?_⟩
    refine ⟨_, rfl, fldR hI T.cl_Halving T.n_Halving__high rfl ⟨_, rfl, fldR hI T.cl_Halving T.n_Halving__low rfl ?_⟩⟩
    refine ⟨_, _, rfl, rfl, rfl, _, rfl, ?_⟩
    have := q H (.refl _ _)
    unfold hPl at this
    by_cases e : hi - lo = 1
    · rw [if_pos e] at this
      exact ifT (decide_eq_true (congrArg V.int (by omega))) this
    · rw [if_neg e] at this
      refine ifF (decide_eq_false fun z => by injection z with z; omega) ?_
      refine ⟨_, rfl, fldR hI T.cl_Halving T.n_Halving__low rfl ⟨_, rfl, fldR hI T.cl_Halving T.n_Halving__high rfl ?_⟩⟩
      refine ⟨_, _, rfl, rfl, _, _, rfl, rfl, ⟨by omega, by omega⟩, ?_⟩
      exact this
theorem ok_Halving_tell (T : TX K mg base a d) : FnOk P w K mg base CX0 2 a.f_Halving_tell d.d_Halving_tell ["self", "differs"] (sp_Halving_tell a) := by
  refine T.F_Halving_tell.ok sc_Halving_tell (fun vs H Q E h => ?_) (fun cdv A outer s H vs Q E hr h => ?_)
  · obtain ⟨_, _, _, _, rfl, _⟩ := h
    rfl
  · obtain ⟨h, lo, hi, b, rfl, hlt, hI, q⟩ := h
    have hu := hu_of hr
    refine ⟨_, (pss_cons (ps_set (i := 2) sc_Halving_tell.nd rfl (Or.inl rfl) (pe_meth0 (pv 0) T.cl_Halving T.M_Halving_place (ok_Halving_place T) (hr.mono (by decide)) T.B_Halving_place .nil pass0))
    (pss_cons (ps_if (pt_cmp (pc_isN (pv 2))) (pss_one ps_never) pss_nil)
    (pss_one (ps_if (pt_val (pv 1)) (pss_one (ps_fldk K (pv 0) (pv 2) rfl)) (pss_one (ps_fldk K (pv 0) (pv 2) rfl)))))), ?_⟩
    obtain ⟨dx, hH⟩ := hI
    refine ⟨_, rfl, h, dx, _, rfl, hH, rfl, h, lo, hi, rfl, by omega, ⟨dx, hH⟩, fun H1 s1 => ?_⟩
    have h1 : HalvAt a H1 h lo hi := Ins.sm ⟨dx, hH⟩ s1
    unfold hPl
    rw [if_neg (by omega)]
    refine ⟨_, rfl, _, rfl, ifF (decide_eq_false fun z => by cases z) ?_⟩
    cases b with
    | true =>
      refine ⟨_, rfl, _, rfl, ifT rfl ⟨_, rfl, _, rfl, fldS h1 T.cl_Halving T.n_Halving__low (by first | decide | simp) fun H2 e2 h2 => ?_⟩⟩
      exact q _ ((Ev.of s1).trans e2) (fun _ => h2) (fun z => by cases z)
    | false =>
      refine ⟨_, rfl, _, rfl, ifF rfl ⟨_, rfl, _, rfl, fldS h1 T.cl_Halving T.n_Halving__high (by first | decide | simp) fun H2 e2 h2 => ?_⟩⟩
      exact q _ ((Ev.of s1).trans e2) (fun z => by cases z) (fun _ => h2)
theorem ok_Halving_found (T : TX K mg base a d) : FnOk P w K mg base CX0 2 a.f_Halving_found d.d_Halving_found ["self"] (sp_Halving_found a) := by
  refine T.F_Halving_found.ok sc_Halving_found (fun vs H Q E h => ?_) (fun cdv A outer s H vs Q E hr h => ?_)
  · obtain ⟨_, _, rfl, _⟩ := h
    rfl
  · obtain ⟨h, lo, rfl, hI, q⟩ := h
    have hu := hu_of hr
    refine ⟨_, (pss_cons (ps_if (pt_cmp (pc_notN (pe_meth0 (pv 0) T.cl_Halving T.M_Halving_place (ok_Halving_place T) (hr.mono (by decide)) T.B_Halving_place .nil pass0))) (pss_one ps_never) pss_nil)
    (pss_one (ps_ret (pe_fldk K (pv 0) rfl)))), ?_⟩
    obtain ⟨dx, hH⟩ := hI
    refine ⟨_, rfl, h, dx, _, rfl, hH, rfl, h, lo, lo + 1, rfl, by omega, ⟨dx, hH⟩, fun H1 s1 => ?_⟩
    have h1 : HalvAt a H1 h lo (lo + 1) := Ins.sm ⟨dx, hH⟩ s1
    unfold hPl
    rw [if_pos (by omega)]
    refine ⟨_, rfl, ifF rfl ?_⟩
    refine ⟨_, rfl, fldR h1 T.cl_Halving T.n_Halving__low rfl (q _ s1)⟩
end
end Tk
/-! text MD -/
namespace Tk
abbrev Row := Nat × Nat × List Nat
structure Bfs (M : Mach) (s t i b : Nat) (R : List Row) : Prop where
  hd : R[0]? = some (s, t, [])
  run : ∀ r ∈ R, Wd M.k r.2.2 ∧ r.1 = M.run s r.2.2 ∧ r.2.1 = M.run t r.2.2
  nd : (R.map fun r => (r.1, r.2.1)).Nodup
  srt : ∀ (j l : Nat) (r q : Row), j ≤ l → R[j]? = some r → R[l]? = some q → r.2.2.length ≤ q.2.2.length
  top : ∀ (r q : Row), R[i]? = some r → q ∈ R → q.2.2.length ≤ r.2.2.length + 1
  eq : ∀ (j : Nat) (r : Row), j < i → R[j]? = some r → M.ou r.1 = M.ou r.2.1
  suc : ∀ (j : Nat) (r : Row) (a : Nat), R[j]? = some r → a < M.k → (j < i ∨ (j = i ∧ a < b)) → ∃ q ∈ R, q.1 = M.st r.1 a ∧ q.2.1 = M.st r.2.1 a ∧ q.2.2.length ≤ r.2.2.length + 1
  lenj : ∀ (j : Nat) (r : Row), R[j]? = some r → r.2.2.length ≤ j
section
variable {M : Mach} {s t i b : Nat} {R : List Row}
theorem Bfs.init (M : Mach) (s t : Nat) : Bfs M s t 0 0 [(s, t, [])] where
  hd := rfl
  run := fun r hr => by
    rw [List.mem_singleton.mp hr]
    exact ⟨Wd.nil, rfl, rfl⟩
  nd := by simp
  srt := fun j l r q _ h1 h2 => by
    have e1 := List.mem_of_getElem? h1
    have e2 := List.mem_of_getElem? h2
    rw [List.mem_singleton.mp e1, List.mem_singleton.mp e2]
    exact Nat.le_refl _
  top := fun r q _ h2 => by
    rw [List.mem_singleton.mp h2]; exact Nat.zero_le _
  eq := fun j r h _ => absurd h (Nat.not_lt_zero _)
  suc := fun j r a _ _ h => by omega
  lenj := fun j r h => by
    rw [List.mem_singleton.mp (List.mem_of_getElem? h)]; exact Nat.zero_le _
theorem Bfs.old (B : Bfs M s t i b R) {r q : Row} (hr : R[i]? = some r) (hq : q ∈ R) (h1 : q.1 = M.st r.1 b) (h2 : q.2.1 = M.st r.2.1 b) : Bfs M s t i (b + 1) R :=
  ⟨B.hd, B.run, B.nd, B.srt, B.top, B.eq, fun j r' a hj ha h => by
    by_cases e : j = i ∧ a = b
    · obtain ⟨rfl, rfl⟩ := e
      rw [hr] at hj
      cases hj
      exact ⟨q, hq, h1, h2, B.top r q hr hq⟩
    · exact B.suc j r' a hj ha (by omega), B.lenj⟩
theorem Bfs.new (B : Bfs M s t i b R) {r : Row} (hr : R[i]? = some r) (hb : b < M.k) (hn : (M.st r.1 b, M.st r.2.1 b) ∉ R.map fun r => (r.1, r.2.1)) : Bfs M s t i (b + 1) (R ++ [(M.st r.1 b, M.st r.2.1 b, r.2.2 ++ [b])]) := by
  have hi := (List.getElem?_eq_some_iff.mp hr).1
  have hrm := List.mem_of_getElem? hr
  have old : ∀ {j : Nat} {q : Row}, j < R.length → (R ++ [(M.st r.1 b, M.st r.2.1 b, r.2.2 ++ [b])])[j]? = some q → R[j]? = some q := fun {j q} hj h => by
    rwa [List.getElem?_append_left hj] at h
  have lst : ∀ {j : Nat} {q : Row}, ¬ j < R.length → (R ++ [(M.st r.1 b, M.st r.2.1 b, r.2.2 ++ [b])])[j]? = some q → q = (M.st r.1 b, M.st r.2.1 b, r.2.2 ++ [b]) := fun {j q} hj h => by
    rw [List.getElem?_append_right (by omega)] at h
    exact List.mem_singleton.mp (List.mem_of_getElem? h)
  have rl : ∀ {q : Row}, q ∈ R → q.2.2.length ≤ r.2.2.length + 1 := fun hq => B.top r _ hr hq
  refine ⟨?_, fun q hq => ?_, ?_, fun j l q1 q2 hjl h1 h2 => ?_, fun r' q h1 h2 => ?_, fun j q hj h => B.eq j q hj (old (by omega) h), fun j q a h ha hc => ?_, fun j q h => ?_⟩
  · rw [List.getElem?_append_left (by omega)]; exact B.hd
  · rcases List.mem_append.mp hq with hq | hq
    · exact B.run q hq
    · rw [List.mem_singleton.mp hq]
      obtain ⟨a1, a2, a3⟩ := B.run r hrm
      refine ⟨Wd.append a1 (Wd.one hb), ?_, ?_⟩
      · rw [Mach.run_append, ← a2]; rfl
      · rw [Mach.run_append, ← a3]; rfl
  · rw [List.map_append, List.nodup_append]
    refine ⟨B.nd, by simp, fun x hx y hy e => ?_⟩
    rw [List.map_singleton, List.mem_singleton] at hy
    subst hy e
    exact hn hx
  · by_cases l1 : l < R.length
    · exact B.srt j l _ _ hjl (old (by omega) h1) (old l1 h2)
    · rw [lst l1 h2]
      simp only [List.length_append, List.length_singleton]
      by_cases j1 : j < R.length
      · exact rl (List.mem_of_getElem? (old j1 h1))
      · rw [lst j1 h1]; simp
  · have e1 := old hi h1
    rw [hr] at e1
    cases e1
    rcases List.mem_append.mp h2 with h2 | h2
    · exact rl h2
    · rw [List.mem_singleton.mp h2]; simp
  · by_cases e : j = i ∧ a = b
    · obtain ⟨rfl, rfl⟩ := e
      have e1 := old hi h
      rw [hr] at e1
      cases e1
      exact ⟨_, List.mem_append_right _ (List.mem_singleton.mpr rfl), rfl, rfl, by simp⟩
    · obtain ⟨q', hq', z⟩ := B.suc j q a (old (by omega) h) ha (by omega)
      exact ⟨q', List.mem_append_left _ hq', z⟩
  · by_cases j1 : j < R.length
    · exact B.lenj j q (old j1 h)
    · rw [lst j1 h]
      have := B.lenj i r hr
      simp only [List.length_append, List.length_singleton]
      omega
theorem Bfs.next (B : Bfs M s t i M.k R) {r : Row} (hr : R[i]? = some r) (he : M.ou r.1 = M.ou r.2.1) : Bfs M s t (i + 1) 0 R :=
  ⟨B.hd, B.run, B.nd, B.srt, fun r' q h hq => Nat.le_trans (B.top r q hr hq) (Nat.succ_le_succ (B.srt i (i + 1) r r' (by omega) hr h)), fun j q hj h => by
    by_cases e : j = i
    · subst e
      rw [hr] at h
      cases h; exact he
    · exact B.eq j q (by omega) h, fun j q a h ha hc => B.suc j q a h ha (by omega), B.lenj⟩
theorem Bfs.len (B : Bfs M s t i b R) (hM : M.Ok) (hs : s < M.n) (ht : t < M.n) : R.length ≤ M.n * M.n := by
  have h := List.Nodup.length_le_of_subset B.nd (l₂ := (List.range M.n).flatMap fun x => (List.range M.n).map fun y => (x, y)) fun p hp => by
    obtain ⟨r, hr, rfl⟩ := List.mem_map.mp hp
    obtain ⟨_, a2, a3⟩ := B.run r hr
    rw [List.mem_flatMap]
    refine ⟨r.1, List.mem_range.mpr (by rw [a2]; exact hM.run_lt _ hs), List.mem_map.mpr ⟨r.2.1, List.mem_range.mpr (by rw [a3]; exact hM.run_lt _ ht), rfl⟩⟩
  rw [List.length_map] at h
  have e : ((List.range M.n).flatMap fun x => (List.range M.n).map fun y => (x, y)).length = M.n * M.n := by
    rw [List.length_flatMap]
    simp [List.map_const', List.sum_replicate_nat]
  omega
/-- behind every word that is not longer than a row's, its pair stands ahead of it -/
theorem Bfs.reach (B : Bfs M s t i 0 R) (m : Nat) (hm : ∀ j r, R[j]? = some r → r.2.2.length < m → j < i) : ∀ (u v : List Nat), Wd M.k (v ++ u) → (v ++ u).length < m → (∃ q ∈ R, q.1 = M.run s v ∧ q.2.1 = M.run t v ∧ q.2.2.length ≤ v.length) →
    ∃ j r, R[j]? = some r ∧ j < i ∧ r.1 = M.run s (v ++ u) ∧ r.2.1 = M.run t (v ++ u)
  | [], v, _, hl, ⟨q, hq, a1, a2, a3⟩ => by
    rw [List.append_nil] at hl ⊢
    obtain ⟨j, hj, e⟩ := List.getElem_of_mem hq
    have hj' : R[j]? = some q := by rw [List.getElem?_eq_getElem hj, e]
    exact ⟨j, q, hj', hm j q hj' (by omega), a1, a2⟩
  | a :: u, v, hw, hl, ⟨q, hq, a1, a2, a3⟩ => by
    obtain ⟨j, hj, e⟩ := List.getElem_of_mem hq
    have hj' : R[j]? = some q := by rw [List.getElem?_eq_getElem hj, e]
    have hl' : v.length < m := by rw [List.length_append] at hl; omega
    have hji := hm j q hj' (by omega)
    obtain ⟨q', hq', b1, b2, b3⟩ := B.suc j q a hj' (hw a (by simp)) (.inl hji)
    have e2 : v ++ a :: u = (v ++ [a]) ++ u := by simp
    rw [e2] at hw hl ⊢
    refine B.reach m hm u (v ++ [a]) hw hl ⟨q', hq', ?_, ?_, by simp; omega⟩
    · rw [b1, a1, Mach.run_append]; rfl
    · rw [b2, a2, Mach.run_append]; rfl
theorem Bfs.start (B : Bfs M s t i b R) : ∃ q ∈ R, q.1 = M.run s [] ∧ q.2.1 = M.run t [] ∧ q.2.2.length ≤ ([] : List Nat).length := ⟨_, List.mem_of_getElem? B.hd, rfl, rfl, Nat.le_refl _⟩
/-- the first row with unlike outputs tells a shortest word -/
theorem Bfs.found (B : Bfs M s t i 0 R) (hM : M.Ok) (hs : s < M.n) (ht : t < M.n) (hn : ¬ Eqv M M s t) {r : Row} (hr : R[i]? = some r) (he : M.ou r.1 ≠ M.ou r.2.1) : Wd M.k r.2.2 ∧ r.2.2.length + 1 ≤ M.n ∧ M.outp s r.2.2 ≠ M.outp t r.2.2 := by
  obtain ⟨a1, a2, a3⟩ := B.run r (List.mem_of_getElem? hr)
  refine ⟨a1, ?_, by unfold Mach.outp; rw [← a2, ← a3]; exact he⟩
  obtain ⟨u, hu, hl, hd⟩ := not_eqv hM hs ht hn
  by_cases q : u.length < r.2.2.length
  · obtain ⟨j, r', hj, hji, e1, e2⟩ := B.reach r.2.2.length (fun j r' hj hl => by
      by_cases z : j < i
      · exact z
      · have := B.srt i j r r' (by omega) hr hj
        omega) u [] hu q B.start
    have := B.eq j r' hji hj
    rw [e1, e2] at this
    exact absurd this hd
  · omega
/-- not all rows are alike -/
theorem Bfs.none (B : Bfs M s t i 0 R) (hM : M.Ok) (hs : s < M.n) (ht : t < M.n) (hn : ¬ Eqv M M s t) (hi : ¬ i < R.length) : False := by
  obtain ⟨u, hu, hl, hd⟩ := not_eqv hM hs ht hn
  obtain ⟨j, r', hj, hji, e1, e2⟩ := B.reach (u.length + 1) (fun j r' hj _ => by
    have := (List.getElem?_eq_some_iff.mp hj).1
    omega) u [] hu (by simp) B.start
  have := B.eq j r' hji hj
  rw [e1, e2] at this
  exact hd this
end
end Tk
/-! text D4 -/
set_option maxHeartbeats 4000000
namespace Tk
open PySem L2
/-! ### search, parting_word -/
def rD (r : Row) : D := .t [.n r.1, .n r.2.1, wL r.2.2]
def rK (R : List Row) : List (List Nat × Unit) := R.map fun r => ([r.1, r.2.1], ())
def tV : Unit → V := fun _ => .bl true
theorem rK_look (x y : Nat) : ∀ R : List Row, ((rK R).lookup [x, y]).isSome = decide ((x, y) ∈ R.map fun r => (r.1, r.2.1))
  | [] => rfl
  | r :: R => by
    have ih := rK_look x y R
    unfold rK at ih ⊢
    rw [List.map_cons, List.lookup_cons, List.map_cons]
    by_cases e : r.1 = x ∧ r.2.1 = y
    · obtain ⟨rfl, rfl⟩ := e
      simp
    · have e1 : ([x, y] == [r.1, r.2.1]) = false := beq_eq_false_iff_ne.mpr fun q => by
        simp at q; exact e ⟨q.1.symm, q.2.symm⟩
      have e2 : ¬ (x, y) = (r.1, r.2.1) := fun q => by
        injection q with q1 q2; exact e ⟨q1.symm, q2.symm⟩
      rw [e1]
      simp only [List.mem_cons, e2, false_or]
      exact ih
def sp_search : Sp := fun vs H Q _ => ∃ (N : Fp) (m : V) (M : Mach) (s t : Nat), vs = [m, m, nV s, nV t] ∧ Wf N H ∧ At N H m (mD M) ∧ M.Ok ∧ M.n ≤ 100 ∧ M.k ≤ 100 ∧ s < M.n ∧ t < M.n ∧ ¬ Eqv M M s t ∧
  ∀ (r : V) (H' : Hp) (u : List Nat), Sm H H' → Wd M.k u → u.length + 1 ≤ M.n → M.outp s u ≠ M.outp t u → At N H' r (wL u) → Q r H'
def sp_parting_word : Sp := fun vs H Q _ => ∃ (N : Fp) (m : V) (M : Mach) (s t : Nat), vs = [m, nV s, nV t] ∧ Wf N H ∧ At N H m (mD M) ∧ M.Ok ∧ M.n ≤ 100 ∧ M.k ≤ 100 ∧ s < M.n ∧ t < M.n ∧ ¬ Eqv M M s t ∧
  ∀ (r : V) (H' : Hp) (u : List Nat), Sm H H' → Wd M.k u → u.length + 1 ≤ M.n → M.outp s u ≠ M.outp t u → At N H' r (wL u) → Q r H'
section
variable {P : Program} {w : World} {K : PySem.W.Frag} {mg : Str → Option Value} {base : Heap} {a : Ads} {d : Fds}
theorem ok_search (T : TX K mg base a d) : FnOk P w K mg base CX0 1 a.f_search d.d_search ["first", "second", "state", "other"] (sp_search) := by
  refine T.F_search.ok sc_search (fun vs H Q E h => ?_) (fun cdv A outer s H vs Q E hr h => ?_)
  · obtain ⟨_, _, _, _, _, rfl, _⟩ := h
    rfl
  · obtain ⟨N, m, M, s0, t0, rfl, W, hm, hM, hn, hk, hs, ht, hq, q⟩ := h
    have hu := hu_of hr
    refine ⟨_, (pss_cons (ps_set (i := 4) sc_search.nd rfl (Or.inl rfl) (pe_lstm (pa_cons (pe_tupm (pa_cons (pv 2) (pa_cons (pv 3) (pa_cons (pe_lstm pa_nil) pa_nil)))) pa_nil)))
    (pss_cons (ps_set (i := 5) sc_search.nd rfl (Or.inl rfl) (pe_dispT (hu64 hr) (pe_tupm (pa_cons (pv 2) (pa_cons (pv 3) pa_nil))) pe_bl))
    (pss_cons (ps_set (i := 6) sc_search.nd rfl (Or.inl rfl) pe_int)
    (pss_cons (ps_while PassesOwn.never (pt_cmpR op_lt (pv 6) (pe_callB (cr_lenk K) (by rfl) T.b_len (by decide +kernel) (pa_cons (pv 4) pa_nil)) (nomark _)) (pss_cons (ps_asg (pe_ix (ix_listk K) (pv 4) (pv 6) (fun _ _ => rfl)) (pg_tup rfl (pgs_cons (pg_name (i := 2) sc_search.nd rfl (Or.inl rfl)) (pgs_cons (pg_name (i := 3) sc_search.nd rfl (Or.inl rfl)) (pgs_cons (pg_name (i := 7) sc_search.nd rfl (Or.inl rfl)) pgs_nil)))))
      (pss_cons (ps_if (pt_cmpR op_ne (pe_ix (ix_tupk K) (pe_ix (ix_tupk K) (pv 0) pe_int (fun _ _ => rfl)) (pv 2) (fun _ _ => rfl)) (pe_ix (ix_tupk K) (pe_ix (ix_tupk K) (pv 1) pe_int (fun _ _ => rfl)) (pv 3) (fun _ _ => rfl)) (nomark _)) (pss_one (ps_ret (pv 7))) pss_nil)
      (pss_cons (ps_forR PassesOwn.never rfl rfl T.b_range (pa_cons (pe_ix (ix_tupk K) (pv 0) pe_int (fun _ _ => rfl)) pa_nil) (pg_name (i := 8) sc_search.nd rfl (Or.inl rfl)) (pss_cons (ps_set (i := 9) sc_search.nd rfl (Or.inl rfl) (pe_tupm (pa_cons (pe_ix (ix_tupk K) (pe_ix (ix_tupk K) (pe_ix (ix_tupk K) (pv 0) pe_int (fun _ _ => rfl)) (pv 2) (fun _ _ => rfl)) (pv 8) (fun _ _ => rfl)) (pa_cons (pe_ix (ix_tupk K) (pe_ix (ix_tupk K) (pe_ix (ix_tupk K) (pv 1) pe_int (fun _ _ => rfl)) (pv 3) (fun _ _ => rfl)) (pv 8) (fun _ _ => rfl)) pa_nil))))
        (pss_one (ps_if (pt_cmp (pc_dnotin hu (pv 9) (pv 5))) (pss_cons (ps_dput hu (pv 5) (pv 9) pe_bl rfl)
          (pss_one (ps_expr (pe_bmk K PySem.F.plainAttrs_list PySem.F.slot_list_append PySem.F.type_list_append mt_appendm (pv 4) (pa_cons (pe_tupm (pa_cons (pe_ix (ix_tupk K) (pv 9) pe_int (fun _ _ => rfl)) (pa_cons (pe_ix (ix_tupk K) (pv 9) pe_int (fun _ _ => rfl)) (pa_cons (pe_op op_catLm (pv 7) (pe_lstm (pa_cons (pv 8) pa_nil))) pa_nil)))) pa_nil))))) pss_nil))))
      (pss_one (ps_aug (i := 6) sc_search.nd rfl (Or.inl rfl) pe_int ip_add))))))
    (pss_one (ps_ret pe_non)))))), ?_⟩
    refine ⟨_, rfl, _, rfl, mkL W (by simp) .nil fun p1 H1 s1 h1 => ?_⟩
    refine mkT (W.ev s1) (by simp) (.cons (.n s0) (.cons (.n t0) (.cons h1 .nil))) fun p2 H2 s2 h2 => ?_
    refine newL ((W.ev s1).ev s2) (by simp) (.one h2) fun rl H3 hrl s3 L3 W3 => ?_
    intro sd hsd
    have s4 : Sm H3 (upd H3 sd (.dT [])) := .new hsd
    have e4 : upd H3 sd (.dT []) sd = some (.dT []) := upd_same
    have L4 := L3.ad hsd s4
    have nrs : rl ≠ sd := L3.ne hsd
    generalize upd H3 sd (.dT []) = H4 at s4 e4 L4
    have s04 : Sm H H4 := ((s1.trans s2).trans s3).trans s4
    have hrl0 : H rl = none := (s1.trans s2).free hrl
    have hsd0 : H sd = none := ((s1.trans s2).trans s3).free hsd
    have W4 : Wf (ad sd (ad rl N)) H4 := (W3.ev s4).ad e4
    have hm4 : At (ad sd (ad rl N)) H4 m (mD M) := ((hm.sm (s1.trans s2)).ad hrl s3).ad hsd s4
    refine ⟨_, rfl, _, rfl, mkT W4 (by simp) (.cons (.n s0) (.cons (.n t0) .nil)) fun p5 H5 s5 h5 => ?_⟩
    refine dispT (w := [s0, t0]) (f := tV) (r := ()) (s5.at e4) h5 rfl fun H6 e6 h6 => ?_
    have L6 := (L4.sm s5).ev e6 (fun b z => .inl z) nrs
    have hm6 := (hm4.sm s5).evs e6 (fun b z => .inl z)
    have W6 := (W4.ev s5).ev e6
    have ev6 : Ev (fun b => b = rl ∨ b = sd) H H6 := (Ev.of (s04.trans s5)).trans (e6.mono fun b z => .inr z)
    clear h5 h2 h1 L3 L4 hm4
    have hsub : ∀ b, (b = rl ∨ b = sd) → ad sd (ad rl N) b := fun b z => z.elim (fun e => .inr (.inl e)) .inl
    refine whileI (M.n * M.n) (fun i σ H' => ∃ R : List Row, Bfs M s0 t0 i 0 R ∧ Ev (fun b => b = rl ∨ b = sd) H6 H' ∧ Lst (ad sd (ad rl N)) H' rl (R.map rD) ∧ H' sd = some (DtO tV (rK R)) ∧ ∃ x2 x3 x7 x8 x9, σ = [some m, some m, x2, x3, some (.ref rl), some (.ref sd), some (nV i), x7, x8, x9])
      ⟨[(s0, t0, [])], .init M s0 t0, .refl _ _, L6, h6, _, _, _, _, _, rfl⟩ ?_
    rintro i σ H7 ⟨R, B, e7, L7, h7, x2, x3, x7, x8, x9, rfl⟩
    refine ⟨_, rfl, _, rfl, lenLs L7 ?_⟩
    refine ⟨_, _, rfl, rfl, _, rfl, ?_⟩
    rw [List.length_map]
    by_cases hlt : i < R.length
    · have hiM : i < M.n * M.n := Nat.lt_of_lt_of_le hlt (B.len hM hs ht)
      refine ifT (decide_eq_true (by omega)) (whT hiM ?_)
      have hri : R[i]? = some R[i] := List.getElem?_eq_getElem hlt
      generalize R[i] = r at hri
      obtain ⟨wr, er1, er2⟩ := B.run r (List.mem_of_getElem? hri)
      have hr1 : r.1 < M.n := by rw [er1]; exact hM.run_lt _ hs
      have hr2 : r.2.1 < M.n := by rw [er2]; exact hM.run_lt _ ht
      refine ⟨_, rfl, _, rfl, ixLs (d := rD r) i L7 (by rw [List.getElem?_map, hri]; rfl) rfl fun z hz => ?_⟩
      obtain ⟨za, zs, rfl, nz, hza, rz⟩ := At.tup hz
      cases rz with
      | cons r1 rz =>
      cases rz with
      | cons r2 rz =>
      cases rz with
      | cons r3 rz =>
      cases rz
      rw [r1.isN, r2.isN] at hza
      rename_i zw
      refine ⟨za, _, rfl, SqT.of hza, rfl, _, _, rfl, _, _, rfl, _, _, rfl, rfl, ?_⟩
      have hm7 := hm6.evs e7 hsub
      have W7 := W6.ev (e7.mono hsub)
      refine ⟨_, rfl, ixT 3 hm7 rfl rfl fun y1 g1 => ⟨_, rfl, ixF r.1 g1 (out_get hr1) rfl fun y2 g2 => ⟨_, rfl, ixT 3 hm7 rfl rfl fun y3 g3 => ⟨_, rfl, ixF r.2.1 g3 (out_get hr2) rfl fun y4 g4 => ?_⟩⟩⟩⟩
      rw [g2.isN, g4.isN]
      refine ⟨rfl, _, rfl, ?_⟩
      by_cases heq : M.ou r.1 = M.ou r.2.1
      · refine ifF (by rw [heq]; simp) ?_
        refine ⟨_, rfl, ixT 0 hm7 rfl rfl fun y5 g5 => ?_⟩
        refine forR M.k g5.isN (by omega) (fun b σ' H' => ∃ R : List Row, Bfs M s0 t0 i b R ∧ R[i]? = some r ∧ Ev (fun b => b = rl ∨ b = sd) H6 H' ∧ Ev (fun b => b = rl ∨ b = sd) H7 H' ∧ Lst (ad sd (ad rl N)) H' rl (R.map rD) ∧ H' sd = some (DtO tV (rK R)) ∧ ∃ x8 x9, σ' = [some m, some m, some (nV r.1), some (nV r.2.1), some (.ref rl), some (.ref sd), some (nV i), some zw, x8, x9])
          ⟨R, B, hri, e7, .refl _ _, L7, h7, _, _, rfl⟩ ?_ ?_
        · rintro b σ' H8 hb ⟨R, B, hri, e8, e78, L8, h8, x8, x9, rfl⟩
          have hm8 := hm6.evs e8 hsub
          have W8 := W6.ev (e8.mono hsub)
          refine ⟨_, rfl, ixT 2 hm8 rfl rfl fun a1 b1 => ⟨_, rfl, ixT r.1 b1 (mv_get hM hr1) rfl fun a2 b2 => ⟨_, rfl, ixT b b2 (row_get hM hr1 hb) rfl fun a3 b3 => ?_⟩⟩⟩
          refine ⟨_, rfl, ixT 2 hm8 rfl rfl fun a4 b4 => ⟨_, rfl, ixT r.2.1 b4 (mv_get hM hr2) rfl fun a5 b5 => ⟨_, rfl, ixT b b5 (row_get hM hr2 hb) rfl fun a6 b6 => ?_⟩⟩⟩
          refine mkT W8 (by simp) (.cons b3 (.cons b6 .nil)) fun p9 H9 s9 h9 => ?_
          have h9w : At (ad sd (ad rl N)) H9 (.ref p9) (wT [M.st r.1 b, M.st r.2.1 b]) := h9
          have e79 := e8.trans (.of s9)
          have e789 := e78.trans (.of s9)
          have L9 := L8.sm s9
          have hd9 := s9.at h8
          refine ⟨_, rfl, _, rfl, sd, _, rfl, dgetO_Dt hd9 h9w, ?_⟩
          by_cases hin : (M.st r.1 b, M.st r.2.1 b) ∈ R.map fun r => (r.1, r.2.1)
          · refine ⟨_, rfl, ifF (by rw [Option.isSome_map, rK_look, decide_eq_true hin]; rfl) ?_⟩
            obtain ⟨q', hq', eq'⟩ := List.mem_map.mp hin
            injection eq' with eq1 eq2
            exact ⟨R, B.old hri hq' eq1 eq2, hri, e79, e789, L9, hd9, _, _, rfl⟩
          · refine ⟨_, rfl, ifT (by rw [Option.isSome_map, rK_look, decide_eq_false hin]; rfl) ?_⟩
            have B' := B.new hri hb hin
            have hRl : R.length ≤ 10000 := by
              have := B.len hM hs ht
              have := Nat.mul_le_mul hn hn
              omega
            refine ⟨_, rfl, _, rfl, dputN hd9 h9w ?_ (by unfold rK; rw [List.length_map]; omega) (f := tV) (r := ()) rfl fun H10 e10 hd10 => ?_⟩
            · have := rK_look (M.st r.1 b) (M.st r.2.1 b) R
              rw [decide_eq_false hin] at this
              cases h : (rK R).lookup [M.st r.1 b, M.st r.2.1 b] with
              | none => rfl
              | some x => rw [h] at this; cases this
            · have L10 := L9.ev e10 (fun b z => .inl z) nrs
              have h10 := h9.evs e10 (fun b z => .inl z)
              have hz10 := (r3.evs e789 hsub).evs e10 (fun b z => .inl z)
              have W10 := (W8.ev s9).ev e10
              refine ⟨_, rfl, L10.ty, _, rfl, ixT 0 h10 rfl rfl fun a7 b7 => ⟨_, rfl, ixT 1 h10 rfl rfl fun a8 b8 => ⟨_, rfl, _, rfl, ?_⟩⟩⟩
              refine mkL W10 (by simp) (.one (.n b)) fun p11 H11 s11 h11 => ?_
              refine catD (W10.ev s11) (hz10.sm s11) h11 (ds := r.2.2.map D.n) (es := [D.n b]) ?_ fun p12 H12 hp12 s12 h12 => ?_
              · have := B.lenj i r hri
                rw [List.length_map, List.length_singleton]
                have := (List.getElem?_eq_some_iff.mp hri).1
                omega
              · refine mkT ((W10.ev s11).ev s12) (by simp) (.cons ((b7.sm s11).sm s12) (.cons ((b8.sm s11).sm s12) (.cons h12 .nil))) fun p13 H13 s13 h13 => ?_
                have sx := (s11.trans s12).trans s13
                refine appL (N := ad sd (ad rl N)) (d := rD (M.st r.1 b, M.st r.2.1 b, r.2.2 ++ [b])) (L10.sm sx) (.inr (.inl rfl)) ?_ ?_ fun H14 e14 L14 => ?_
                · unfold rD wL
                  rw [List.map_append]
                  exact h13
                · rw [List.length_map]; omega
                · have eg : Ev (fun b => b = rl ∨ b = sd) H9 H14 := ((e10.mono fun b z => .inr z).trans (.of sx)).trans (e14.mono fun b z => .inl z)
                  refine ⟨_, B', ?_, e79.trans eg, e789.trans eg, ?_, ?_, _, _, rfl⟩
                  · rw [List.getElem?_append_left (List.getElem?_eq_some_iff.mp hri).1]; exact hri
                  · rw [List.map_append]; exact L14
                  · unfold rK at hd10 ⊢
                    rw [List.map_append]
                    exact e14.kp sd _ (sx.at hd10) fun z => nrs z.symm
        · rintro σ' H8 ⟨R, B, hri, e8, e78, L8, h8, x8, x9, rfl⟩
          exact ⟨_, rfl, _, _, rfl, rfl, R, B.next hri heq, e8, L8, h8, _, _, _, _, _, rfl⟩
      · refine ifT (by simp [nV]; omega) ?_
        obtain ⟨b1, b2, b3⟩ := B.found hM hs ht hq hri heq
        refine ⟨_, rfl, q _ _ _ (Ev.then (F := F0) (.refl _ _) (ev6.trans e7) ?_) b1 b2 b3 (r3.sub fun b z => .inr (.inr z))⟩
        rintro b (rfl | rfl)
        · exact .inr hrl0
        · exact .inr hsd0
    · exact (B.none hM hs ht hq hlt).elim
theorem ok_parting_word (T : TX K mg base a d) : FnOk P w K mg base CX0 2 a.f_parting_word d.d_parting_word ["machine", "state", "other"] (sp_parting_word) := by
  refine T.F_parting_word.ok sc_parting_word (fun vs H Q E h => ?_) (fun cdv A outer s H vs Q E hr h => ?_)
  · obtain ⟨_, _, _, _, _, rfl, _⟩ := h
    rfl
  · obtain ⟨N, m, M, s0, t0, rfl, W, hm, hM, hn, hk, hs, ht, hq, q⟩ := h
    have hu := hu_of hr
    refine ⟨_, (pss_cons (ps_set (i := 3) sc_parting_word.nd rfl (Or.inl rfl) (pe_callB (cr_lenk K) (by rfl) T.b_len (by decide +kernel) (pa_cons (pe_ix (ix_tupk K) (pv 0) pe_int (fun _ _ => rfl)) pa_nil)))
    (pss_cons (ps_if (PW.pt (pw_or (pt_not (pt_chain op_le op_lt pe_int (pv 1) (pv 3))) (pw_or1 (pt_not (pt_chain op_le op_lt pe_int (pv 2) (pv 3)))))) (pss_one ps_never) pss_nil)
    (pss_cons (ps_set (i := 4) sc_parting_word.nd rfl (Or.inl rfl) (pe_call (ok_search T) (hr.mono (by decide)) rfl T.g_search T.F_search.kp T.B_search .nil pass0 (pa_cons (pv 0) (pa_cons (pv 0) (pa_cons (pv 1) (pa_cons (pv 2) pa_nil))))))
    (pss_cons (ps_if (pt_cmp (pc_isN (pv 4))) (pss_one ps_never) pss_nil)
    (pss_one (ps_ret (pv 4))))))), ?_⟩
    refine ⟨_, rfl, ixT 2 hm rfl rfl fun z hz => lenT hz ?_⟩
    rw [List.length_map, hM.len]
    refine ⟨_, rfl, _, _, rfl, rfl, _, rfl, ifT (decide_eq_true (by omega)) ⟨_, rfl, _, _, rfl, rfl, _, rfl, ifF ?_ ?_⟩⟩
    · rw [decide_eq_true (by omega)]; rfl
    refine ⟨_, rfl, _, _, rfl, rfl, _, rfl, ifT (decide_eq_true (by omega)) ⟨_, rfl, _, _, rfl, rfl, _, rfl, ifF ?_ ?_⟩⟩
    · rw [decide_eq_true (by omega)]; rfl
    refine ⟨_, rfl, _, rfl, _, rfl, _, rfl, N, m, M, s0, t0, rfl, W, hm, hM, hn, hk, hs, ht, hq, fun r H1 u s1 a1 a2 a3 h1 => ?_⟩
    refine ⟨_, rfl, _, rfl, ifF (decide_eq_false fun z => ?_) ⟨_, rfl, q _ _ u s1 a1 a2 a3 h1⟩⟩
    obtain ⟨b, rfl, _⟩ := At.wordL h1
    cases z
end
end Tk
/-! text ME -/
namespace Tk
/-! ### the ways -/
structure Wy (M : Mach) (i b : Nat) (O : List Nat) (F : List (Option (List Nat))) : Prop where
  len : F.length = M.n
  nd : O.Nodup
  lt : ∀ s ∈ O, s < M.n
  zero : 0 ∈ O
  f0 : F[0]? = some (some [])
  mem : ∀ (s : Nat) (w : List Nat), F[s]? = some (some w) → s ∈ O
  word : ∀ (j s : Nat), O[j]? = some s → ∃ w : List Nat, F[s]? = some (some w) ∧ Wd M.k w ∧ M.run 0 w = s ∧ w.length ≤ j ∧ (w = [] ∨ ∃ (t a : Nat) (v : List Nat), a < M.k ∧ F[t]? = some (some v) ∧ w = v ++ [a])
  suc : ∀ (j s a : Nat), O[j]? = some s → a < M.k → (j < i ∨ (j = i ∧ a < b)) → M.st s a ∈ O
section
variable {M : Mach} {i b : Nat} {O : List Nat} {F : List (Option (List Nat))}
theorem Wy.init (hM : M.Ok) : Wy M 0 0 [0] ((List.replicate M.n none).set 0 (some [])) := by
  have hp := hM.pos
  have f0 : ((List.replicate M.n none).set 0 (some ([] : List Nat)))[0]? = some (some []) := by
    rw [List.getElem?_set_self]; rw [List.length_replicate]; exact hp
  refine ⟨by simp, by simp, fun s hs => by rw [List.mem_singleton.mp hs]; exact hp, by simp, f0, fun s w h => ?_, fun j s h => ?_, fun j s a h _ hc => by omega⟩
  · by_cases e : s = 0
    · rw [e]; simp
    · rw [List.getElem?_set_ne (by omega)] at h
      rw [List.getElem?_replicate] at h
      split at h <;> cases h
  · have hs := List.mem_singleton.mp (List.mem_of_getElem? h)
    subst hs
    exact ⟨[], f0, Wd.nil, rfl, Nat.zero_le _, .inl rfl⟩
theorem Wy.old (B : Wy M i b O F) {s : Nat} (hs : O[i]? = some s) (h : M.st s b ∈ O) : Wy M i (b + 1) O F :=
  ⟨B.len, B.nd, B.lt, B.zero, B.f0, B.mem, B.word, fun j s' a hj ha hc => by
    by_cases e : j = i ∧ a = b
    · obtain ⟨rfl, rfl⟩ := e
      rw [hs] at hj
      cases hj
      exact h
    · exact B.suc j s' a hj ha (by omega)⟩
theorem Wy.none_iff (B : Wy M i b O F) {s : Nat} (hs : s < M.n) : F[s]? = some none ↔ s ∉ O := by
  constructor
  · intro h z
    obtain ⟨j, hj, e⟩ := List.getElem_of_mem z
    obtain ⟨w, hw, _⟩ := B.word j s (by rw [List.getElem?_eq_getElem hj, e])
    rw [h] at hw; cases hw
  · intro h
    have hl : s < F.length := by rw [B.len]; exact hs
    rw [List.getElem?_eq_getElem hl]
    cases e : F[s] with
    | none => rfl
    | some w => exact absurd (B.mem s w (by rw [List.getElem?_eq_getElem hl, e])) h
theorem Wy.new (B : Wy M i b O F) (hM : M.Ok) {s : Nat} {v : List Nat} (hs : O[i]? = some s) (hv : F[s]? = some (some v)) (hb : b < M.k) (h : M.st s b ∉ O) : Wy M i (b + 1) (O ++ [M.st s b]) (F.set (M.st s b) (some (v ++ [b]))) := by
  have hi := (List.getElem?_eq_some_iff.mp hs).1
  have hx := hM.st_lt s b
  have hxl : M.st s b < F.length := by rw [B.len]; exact hx
  have keep : ∀ {t : Nat} {u : List Nat}, F[t]? = some (some u) → (F.set (M.st s b) (some (v ++ [b])))[t]? = some (some u) := fun {t u} e => by
    have : M.st s b ≠ t := fun q => h (q ▸ B.mem t u e)
    rw [List.getElem?_set_ne this]; exact e
  have self : (F.set (M.st s b) (some (v ++ [b])))[M.st s b]? = some (some (v ++ [b])) := List.getElem?_set_self hxl
  obtain ⟨v', hv', c1, c2, c3, c4⟩ := B.word i s hs
  rw [hv] at hv'
  cases hv'
  refine ⟨by rw [List.length_set]; exact B.len, ?_, fun t ht => ?_, List.mem_append_left _ B.zero, keep B.f0, fun t u e => ?_, fun j t e => ?_, fun j t a e ha hc => ?_⟩
  · rw [List.nodup_append]
    refine ⟨B.nd, by simp, fun x hx y hy e => ?_⟩
    rw [List.mem_singleton] at hy
    exact h (hy ▸ e ▸ hx)
  · rcases List.mem_append.mp ht with ht | ht
    · exact B.lt t ht
    · rw [List.mem_singleton.mp ht]; exact hx
  · by_cases q : M.st s b = t
    · exact List.mem_append_right _ (List.mem_singleton.mpr q.symm)
    · rw [List.getElem?_set_ne q] at e
      exact List.mem_append_left _ (B.mem t u e)
  · by_cases q : j < O.length
    · rw [List.getElem?_append_left q] at e
      obtain ⟨u, d1, d2, d3, d4, d5⟩ := B.word j t e
      exact ⟨u, keep d1, d2, d3, d4, d5.elim .inl fun ⟨t', a', v', f1, f2, f3⟩ => .inr ⟨t', a', v', f1, keep f2, f3⟩⟩
    · rw [List.getElem?_append_right (by omega)] at e
      have := List.mem_singleton.mp (List.mem_of_getElem? e)
      subst this
      refine ⟨v ++ [b], self, Wd.append c1 (Wd.one hb), ?_, by simp; omega, .inr ⟨s, b, v, hb, keep hv, rfl⟩⟩
      rw [Mach.run_append, c2]; rfl
  · by_cases q : j < O.length
    · rw [List.getElem?_append_left q] at e
      by_cases z : j = i ∧ a = b
      · obtain ⟨rfl, rfl⟩ := z
        rw [hs] at e
        cases e
        exact List.mem_append_right _ (List.mem_singleton.mpr rfl)
      · exact List.mem_append_left _ (B.suc j t a e ha (by omega))
    · omega
theorem Wy.next (B : Wy M i M.k O F) : Wy M (i + 1) 0 O F :=
  ⟨B.len, B.nd, B.lt, B.zero, B.f0, B.mem, B.word, fun j s a h ha hc => B.suc j s a h ha (by omega)⟩
theorem Wy.olen (B : Wy M i b O F) : O.length ≤ M.n := by
  have := List.Nodup.length_le_of_subset B.nd (l₂ := List.range M.n) fun x hx => List.mem_range.mpr (B.lt x hx)
  rwa [List.length_range] at this
/-- at the end -/
theorem Wy.done (B : Wy M i 0 O F) (hM : M.Ok) (hr : ∀ s, s < M.n → ∃ w, Wd M.k w ∧ M.run 0 w = s) (hi : ¬ i < O.length) :
    ∃ V : Nat → List Nat, F = (List.range M.n).map (fun s => some (V s)) ∧ (∀ s, s < M.n → Wd M.k (V s) ∧ M.run 0 (V s) = s ∧ (V s).length + 1 ≤ M.n) ∧ ∀ s, s < M.n → V s = [] ∨ ∃ t a, t < M.n ∧ a < M.k ∧ V s = V t ++ [a] := by
  have cl : ∀ s ∈ O, ∀ a, a < M.k → M.st s a ∈ O := fun s hs a ha => by
    obtain ⟨j, hj, e⟩ := List.getElem_of_mem hs
    exact B.suc j s a (by rw [List.getElem?_eq_getElem hj, e]) ha (.inl (by omega))
  have run : ∀ (w : List Nat) (s : Nat), s ∈ O → Wd M.k w → M.run s w ∈ O := by
    intro w
    induction w with
    | nil => exact fun s hs _ => hs
    | cons a w ih => exact fun s hs hw => ih _ (cl s hs a hw.head) hw.tail
  have all : ∀ s, s < M.n → s ∈ O := fun s hs => by
    obtain ⟨w, hw, e⟩ := hr s hs
    rw [← e]
    exact run w 0 B.zero hw
  have get : ∀ s, s < M.n → ∃ w : List Nat, F[s]? = some (some w) ∧ Wd M.k w ∧ M.run 0 w = s ∧ w.length + 1 ≤ M.n ∧ (w = [] ∨ ∃ (t a : Nat) (v : List Nat), a < M.k ∧ F[t]? = some (some v) ∧ w = v ++ [a]) := fun s hs => by
    obtain ⟨j, hj, e⟩ := List.getElem_of_mem (all s hs)
    obtain ⟨w, d1, d2, d3, d4, d5⟩ := B.word j s (by rw [List.getElem?_eq_getElem hj, e])
    have := B.olen
    exact ⟨w, d1, d2, d3, by omega, d5⟩
  have ev : ∀ s w, F[s]? = some (some w) → (F.getD s none).getD [] = w := fun s w e => by
    rw [getD_of_get? e]; rfl
  refine ⟨fun s => (F.getD s none).getD [], ?_, fun s hs => ?_, fun s hs => ?_⟩
  · refine List.ext_getElem (by simp [B.len]) fun s h1 h2 => ?_
    rw [List.getElem_map, List.getElem_range]
    obtain ⟨w, d1, _⟩ := get s (by rw [← B.len]; exact h1)
    simp only [ev s w d1]
    rw [List.getElem?_eq_getElem h1] at d1
    exact Option.some.inj d1
  · obtain ⟨w, d1, d2, d3, d4, d5⟩ := get s hs
    simp only [ev s w d1]
    exact ⟨d2, d3, d4⟩
  · obtain ⟨w, d1, d2, d3, d4, d5⟩ := get s hs
    simp only [ev s w d1]
    rcases d5 with d5 | ⟨t, a, v, f1, f2, f3⟩
    · exact .inl d5
    · refine .inr ⟨t, a, ?_, f1, ?_⟩
      · rw [← B.len]; exact (List.getElem?_eq_some_iff.mp f2).1
      · rw [ev t v f2]; exact f3
end
/-! ### all words -/
def lev (k : Nat) : Nat → List (List Nat)
  | 0 => [[]]
  | i + 1 => (lev k i).flatMap fun w => (List.range k).map fun a => w ++ [a]
def allW (k : Nat) : Nat → List (List Nat)
  | 0 => [[]]
  | i + 1 => allW k i ++ lev k (i + 1)
theorem lev_len (k : Nat) : ∀ i, (lev k i).length = k ^ i
  | 0 => rfl
  | i + 1 => by
    show ((lev k i).flatMap fun w => (List.range k).map fun a => w ++ [a]).length = _
    rw [List.length_flatMap]
    simp [List.map_const', lev_len k i, Nat.pow_succ]
theorem lev_mem (k : Nat) : ∀ (i : Nat) (w : List Nat), w ∈ lev k i ↔ Wd k w ∧ w.length = i
  | 0, w => by
    show w ∈ [[]] ↔ _
    rw [List.mem_singleton, List.length_eq_zero_iff]
    exact ⟨fun h => ⟨h ▸ Wd.nil, h⟩, fun h => h.2⟩
  | i + 1, w => by
    show w ∈ ((lev k i).flatMap fun w => (List.range k).map fun a => w ++ [a]) ↔ _
    rw [List.mem_flatMap]
    constructor
    · rintro ⟨v, hv, h⟩
      obtain ⟨a, ha, rfl⟩ := List.mem_map.mp h
      obtain ⟨h1, h2⟩ := (lev_mem k i v).mp hv
      exact ⟨Wd.append h1 (Wd.one (List.mem_range.mp ha)), by simp [h2]⟩
    · rintro ⟨h1, h2⟩
      have ne : w ≠ [] := fun e => by rw [e] at h2; cases h2
      have e := List.dropLast_concat_getLast ne
      refine ⟨w.dropLast, (lev_mem k i _).mpr ⟨?_, by simp [h2]⟩, List.mem_map.mpr ⟨w.getLast ne, List.mem_range.mpr (h1 _ (List.getLast_mem ne)), e⟩⟩
      exact fun x hx => h1 x (List.dropLast_subset w hx)
theorem allW_mem (k : Nat) : ∀ (i : Nat) (w : List Nat), w ∈ allW k i ↔ Wd k w ∧ w.length ≤ i
  | 0, w => by
    have := lev_mem k 0 w
    show w ∈ [[]] ↔ _
    rw [show ([[]] : List (List Nat)) = lev k 0 from rfl, this]
    exact ⟨fun h => ⟨h.1, by omega⟩, fun h => ⟨h.1, by omega⟩⟩
  | i + 1, w => by
    show w ∈ allW k i ++ lev k (i + 1) ↔ _
    rw [List.mem_append, allW_mem k i w, lev_mem k (i + 1) w]
    constructor
    · rintro (⟨a, b⟩ | ⟨a, b⟩)
      · exact ⟨a, by omega⟩
      · exact ⟨a, by omega⟩
    · rintro ⟨a, b⟩
      by_cases q : w.length ≤ i
      · exact .inl ⟨a, q⟩
      · exact .inr ⟨a, by omega⟩
def szW (k : Nat) : Nat → Nat
  | 0 => 1
  | i + 1 => szW k i + k ^ (i + 1)
theorem allW_len (k : Nat) : ∀ i, (allW k i).length = szW k i
  | 0 => rfl
  | i + 1 => by
    show (allW k i ++ lev k (i + 1)).length = _
    rw [List.length_append, allW_len k i, lev_len]; rfl
theorem few {k L : Nat} {ws : List (List Nat)} (hn : ws.Nodup) (h : ∀ w ∈ ws, Wd k w ∧ w.length ≤ L) : ws.length ≤ szW k L := by
  rw [← allW_len]
  exact List.Nodup.length_le_of_subset hn fun w hw => (allW_mem k L w).mpr (h w hw)
/-! ### outputs along a word -/
def outs (M : Mach) (s : Nat) (w : List Nat) : List Nat := (List.range (w.length + 1)).map fun i => M.outp s (w.take i)
theorem outs_eq {M : Mach} {s t : Nat} {w : List Nat} : outs M s w = outs M t w ↔ Al M M s t w := by
  unfold outs
  rw [List.map_inj_left]
  constructor
  · rintro h p ⟨q, rfl⟩
    have := h p.length (List.mem_range.mpr (by simp; omega))
    rwa [List.take_left] at this
  · intro h i hi
    exact h _ (List.take_prefix _ _)
/-! ### sums of powers -/
def szP (k : Nat) : Nat → Nat
  | 0 => 0
  | i + 1 => szP k i + k ^ i
theorem szP_szW (k : Nat) : ∀ e, szP k (e + 1) = szW k e
  | 0 => by simp [szP, szW]
  | e + 1 => by
    show szP k (e + 1) + k ^ (e + 1) = szW k e + k ^ (e + 1)
    rw [szP_szW k e]
theorem szW_mono (k : Nat) {i j : Nat} (h : i ≤ j) : szW k i ≤ szW k j := by
  induction h with
  | refl => exact Nat.le_refl _
  | step _ ih => exact Nat.le_trans ih (Nat.le_add_right _ _)
theorem pow_szW (k i : Nat) : k ^ i ≤ szW k i := by
  cases i with
  | zero => exact Nat.le_refl _
  | succ i => exact Nat.le_add_left _ _
theorem lev_map {β : Type} (f : List Nat → β) (k i : Nat) : ((lev k i).flatMap fun e => (List.range k).map fun a => f (e ++ [a])) = (lev k (i + 1)).map f := by
  show _ = ((lev k i).flatMap fun w => (List.range k).map fun a => w ++ [a]).map f
  rw [List.map_flatMap]
  congr 1
  funext e
  rw [List.map_map]
  rfl
/-- the bound on lists -/
def lbd (n k e : Nat) : Nat := (n * k + 1) * szW k e * max 1 (n - 1)
end Tk
/-! text D5 -/
set_option maxHeartbeats 4000000
namespace Tk
open PySem L2
def sp_outputs_from : Sp := fun vs H Q _ => ∃ (N : Fp) (m v : V) (M : Mach) (s : Nat) (w : List Nat), vs = [m, nV s, v] ∧ Wf N H ∧ At N H m (mD M) ∧ M.Ok ∧ s < M.n ∧ At N H v (wL w) ∧ Wd M.k w ∧ w.length ≤ 400 ∧
  ∀ (r : V) (H' : Hp), Sm H H' → At N H' r (.l ((outs M s w).map D.n)) → Q r H'
def oD : Option (List Nat) → D
  | none => .no
  | some w => wL w
def sp_ways_to : Sp := fun vs H Q _ => ∃ (N : Fp) (m : V) (M : Mach), vs = [m] ∧ Wf N H ∧ At N H m (mD M) ∧ M.Ok ∧ M.n ≤ 100 ∧ M.k ≤ 100 ∧ (∀ s, s < M.n → ∃ w, Wd M.k w ∧ M.run 0 w = s) ∧
  ∀ (r : V) (H' : Hp) (Vw : Nat → List Nat), Sm H H' → (∀ s, s < M.n → Wd M.k (Vw s) ∧ M.run 0 (Vw s) = s ∧ (Vw s).length + 1 ≤ M.n) → (∀ s, s < M.n → Vw s = [] ∨ ∃ t a, t < M.n ∧ a < M.k ∧ Vw s = Vw t ++ [a]) →
    At N H' r (.l ((List.range M.n).map fun s => wL (Vw s))) → Q r H'
def sp_all_words : Sp := fun vs H Q _ => ∃ (N : Fp) (k m : Nat), vs = [nV k, nV m] ∧ Wf N H ∧ m ≤ 1000 ∧ szW k m ≤ 10000 ∧ k ≤ 100 ∧
  ∀ (r : V) (H' : Hp), Sm H H' → At N H' r (.l ((allW k m).map wL)) → Q r H'
def sp_most_words : Sp := fun vs H Q _ => ∃ (n k e : Nat), vs = [nV n, nV k, nV e] ∧ 1 ≤ n ∧ n ≤ 100 ∧ k ≤ 100 ∧ e ≤ 100 ∧ ∀ H', Sm H H' → Q (nV (lbd n k e)) H'
abbrev sp_list_bound : Sp := sp_most_words
theorem lbd_int {n k e : Nat} (h : 1 ≤ n) : ((n : Int) * (k : Int) + 1) * (szP k (e + 1) : Int) * (if (n : Int) - 1 > 1 then (n : Int) - 1 else 1) = (lbd n k e : Nat) := by
  have e1 : (if (n : Int) - 1 > 1 then (n : Int) - 1 else 1) = ((max 1 (n - 1) : Nat) : Int) := by split <;> omega
  rw [e1, szP_szW]
  unfold lbd
  push_cast
  rfl
section
variable {P : Program} {w : World} {K : PySem.W.Frag} {mg : Str → Option Value} {base : Heap} {a : Ads} {d : Fds}
theorem ok_outputs_from (T : TX K mg base a d) : FnOk P w K mg base CX0 1 a.f_outputs_from d.d_outputs_from ["machine", "state", "word"] (sp_outputs_from) := by
  refine T.F_outputs_from.ok sc_outputs_from (fun vs H Q E h => ?_) (fun cdv A outer s H vs Q E hr h => ?_)
  · obtain ⟨_, _, _, _, _, _, rfl, _⟩ := h
    rfl
  · obtain ⟨N, m, v, M, s0, wd, rfl, W, hm, hM, hs, hv, hw, hl, q⟩ := h
    have hu := hu_of hr
    refine ⟨_, (pss_cons (ps_set (i := 3) sc_outputs_from.nd rfl (Or.inl rfl) (pe_lstm (pa_cons (pe_ix (ix_tupk K) (pe_ix (ix_tupk K) (pv 0) pe_int (fun _ _ => rfl)) (pv 1) (fun _ _ => rfl)) pa_nil)))
    (pss_cons (ps_forL PassesOwn.never rfl (pv 2) (pg_name (i := 4) sc_outputs_from.nd rfl (Or.inl rfl)) (pss_cons (ps_set (i := 1) sc_outputs_from.nd rfl (Or.inl rfl) (pe_ix (ix_tupk K) (pe_ix (ix_tupk K) (pe_ix (ix_tupk K) (pv 0) pe_int (fun _ _ => rfl)) (pv 1) (fun _ _ => rfl)) (pv 4) (fun _ _ => rfl)))
      (pss_one (ps_expr (pe_bmk K PySem.F.plainAttrs_list PySem.F.slot_list_append PySem.F.type_list_append mt_appendm (pv 3) (pa_cons (pe_ix (ix_tupk K) (pe_ix (ix_tupk K) (pv 0) pe_int (fun _ _ => rfl)) (pv 1) (fun _ _ => rfl)) pa_nil))))))
    (pss_one (ps_ret (pv 3))))), ?_⟩
    refine ⟨_, rfl, ixT 3 hm rfl rfl fun z hz => ⟨_, rfl, ixF s0 hz (out_get hs) rfl fun z1 hz1 => newL W (by simp) (.one hz1) fun l H1 hl1 s1 L1 W1 => ?_⟩⟩
    have hm1 := hm.ad hl1 s1
    have hv1 := hv.ad hl1 s1
    have hsub : ∀ b, on l b → ad l N b := fun b z => .inl z
    refine ⟨_, rfl, forL (N := ad l N) hv1 (fun i σ H' => Ev (on l) H1 H' ∧ Lst (ad l N) H' l (((List.range (i + 1)).map fun i => M.outp s0 (wd.take i)).map D.n) ∧ ∃ z, σ = [some m, some (nV (M.run s0 (wd.take i))), some v, some (.ref l), z]) ⟨.refl _ _, L1, _, rfl⟩ (fun i σ' H' h => h.1.mono hsub) ?_ ?_⟩
    · rintro i e z σ' H2 he hz ⟨e2, L2, x, rfl⟩
      obtain ⟨hi, rfl⟩ := word_get he
      rw [hz.isN]
      have hm2 := hm1.evs e2 hsub
      have hr1 : M.run s0 (wd.take i) < M.n := hM.run_lt _ hs
      have hwi := hw _ (List.getElem_mem hi)
      refine ⟨_, rfl, ixT 2 hm2 rfl rfl fun z1 h1 => ⟨_, rfl, ixT _ h1 (mv_get hM hr1) rfl fun z2 h2 => ⟨_, rfl, ixT _ h2 (row_get hM hr1 hwi) rfl fun z3 h3 => ?_⟩⟩⟩
      rw [h3.isN]
      refine ⟨_, rfl, L2.ty, _, rfl, ixT 3 hm2 rfl rfl fun z4 h4 => ⟨_, rfl, ixF _ h4 (out_get (hM.st_lt _ _)) rfl fun z5 h5 => ?_⟩⟩
      rw [h5.isN]
      refine appL (N := ad l N) L2 (.inl rfl) (.n _) (by simp; omega) fun H3 e3 L3 => ?_
      have et : M.run s0 (wd.take (i + 1)) = M.st (M.run s0 (wd.take i)) wd[i] := by
        rw [List.take_succ_eq_append_getElem hi, Mach.run_append]; rfl
      refine ⟨e2.trans e3, ?_, some (nV wd[i]), ?_⟩
      · rw [List.range_succ, List.map_append, List.map_append]
        have : M.outp s0 (wd.take (i + 1)) = M.ou (M.st (M.run s0 (wd.take i)) wd[i]) := by unfold Mach.outp; rw [et]
        show Lst _ _ _ (_ ++ [D.n (M.outp s0 (wd.take (i + 1)))])
        rw [this]
        exact L3
      · rw [et]; rfl
    · rintro σ' H2 ⟨e2, L2, x, rfl⟩
      rw [List.length_map] at L2
      exact ⟨_, rfl, q _ _ (s1.then e2 fun b z => .inr (z ▸ hl1)) (L2.at (fun z => W.no hl1 z) fun b z => .inr z)⟩
theorem ok_ways_to (T : TX K mg base a d) : FnOk P w K mg base CX0 1 a.f_ways_to d.d_ways_to ["machine"] (sp_ways_to) := by
  refine T.F_ways_to.ok sc_ways_to (fun vs H Q E h => ?_) (fun cdv A outer s H vs Q E hr h => ?_)
  · obtain ⟨_, _, _, rfl, _⟩ := h
    rfl
  · obtain ⟨N, m, M, rfl, W, hm, hM, hn, hk, hreach, q⟩ := h
    have hu := hu_of hr
    refine ⟨_, (pss_cons (ps_asg (pv 0) (pg_tup rfl (pgs_cons (pg_name (i := 1) sc_ways_to.nd rfl (Or.inl rfl)) (pgs_cons (pg_name (i := 2) sc_ways_to.nd rfl (Or.inl rfl)) (pgs_cons (pg_name (i := 3) sc_ways_to.nd rfl (Or.inl rfl)) (pgs_cons (pg_name (i := 4) sc_ways_to.nd rfl (Or.inl rfl)) pgs_nil))))))
    (pss_cons (ps_set (i := 5) sc_ways_to.nd rfl (Or.inl rfl) (pe_op op_repm (pe_lstm (pa_cons pe_non pa_nil)) (pe_callB (cr_lenk K) (by rfl) T.b_len (by decide +kernel) (pa_cons (pv 4) pa_nil))))
    (pss_cons (ps_asg (pe_lstm pa_nil) (pg_sub (pv 5) pe_int set_listm))
    (pss_cons (ps_set (i := 6) sc_ways_to.nd rfl (Or.inl rfl) (pe_lstm (pa_cons pe_int pa_nil)))
    (pss_cons (ps_set (i := 7) sc_ways_to.nd rfl (Or.inl rfl) pe_int)
    (pss_cons (ps_while PassesOwn.never (pt_cmpR op_lt (pv 7) (pe_callB (cr_lenk K) (by rfl) T.b_len (by decide +kernel) (pa_cons (pv 6) pa_nil)) (nomark _)) (pss_cons (ps_set (i := 8) sc_ways_to.nd rfl (Or.inl rfl) (pe_ix (ix_listk K) (pv 6) (pv 7) (fun _ _ => rfl)))
      (pss_cons (ps_forR PassesOwn.never rfl rfl T.b_range (pa_cons (pv 1) pa_nil) (pg_name (i := 9) sc_ways_to.nd rfl (Or.inl rfl)) (pss_cons (ps_set (i := 10) sc_ways_to.nd rfl (Or.inl rfl) (pe_ix (ix_tupk K) (pe_ix (ix_tupk K) (pv 3) (pv 8) (fun _ _ => rfl)) (pv 9) (fun _ _ => rfl)))
        (pss_one (ps_if (pt_cmp (pc_isN (pe_ix (ix_listk K) (pv 5) (pv 10) (fun _ _ => rfl)))) (pss_cons (ps_asg (pe_op op_catLm (pe_ix (ix_listk K) (pv 5) (pv 8) (fun _ _ => rfl)) (pe_lstm (pa_cons (pv 9) pa_nil))) (pg_sub (pv 5) (pv 10) set_listm))
          (pss_one (ps_expr (pe_bmk K PySem.F.plainAttrs_list PySem.F.slot_list_append PySem.F.type_list_append mt_appendm (pv 6) (pa_cons (pv 10) pa_nil))))) pss_nil))))
      (pss_one (ps_aug (i := 7) sc_ways_to.nd rfl (Or.inl rfl) pe_int ip_add)))))
    (pss_one (ps_ret (pv 5))))))))), ?_⟩
    obtain ⟨ma, mb, mc, rfl, nma, hma, hmv, hout⟩ := mD_parts hm
    refine ⟨_, rfl, ma, _, rfl, SqT.of hma, rfl, _, _, rfl, _, _, rfl, _, _, rfl, _, _, rfl, rfl, ?_⟩
    refine mkL W (by simp) (.one .no) fun p1 H1 s1 h1 => ?_
    refine ⟨_, rfl, lenF (hout.sm s1) ?_⟩
    rw [List.length_map]
    refine repL (W.ev s1) h1 M.n rfl (by omega) fun fl H2 hfl s2 L2 W2 => ?_
    refine mkL W2 (by simp) .nil fun p3 H3 s3 h3 => ?_
    refine ⟨_, rfl, setLs 0 (L2.sm s3) (.inl rfl) (by rw [List.length_replicate]; exact hM.pos) rfl h3 fun H4 e4 L4 => ?_⟩
    refine newL (((W2.ev s3).ev e4)) (ds := [D.n 0]) (by simp) (.one (.n 0)) fun ol H5 hol s5 L5 W5 => ?_
    have nfo : fl ≠ ol := L4.ne hol
    have L4' := L4.ad hol s5
    have eF : (List.replicate M.n D.no).set 0 (D.l []) = ((List.replicate M.n none).set 0 (some [])).map oD := by
      rw [List.map_set, List.map_replicate]; rfl
    rw [eF] at L4'
    have hmv5 : At (ad ol (ad fl N)) H5 mb (.t (M.mv.map wT)) := (((((hmv.sm s1).ad hfl s2).sm s3).evs e4 fun b z => .inl z)).ad hol s5
    have hfl0 : H fl = none := s1.free hfl
    have e04 : Ev (on fl) H H4 := (Ev.of ((s1.trans s2).trans s3)).trans e4
    have hol0 : H ol = none := e04.th ol hol
    have e05 : Ev (fun b => b = fl ∨ b = ol) H H5 := (e04.mono fun b z => .inl z).trans (.of s5)
    have hsub : ∀ b, (b = fl ∨ b = ol) → ad ol (ad fl N) b := fun b z => z.elim (fun e => .inr (.inl e)) .inl
    clear h3 h1 L2 L4
    refine whileI M.n (fun i σ H' => ∃ (O : List Nat) (F : List (Option (List Nat))), Wy M i 0 O F ∧ Ev (fun b => b = fl ∨ b = ol) H5 H' ∧ Lst (ad ol (ad fl N)) H' ol (O.map D.n) ∧ Lst (ad ol (ad fl N)) H' fl (F.map oD) ∧ ∃ x8 x9 x10, σ = [some (.ref ma), some (nV M.k), some (nV M.o), some mb, some mc, some (.ref fl), some (.ref ol), some (nV i), x8, x9, x10])
      ⟨[0], _, .init hM, .refl _ _, L5, L4', _, _, _, rfl⟩ ?_
    rintro i σ H6 ⟨O, F, B, e6, LO, LF, x8, x9, x10, rfl⟩
    refine ⟨_, rfl, _, rfl, lenLs LO ⟨_, _, rfl, rfl, _, rfl, ?_⟩⟩
    rw [List.length_map]
    by_cases hlt : i < O.length
    · refine ifT (decide_eq_true (by omega)) (whT (Nat.lt_of_lt_of_le hlt B.olen) ?_)
      have hoi : O[i]? = some O[i] := List.getElem?_eq_getElem hlt
      generalize O[i] = s0 at hoi
      have hs0 := B.lt s0 (List.mem_of_getElem? hoi)
      refine ⟨_, rfl, _, rfl, ixLs (d := .n s0) i LO (by rw [List.getElem?_map, hoi]; rfl) rfl fun z hz => ?_⟩
      rw [hz.isN]
      refine ⟨_, rfl, ?_⟩
      refine forR M.k rfl (by omega) (fun b σ' H' => ∃ (O : List Nat) (F : List (Option (List Nat))), Wy M i b O F ∧ O[i]? = some s0 ∧ Ev (fun b => b = fl ∨ b = ol) H5 H' ∧ Lst (ad ol (ad fl N)) H' ol (O.map D.n) ∧ Lst (ad ol (ad fl N)) H' fl (F.map oD) ∧ ∃ x9 x10, σ' = [some (.ref ma), some (nV M.k), some (nV M.o), some mb, some mc, some (.ref fl), some (.ref ol), some (nV i), some (nV s0), x9, x10])
        ⟨O, F, B, hoi, e6, LO, LF, _, _, rfl⟩ ?_ ?_
      · rintro b σ' H7 hb ⟨O, F, B, hoi, e7, LO, LF, x9, x10, rfl⟩
        have W7 := W5.ev (e7.mono hsub)
        refine ⟨_, rfl, _, rfl, ixT s0 (hmv5.evs e7 hsub) (mv_get hM hs0) rfl fun z1 h1 => ⟨_, rfl, ixT b h1 (row_get hM hs0 hb) rfl fun z2 h2 => ?_⟩⟩
        rw [h2.isN]
        have hx := hM.st_lt s0 b
        have hxl : M.st s0 b < F.length := by rw [B.len]; exact hx
        obtain ⟨v, hv, c1, c2, c3, c4⟩ := B.word i s0 hoi
        cases hF : F[M.st s0 b] with
        | some u =>
          have hFu : F[M.st s0 b]? = some (some u) := by rw [List.getElem?_eq_getElem hxl, hF]
          refine ⟨_, rfl, _, rfl, ixLs (d := wL u) (M.st s0 b) LF (by rw [List.getElem?_map, hFu]; rfl) rfl fun z3 h3 => ⟨_, rfl, ifF (decide_eq_false fun z => ?_) ?_⟩⟩
          · obtain ⟨b', rfl, _⟩ := At.wordL h3
            cases z
          · exact ⟨O, F, B.old hoi (B.mem _ _ hFu), hoi, e7, LO, LF, _, _, rfl⟩
        | none =>
          have hFu : F[M.st s0 b]? = some none := by rw [List.getElem?_eq_getElem hxl, hF]
          refine ⟨_, rfl, _, rfl, ixLs (d := .no) (M.st s0 b) LF (by rw [List.getElem?_map, hFu]; rfl) rfl fun z3 h3 => ⟨_, rfl, ifT (decide_eq_true h3.isNo) ?_⟩⟩
          have hnin := (B.none_iff hx).mp hFu
          have B' := B.new hM hoi hv hb hnin
          refine ⟨_, rfl, _, rfl, ixLs (d := wL v) s0 LF (by rw [List.getElem?_map, hv]; rfl) rfl fun z4 h4 => ⟨_, rfl, mkL W7 (by simp) (.one (.n b)) fun p8 H8 s8 h8 => ?_⟩⟩
          refine catD (W7.ev s8) (h4.sm s8) h8 (ds := v.map D.n) (es := [D.n b]) ?_ fun p9 H9 hp9 s9 h9 => ?_
          · rw [List.length_map, List.length_singleton]
            have h1 := B.olen
            have h2 : v.length ≤ i := c3
            have h3 : i < O.length := (List.getElem?_eq_some_iff.mp hoi).1
            omega
          · refine ⟨_, rfl, _, rfl, setLs (M.st s0 b) ((LF.sm s8).sm s9) (.inr (.inl rfl)) (by rw [List.length_map]; exact hxl) rfl h9 fun H10 e10 L10 => ?_⟩
            have LO10 := ((LO.sm s8).sm s9).ev e10 (fun b z => .inr (.inl z)) (fun z => nfo z.symm)
            refine ⟨_, rfl, LO10.ty, _, rfl, appL (N := ad ol (ad fl N)) LO10 (.inl rfl) (.n _) (by rw [List.length_map]; have := B.olen; omega) fun H11 e11 L11 => ?_⟩
            refine ⟨_, _, B', ?_, ((e7.trans (.of (s8.trans s9))).trans (e10.mono fun b z => .inl z)).trans (e11.mono fun b z => .inr z), ?_, ?_, _, _, rfl⟩
            · rw [List.getElem?_append_left (List.getElem?_eq_some_iff.mp hoi).1]; exact hoi
            · rw [List.map_append]; exact L11
            · rw [List.map_set]
              have := L10.ev e11 (fun b z => .inl z) nfo
              rw [show oD (some (v ++ [b])) = .l (v.map D.n ++ [D.n b]) by unfold oD wL; simp only [List.map_append]; rfl]
              exact this
      · rintro σ' H7 ⟨O, F, B, hoi, e7, LO, LF, x9, x10, rfl⟩
        exact ⟨_, rfl, _, _, rfl, rfl, O, F, B.next, e7, LO, LF, _, _, _, rfl⟩
    · refine ifF (decide_eq_false (by omega)) ⟨_, rfl, ?_⟩
      obtain ⟨Vw, hF, hV, hP⟩ := B.done hM hreach hlt
      refine q _ _ Vw (Ev.then (F := F0) (.refl _ _) (e05.trans e6) ?_) hV hP ?_
      · rintro b (rfl | rfl)
        · exact .inr hfl0
        · exact .inr hol0
      · rw [hF, List.map_map] at LF
        exact LF.at (fun z => W.no hfl0 z) fun b z => .inr (.inr z)
theorem ok_all_words (T : TX K mg base a d) : FnOk P w K mg base CX0 1 a.f_all_words d.d_all_words ["letters", "most"] (sp_all_words) := by
  refine T.F_all_words.ok sc_all_words (fun vs H Q E h => ?_) (fun cdv A outer s H vs Q E hr h => ?_)
  · obtain ⟨_, _, _, rfl, _⟩ := h
    rfl
  · obtain ⟨N, k, m, rfl, W, hm, hz, hk, q⟩ := h
    have hu := hu_of hr
    refine ⟨_, (pss_cons (ps_set (i := 2) sc_all_words.nd rfl (Or.inl rfl) (pe_lstm (pa_cons (pe_lstm pa_nil) pa_nil)))
    (pss_cons (ps_set (i := 3) sc_all_words.nd rfl (Or.inl rfl) (pe_lstm (pa_cons (pe_lstm pa_nil) pa_nil)))
    (pss_cons (ps_forR PassesOwn.never rfl rfl T.b_range (pa_cons (pv 1) pa_nil) (pg_name (i := 4) sc_all_words.nd rfl (Or.inl rfl)) (pss_cons (psL2 (ps_setLc2 (i := 3) (own := [("word", 5), ("letter", 6)]) (vs1 := [6]) rfl sc_all_words.nd rfl rfl (sw_true rfl rfl rfl (by decide +kernel)) (pi_listk K (pv 3)) (blkOk_by (own := [("word", 5), ("letter", 6)]) (N := N_all_words) (sc := defScope s_all_words) (by decide +kernel)) (by decide) (fun _ _ _ _ _ => (pg_name (i := 5) sc_all_words.nd rfl (Or.inl rfl))) (fun _ _ _ _ _ => pts_nil) (fun _ _ _ _ _ => (pi_range1 rfl T.b_range (pa_cons (pv 0) pa_nil))) (fun _ _ _ _ _ => (pg_name (i := 6) sc_all_words.nd rfl (Or.inl rfl))) (fun _ _ _ _ _ => pts_nil) (fun _ _ _ _ _ => (pe_op op_catLm (pv 5) (pe_lstm (pa_cons (pv 6) pa_nil))))))
      (pss_one (ps_set (i := 2) sc_all_words.nd rfl (Or.inl rfl) (pe_op op_catLm (pv 2) (pv 3))))))
    (pss_one (ps_ret (pv 2)))))), ?_⟩
    refine mkL W (by simp) .nil fun p1 H1 s1 h1 => mkL (W.ev s1) (by simp) (.one h1) fun p2 H2 s2 h2 => ?_
    have W2 := (W.ev s1).ev s2
    refine mkL W2 (by simp) .nil fun p3 H3 s3 h3 => mkL (W2.ev s3) (by simp) (.one h3) fun p4 H4 s4 h4 => ?_
    have s04 := ((s1.trans s2).trans s3).trans s4
    refine ⟨_, rfl, ?_⟩
    refine forR m rfl (by omega) (fun i σ H' => Sm H4 H' ∧ ∃ fv lv z, At N H' fv (.l ((allW k i).map wL)) ∧ At N H' lv (.l ((lev k i).map wL)) ∧ σ = [some (nV k), some (nV m), some fv, some lv, z, none, none]) ⟨.refl _ _, _, _, none, (h2.sm s3).sm s4, h4, rfl⟩ ?_ ?_
    · rintro i σ' H5 hi ⟨s5, fv, lv, z, hf, hl, rfl⟩
      have W5 := W.ev (s04.trans s5)
      have b1 := szW_mono k (show i + 1 ≤ m by omega)
      have b2 := pow_szW k (i + 1)
      refine ⟨_, rfl, ?_⟩
      refine lc2LR (lev k i) k wL (fun w a => wL (w ++ [a])) W5 hl ?_ (by omega) (fun _ => rfl) (fun _ _ => rfl) (fun _ => rfl) (fun w hw b hb y H' N' s' W' _ _ hy R k' => ?_) fun p6 H6 s6 hp6 h6 => ?_
      · rw [lev_len, ← Nat.pow_succ]; exact Nat.le_trans b2 (Nat.le_trans b1 (by omega))
      · refine ⟨_, rfl, _, rfl, mkL W' (by simp) (.one (.n b)) fun p7 H7 s7 h7 => ?_⟩
        refine catD (W'.ev s7) (hy.sm s7) h7 (ds := w.map D.n) (es := [D.n b]) ?_ fun p8 H8 hp8 s8 h8 => k' _ _ (s7.trans s8) ?_
        · rw [List.length_map, List.length_singleton, ((lev_mem k i w).mp hw).2]; omega
        · unfold wL
          rw [List.map_append]
          exact h8
      · rw [lev_map wL] at h6
        refine ⟨_, rfl, _, rfl, catD (W5.ev s6) (hf.sm s6) h6 ?_ fun p7 H7 hp7 s7 h7 => ?_⟩
        · rw [List.length_map, List.length_map, allW_len, lev_len]
          have b3 := szW_mono k (show i ≤ m by omega)
          omega
        · refine ⟨(s5.trans s6).trans s7, _, _, _, ?_, h6.sm s7, rfl⟩
          rw [← List.map_append] at h7
          exact h7
    · rintro σ' H5 ⟨s5, fv, lv, z, hf, hl, rfl⟩
      exact ⟨_, rfl, q _ _ (s04.trans s5) hf⟩
theorem ok_most_words (T : TX K mg base a d) : FnOk P w K mg base CX0 1 a.f_most_words d.d_most_words ["states", "letters", "extra"] (sp_most_words) := by
  refine T.F_most_words.ok sc_most_words (fun vs H Q E h => ?_) (fun cdv A outer s H vs Q E hr h => ?_)
  · obtain ⟨_, _, _, rfl, _⟩ := h
    rfl
  · obtain ⟨n, k, e, rfl, h1, hn, hk, he, q⟩ := h
    have hu := hu_of hr
    refine ⟨_, (pss_cons (ps_set (i := 3) sc_most_words.nd rfl (Or.inl rfl) pe_int)
    (pss_cons (ps_set (i := 4) sc_most_words.nd rfl (Or.inl rfl) pe_int)
    (pss_cons (ps_forR PassesOwn.never rfl rfl T.b_range (pa_cons (pe_op op_add (pv 2) pe_int) pa_nil) (pg_name (i := 5) sc_most_words.nd rfl (Or.inl rfl)) (pss_cons (ps_aug (i := 3) sc_most_words.nd rfl (Or.inl rfl) (pv 4) ip_add)
      (pss_one (ps_aug (i := 4) sc_most_words.nd rfl (Or.inl rfl) (pv 1) ip_mul))))
    (pss_one (ps_ret (pe_op op_mul (pe_op op_mul (pe_op op_add (pe_op op_mul (pv 0) (pv 1)) pe_int) (pv 3)) (pe_callB (call_max2 rfl) (by rfl) T.b_max (by decide +kernel) (pa_cons pe_int (pa_cons (pe_op op_sub (pv 0) pe_int) pa_nil))))))))), ?_⟩
    refine ⟨_, rfl, _, _, rfl, rfl, ?_⟩
    refine forR (e + 1) rfl (by omega) (fun i σ H' => Sm H H' ∧ ∃ z, σ = [some (nV n), some (nV k), some (nV e), some (nV (szP k i)), some (nV (k ^ i)), z]) ⟨.refl _ _, none, rfl⟩ ?_ ?_
    · rintro i σ' H' hi ⟨s', z, rfl⟩
      refine ⟨_, rfl, _, rfl, _, _, rfl, rfl, ?_⟩
      refine ⟨_, rfl, _, rfl, _, _, rfl, rfl, .inr ⟨by omega, by omega⟩, ?_⟩
      refine ⟨s', some (nV i), ?_⟩
      have e1 : nV (szP k (i + 1)) = V.int ((szP k i : Int) + ((k ^ i : Nat) : Int)) := by
        show V.int ((szP k i + k ^ i : Nat) : Int) = _
        push_cast; rfl
      have e2 : nV (k ^ (i + 1)) = V.int (((k ^ i : Nat) : Int) * (k : Int)) := by
        show V.int ((k ^ (i + 1) : Nat) : Int) = _
        rw [Nat.pow_succ]; push_cast; rfl
      rw [e1, e2]
      rfl
    · rintro σ' H' ⟨s', z, rfl⟩
      refine ⟨_, rfl, _, rfl, _, _, rfl, rfl, .inr ⟨by omega, by omega⟩, ?_⟩
      refine ⟨_, _, rfl, rfl, _, rfl, _, _, rfl, rfl, .inl ?_, ?_⟩
      · have := Nat.mul_le_mul hn hk
        have e3 : ((n : Int) * (k : Int)) = ((n * k : Nat) : Int) := by push_cast; rfl
        rw [e3]; omega
      · refine ⟨_, rfl, _, _, rfl, rfl, _, _, rfl, ?_⟩
        refine ⟨_, _, rfl, rfl, .inr ?_, ?_⟩
        · split <;> omega
        · have q' := q _ s'
          unfold nV at q'
          rw [← lbd_int h1] at q'
          exact q'
theorem ok_list_bound (T : TX K mg base a d) : FnOk P w K mg base CX0 1 a.f_list_bound d.d_list_bound ["states", "letters", "extra"] (sp_list_bound) := by
  refine T.F_list_bound.ok sc_list_bound (fun vs H Q E h => ?_) (fun cdv A outer s H vs Q E hr h => ?_)
  · obtain ⟨_, _, _, rfl, _⟩ := h
    rfl
  · obtain ⟨n, k, e, rfl, h1, hn, hk, he, q⟩ := h
    have hu := hu_of hr
    refine ⟨_, (pss_cons (ps_set (i := 3) sc_list_bound.nd rfl (Or.inl rfl) pe_int)
    (pss_cons (ps_set (i := 4) sc_list_bound.nd rfl (Or.inl rfl) pe_int)
    (pss_cons (ps_forR PassesOwn.never rfl rfl T.b_range (pa_cons (pe_op op_add (pv 2) pe_int) pa_nil) (pg_name (i := 5) sc_list_bound.nd rfl (Or.inl rfl)) (pss_cons (ps_aug (i := 3) sc_list_bound.nd rfl (Or.inl rfl) (pv 4) ip_add)
      (pss_one (ps_aug (i := 4) sc_list_bound.nd rfl (Or.inl rfl) (pv 1) ip_mul))))
    (pss_one (ps_ret (pe_op op_mul (pe_op op_mul (pe_op op_add (pe_op op_mul (pv 0) (pv 1)) pe_int) (pv 3)) (pe_callB (call_max2 rfl) (by rfl) T.b_max (by decide +kernel) (pa_cons pe_int (pa_cons (pe_op op_sub (pv 0) pe_int) pa_nil))))))))), ?_⟩
    refine ⟨_, rfl, _, _, rfl, rfl, ?_⟩
    refine forR (e + 1) rfl (by omega) (fun i σ H' => Sm H H' ∧ ∃ z, σ = [some (nV n), some (nV k), some (nV e), some (nV (szP k i)), some (nV (k ^ i)), z]) ⟨.refl _ _, none, rfl⟩ ?_ ?_
    · rintro i σ' H' hi ⟨s', z, rfl⟩
      refine ⟨_, rfl, _, rfl, _, _, rfl, rfl, ?_⟩
      refine ⟨_, rfl, _, rfl, _, _, rfl, rfl, .inr ⟨by omega, by omega⟩, ?_⟩
      refine ⟨s', some (nV i), ?_⟩
      have e1 : nV (szP k (i + 1)) = V.int ((szP k i : Int) + ((k ^ i : Nat) : Int)) := by
        show V.int ((szP k i + k ^ i : Nat) : Int) = _
        push_cast; rfl
      have e2 : nV (k ^ (i + 1)) = V.int (((k ^ i : Nat) : Int) * (k : Int)) := by
        show V.int ((k ^ (i + 1) : Nat) : Int) = _
        rw [Nat.pow_succ]; push_cast; rfl
      rw [e1, e2]
      rfl
    · rintro σ' H' ⟨s', z, rfl⟩
      refine ⟨_, rfl, _, rfl, _, _, rfl, rfl, .inr ⟨by omega, by omega⟩, ?_⟩
      refine ⟨_, _, rfl, rfl, _, rfl, _, _, rfl, rfl, .inl ?_, ?_⟩
      · have := Nat.mul_le_mul hn hk
        have e3 : ((n : Int) * (k : Int)) = ((n * k : Nat) : Int) := by push_cast; rfl
        rw [e3]; omega
      · refine ⟨_, rfl, _, _, rfl, rfl, _, _, rfl, ?_⟩
        refine ⟨_, _, rfl, rfl, .inr ?_, ?_⟩
        · split <;> omega
        · have q' := q _ s'
          unfold nV at q'
          rw [← lbd_int h1] at q'
          exact q'
end
end Tk
/-! text MF -/
namespace Tk
structure Suite (M : Mach) (e : Nat) (ws : List (List Nat)) : Prop where
  nd : ws.Nodup
  wd : ∀ u ∈ ws, Wd M.k u ∧ u.length + 1 ≤ 2 * M.n + e
  all : ∃ (Vw : Nat → List Nat) (E : List (List Nat)), (∀ s, s < M.n → Wd M.k (Vw s) ∧ M.run 0 (Vw s) = s) ∧ (∀ s, s < M.n → Vw s = [] ∨ ∃ t a, t < M.n ∧ a < M.k ∧ Vw s = Vw t ++ [a]) ∧ E ≠ [] ∧ (∀ w ∈ E, Wd M.k w) ∧
    (∀ s t, s < M.n → t < M.n → s ≠ t → ∃ w ∈ E, ¬ Al M M s t w) ∧ ∀ p, (p = [] ∨ ∃ s a, s < M.n ∧ a < M.k ∧ p = Vw s ++ [a]) → ∀ m, Wd M.k m → m.length ≤ e → ∀ w ∈ E, p ++ m ++ w ∈ ws
theorem Suite.eqv {A B : Mach} {e : Nat} {ws : List (List Nat)} (S : Suite A e ws) (hA : A.Ok) (hB : B.Ok) (hk : B.k = A.k) (hn : B.n ≤ A.n + e) (h : ∀ u ∈ ws, Al A B 0 0 u) : Eqv A B 0 0 := by
  obtain ⟨Vw, E, h1, h2, h3, h4, h5, h6⟩ := S.all
  exact wmethod hA hB hk Vw h1 h2 E h3 h4 h5 e hn fun p hp m hm hl w hw => h _ (h6 p hp m hm hl w hw)
theorem Suite.perm {M : Mach} {e : Nat} {ws vs : List (List Nat)} (S : Suite M e ws) (p : vs.Perm ws) : Suite M e vs := by
  obtain ⟨Vw, E, h1, h2, h3, h4, h5, h6⟩ := S.all
  exact ⟨p.nodup_iff.mpr S.nd, fun u hu => S.wd u (p.mem_iff.mp hu), Vw, E, h1, h2, h3, h4, h5, fun q hq m hm hl w hw => p.mem_iff.mpr (h6 q hq m hm hl w hw)⟩
def bgs (k : Nat) (Vw : Nat → List Nat) : Nat → List (List Nat)
  | 0 => [[]]
  | i + 1 => bgs k Vw i ++ (List.range k).map fun a => Vw i ++ [a]
theorem bgs_len (k : Nat) (Vw : Nat → List Nat) : ∀ i, (bgs k Vw i).length = 1 + i * k
  | 0 => by simp [bgs]
  | i + 1 => by
    unfold bgs
    rw [List.length_append, bgs_len k Vw i, List.length_map, List.length_range, Nat.succ_mul]
    omega
theorem bgs_mem {k : Nat} {Vw : Nat → List Nat} : ∀ (i : Nat) (p : List Nat), p ∈ bgs k Vw i ↔ (p = [] ∨ ∃ s a, s < i ∧ a < k ∧ p = Vw s ++ [a])
  | 0, p => by
    show p ∈ [[]] ↔ _
    rw [List.mem_singleton]
    exact ⟨.inl, fun h => h.elim id fun ⟨s, a, h1, _⟩ => absurd h1 (Nat.not_lt_zero _)⟩
  | i + 1, p => by
    unfold bgs
    rw [List.mem_append, bgs_mem i p]
    constructor
    · rintro ((h | ⟨s, a, h1, h2, h3⟩) | h)
      · exact .inl h
      · exact .inr ⟨s, a, by omega, h2, h3⟩
      · obtain ⟨a, ha, e⟩ := List.mem_map.mp h
        exact .inr ⟨i, a, by omega, List.mem_range.mp ha, e.symm⟩
    · rintro (h | ⟨s, a, h1, h2, h3⟩)
      · exact .inl (.inl h)
      · by_cases q : s = i
        · subst q
          exact .inr (List.mem_map.mpr ⟨a, List.mem_range.mpr h2, h3.symm⟩)
        · exact .inl (.inr ⟨s, a, by omega, h2, h3⟩)
end Tk
/-! text D6 -/
set_option maxHeartbeats 4000000
namespace Tk
open PySem L2
def IsLst (M : Mach) : Prop := ∃ M0 : Mach, M0.Ok ∧ IsL M0 M
/-- so far: words that tell apart the pairs ahead of (i, j) -/
structure Tw (M : Mach) (i j : Nat) (ws : List (List Nat)) : Prop where
  wd : ∀ u ∈ ws, Wd M.k u ∧ u.length + 1 ≤ M.n
  tell : ∀ s t, s < M.n → t < s → (s < i ∨ (s = i ∧ t < j)) → ∃ u ∈ ws, ¬ Al M M s t u
  len : ws.length ≤ i * M.n + j
def sp_telling_words (a : Ads) : Sp := fun vs H Q _ => ∃ (N : Fp) (m : V) (M : Mach), vs = [m] ∧ Wf N H ∧ N a.P_in_order ∧ Tab N H a.P_in_order ∧ At N H m (mD M) ∧ IsLst M ∧ M.n ≤ 100 ∧ M.k ≤ 100 ∧
  ∀ (r : V) (H' : Hp) (E : List (List Nat)), Ev (Ft a.P_in_order) H H' → Tab N H' a.P_in_order → E ≠ [] → (∀ u ∈ E, Wd M.k u ∧ u.length + 1 ≤ M.n) → (∀ s t, s < M.n → t < M.n → s ≠ t → ∃ u ∈ E, ¬ Al M M s t u) → E.length ≤ M.n * M.n + 1 →
    At N H' r (.l (E.map wL)) → Q r H'
/-! sets of words as dicts -/
def kU (ks : List (List Nat)) : List (List Nat × Unit) := ks.map fun u => (u, ())
def addK (ks : List (List Nat)) (u : List Nat) : List (List Nat) := if u ∈ ks then ks else ks ++ [u]
theorem kU_fst (ks : List (List Nat)) : (kU ks).map (·.1) = ks := by
  unfold kU
  rw [List.map_map]
  exact List.map_id'' (fun _ => rfl) ks
theorem kU_look (u : List Nat) : ∀ ks : List (List Nat), ((kU ks).lookup u).isSome = decide (u ∈ ks)
  | [] => rfl
  | k :: ks => by
    have ih := kU_look u ks
    unfold kU at ih ⊢
    rw [List.map_cons, List.lookup_cons]
    by_cases e : u = k
    · subst e; simp
    · rw [show (u == k) = false from beq_eq_false_iff_ne.mpr e]
      simp only [List.mem_cons, e, false_or]
      exact ih
theorem kU_none {u : List Nat} {ks : List (List Nat)} (h : u ∉ ks) : (kU ks).lookup u = none := by
  have := kU_look u ks
  rw [decide_eq_false h] at this
  cases e : (kU ks).lookup u with
  | none => rfl
  | some x => rw [e] at this; cases this
theorem addK_nodup {ks : List (List Nat)} {u : List Nat} (h : ks.Nodup) : (addK ks u).Nodup := by
  unfold addK
  split
  · exact h
  · rename_i q
    rw [List.nodup_append]
    refine ⟨h, by simp, fun x hx y hy e => ?_⟩
    rw [List.mem_singleton] at hy
    exact q (hy ▸ e ▸ hx)
theorem addK_mem {ks : List (List Nat)} {u v : List Nat} : v ∈ addK ks u ↔ v ∈ ks ∨ v = u := by
  unfold addK
  split
  · rename_i q
    exact ⟨.inl, fun h => h.elim id fun e => e ▸ q⟩
  · simp
theorem putKU {N : Fp} {H : Hp} {a : Addr} {y : V} {ks : List (List Nat)} {u : List Nat} {R : Hp → Prop} (h : H a = some (DtO tV (kU ks))) (g : At N H y (wT u)) (hn : ks.Nodup) (hl : ks.length ≤ 100000)
    (q : ∀ H', Ev (on a) H H' → H' a = some (DtO tV (kU (addK ks u))) → R H') : ∃ a' H4, V.ref a = .ref a' ∧ DPut H a' y (.bl true) H4 ∧ R H4 := by
  by_cases z : u ∈ ks
  · refine dputS (r := ()) h g (by rw [kU_fst]; exact hn) (List.mem_map.mpr ⟨u, z, rfl⟩) (by unfold kU; rw [List.length_map]; exact hl) rfl fun H' e h' => q H' e ?_
    unfold addK; rw [if_pos z]; exact h'
  · refine dputN (r := ()) h g (kU_none z) (by unfold kU; rw [List.length_map]; exact hl) rfl fun H' e h' => q H' e ?_
    unfold addK; rw [if_neg z]; unfold kU at h' ⊢; rw [List.map_append]; exact h'
def sp_suite_words (a : Ads) : Sp := fun vs H Q _ => ∃ (N : Fp) (m : V) (M : Mach) (e : Nat), vs = [m, nV e] ∧ Wf N H ∧ N a.P_in_order ∧ Tab N H a.P_in_order ∧ At N H m (mD M) ∧ IsLst M ∧ M.n ≤ 100 ∧ M.k ≤ 100 ∧ e ≤ 29 ∧ lbd M.n M.k e ≤ 4000 ∧ szW M.k (2 * M.n + e) ≤ 10000 ∧
  ∀ (r : V) (H' : Hp) (ws : List (List Nat)), Ev (Ft a.P_in_order) H H' → Tab N H' a.P_in_order → Suite M e ws → At N H' r (.l (ws.map wL)) → Q r H'
section
variable {P : Program} {w : World} {K : PySem.W.Frag} {mg : Str → Option Value} {base : Heap} {a : Ads} {d : Fds}
theorem ok_telling_words (T : TX K mg base a d) : FnOk P w K mg base CX0 4 a.f_telling_words d.d_telling_words ["machine"] (sp_telling_words a) := by
  refine T.F_telling_words.ok sc_telling_words (fun vs H Q E h => ?_) (fun cdv A outer s H vs Q E hr h => ?_)
  · obtain ⟨_, _, _, rfl, _⟩ := h
    rfl
  · obtain ⟨N, m, M, rfl, W, hP, hT, hm, ⟨M0, hM0, hL0⟩, hn, hk, q⟩ := h
    have hu := hu_of hr
    refine ⟨_, (pss_cons (ps_set (i := 1) sc_telling_words.nd rfl (Or.inr rfl) (pe_call (ok_least T) (hr.mono (by decide)) rfl T.g_least T.F_least.kp T.B_least .nil pass0 (pa_cons (pv 0) pa_nil)))
    (pss_cons (ps_set (i := 2) sc_telling_words.nd rfl (Or.inl rfl) (pe_lstm pa_nil))
    (pss_cons (ps_forR PassesOwn.never rfl rfl T.b_range (pa_cons (pe_callB (cr_lenk K) (by rfl) T.b_len (by decide +kernel) (pa_cons (pe_ix (ix_tupk K) (pv 1) pe_int (fun _ _ => rfl)) pa_nil)) pa_nil) (pg_name (i := 3) sc_telling_words.nd rfl (Or.inr rfl)) (pss_one (ps_forR PassesOwn.never rfl rfl T.b_range (pa_cons (pv 3) pa_nil) (pg_name (i := 4) sc_telling_words.nd rfl (Or.inr rfl)) (pss_cons (psL (ps_setLc (i := 5) (own := [("word", 6)]) rfl sc_telling_words.nd rfl rfl (sw_true rfl rfl rfl (by decide +kernel)) (pi_listk K (pv 2)) (blkOk_by (own := [("word", 6)]) (N := N_telling_words) (sc := defScope s_telling_words) (by decide +kernel)) (fun _ _ _ _ _ => (pg_name (i := 6) sc_telling_words.nd rfl (Or.inl rfl))) (fun _ _ _ _ _ => (pts_one (pt_cmpR (op_neDk K (hu64 hr)) (pe_call (ok_outputs_from T) (hr.mono (by decide)) rfl T.g_outputs_from T.F_outputs_from.kp T.B_outputs_from .nil pass0 (pa_cons (pv 1) (pa_cons (pv 3) (pa_cons (pv 6) pa_nil)))) (pe_call (ok_outputs_from T) (hr.mono (by decide)) rfl T.g_outputs_from T.F_outputs_from.kp T.B_outputs_from .nil pass0 (pa_cons (pv 1) (pa_cons (pv 4) (pa_cons (pv 6) pa_nil)))) (nomark _)))) (fun _ _ _ _ _ => (pv 6))))
        (pss_one (ps_if (pt_cmpR op_eq (pe_callB (cr_lenk K) (by rfl) T.b_len (by decide +kernel) (pa_cons (pv 5) pa_nil)) pe_int (nomark _)) (pss_one (ps_expr (pe_bmk K PySem.F.plainAttrs_list PySem.F.slot_list_append PySem.F.type_list_append mt_appendm (pv 2) (pa_cons (pe_call (ok_parting_word T) (hr.mono (by decide)) rfl T.g_parting_word T.F_parting_word.kp T.B_parting_word .nil pass0 (pa_cons (pv 1) (pa_cons (pv 4) (pa_cons (pv 3) pa_nil)))) pa_nil)))) pss_nil))))))
    (pss_cons (ps_if (pt_cmpR op_eq (pe_callB (cr_lenk K) (by rfl) T.b_len (by decide +kernel) (pa_cons (pv 2) pa_nil)) pe_int (nomark _)) (pss_one (ps_expr (pe_bmk K PySem.F.plainAttrs_list PySem.F.slot_list_append PySem.F.type_list_append mt_appendm (pv 2) (pa_cons (pe_lstm pa_nil) pa_nil)))) pss_nil)
    (pss_one (ps_ret (pe_call (ok_in_order T) (hr.mono (by decide)) rfl T.g_in_order T.F_in_order.kp T.B_in_order .nil pass0 (pa_cons (pv 2) pa_nil)))))))), ?_⟩
    have LP := hL0.p hM0
    have hM := LP.ok
    refine ⟨_, rfl, N, m, M, rfl, W, hm, hM, by omega, by omega, fun sv H1 L s1 hL hsv => ?_⟩
    rw [hL0.idem hM0 hL] at hsv
    refine newL (W.ev s1) (ds := []) (by simp) .nil fun wl H2 hwl s2 L2 W2 => ?_
    have hs2 := hsv.ad hwl s2
    have hsub : ∀ b, on wl b → ad wl N b := fun b z => .inl z
    refine ⟨_, rfl, ixT 3 hs2 rfl rfl fun z hz => lenF hz ?_⟩
    rw [List.length_map]
    refine forR M.n rfl (by omega) (fun i σ H' => ∃ ws, Tw M i 0 ws ∧ Ev (on wl) H2 H' ∧ Lst (ad wl N) H' wl (ws.map wL) ∧ ∃ x3 x4 x5, σ = [some m, some sv, some (.ref wl), x3, x4, x5, none])
      ⟨[], ⟨(fun _ z => nomatch z), fun s t hs ht hc => by omega, Nat.zero_le _⟩, .refl _ _, L2, none, none, none, rfl⟩ ?_ ?_
    · rintro i σ' H3 hi ⟨ws, T0, e3, L3, x3, x4, x5, rfl⟩
      refine ⟨_, rfl, ?_⟩
      refine forR i rfl (by omega) (fun j σ H' => ∃ ws, Tw M i j ws ∧ Ev (on wl) H2 H' ∧ Lst (ad wl N) H' wl (ws.map wL) ∧ ∃ x4 x5, σ = [some m, some sv, some (.ref wl), some (nV i), x4, x5, none])
        ⟨ws, T0, e3, L3, x4, x5, rfl⟩ ?_ ?_
      · rintro j σ' H4 hj ⟨ws, T1, e4, L4, x4, x5, rfl⟩
        have hs4 := hs2.evs e4 hsub
        have W4 := W2.ev (e4.mono hsub)
        have hwl2 : ws.length ≤ 10000 := by
          have h1 := T1.len
          have h2 : i * M.n ≤ 99 * 100 := Nat.mul_le_mul (by omega) hn
          omega
        refine ⟨_, rfl, ?_⟩
        refine lcLsF ws (fun u => !decide (outs M i u = outs M j u)) wL wL W4 L4 (by omega) (fun _ => rfl) (fun u hu z H' N' s' W' _ hn' hz R k' => ?_) (fun u hu _ z H' N' s' W' _ hn' hz R k' => ⟨_, rfl, k' _ _ (.refl _ _) hz⟩) fun p H5 s5 hp h5 => ?_
        · have hwu := (T1.wd u hu)
          have hs' := hs4.up s' hn'
          refine ⟨_, rfl, _, rfl, _, rfl, N', sv, z, M, i, u, rfl, W', hs', hM, by omega, hz, hwu.1, by omega, fun r1 H1 s1 h1 => ?_⟩
          refine ⟨_, rfl, _, rfl, _, rfl, N', sv, z, M, j, u, rfl, W'.ev s1, hs'.sm s1, hM, by omega, hz.sm s1, hwu.1, by omega, fun r2 H2 s2 h2 => ?_⟩
          exact neW (h1.sm s2) h2 ⟨_, rfl, k' _ (s1.trans s2)⟩
        · refine ⟨_, rfl, lenL h5 ?_⟩
          rw [List.length_map]
          have hT : ∀ u, u ∈ ws.filter (fun u => !decide (outs M i u = outs M j u)) → ¬ Al M M i j u := fun u hu z => by
            have := (List.mem_filter.mp hu).2
            rw [outs_eq.mpr z] at this
            simp at this
          have hb : i * M.n ≤ i * M.n := Nat.le_refl _
          refine ⟨rfl, _, rfl, ?_⟩
          by_cases h0 : (ws.filter (fun u => !decide (outs M i u = outs M j u))).length = 0
          · refine ifT (decide_eq_true (congrArg V.int (by rw [h0]; rfl))) ?_
            have ne : ¬ Eqv M M j i := fun e => by have := LP.red j i (by omega) hi e; omega
            have L5 := L4.sm s5
            refine ⟨_, rfl, L5.ty, _, rfl, _, rfl, _, rfl, ad wl N, sv, M, j, i, rfl, W4.ev s5, hs4.sm s5, hM, hn, hk, by omega, hi, ne, fun r H6 u s6 u1 u2 u3 h6 => ?_⟩
            refine appL (N := ad wl N) (L5.sm s6) (.inl rfl) h6 (by rw [List.length_map]; omega) fun H7 e7 L7 => ?_
            refine ⟨ws ++ [u], ⟨fun v hv => ?_, fun s t hs ht hc => ?_, ?_⟩, (e4.trans (.of (s5.trans s6))).trans e7, ?_, _, _, rfl⟩
            · rcases List.mem_append.mp hv with hv | hv
              · exact T1.wd v hv
              · rw [List.mem_singleton.mp hv]; exact ⟨u1, u2⟩
            · by_cases q : s = i ∧ t = j
              · obtain ⟨rfl, rfl⟩ := q
                refine ⟨u, List.mem_append_right _ (List.mem_singleton.mpr rfl), fun z => ?_⟩
                exact u3 (z u (List.prefix_refl _)).symm
              · obtain ⟨v, hv, z⟩ := T1.tell s t hs ht (by omega)
                exact ⟨v, List.mem_append_left _ hv, z⟩
            · have := T1.len
              rw [List.length_append, List.length_singleton]; omega
            · rw [List.map_append]; exact L7
          · refine ifF (decide_eq_false fun z => h0 (by injection z with z; omega)) ?_
            refine ⟨ws, ⟨T1.wd, fun s t hs ht hc => ?_, Nat.le_succ_of_le T1.len⟩, e4.trans (.of s5), L4.sm s5, _, _, rfl⟩
            by_cases q : s = i ∧ t = j
            · obtain ⟨rfl, rfl⟩ := q
              cases hf : ws.filter (fun u => !decide (outs M s u = outs M t u)) with
              | nil => exact absurd (by rw [hf]; rfl) h0
              | cons u us =>
                have hu : u ∈ ws.filter (fun u => !decide (outs M s u = outs M t u)) := by rw [hf]; exact List.mem_cons_self
                exact ⟨u, (List.mem_filter.mp hu).1, hT u hu⟩
            · exact T1.tell s t hs ht (by omega)
      · rintro σ' H4 ⟨ws, T1, e4, L4, x4, x5, rfl⟩
        exact ⟨ws, ⟨T1.wd, fun s t hs ht hc => T1.tell s t hs ht (by omega), by have := T1.len; rw [Nat.succ_mul]; omega⟩, e4, L4, _, _, _, rfl⟩
    · rintro σ' H3 ⟨ws, T0, e3, L3, x3, x4, x5, rfl⟩
      have hwl0 : H wl = none := s1.free hwl
      have fin : ∀ (H4 : Hp) (E : List (List Nat)), Ev (on wl) H2 H4 → Lst (ad wl N) H4 wl (E.map wL) → E ≠ [] → (∀ u ∈ E, Wd M.k u ∧ u.length + 1 ≤ M.n) → (∀ s t, s < M.n → t < s → ∃ u ∈ E, ¬ Al M M s t u) → E.length ≤ M.n * M.n + 1 →
          sp_in_order a [.ref wl] H4 Q E0 := fun H4 E e4 L4 h1 h2 h3 h4 => by
        have e04 : Sm H H4 := (s1.trans s2).then e4 fun b z => .inr (z ▸ hwl0)
        refine ⟨N, .ref wl, E, rfl, W.ev e04, hP, hT.sm e04, L4.at (fun z => W.no hwl0 z) (fun b z => .inr z), ?_, fun r H5 E' e5 T5 hp h5 => ?_⟩
        · have := Nat.mul_le_mul hn hn; omega
        · refine q r H5 E' ((Ev.of e04).trans e5) T5 (fun z => ?_) (fun u hu => h2 u (hp.mem_iff.mp hu)) (fun s t hs ht hst => ?_) (by rw [hp.length_eq]; exact h4) h5
          · rw [z] at hp; exact h1 hp.symm.eq_nil
          · rcases Nat.lt_or_gt_of_ne hst with l | l
            · obtain ⟨u, hu, z⟩ := h3 t s ht l
              exact ⟨u, hp.mem_iff.mpr hu, fun y => z y.symm⟩
            · obtain ⟨u, hu, z⟩ := h3 s t hs l
              exact ⟨u, hp.mem_iff.mpr hu, z⟩
      have tl : ∀ s t, s < M.n → t < s → ∃ u ∈ ws, ¬ Al M M s t u := fun s t hs ht => T0.tell s t hs ht (.inl hs)
      refine ⟨_, rfl, lenLs L3 ?_⟩
      rw [List.length_map]
      refine ⟨rfl, _, rfl, ?_⟩
      by_cases h0 : ws = []
      · refine ifT (decide_eq_true (congrArg V.int (by rw [h0]; rfl))) ?_
        refine ⟨_, rfl, L3.ty, mkL (W2.ev (e3.mono hsub)) (by simp) .nil fun p4 H4 s4 h4 => ?_⟩
        refine appL (N := ad wl N) (L3.sm s4) (.inl rfl) (d := wL []) h4 (by rw [h0]; simp) fun H5 e5 L5 => ?_
        refine ⟨_, rfl, fin H5 [[]] ((e3.trans (.of s4)).trans e5) ?_ (by simp) (fun u hu => ?_) (fun s t hs ht => ?_) (by simp)⟩
        · rw [h0] at L5; exact L5
        · rw [List.mem_singleton.mp hu]; exact ⟨Wd.nil, hM.pos⟩
        · obtain ⟨u, hu, _⟩ := tl s t hs ht
          rw [h0] at hu; cases hu
      · refine ifF (decide_eq_false fun z => h0 (List.length_eq_zero_iff.mp (by injection z with z; omega))) ?_
        exact ⟨_, rfl, fin H3 ws e3 L3 h0 T0.wd tl (by have := T0.len; omega)⟩
theorem ok_suite_words (T : TX K mg base a d) : FnOk P w K mg base CX0 5 a.f_suite_words d.d_suite_words ["machine", "extra"] (sp_suite_words a) := by
  refine T.F_suite_words.ok sc_suite_words (fun vs H Q E h => ?_) (fun cdv A outer s H vs Q E hr h => ?_)
  · obtain ⟨_, _, _, _, rfl, _⟩ := h
    rfl
  · obtain ⟨N, m, M, e, rfl, W, hP, hT, hm, hI, hn, hk, he, hb, hz, q⟩ := h
    obtain ⟨M0, hM0, hL0⟩ := hI
    have hu := hu_of hr
    refine ⟨_, (pss_cons (ps_if (PW.pt (pw_or (pt_cmpR op_lt (pv 1) pe_int (nomark _)) (pw_or1 (pt_cmpR op_gt (pv 1) (pe_glob (v := .int 29) rfl T.c_MAX_EXTRA ⟨_, rfl⟩) (nomark _))))) (pss_one ps_never) pss_nil)
    (pss_cons (ps_set (i := 2) sc_suite_words.nd rfl (Or.inl rfl) (pe_call (ok_least T) (hr.mono (by decide)) rfl T.g_least T.F_least.kp T.B_least .nil pass0 (pa_cons (pv 0) pa_nil)))
    (pss_cons (ps_set (i := 3) sc_suite_words.nd rfl (Or.inl rfl) (pe_ix (ix_tupk K) (pv 2) pe_int (fun _ _ => rfl)))
    (pss_cons (ps_if (pt_cmpR op_gt (pe_call (ok_most_words T) (hr.mono (by decide)) rfl T.g_most_words T.F_most_words.kp T.B_most_words .nil pass0 (pa_cons (pe_callB (cr_lenk K) (by rfl) T.b_len (by decide +kernel) (pa_cons (pe_ix (ix_tupk K) (pv 2) pe_int (fun _ _ => rfl)) pa_nil)) (pa_cons (pv 3) (pa_cons (pv 1) pa_nil)))) (pe_glob (v := .int 4000) rfl T.c_MAX_LIST ⟨_, rfl⟩) (nomark _)) (pss_one ps_never) pss_nil)
    (pss_cons (ps_set (i := 4) sc_suite_words.nd rfl (Or.inl rfl) (pe_lstm (pa_cons (pe_lstm pa_nil) pa_nil)))
    (pss_cons (ps_forL PassesOwn.never rfl (pe_call (ok_ways_to T) (hr.mono (by decide)) rfl T.g_ways_to T.F_ways_to.kp T.B_ways_to .nil pass0 (pa_cons (pv 2) pa_nil)) (pg_name (i := 5) sc_suite_words.nd rfl (Or.inr rfl)) (pss_one (ps_expr (pe_bmk K PySem.F.plainAttrs_list PySem.F.slot_list_extend PySem.F.type_list_extend mt_extendm (pv 4) (pa_cons (peR (pe_lc (own := [("letter", 12)]) rfl sc_suite_words.nd (pi_range1 rfl T.b_range (pa_cons (pv 3) pa_nil)) (blkOk_by (own := [("letter", 12)]) (N := N_suite_words) (sc := defScope s_suite_words) (by decide +kernel)) (fun _ _ _ _ _ => (pg_name (i := 12) sc_suite_words.nd rfl (Or.inl rfl))) (fun _ _ _ _ _ => pts_nil) (fun _ _ _ _ _ => (pe_op op_catLm (pv 5) (pe_lstm (pa_cons (pv 12) pa_nil)))))) pa_nil)))))
    (pss_cons (ps_set (i := 6) sc_suite_words.nd rfl (Or.inl rfl) (pe_call (ok_telling_words T) (hr.mono (by decide)) rfl T.g_telling_words T.F_telling_words.kp T.B_telling_words .nil pass0 (pa_cons (pv 2) pa_nil)))
    (pss_cons (ps_set (i := 7) sc_suite_words.nd rfl (Or.inl rfl) pe_dnewT)
    (pss_cons (ps_forL PassesOwn.never rfl (pv 4) (pg_name (i := 8) sc_suite_words.nd rfl (Or.inl rfl)) (pss_one (ps_forL PassesOwn.never rfl (pe_call (ok_all_words T) (hr.mono (by decide)) rfl T.g_all_words T.F_all_words.kp T.B_all_words .nil pass0 (pa_cons (pv 3) (pa_cons (pv 1) pa_nil))) (pg_name (i := 9) sc_suite_words.nd rfl (Or.inl rfl)) (pss_one (ps_forL PassesOwn.never rfl (pv 6) (pg_name (i := 10) sc_suite_words.nd rfl (Or.inl rfl)) (pss_one (ps_dput hu (pv 7) (pe_callTy (cr_tupk K) (by rfl) T.b_tuple (by decide +kernel) (pa_cons (pe_op op_catLm (pe_op op_catLm (pv 8) (pv 9)) (pv 10)) pa_nil)) pe_bl rfl)))))))
    (pss_one (ps_ret (pe_call (ok_in_order T) (hr.mono (by decide)) rfl T.g_in_order T.F_in_order.kp T.B_in_order .nil pass0 (pa_cons (peK (pe_lock (pe_lc (own := [("word", 11)]) rfl sc_suite_words.nd (pi_keys (pv 7)) (blkOk_by (own := [("word", 11)]) (N := N_suite_words) (sc := defScope s_suite_words) (by decide +kernel)) (fun _ _ _ _ _ => (pg_name (i := 11) sc_suite_words.nd rfl (Or.inl rfl))) (fun _ _ _ _ _ => pts_nil) (fun _ _ _ _ _ => (pe_callTy (cr_listk K) (by rfl) T.b_list (by decide +kernel) (pa_cons (pv 11) pa_nil)))))) pa_nil))))))))))))), ?_⟩
    have LP := hL0.p hM0
    have hM := LP.ok
    have hz2 : szW M.k e ≤ 10000 := Nat.le_trans (szW_mono M.k (by omega)) hz
    refine ⟨_, rfl, _, _, rfl, rfl, _, rfl, ifF (decide_eq_false (by omega)) ?_⟩
    refine ⟨_, rfl, _, _, rfl, rfl, _, rfl, ifF (decide_eq_false (by omega)) ?_⟩
    refine ⟨_, rfl, N, m, M, rfl, W, hm, hM, by omega, by omega, fun sv H1 L s1 hL hsv => ?_⟩
    rw [hL0.idem hM0 hL] at hsv
    refine ⟨_, rfl, ixT 0 hsv rfl rfl fun z0 h0 => ?_⟩
    rw [h0.isN]
    refine ⟨_, rfl, ixT 3 hsv rfl rfl fun z3 h3 => lenF h3 ?_⟩
    rw [List.length_map]
    refine ⟨_, rfl, _, rfl, M.n, M.k, e, rfl, hM.pos, hn, hk, by omega, fun H1a s1a => ?_⟩
    refine ⟨_, _, rfl, rfl, _, rfl, ifF (decide_eq_false (by omega)) ?_⟩
    have W1 := W.ev (s1.trans s1a)
    have hsv1 := hsv.sm s1a
    refine mkL W1 (by simp) .nil fun p2 H2 s2 h2 => newL (W1.ev s2) (ds := [wL []]) (by simp) (.one h2) fun bl H3 hbl s3 L3 W3 => ?_
    have s01 := s1.trans s1a
    have s02 := s01.trans s2
    have hbl0 : H bl = none := s02.free hbl
    have hsv3 : At (ad bl N) H3 sv (mD M) := (hsv1.sm s2).ad hbl s3
    have T3 : Tab (ad bl N) H3 a.P_in_order := (hT.sm s02).ad hbl s3
    have hsub : ∀ b, on bl b → ad bl N b := fun b z => .inl z
    refine ⟨_, rfl, ad bl N, sv, M, rfl, W3, hsv3, hM, hn, hk, LP.reach, fun wv H4 Vw s4 hV hVp hwv => ?_⟩
    have W4 := W3.ev s4
    have hmb : M.n * M.k ≤ 10000 := Nat.mul_le_mul hn hk
    refine forL (N := ad bl N) hwv (fun i σ H' => Ev (on bl) H4 H' ∧ Lst (ad bl N) H' bl ((bgs M.k Vw i).map wL) ∧ ∃ x5, σ = [some m, some (nV e), some sv, some (nV M.k), some (.ref bl), x5, none, none, none, none, none, none, none]) ⟨.refl _ _, L3.sm s4, none, rfl⟩ (fun i σ' H' h => h.1.mono hsub) ?_ ?_
    · rintro i d0 z σ' H5 hd0 hz5 ⟨e5, L5, x5, rfl⟩
      obtain ⟨hi, rfl⟩ := map_get hd0
      rw [List.length_range] at hi
      rw [List.getElem_range] at hz5
      have hVi := hV i hi
      have hi' : i * M.k + M.k ≤ 10000 := by
        have := Nat.mul_le_mul_right M.k (show i + 1 ≤ M.n by omega)
        rw [Nat.succ_mul] at this
        omega
      refine ⟨_, rfl, L5.ty, _, rfl, ?_⟩
      refine lcR M.k (fun b => wL (Vw i ++ [b])) (W4.ev (e5.mono hsub)) rfl (by omega) (fun _ => rfl) (fun b hb H' N' s' W' _ hn' R k' => ?_) fun p H6 s6 hp h6 => ?_
      · refine ⟨_, rfl, _, rfl, mkL W' (by simp) (.one (.n b)) fun p7 H7 s7 h7 => ?_⟩
        refine catD (W'.ev s7) ((hz5.up s' hn').sm s7) h7 (ds := (Vw i).map D.n) (es := [D.n b]) ?_ fun p8 H8 hp8 s8 h8 => k' _ _ (s7.trans s8) ?_
        · rw [List.length_map, List.length_singleton]; omega
        · unfold wL; rw [List.map_append]; exact h8
      · refine extLs (N := ad bl N) (L5.sm s6) (.inl rfl) h6.toLst ?_ fun H7 e7 L7 => ?_
        · rw [List.length_map, bgs_len, List.length_map, List.length_range]; omega
        · refine ⟨(e5.trans (.of s6)).trans e7, ?_, some z, rfl⟩
          show Lst _ _ _ ((bgs M.k Vw i ++ (List.range M.k).map fun a => Vw i ++ [a]).map wL)
          rw [List.map_append, List.map_map]
          exact L7
    rintro σ' H5 ⟨e5, L5, x5, rfl⟩
    rw [List.length_map, List.length_range] at L5
    have W5 := W4.ev (e5.mono hsub)
    have hnP : ¬ on bl a.P_in_order := fun z => W.no hbl0 (by rw [← show a.P_in_order = bl from z]; exact hP)
    have T5 : Tab (ad bl N) H5 a.P_in_order := (T3.sm s4).ev e5 hsub hnP
    have hsv5 := (hsv3.sm s4).evs e5 hsub
    refine ⟨_, rfl, ad bl N, sv, M, rfl, W5, .inr hP, T5, hsv5, ⟨M0, hM0, hL0⟩, hn, hk, fun ev H6 Ew e6 T6 hE0 hE1 hE2 hE3 hev => ?_⟩
    have W6 := W5.ev e6
    have L6 := L5.ev e6 (fun b z => .inr ((show b = a.P_in_order from z) ▸ hP)) (fun z => hnP z.symm)
    intro fd hfd
    have s7 : Sm H6 (upd H6 fd (.dT [])) := .new hfd
    have e7 : upd H6 fd (.dT []) fd = some (DtO tV (kU [])) := upd_same
    have W7 : Wf (ad fd (ad bl N)) (upd H6 fd (.dT [])) := (W6.ev s7).ad e7 DtO.noT
    have L7 := L6.ad hfd s7
    have nbf : bl ≠ fd := L6.ne hfd
    have T7 := T6.ad hfd s7
    have hev7 := hev.ad hfd s7
    generalize upd H6 fd (.dT []) = H7 at s7 e7 W7 L7 T7 hev7
    have hsf : ∀ b, on fd b → ad fd (ad bl N) b := fun b z => .inl z
    have nfP : ¬ on fd a.P_in_order := fun z => W6.no hfd (by rw [← show a.P_in_order = fd from z]; exact .inr hP)
    have hlen : ∀ ks : List (List Nat), ks.Nodup → (∀ u ∈ ks, Wd M.k u ∧ u.length + 1 ≤ 2 * M.n + e) → ks.length ≤ 10000 := fun ks h1 h2 =>
      Nat.le_trans (few h1 fun u hu => ⟨(h2 u hu).1, by have := (h2 u hu).2; omega⟩) (Nat.le_trans (szW_mono M.k (show 2 * M.n + e - 1 ≤ 2 * M.n + e by omega)) hz)
    have hcut : ∀ p ∈ bgs M.k Vw M.n, ∀ m ∈ allW M.k e, ∀ u ∈ Ew, Wd M.k (p ++ m ++ u) ∧ (p ++ m ++ u).length + 1 ≤ 2 * M.n + e ∧ p.length ≤ M.n ∧ m.length ≤ e ∧ u.length ≤ M.n := fun p hp m hm u hu => by
      have h1 : Wd M.k p ∧ p.length ≤ M.n := by
        rcases (bgs_mem M.n p).mp hp with rfl | ⟨s, b, hs, hb, rfl⟩
        · exact ⟨Wd.nil, Nat.zero_le _⟩
        · exact ⟨Wd.append (hV s hs).1 (Wd.one hb), by have := (hV s hs).2.2; simp only [List.length_append, List.length_singleton]; omega⟩
      have h2 := (allW_mem M.k e m).mp hm
      have h3 := hE1 u hu
      refine ⟨Wd.append (Wd.append h1.1 h2.1) h3.1, ?_, h1.2, h2.2, by omega⟩
      simp only [List.length_append]
      omega
    refine ⟨_, rfl, ?_⟩
    refine forLs (N := ad fd (ad bl N)) L7 (fun i σ H' => Ev (on fd) H7 H' ∧ ∃ ks : List (List Nat), H' fd = some (DtO tV (kU ks)) ∧ ks.Nodup ∧ (∀ u ∈ ks, Wd M.k u ∧ u.length + 1 ≤ 2 * M.n + e) ∧ (∀ p ∈ (bgs M.k Vw M.n).take i, ∀ m ∈ allW M.k e, ∀ u ∈ Ew, p ++ m ++ u ∈ ks) ∧
        ∃ x8 x9 x10, σ = [some m, some (nV e), some sv, some (nV M.k), some (.ref bl), x5, some ev, some (.ref fd), x8, x9, x10, none, none]) ⟨.refl _ _, [], e7, List.nodup_nil, (fun _ z => nomatch z), (fun _ z => nomatch z), none, none, none, rfl⟩ (fun i σ' H' h => h.1.mono hsf) (fun i σ' H' h => h.1.kp' L7.tr nbf) ?_ ?_
    · rintro i d8 z8 σ' H8 hd8 hz8 ⟨e8, ks, hks, hnd, hwd, hin, x8, x9, x10, rfl⟩
      obtain ⟨hi, rfl⟩ := map_get hd8
      have W8 := W7.ev (e8.mono hsf)
      refine ⟨_, rfl, _, rfl, ad fd (ad bl N), M.k, e, rfl, W8, by omega, hz2, hk, fun mv H9 s9 hmv => ?_⟩
      refine forL (N := ad fd (ad bl N)) hmv (fun j σ H' => Ev (on fd) H7 H' ∧ Ev (on fd) H9 H' ∧ ∃ ks : List (List Nat), H' fd = some (DtO tV (kU ks)) ∧ ks.Nodup ∧ (∀ u ∈ ks, Wd M.k u ∧ u.length + 1 ≤ 2 * M.n + e) ∧ (∀ p ∈ (bgs M.k Vw M.n).take i, ∀ m ∈ allW M.k e, ∀ u ∈ Ew, p ++ m ++ u ∈ ks) ∧ (∀ m ∈ (allW M.k e).take j, ∀ u ∈ Ew, (bgs M.k Vw M.n)[i] ++ m ++ u ∈ ks) ∧
        ∃ x9 x10, σ = [some m, some (nV e), some sv, some (nV M.k), some (.ref bl), x5, some ev, some (.ref fd), some z8, x9, x10, none, none]) ⟨e8.trans (.of s9), .refl _ _, ks, s9.at hks, hnd, hwd, hin, (fun _ z => nomatch z), x9, x10, rfl⟩ (fun j σ' H' h => h.2.1.mono hsf) ?_ ?_
      · rintro j d10 z10 σ' H10 hd10 hz10 ⟨e10, e910, ks, hks, hnd, hwd, hin, hin2, x9, x10, rfl⟩
        obtain ⟨hj, rfl⟩ := map_get hd10
        have hz8' := (hz8.sm s9).evs e910 hsf
        refine ⟨_, rfl, ?_⟩
        refine forL (N := ad fd (ad bl N)) (hev7.evs e10 hsf) (fun l σ H' => Ev (on fd) H7 H' ∧ Ev (on fd) H9 H' ∧ Ev (on fd) H10 H' ∧ ∃ ks : List (List Nat), H' fd = some (DtO tV (kU ks)) ∧ ks.Nodup ∧ (∀ u ∈ ks, Wd M.k u ∧ u.length + 1 ≤ 2 * M.n + e) ∧ (∀ p ∈ (bgs M.k Vw M.n).take i, ∀ m ∈ allW M.k e, ∀ u ∈ Ew, p ++ m ++ u ∈ ks) ∧ (∀ m ∈ (allW M.k e).take j, ∀ u ∈ Ew, (bgs M.k Vw M.n)[i] ++ m ++ u ∈ ks) ∧ (∀ u ∈ Ew.take l, (bgs M.k Vw M.n)[i] ++ (allW M.k e)[j] ++ u ∈ ks) ∧
          ∃ x10, σ = [some m, some (nV e), some sv, some (nV M.k), some (.ref bl), x5, some ev, some (.ref fd), some z8, some z10, x10, none, none]) ⟨e10, e910, .refl _ _, ks, hks, hnd, hwd, hin, hin2, (fun _ z => nomatch z), x10, rfl⟩ (fun l σ' H' h => h.2.2.1.mono hsf) ?_ ?_
        · rintro l d11 z11 σ' H11 hd11 hz11 ⟨e11, e911, e1011, ks, hks, hnd, hwd, hin, hin2, hin3, x10, rfl⟩
          obtain ⟨hl, rfl⟩ := map_get hd11
          obtain ⟨c1, c2, c3, c4, c5⟩ := hcut _ (List.getElem_mem hi) _ (List.getElem_mem hj) _ (List.getElem_mem hl)
          have W11 := W7.ev (e11.mono hsf)
          have hz8'' := hz8'.evs e1011 hsf
          have hz10'' := hz10.evs e1011 hsf
          refine ⟨_, rfl, _, rfl, _, rfl, ?_⟩
          refine catD W11 hz8'' hz10'' (ds := (bgs M.k Vw M.n)[i].map D.n) (es := (allW M.k e)[j].map D.n) (by simp only [List.length_map]; omega) fun p12 H12 hp12 s12 h12 => ?_
          refine ⟨_, rfl, catD (W11.ev s12) h12 (hz11.sm s12) (es := Ew[l].map D.n) (by simp only [List.length_map, List.length_append]; omega) fun p13 H13 hp13 s13 h13 => ?_⟩
          refine tupL ((W11.ev s12).ev s13) h13 fun p14 H14 s14 h14 => ?_
          have h14' : At (ad fd (ad bl N)) H14 (.ref p14) (wT ((bgs M.k Vw M.n)[i] ++ (allW M.k e)[j] ++ Ew[l])) := by
            unfold wT
            rw [List.map_append, List.map_append]; exact h14
          have sx := (s12.trans s13).trans s14
          refine putKU (sx.at hks) h14' hnd (by have := hlen ks hnd hwd; omega) fun H15 e15 h15 => ?_
          refine ⟨(e11.trans (.of sx)).trans e15, (e911.trans (.of sx)).trans e15, (e1011.trans (.of sx)).trans e15, _, h15, addK_nodup hnd, fun u hu => ?_, fun p hp m hm u hu => addK_mem.mpr (.inl (hin p hp m hm u hu)), fun m hm u hu => addK_mem.mpr (.inl (hin2 m hm u hu)), fun u hu => ?_, _, rfl⟩
          · rcases addK_mem.mp hu with h | rfl
            · exact hwd u h
            · exact ⟨c1, c2⟩
          · rw [List.take_succ_eq_append_getElem hl, List.mem_append, List.mem_singleton] at hu
            rcases hu with hu | rfl
            · exact addK_mem.mpr (.inl (hin3 u hu))
            · exact addK_mem.mpr (.inr rfl)
        · rintro σ' H11 ⟨e11, e911, e1011, ks, hks, hnd, hwd, hin, hin2, hin3, x10, rfl⟩
          rw [List.length_map, List.take_of_length_le (Nat.le_refl _)] at hin3
          refine ⟨e11, e911, ks, hks, hnd, hwd, hin, fun m hm u hu => ?_, _, _, rfl⟩
          rw [List.take_succ_eq_append_getElem hj, List.mem_append, List.mem_singleton] at hm
          rcases hm with hm | rfl
          · exact hin2 m hm u hu
          · exact hin3 u hu
      · rintro σ' H10 ⟨e10, e910, ks, hks, hnd, hwd, hin, hin2, x9, x10, rfl⟩
        rw [List.length_map, List.take_of_length_le (Nat.le_refl _)] at hin2
        refine ⟨e10, ks, hks, hnd, hwd, fun p hp m hm u hu => ?_, _, _, _, rfl⟩
        rw [List.take_succ_eq_append_getElem hi, List.mem_append, List.mem_singleton] at hp
        rcases hp with hp | rfl
        · exact hin p hp m hm u hu
        · exact hin2 m hm u hu
    · rintro σ' H8 ⟨e8, ks, hks, hnd, hwd, hin, x8, x9, x10, rfl⟩
      rw [List.length_map, List.take_of_length_le (Nat.le_refl _)] at hin
      have W8 := W7.ev (e8.mono hsf)
      have hkl := hlen ks hnd hwd
      refine keysLC (i := 7) (enc' := wL) rfl hks W8 (.inl rfl) (by unfold kU; rw [List.length_map]; omega) (fun _ => rfl) (fun u hu z H' N' W' hz' R k' => ⟨_, rfl, listT hz' fun p vs hp hvs => k' _ _ (.new hp) (.mkL W' hp hvs)⟩) fun p9 H9 s9 hp9 h9 => ?_
      rw [kU_fst] at h9
      have T8 := T7.ev e8 hsf nfP
      have sub2 : ∀ b, N b → ad fd (ad bl N) b := fun b z => .inr (.inr z)
      refine ⟨N, .ref p9, ks, rfl, (W8.ev s9).sub sub2, hP, (T8.sm s9).sub sub2, h9.sub sub2, by omega, fun r H10 ws e10 T10 hp hr10 => ?_⟩
      have ex : Ev (fun b => b = a.P_in_order ∨ b = bl ∨ b = fd) H H10 := by
        have x1 : Ev (fun b => b = a.P_in_order ∨ b = bl ∨ b = fd) H H4 := .of ((s02.trans s3).trans s4)
        have x2 := x1.trans (e5.mono fun b z => .inr (.inl z))
        have x3 := x2.trans (e6.mono fun b z => .inl z)
        have x4 := x3.trans (.of s7)
        have x5 := x4.trans (e8.mono fun b z => .inr (.inr z))
        exact (x5.trans (.of s9)).trans (e10.mono fun b z => .inl z)
      have hfd0 : H fd = none := by
        have x1 : Ev (fun b => b = a.P_in_order ∨ b = bl ∨ b = fd) H H4 := .of ((s02.trans s3).trans s4)
        have x2 := x1.trans (e5.mono fun b z => .inr (.inl z))
        have x3 := x2.trans (e6.mono fun b z => .inl z)
        exact x3.free hfd
      refine q r H10 ws (Ev.then (F := Ft a.P_in_order) (.refl _ _) ex ?_) T10 ?_ hr10
      · rintro b (rfl | rfl | rfl)
        · exact .inl rfl
        · exact .inr hbl0
        · exact .inr hfd0
      · refine Suite.perm (ws := ks) ?_ hp
        exact ⟨hnd, hwd, Vw, Ew, fun s hs => ⟨(hV s hs).1, (hV s hs).2.1⟩, hVp, hE0, fun u hu => (hE1 u hu).1, hE2, fun p hp m hm hl u hu => hin p ((bgs_mem M.n p).mpr hp) m ((allW_mem M.k e m).mpr ⟨hm, hl⟩) u hu⟩
end
end Tk
/-! text D7 -/
set_option maxHeartbeats 4000000
namespace Tk
open PySem L2
def sp_beginnings_of : Sp := fun vs H Q _ => ∃ (N : Fp) (v : V) (ws : List (List Nat)) (k L : Nat), vs = [v] ∧ Wf N H ∧ At N H v (.l (ws.map wL)) ∧ ws.length ≤ 100000 ∧ (∀ u ∈ ws, Wd k u ∧ u.length ≤ L) ∧ L ≤ 400 ∧ szW k L ≤ 1200 ∧
  ∀ (r : V) (H' : Hp) (bs : List (List Nat)), Sm H H' → bs.Nodup → (∀ p, p ∈ bs ↔ ∃ u ∈ ws, p <+: u) → At N H' r (.l (bs.map wL)) → Q r H'
section
variable {P : Program} {w : World} {N F : Fp} {H : Hp} {d : Addr} {S : List (List Nat)} {v : List Nat} {y : V} {Q : VK}
theorem tsNew (q : ∀ p H', H p = none → Sm H H' → (∀ N, TsAt P w N H' p []) → (H' p ≠ none ∧ ∀ xs, H' p ≠ some (.tup xs)) → Q (.ref p) H') : rSet0T P w [] H Q := by
  unfold rSet0T
  refine ⟨rfl, fun p hp o no t => q p _ hp (.new hp) t ?_⟩
  rw [upd_same]
  exact ⟨(fun z => nomatch z), fun xs z => no xs (Option.some.inj z)⟩
theorem tsNotIn (h : TsAt P w N H d S) (g : At N H y (wT v)) (hl : S.length ≤ 1200) (q : Q (.bl (!decide (v ∈ S))) H) : rNotInST P w y (.ref d) H Q := by
  unfold rNotInST
  exact ⟨N, d, S, v, rfl, h, g, hl, q⟩
theorem tsAdd (h : TsAt P w N H d S) (nd : N d) (g : At N H y (wT v)) (hv : v ∉ S) (hl : S.length ≤ 1200) (q : ∀ H', Ev (on d) H H' → TsAt P w N H' d (S ++ [v]) → Q .non H') : rSAddT P w (.ref d) y H Q := by
  unfold rSAddT
  exact ⟨N, d, S, v, rfl, h, nd, g, hv, hl, fun o no t => q _ (.put rfl no) t⟩
end
section
variable {P : Program} {w : World} {K : PySem.W.Frag} {mg : Str → Option Value} {base : Heap} {a : Ads} {d : Fds}
theorem ok_beginnings_of (T : TX K mg base a d) : FnOk P w K mg base CX0 1 a.f_beginnings_of d.d_beginnings_of ["words"] (sp_beginnings_of) := by
  refine T.F_beginnings_of.ok sc_beginnings_of (fun vs H Q E h => ?_) (fun cdv A outer s H vs Q E hr h => ?_)
  · obtain ⟨_, _, _, _, _, rfl, _⟩ := h
    rfl
  · obtain ⟨N, v, ws, k, L, rfl, W, hv, hwl, hws, hL, hz, q⟩ := h
    have hu := hu_of hr
    refine ⟨_, (pss_cons (ps_set (i := 1) sc_beginnings_of.nd rfl (Or.inl rfl) (pe_lstm pa_nil))
    (pss_cons (ps_set (i := 2) sc_beginnings_of.nd rfl (Or.inl rfl) (pe_callTy0 (cr_set0Tk P w) (by rfl) T.b_set (by decide +kernel)))
    (pss_cons (ps_forL PassesOwn.never rfl (pv 0) (pg_name (i := 3) sc_beginnings_of.nd rfl (Or.inl rfl)) (pss_one (ps_forR PassesOwn.never rfl rfl T.b_range (pa_cons (pe_op op_add (pe_callB (cr_lenk K) (by rfl) T.b_len (by decide +kernel) (pa_cons (pv 3) pa_nil)) pe_int) pa_nil) (pg_name (i := 4) sc_beginnings_of.nd rfl (Or.inl rfl)) (pss_cons (ps_set (i := 5) sc_beginnings_of.nd rfl (Or.inl rfl) (pe_slice (sl_listk K) (pv 3) po_none (po_some (pv 4))))
        (pss_one (ps_if (pt_cmpR (op_notinSTk P w hu) (pe_callTy (cr_tupk K) (by rfl) T.b_tuple (by decide +kernel) (pa_cons (pv 5) pa_nil)) (pv 2) rfl) (pss_cons (ps_expr (pe_saddTk P w hu (pv 2) (pe_callTy (cr_tupk K) (by rfl) T.b_tuple (by decide +kernel) (pa_cons (pv 5) pa_nil))))
          (pss_one (ps_expr (pe_bmk K PySem.F.plainAttrs_list PySem.F.slot_list_append PySem.F.type_list_append mt_appendm (pv 1) (pa_cons (pv 5) pa_nil))))) pss_nil))))))
    (pss_one (ps_ret (pv 1)))))), ?_⟩
    refine newL W (ds := []) (by simp) .nil fun fl H1 hfl s1 L1 W1 => ?_
    refine tsNew fun sd H2 hsd s2 t2 n2 => ?_
    have W2 : Wf (ad sd (ad fl N)) H2 := fun b z => z.elim (fun e => e ▸ n2) ((W1.ev s2) b)
    have L2 := L1.ad hsd s2
    have nfs : fl ≠ sd := L1.ne hsd
    have hv2 : At (ad sd (ad fl N)) H2 v (.l (ws.map wL)) := (hv.ad hfl s1).ad hsd s2
    have hsub : ∀ b, (b = fl ∨ b = sd) → ad sd (ad fl N) b := fun b z => z.elim (fun e => .inr (.inl e)) .inl
    have hcard : ∀ bs : List (List Nat), bs.Nodup → (∀ p ∈ bs, ∃ u ∈ ws, p <+: u) → bs.length ≤ 1200 := fun bs h1 h2 => by
      refine Nat.le_trans (few (k := k) (L := L) h1 fun p hp => ?_) hz
      obtain ⟨u, hu, e⟩ := h2 p hp
      have := hws u hu
      exact ⟨fun x hx => this.1 x (e.subset hx), Nat.le_trans e.length_le this.2⟩
    refine ⟨_, rfl, ?_⟩
    refine forL (N := ad sd (ad fl N)) hv2 (fun i σ H' => Ev (fun b => b = fl ∨ b = sd) H2 H' ∧ ∃ bs : List (List Nat), Lst (ad sd (ad fl N)) H' fl (bs.map wL) ∧ TsAt P w (ad sd (ad fl N)) H' sd bs ∧ bs.Nodup ∧ (∀ p ∈ bs, ∃ u ∈ ws, p <+: u) ∧ (∀ u ∈ ws.take i, ∀ p, p <+: u → p ∈ bs) ∧
      ∃ x3 x4 x5, σ = [some v, some (.ref fl), some (.ref sd), x3, x4, x5]) ⟨.refl _ _, [], L2, t2 _, List.nodup_nil, (fun _ z => nomatch z), (fun _ z => nomatch z), none, none, none, rfl⟩ (fun i σ' H' h => h.1.mono hsub) ?_ ?_
    · rintro i d3 z3 σ' H3 hd3 hz3 ⟨e3, bs, L3, t3, hnd, hin, hall, x3, x4, x5, rfl⟩
      obtain ⟨hi, rfl⟩ := map_get hd3
      have hui := hws _ (List.getElem_mem hi)
      refine ⟨_, rfl, lenL hz3 ⟨_, _, rfl, rfl, ?_⟩⟩
      rw [List.length_map]
      refine forR (ws[i].length + 1) rfl (by omega) (fun j σ H' => Ev (fun b => b = fl ∨ b = sd) H2 H' ∧ Ev (fun b => b = fl ∨ b = sd) H3 H' ∧ ∃ bs : List (List Nat), Lst (ad sd (ad fl N)) H' fl (bs.map wL) ∧ TsAt P w (ad sd (ad fl N)) H' sd bs ∧ bs.Nodup ∧ (∀ p ∈ bs, ∃ u ∈ ws, p <+: u) ∧ (∀ u ∈ ws.take i, ∀ p, p <+: u → p ∈ bs) ∧ (∀ m, m < j → ws[i].take m ∈ bs) ∧
        ∃ x4 x5, σ = [some v, some (.ref fl), some (.ref sd), some z3, x4, x5]) ⟨e3, .refl _ _, bs, L3, t3, hnd, hin, hall, (fun m h => absurd h (Nat.not_lt_zero _)), x4, x5, rfl⟩ ?_ ?_
      · rintro j σ' H4 hj ⟨e4, e34, bs, L4, t4, hnd, hin, hall, hpre, x4, x5, rfl⟩
        have W4 := W2.ev e4
        have hz4 := hz3.evs e34 hsub
        have hcl := hcard bs hnd hin
        refine ⟨_, rfl, _, rfl, ⟨_, rfl, slLto j hz4 fun p5 vs5 hp5 hvs5 => ?_⟩⟩
        have s5 : Sm H4 (upd H4 p5 (.lst vs5)) := .new hp5
        have h5 : At (ad sd (ad fl N)) (upd H4 p5 (.lst vs5)) (.ref p5) (wL (ws[i].take j)) := by
          unfold wL
          rw [List.map_take]
          exact .mkL W4 hp5 hvs5
        generalize upd H4 p5 (.lst vs5) = H5 at s5 h5
        have W5 := W4.ev s5
        refine ⟨_, rfl, tupL W5 h5 fun p6 H6 s6 h6 => ?_⟩
        have L6 := (L4.sm s5).sm s6
        have t6 := (t4.sm s5).sm s6
        refine ⟨_, rfl, tsNotIn t6 h6 hcl ⟨_, rfl, ?_⟩⟩
        by_cases hmem : ws[i].take j ∈ bs
        · refine ifF (by rw [decide_eq_true hmem]; rfl) ?_
          refine ⟨e4.trans (.of (s5.trans s6)), e34.trans (.of (s5.trans s6)), bs, L6, t6, hnd, hin, hall, fun m hm => ?_, _, _, rfl⟩
          by_cases q : m = j
          · rw [q]; exact hmem
          · exact hpre m (by omega)
        · refine ifT (by rw [decide_eq_false hmem]; rfl) ?_
          obtain ⟨φ, hφ⟩ := t6.ext
          refine ⟨_, rfl, ⟨_, _, rfl, hφ⟩, _, rfl, tupL (W5.ev s6) (h5.sm s6) fun p7 H7 s7 h7 => ?_⟩
          refine tsAdd (t6.sm s7) (.inl rfl) h7 hmem hcl fun H8 e8 t8 => ?_
          have L8 := (L6.sm s7).ev e8 (fun b z => .inl z) nfs
          have h8 := ((h5.sm s6).sm s7).evs e8 (fun b z => .inl z)
          refine ⟨_, rfl, L8.ty, _, rfl, appL (N := ad sd (ad fl N)) L8 (.inr (.inl rfl)) h8 (by rw [List.length_map]; omega) fun H9 e9 L9 => ?_⟩
          have ex : Ev (fun b => b = fl ∨ b = sd) H4 H9 := ((Ev.of ((s5.trans s6).trans s7)).trans (e8.mono fun b z => .inr z)).trans (e9.mono fun b z => .inl z)
          refine ⟨e4.trans ex, e34.trans ex, bs ++ [ws[i].take j], ?_, ?_, ?_, fun p hp => ?_, fun u hu p hp => List.mem_append_left _ (hall u hu p hp), fun m hm => ?_, _, _, rfl⟩
          · rw [List.map_append]; exact L9
          · refine t8.ev e9 (fun b z => .inr (.inl z)) (e9.kp' ?_ fun z => nfs z.symm)
            obtain ⟨φ', hφ'⟩ := t8.ext
            rw [hφ']; intro z; cases z
          · rw [List.nodup_append]
            refine ⟨hnd, by simp, fun x hx y hy e => ?_⟩
            rw [List.mem_singleton] at hy
            exact hmem (hy ▸ e ▸ hx)
          · rcases List.mem_append.mp hp with hp | hp
            · exact hin p hp
            · rw [List.mem_singleton.mp hp]
              exact ⟨_, List.getElem_mem hi, List.take_prefix _ _⟩
          · by_cases q : m = j
            · rw [q]; exact List.mem_append_right _ (List.mem_singleton.mpr rfl)
            · exact List.mem_append_left _ (hpre m (by omega))
      · rintro σ' H4 ⟨e4, e34, bs, L4, t4, hnd, hin, hall, hpre, x4, x5, rfl⟩
        refine ⟨e4, bs, L4, t4, hnd, hin, fun u hu p hp => ?_, _, _, _, rfl⟩
        rw [List.take_succ_eq_append_getElem hi, List.mem_append, List.mem_singleton] at hu
        rcases hu with hu | rfl
        · exact hall u hu p hp
        · have e := List.prefix_iff_eq_take.mp hp
          rw [e]
          exact hpre _ (by have := hp.length_le; omega)
    · rintro σ' H3 ⟨e3, bs, L3, t3, hnd, hin, hall, x3, x4, x5, rfl⟩
      rw [List.length_map, List.take_of_length_le (Nat.le_refl _)] at hall
      refine ⟨_, rfl, q _ _ bs ((s1.trans s2).then e3 ?_) hnd (fun p => ⟨hin p, fun ⟨u, hu, e⟩ => hall u hu p e⟩) (L3.at (fun z => W.no hfl z) fun b z => .inr (.inr z))⟩
      rintro b (rfl | rfl)
      · exact .inr hfl
      · exact .inr (s1.free hsd)
end
end Tk
/-! text MG -/
namespace Tk
/-! ### tables -/
section
variable (f : List Nat → Nat) (k : Nat) (C S : List (List Nat))
def rowOf (u : List Nat) : List Nat := C.map fun c => f (u ++ c)
def furW (w : List Nat) (j : Nat) : List (List Nat) := ((List.range j).map fun a => w ++ [a]).filter fun r => !decide (r ∈ S)
def furN (i : Nat) : List (List Nat) := (S.take i).flatMap fun w => furW S w k
def fur : List (List Nat) := S.flatMap fun w => furW S w k
def rws : List (List Nat) := S ++ fur k S
/-- the first state word with the row of u -/
def ixR (u : List Nat) : Nat := (S.map (rowOf f C)).idxOf (rowOf f C u)
def numN (n : Nat) : List (List Nat × Nat) := (List.range n).map fun i => (rowOf f C (S.getD i []), i)
def hypM (o : Nat) : Mach where
  k := k
  o := o
  mv := S.map fun s => (List.range k).map fun a => ixR f C S (s ++ [a])
  out := S.map f
/-- the rows of the state words are distinct -/
def Dst : Prop := ∀ i j, i < S.length → j < S.length → rowOf f C (S.getD i []) = rowOf f C (S.getD j []) → i = j
def Cls : Prop := ∀ s ∈ S, ∀ a, a < k → rowOf f C (s ++ [a]) ∈ S.map (rowOf f C)
end
section
variable {f : List Nat → Nat} {k : Nat} {C S : List (List Nat)}
theorem furN_succ {i : Nat} (h : i < S.length) : furN k S (i + 1) = furN k S i ++ furW S S[i] k := by
  unfold furN
  rw [List.take_succ_eq_append_getElem h, List.flatMap_append]
  simp
theorem furN_all : furN k S S.length = fur k S := by
  unfold furN fur
  rw [List.take_of_length_le (Nat.le_refl _)]
theorem furW_succ (w : List Nat) (j : Nat) : furW S w (j + 1) = if w ++ [j] ∈ S then furW S w j else furW S w j ++ [w ++ [j]] := by
  unfold furW
  rw [List.range_succ, List.map_append, List.filter_append]
  by_cases q : w ++ [j] ∈ S
  · simp [q]
  · simp [q]
theorem furW_len (w : List Nat) (j : Nat) : (furW S w j).length ≤ j := by
  unfold furW
  refine Nat.le_trans (List.length_filter_le ..) ?_
  rw [List.length_map, List.length_range]; exact Nat.le_refl _
theorem furN_len : ∀ i, i ≤ S.length → (furN k S i).length ≤ i * k
  | 0, _ => by simp [furN]
  | i + 1, h => by
    rw [furN_succ h, List.length_append, Nat.succ_mul]
    have := furN_len i (by omega)
    have := furW_len (S := S) S[i] k
    omega
theorem fur_len : (fur k S).length ≤ S.length * k := by
  rw [← furN_all]; exact furN_len _ (Nat.le_refl _)
theorem mem_fur {r : List Nat} : r ∈ fur k S ↔ r ∉ S ∧ ∃ w ∈ S, ∃ a, a < k ∧ r = w ++ [a] := by
  unfold fur furW
  rw [List.mem_flatMap]
  constructor
  · rintro ⟨w, hw, h⟩
    obtain ⟨h1, h2⟩ := List.mem_filter.mp h
    obtain ⟨a, ha, rfl⟩ := List.mem_map.mp h1
    exact ⟨by simpa using h2, w, hw, a, List.mem_range.mp ha, rfl⟩
  · rintro ⟨h, w, hw, a, ha, rfl⟩
    exact ⟨w, hw, List.mem_filter.mpr ⟨List.mem_map.mpr ⟨a, List.mem_range.mpr ha, rfl⟩, by simpa using h⟩⟩
theorem rws_step {w : List Nat} {a : Nat} (hw : w ∈ S) (ha : a < k) : w ++ [a] ∈ rws k S := by
  by_cases q : w ++ [a] ∈ S
  · exact List.mem_append_left _ q
  · exact List.mem_append_right _ (mem_fur.mpr ⟨q, w, hw, a, ha, rfl⟩)
theorem rws_len : (rws k S).length ≤ S.length * (k + 1) := by
  unfold rws
  have := fur_len (k := k) (S := S)
  rw [List.length_append, Nat.mul_succ]; omega
theorem numN_look (r : List Nat) : ∀ n, (numN f C S n).lookup r = (List.range n).find? fun i => decide (rowOf f C (S.getD i []) = r) := by
  intro n
  unfold numN
  generalize List.range n = l
  induction l with
  | nil => rfl
  | cons i l ih =>
    rw [List.map_cons, List.lookup_cons, List.find?_cons]
    by_cases e : rowOf f C (S.getD i []) = r
    · subst e; simp
    · rw [show (r == rowOf f C (S.getD i [])) = false from beq_eq_false_iff_ne.mpr fun z => e z.symm, decide_eq_false e]
      exact ih
theorem numN_new (D : Dst f C S) {i : Nat} (hi : i < S.length) : (numN f C S i).lookup (rowOf f C (S.getD i [])) = none := by
  rw [numN_look, List.find?_eq_none]
  intro j hj z
  have hj := List.mem_range.mp hj
  have := D j i (by omega) hi (by simpa using z)
  omega
theorem numN_none {r : List Nat} (h : r ∉ S.map (rowOf f C)) : (numN f C S S.length).lookup r = none := by
  rw [numN_look, List.find?_eq_none]
  intro j hj z
  have hj := List.mem_range.mp hj
  refine h (List.mem_map.mpr ⟨S.getD j [], getD_mem hj, ?_⟩)
  simpa using z
theorem ixR_lt {u : List Nat} (h : rowOf f C u ∈ S.map (rowOf f C)) : ixR f C S u < S.length := by
  have := List.idxOf_lt_length_iff.mpr h
  rwa [List.length_map] at this
theorem ixR_row {u : List Nat} (h : rowOf f C u ∈ S.map (rowOf f C)) : rowOf f C (S.getD (ixR f C S u) []) = rowOf f C u := by
  have hl := ixR_lt h
  have e : (S.map (rowOf f C))[ixR f C S u]'(by rw [List.length_map]; exact hl) = rowOf f C u := List.getElem_idxOf _
  rw [List.getElem_map] at e
  rw [getD_lt hl]; exact e
theorem numN_some {u : List Nat} (D : Dst f C S) (h : rowOf f C u ∈ S.map (rowOf f C)) : (numN f C S S.length).lookup (rowOf f C u) = some (ixR f C S u) := by
  rw [numN_look, List.find?_range_eq_some]
  have hl := ixR_lt h
  refine ⟨by simpa using ixR_row h, List.mem_range.mpr hl, fun j hj => ?_⟩
  have : ¬ rowOf f C (S.getD j []) = rowOf f C u := fun e => by
    have := D j _ (by omega) hl (e.trans (ixR_row h).symm)
    omega
  simpa using this
theorem hypM_n (o : Nat) : (hypM f k C S o).n = S.length := List.length_map ..
theorem hypM_st {o i a : Nat} (hi : i < S.length) (ha : a < k) : (hypM f k C S o).st i a = ixR f C S (S.getD i [] ++ [a]) := by
  show ((S.map fun s => (List.range k).map fun a => ixR f C S (s ++ [a])).getD i []).getD a 0 = _
  rw [getD_lt (l := List.map _ _) (by rw [List.length_map]; exact hi), List.getElem_map, getD_lt (by rw [List.length_map, List.length_range]; exact ha), List.getElem_map, List.getElem_range, getD_lt hi]
theorem hypM_ou {o i : Nat} (hi : i < S.length) : (hypM f k C S o).ou i = f (S.getD i []) := by
  show (S.map f).getD i 0 = _
  rw [getD_lt (by rw [List.length_map]; exact hi), List.getElem_map, getD_lt hi]
theorem hypM_ok {o : Nat} (h0 : 0 < S.length) (c : Cls f k C S) (ho : ∀ s ∈ S, f s < o) : (hypM f k C S o).Ok := by
  refine ⟨by rw [hypM_n]; exact h0, ?_, fun r hr => ?_, fun y hy => ?_⟩
  · rw [hypM_n]; exact List.length_map ..
  · obtain ⟨s, hs, rfl⟩ := List.mem_map.mp hr
    refine ⟨?_, fun y hy => ?_⟩
    · rw [List.length_map, List.length_range]; rfl
    · obtain ⟨a, ha, rfl⟩ := List.mem_map.mp hy
      rw [hypM_n]
      exact ixR_lt (c s hs a (List.mem_range.mp ha))
  · obtain ⟨s, hs, rfl⟩ := List.mem_map.mp hy
    exact ho s hs
end
/-- what the row of w over the columns needs is known -/
def Kn (f : List Nat → Nat) (C : List (List Nat)) (ps : List (List Nat × Nat)) (w : List Nat) : Prop := ∀ c ∈ C, ps.lookup (w ++ c) = some (f (w ++ c))
end Tk
/-! text D8 -/
set_option maxHeartbeats 4000000
namespace Tk
open PySem L2
/-! ### Table -/
abbrev tF (k : Nat) (sl cl : Addr) (rv : V) : List (Str × V) := [("letters", nV k), ("_states", .ref sl), ("_columns", .ref cl), ("_rows", rv)]
structure TblAt (a : Ads) (N : Fp) (H : Hp) (t sl cl : Addr) (k : Nat) (S C : List (List Nat)) : Prop where
  nt : N t
  ns : N sl
  nc : N cl
  d1 : t ≠ sl
  d2 : t ≠ cl
  d3 : sl ≠ cl
  ex : ∃ rv, Ins H t a.C_Table (tF k sl cl rv) ∧ At N H rv (.l ((rws k S).map wT))
  st : Lst N H sl (S.map wT)
  co : Lst N H cl (C.map wT)
/-- small -/
structure TSz (k : Nat) (S C : List (List Nat)) : Prop where
  s : S.length ≤ 30
  c : C.length ≤ 30
  k : k ≤ 30
  sw : ∀ w ∈ S, w.length ≤ 100
  cw : ∀ w ∈ C, w.length ≤ 200
abbrev KnAt (H : Hp) (kd : Addr) (ps : List (List Nat × Nat)) : Prop := H kd = some (DtO nV ps)
section
variable {a : Ads} {N N' F : Fp} {H H' : Hp} {t sl cl : Addr} {k : Nat} {S C : List (List Nat)}
theorem TblAt.ev (h : TblAt a N H t sl cl k S C) (e : Ev F H H') (s : ∀ b, F b → N b) (n1 : ¬ F t) (n2 : ¬ F sl) (n3 : ¬ F cl) : TblAt a N H' t sl cl k S C := by
  obtain ⟨rv, h1, h2⟩ := h.ex
  exact ⟨h.nt, h.ns, h.nc, h.d1, h.d2, h.d3, ⟨rv, h1.ev e n1, h2.evs e s⟩, h.st.ev e s n2, h.co.ev e s n3⟩
theorem TblAt.sm (h : TblAt a N H t sl cl k S C) (e : Sm H H') : TblAt a N H' t sl cl k S C := h.ev e (fun _ z => z.elim) (fun z => z) (fun z => z) fun z => z
theorem TblAt.ad {b : Addr} (h : TblAt a N H t sl cl k S C) (hb : H b = none) (e : Sm H H') : TblAt a (ad b N) H' t sl cl k S C := by
  obtain ⟨rv, h1, h2⟩ := h.ex
  exact ⟨.inr h.nt, .inr h.ns, .inr h.nc, h.d1, h.d2, h.d3, ⟨rv, h1.sm e, h2.ad hb e⟩, h.st.ad hb e, h.co.ad hb e⟩
theorem TblAt.upE (h : TblAt a N H t sl cl k S C) (e : Ev F H H') (s : ∀ b, F b → N b) (hi : ∀ b, N b → N' b) (hn : ∀ b, N' b → N b ∨ H b = none) (n1 : ¬ F t) (n2 : ¬ F sl) (n3 : ¬ F cl) : TblAt a N' H' t sl cl k S C := by
  obtain ⟨rv, h1, h2⟩ := h.ex
  exact ⟨hi _ h.nt, hi _ h.ns, hi _ h.nc, h.d1, h.d2, h.d3, ⟨rv, h1.ev e n1, h2.upE e s hn⟩, h.st.upE e s hn n2, h.co.upE e s hn n3⟩
end
def sp_Table_further_rows (a : Ads) : Sp := fun vs H Q _ => ∃ (N : Fp) (t sl : Addr) (fs : List (Str × V)) (k : Nat) (S : List (List Nat)), vs = [.ref t] ∧ Wf N H ∧ Ins H t a.C_Table fs ∧ fs.lookup ("letters" : Str) = some (nV k) ∧ fs.lookup ("_states" : Str) = some (.ref sl) ∧ Lst N H sl (S.map wT) ∧
  S.length ≤ 31 ∧ k ≤ 30 ∧ (∀ w ∈ S, w.length ≤ 101) ∧ ∀ (r : V) (H' : Hp), Sm H H' → At N H' r (.l ((fur k S).map wT)) → Q r H'
def sp_Table___init__ (a : Ads) : Sp := fun vs H Q _ => ∃ (N : Fp) (t : Addr) (k : Nat), vs = [.ref t, nV k] ∧ Wf N H ∧ N t ∧ Ins H t a.C_Table [] ∧ k ≤ 30 ∧
  ∀ (H' : Hp) (sl cl : Addr), Ev (on t) H H' → H sl = none → H cl = none → Wf (ad cl (ad sl N)) H' → TblAt a (ad cl (ad sl N)) H' t sl cl k [[]] [[]] → Q .non H'
def sp_Table_state_words (a : Ads) : Sp := fun vs H Q _ => ∃ (N : Fp) (t sl cl : Addr) (k : Nat) (S C : List (List Nat)), vs = [.ref t] ∧ Wf N H ∧ TblAt a N H t sl cl k S C ∧ TSz k S C ∧
  ∀ (r : V) (H' : Hp), Sm H H' → At N H' r (.l (S.map wL)) → Q r H'
def sp_Table_outputs_of (a : Ads) : Sp := fun vs H Q _ => ∃ (N : Fp) (t sl cl kd : Addr) (k : Nat) (S C : List (List Nat)) (ps : List (List Nat × Nat)) (f : List Nat → Nat) (u : V) (w : List Nat), vs = [.ref t, u, .ref kd] ∧ Wf N H ∧ TblAt a N H t sl cl k S C ∧ TSz k S C ∧ KnAt H kd ps ∧
  At N H u (wT w) ∧ w.length ≤ 200 ∧ (∀ c ∈ C, ps.lookup (w ++ c) = some (f (w ++ c))) ∧ ∀ (r : V) (H' : Hp), Sm H H' → At N H' r (wT (rowOf f C w)) → Q r H'
section
variable {P : Program} {w : World} {K : PySem.W.Frag} {mg : Str → Option Value} {base : Heap} {a : Ads} {d : Fds}
theorem ok_Table_further_rows (T : TX K mg base a d) : FnOk P w K mg base CX0 1 a.f_Table_further_rows d.d_Table_further_rows ["self"] (sp_Table_further_rows a) := by
  refine T.F_Table_further_rows.ok sc_Table_further_rows (fun vs H Q E h => ?_) (fun cdv A outer s H vs Q E hr h => ?_)
  · obtain ⟨_, _, _, _, _, _, rfl, _⟩ := h
    rfl
  · obtain ⟨N, t, sl, fs, k, S, rfl, W, hI, hfk, hfs, hS, hS1, hk, hSw, q⟩ := h
    have hu := hu_of hr
    refine ⟨_, (pss_cons (ps_set (i := 1) sc_Table_further_rows.nd rfl (Or.inl rfl) (pe_lstm pa_nil))
    (pss_cons (ps_forL PassesOwn.never rfl (pe_fldk K (pv 0) rfl) (pg_name (i := 2) sc_Table_further_rows.nd rfl (Or.inl rfl)) (pss_one (ps_forR PassesOwn.never rfl rfl T.b_range (pa_cons (pe_fldk K (pv 0) rfl) pa_nil) (pg_name (i := 3) sc_Table_further_rows.nd rfl (Or.inl rfl)) (pss_cons (ps_set (i := 4) sc_Table_further_rows.nd rfl (Or.inl rfl) (pe_op (op_catTk K) (pv 2) (pe_tupm (pa_cons (pv 3) pa_nil))))
        (pss_one (ps_if (pt_cmpR (op_notInDk K (hu65 hr)) (pv 4) (pe_fldk K (pv 0) rfl) rfl) (pss_one (ps_expr (pe_bmk K PySem.F.plainAttrs_list PySem.F.slot_list_append PySem.F.type_list_append mt_appendm (pv 1) (pa_cons (pv 4) pa_nil)))) pss_nil))))))
    (pss_one (ps_ret (pv 1))))), ?_⟩
    refine newL W (ds := []) (by simp) .nil fun rl H1 hrl s1 L1 W1 => ?_
    have hI1 := hI.sm s1
    have nrt : rl ≠ t := fun e => hI.tr (e ▸ hrl)
    have hS1' := hS.ad hrl s1
    have nrs : sl ≠ rl := hS.ne hrl
    have hsub : ∀ b, on rl b → ad rl N b := fun b z => .inl z
    refine ⟨_, rfl, fldR hI1 T.cl_Table T.n_Table__states hfs ?_⟩
    refine forLs (N := ad rl N) hS1' (fun i σ H' => Ev (on rl) H1 H' ∧ Lst (ad rl N) H' rl ((furN k S i).map wT) ∧ ∃ x2 x3 x4, σ = [some (.ref t), some (.ref rl), x2, x3, x4]) ⟨.refl _ _, by simpa [furN] using L1, none, none, none, rfl⟩ (fun i σ' H' h => h.1.mono hsub) (fun i σ' H' h => h.1.kp' hS1'.tr nrs) ?_ ?_
    · rintro i d2 z2 σ' H2 hd2 hz2 ⟨e2, L2, x2, x3, x4, rfl⟩
      obtain ⟨hi, rfl⟩ := map_get hd2
      have hI2 := hI1.ev e2 (fun z => nrt (show t = rl from z).symm)
      refine ⟨_, rfl, fldR hI2 T.cl_Table T.n_Table_letters hfk ?_⟩
      refine forR k rfl (by omega) (fun j σ H' => Ev (on rl) H1 H' ∧ Ev (on rl) H2 H' ∧ Lst (ad rl N) H' rl ((furN k S i ++ furW S S[i] j).map wT) ∧ ∃ x3 x4, σ = [some (.ref t), some (.ref rl), some z2, x3, x4]) ⟨e2, .refl _ _, by simpa [furW] using L2, _, _, rfl⟩ ?_ ?_
      · rintro j σ' H3 hj ⟨e3, e23, L3, x3, x4, rfl⟩
        have W3 := W1.ev e3
        have hz3 := hz2.evs e23 hsub
        have hI3 := hI1.ev e3 (fun z => nrt (show t = rl from z).symm)
        have hS3 := hS1'.ev e3 hsub nrs
        have hwl := hSw _ (List.getElem_mem hi)
        refine ⟨_, rfl, _, rfl, mkT W3 (by simp) (.one (.n j)) fun p4 H4 s4 h4 => ?_⟩
        refine catT (W3.ev s4) (hz3.sm s4) h4 (ds := S[i].map D.n) (es := [D.n j]) (by rw [List.length_map, List.length_singleton]; omega) fun z5 H5 s5 h5 => ?_
        have s35 := s4.trans s5
        have h5' : At (ad rl N) H5 z5 (wT (S[i] ++ [j])) := by unfold wT; rw [List.map_append]; exact h5
        refine ⟨_, rfl, _, rfl, fldR (hI3.sm s35) T.cl_Table T.n_Table__states hfs (notInW h5' (hS3.sm s35) ⟨_, rfl, ?_⟩)⟩
        by_cases hin : S[i] ++ [j] ∈ S
        · refine ifF (by rw [decide_eq_true hin]; rfl) ⟨e3.trans (.of s35), e23.trans (.of s35), ?_, _, _, rfl⟩
          rw [furW_succ, if_pos hin]
          exact L3.sm s35
        · refine ifT (by rw [decide_eq_false hin]; rfl) ?_
          refine ⟨_, rfl, (L3.sm s35).ty, _, rfl, appL (N := ad rl N) (L3.sm s35) (.inl rfl) h5' ?_ fun H6 e6 L6 => ?_⟩
          · rw [List.length_map, List.length_append]
            have h1 := furN_len (k := k) (S := S) i (by omega)
            have h2 := furW_len (S := S) S[i] j
            have h3 : i * k ≤ 31 * 30 := Nat.mul_le_mul (by omega) hk
            omega
          · refine ⟨(e3.trans (.of s35)).trans e6, (e23.trans (.of s35)).trans e6, ?_, _, _, rfl⟩
            rw [furW_succ, if_neg hin, ← List.append_assoc, List.map_append]
            exact L6
      · rintro σ' H3 ⟨e3, e23, L3, x3, x4, rfl⟩
        refine ⟨e3, ?_, _, _, _, rfl⟩
        rw [furN_succ hi]
        exact L3
    · rintro σ' H2 ⟨e2, L2, x2, x3, x4, rfl⟩
      rw [List.length_map, furN_all] at L2
      exact ⟨_, rfl, q _ _ (s1.then e2 fun b z => .inr (z ▸ hrl)) (L2.at (fun z => W.no hrl z) fun b z => .inr z)⟩
theorem ok_Table___init__ (T : TX K mg base a d) : FnOk P w K mg base CX0 2 a.f_Table___init__ d.d_Table___init__ ["self", "letters"] (sp_Table___init__ a) := by
  refine T.F_Table___init__.ok sc_Table___init__ (fun vs H Q E h => ?_) (fun cdv A outer s H vs Q E hr h => ?_)
  · obtain ⟨_, _, _, rfl, _⟩ := h
    rfl
  · obtain ⟨N, t, k, rfl, W, nt, hI, hk, q⟩ := h
    have hu := hu_of hr
    refine ⟨_, (pss_cons (ps_fldk K (pv 0) (pv 1) rfl)
    (pss_cons (ps_fldk K (pv 0) (pe_lstm (pa_cons (pe_tupm pa_nil) pa_nil)) rfl)
    (pss_cons (ps_fldk K (pv 0) (pe_lstm (pa_cons (pe_tupm pa_nil) pa_nil)) rfl)
    (pss_one (ps_fldk K (pv 0) (pe_op op_catLm (pe_lstm (pa_cons (pe_tupm pa_nil) pa_nil)) (pe_meth0 (pv 0) T.cl_Table T.M_Table_further_rows (ok_Table_further_rows T) (hr.mono (by decide)) T.B_Table_further_rows .nil pass0)) rfl))))), ?_⟩
    refine ⟨_, rfl, _, rfl, fldS hI T.cl_Table T.n_Table_letters (Nat.le_of_ble_eq_true rfl) fun H1 e1 I1 => ?_⟩
    have W1 := W.ev e1
    refine mkT W1 (by simp) .nil fun p2 H2 s2 h2 => newL (W1.ev s2) (ds := [wT []]) (by simp) (.one h2) fun sl H3 hsl s3 L3 W3 => ?_
    have hsl0 : H sl = none := (e1.trans (.of s2)).free hsl
    refine ⟨_, rfl, fldS ((I1.sm s2).sm s3) T.cl_Table T.n_Table__states (Nat.le_of_ble_eq_true rfl) fun H4 e4 I4 => ?_⟩
    have nst : sl ≠ t := fun e => hI.tr (e ▸ hsl0)
    have tN : ∀ b, on t b → ad sl N b := fun b z => .inr (by rw [show b = t from z]; exact nt)
    have L4 := L3.ev e4 tN nst
    have W4 := W3.ev e4
    refine mkT W4 (by simp) .nil fun p5 H5 s5 h5 => newL (W4.ev s5) (ds := [wT []]) (by simp) (.one h5) fun cl H6 hcl s6 L6 W6 => ?_
    have hcl0 : H cl = none := ((((e1.trans (.of s2)).trans (.of s3)).trans e4).trans (.of s5)).free hcl
    have nct : cl ≠ t := fun e => hI.tr (e ▸ hcl0)
    have nsc : sl ≠ cl := (L4.sm s5).ne hcl
    refine ⟨_, rfl, fldS ((I4.sm s5).sm s6) T.cl_Table T.n_Table__columns (Nat.le_of_ble_eq_true rfl) fun H7 e7 I7 => ?_⟩
    have tN2 : ∀ b, on t b → ad cl (ad sl N) b := fun b z => .inr (tN b z)
    have L7 := L6.ev e7 tN2 nct
    have W7 := W6.ev e7
    have LS7 := (((L4.sm s5).ad hcl s6)).ev e7 tN2 nst
    refine mkT W7 (by simp) .nil fun p8 H8 s8 h8 => mkL (W7.ev s8) (by simp) (.one h8) fun p9 H9 s9 h9 => ?_
    have s79 := s8.trans s9
    obtain ⟨dx, hH⟩ := I7.sm s79
    refine ⟨_, rfl, t, dx, _, rfl, hH, rfl, ad cl (ad sl N), t, sl, _, k, [[]], rfl, W7.ev s79, ⟨dx, hH⟩, rfl, rfl, LS7.sm s79, by simp, hk, by simp, fun r H10 s10 h10 => ?_⟩
    have W10 := (W7.ev s79).ev s10
    refine catD W10 (h9.sm s10) h10 (ds := [wT []]) ?_ fun p11 H11 hp11 s11 h11 => ?_
    · rw [List.length_map]
      have := fur_len (k := k) (S := [[]])
      simp at this ⊢; omega
    · have s7b := (s79.trans s10).trans s11
      refine ⟨_, rfl, fldS (I7.sm s7b) T.cl_Table T.n_Table__rows (Nat.le_of_ble_eq_true rfl) fun H12 e12 I12 => ?_⟩
      have eAll : Ev (on t) H H12 := (((((((e1.trans (.of s2)).trans (.of s3)).trans e4).trans (.of s5)).trans (.of s6)).trans e7).trans (.of s7b)).trans e12
      refine q H12 sl cl eAll hsl0 hcl0 ((W7.ev s7b).ev e12) ⟨.inr (.inr nt), .inr (.inl rfl), .inl rfl, nst.symm, nct.symm, nsc, ⟨_, I12, ?_⟩, (LS7.sm s7b).ev e12 tN2 nst, (L7.sm s7b).ev e12 tN2 nct⟩
      have := h11.evs e12 tN2
      exact this
end
end Tk
/-! text D9 -/
set_option maxHeartbeats 4000000
namespace Tk
open PySem L2
def sp_Table_all_wanted (a : Ads) : Sp := fun vs H Q _ => ∃ (N : Fp) (t sl cl kd : Addr) (k : Nat) (S C : List (List Nat)) (ps : List (List Nat × Nat)), vs = [.ref t, .ref kd] ∧ Wf N H ∧ TblAt a N H t sl cl k S C ∧ TSz k S C ∧ KnAt H kd ps ∧
  ∀ (r : V) (H' : Hp) (ws : List (List Nat)), Sm H H' → ws.Nodup → (∀ u, u ∈ ws ↔ (∃ r ∈ rws k S, ∃ c ∈ C, u = r ++ c) ∧ ps.lookup u = none) → ws.length ≤ 30000 → At N H' r (.l (ws.map wL)) → Q r H'
def sp_Table_numbers (a : Ads) : Sp := fun vs H Q _ => ∃ (N : Fp) (t sl cl kd : Addr) (k : Nat) (S C : List (List Nat)) (ps : List (List Nat × Nat)) (f : List Nat → Nat), vs = [.ref t, .ref kd] ∧ Wf N H ∧ TblAt a N H t sl cl k S C ∧ TSz k S C ∧ N kd ∧ KnAt H kd ps ∧
  Dst f C S ∧ (∀ s ∈ S, Kn f C ps s) ∧ ∀ (nd : Addr) (H' : Hp), Sm H H' → H nd = none → KnAt H' nd (numN f C S S.length) → Q (.ref nd) H'
def sp_Table_extend (a : Ads) : Sp := fun vs H Q _ => ∃ (N : Fp) (t sl cl kd : Addr) (k : Nat) (S C : List (List Nat)) (ps : List (List Nat × Nat)) (f : List Nat → Nat), vs = [.ref t, .ref kd] ∧ Wf N H ∧ TblAt a N H t sl cl k S C ∧ TSz k S C ∧ N kd ∧ KnAt H kd ps ∧ kd ≠ t ∧ kd ≠ sl ∧
  Dst f C S ∧ (∀ r ∈ rws k S, Kn f C ps r) ∧ (Cls f k C S → ∀ H', Sm H H' → Q (.bl false) H') ∧
  ∀ (H' : Hp) (w : List Nat), w ∈ fur k S → rowOf f C w ∉ S.map (rowOf f C) → Ev (fun b => b = t ∨ b = sl) H H' → TblAt a N H' t sl cl k (S ++ [w]) C → Q (.bl true) H'
def sp_Table_add_column (a : Ads) : Sp := fun vs H Q _ => ∃ (N : Fp) (t sl cl : Addr) (k : Nat) (S C : List (List Nat)) (u : V) (w : List Nat), vs = [.ref t, u] ∧ Wf N H ∧ TblAt a N H t sl cl k S C ∧ TSz k S C ∧ At N H u (wL w) ∧ w ∉ C ∧
  ∀ (H' : Hp), Ev (on cl) H H' → TblAt a N H' t sl cl k S (C ++ [w]) → Q .non H'
def sp_Table_machine (a : Ads) : Sp := fun vs H Q _ => ∃ (N : Fp) (t sl cl kd : Addr) (k o : Nat) (S C : List (List Nat)) (ps : List (List Nat × Nat)) (f : List Nat → Nat), vs = [.ref t, nV o, .ref kd] ∧ Wf N H ∧ TblAt a N H t sl cl k S C ∧ TSz k S C ∧ N kd ∧ KnAt H kd ps ∧
  Dst f C S ∧ (∀ r ∈ rws k S, Kn f C ps r) ∧ [] ∈ C ∧ Cls f k C S ∧ ∀ (r : V) (H' : Hp), Sm H H' → At N H' r (mD (hypM f k C S o)) → Q r H'
theorem dsetT {α : Type} {N : Fp} {H : Hp} {d : Addr} {y z : V} {f : α → V} {ps : List (List Nat × α)} {w : List Nat} {r : α} {Q : VK} (h : H d = some (DtO f ps)) (g : At N H y (wT w)) (n : ps.lookup w = none) (hl : ps.length ≤ 100000) (hv : z = f r)
    (q : ∀ H', Ev (on d) H H' → H' d = some (DtO f (ps ++ [(w, r)])) → Q z H') : rDSetT (.ref d) y z H Q := by
  unfold rDSetT
  obtain ⟨b, rfl, _, hb⟩ := At.word g
  refine ⟨d, b, _, mk w, rfl, rfl, h, by rw [mk_V]; exact hb, by rw [val_Dt, n]; rfl, by rw [List.length_map]; exact szl (by omega), q _ (.put rfl) ?_⟩
  rw [upd_same, hv]
  unfold DtO
  rw [List.map_append]; rfl
theorem DtO.isD {α : Type} {H : Hp} {d : Addr} {f : α → V} {ps : List (List Nat × α)} (h : H d = some (DtO f ps)) : IsD H d := .inr ⟨_, .inl h⟩
section
variable {P : Program} {w : World} {K : PySem.W.Frag} {mg : Str → Option Value} {base : Heap} {a : Ads} {d : Fds}
theorem ok_Table_state_words (T : TX K mg base a d) : FnOk P w K mg base CX0 1 a.f_Table_state_words d.d_Table_state_words ["self"] (sp_Table_state_words a) := by
  refine T.F_Table_state_words.ok sc_Table_state_words (fun vs H Q E h => ?_) (fun cdv A outer s H vs Q E hr h => ?_)
  · obtain ⟨_, _, _, _, _, _, _, rfl, _⟩ := h
    rfl
  · obtain ⟨N, t, sl, cl, k, S, C, rfl, W, hT, hz, q⟩ := h
    have hu := hu_of hr
    refine ⟨_, (pss_one (ps_ret (peLk K (pe_lc (own := [("word", 1)]) rfl sc_Table_state_words.nd (pi_listk K (pe_fldk K (pv 0) rfl)) (blkOk_by (own := [("word", 1)]) (N := N_Table_state_words) (sc := defScope s_Table_state_words) (by decide +kernel)) (fun _ _ _ _ _ => (pg_name (i := 1) sc_Table_state_words.nd rfl (Or.inl rfl))) (fun _ _ _ _ _ => pts_nil) (fun _ _ _ _ _ => (pe_callTy (cr_listk K) (by rfl) T.b_list (by decide +kernel) (pa_cons (pv 1) pa_nil))))))), ?_⟩
    obtain ⟨rv, hI, hrv⟩ := hT.ex
    refine ⟨_, rfl, fldR hI T.cl_Table T.n_Table__states rfl ?_⟩
    refine lcLs S wT wL W hT.st (by have := hz.s; omega) (fun _ => rfl) (fun u hu z H' N' s' W' _ hn' hz' R k' => ⟨_, rfl, listT hz' fun p vs hp hvs => k' _ _ (.new hp) (.mkL W' hp hvs)⟩) fun p H1 s1 hp h1 => q _ _ s1 h1
theorem ok_Table_outputs_of (T : TX K mg base a d) : FnOk P w K mg base CX0 1 a.f_Table_outputs_of d.d_Table_outputs_of ["self", "row", "known"] (sp_Table_outputs_of a) := by
  refine T.F_Table_outputs_of.ok sc_Table_outputs_of (fun vs H Q E h => ?_) (fun cdv A outer s H vs Q E hr h => ?_)
  · obtain ⟨_, _, _, _, _, _, _, _, _, _, _, _, rfl, _⟩ := h
    rfl
  · obtain ⟨N, t, sl, cl, kd, k, S, C, ps, f, u, wd, rfl, W, hT, hz, hk, hw, hwl, hkn, q⟩ := h
    have hu := hu_of hr
    refine ⟨_, (pss_one (ps_ret (pe_callTy (cr_tupk K) (by rfl) T.b_tuple (by decide +kernel) (pa_cons (peLk K (pe_lc (own := [("column", 3)]) rfl sc_Table_outputs_of.nd (pi_listk K (pe_fldk K (pv 0) rfl)) (blkOk_by (own := [("column", 3)]) (N := N_Table_outputs_of) (sc := defScope s_Table_outputs_of) (by decide +kernel)) (fun _ _ _ _ _ => (pg_name (i := 3) sc_Table_outputs_of.nd rfl (Or.inl rfl))) (fun _ _ _ _ _ => pts_nil) (fun _ _ _ _ _ => (pe_dget hu (pv 2) (pe_op (op_catTk K) (pv 1) (pv 3)) (fun _ _ => rfl))))) pa_nil)))), ?_⟩
    obtain ⟨rv, hI, hrv⟩ := hT.ex
    refine ⟨_, rfl, fldR hI T.cl_Table T.n_Table__columns rfl ?_⟩
    refine lcLs C wT (fun c => D.n (f (wd ++ c))) W hT.co (by have := hz.c; omega) (fun _ => rfl) (fun c hc z H' N' s' W' _ hn' hz' R k' => ?_) fun p H1 s1 hp h1 => ?_
    · refine ⟨_, rfl, _, rfl, _, rfl, catT W' (hw.up s' hn') hz' (ds := wd.map D.n) (es := c.map D.n) ?_ fun z2 H2 s2 h2 => ?_⟩
      · have := hz.cw c hc
        rw [List.length_map, List.length_map]; omega
      · refine ⟨kd, _, rfl, dget_Dt (w := wd ++ c) (N := N') ((s'.trans s2).at hk) ?_ (hkn c hc), k' _ _ s2 (.n _)⟩
        unfold wT; rw [List.map_append]; exact h2
    · refine tupL (W.ev s1) h1 fun p2 H2 s2 h2 => q _ _ (s1.trans s2) ?_
      unfold wT rowOf
      rw [List.map_map]
      exact h2
theorem ok_Table_all_wanted (T : TX K mg base a d) : FnOk P w K mg base CX0 1 a.f_Table_all_wanted d.d_Table_all_wanted ["self", "known"] (sp_Table_all_wanted a) := by
  refine T.F_Table_all_wanted.ok sc_Table_all_wanted (fun vs H Q E h => ?_) (fun cdv A outer s H vs Q E hr h => ?_)
  · obtain ⟨_, _, _, _, _, _, _, _, _, rfl, _⟩ := h
    rfl
  · obtain ⟨N, t, sl, cl, kd, k, S, C, ps, rfl, W, hT, hz, hk, q⟩ := h
    have hu := hu_of hr
    refine ⟨_, (pss_cons (ps_set (i := 2) sc_Table_all_wanted.nd rfl (Or.inl rfl) pe_dnewT)
    (pss_cons (ps_forL PassesOwn.never rfl (pe_fldk K (pv 0) rfl) (pg_name (i := 3) sc_Table_all_wanted.nd rfl (Or.inl rfl)) (pss_one (ps_forL PassesOwn.never rfl (pe_fldk K (pv 0) rfl) (pg_name (i := 4) sc_Table_all_wanted.nd rfl (Or.inl rfl)) (pss_one (ps_if (pt_cmp (pc_dnotin hu (pe_op (op_catTk K) (pv 3) (pv 4)) (pv 1))) (pss_one (ps_dput hu (pv 2) (pe_op (op_catTk K) (pv 3) (pv 4)) pe_bl rfl)) pss_nil)))))
    (pss_one (ps_ret (peK (pe_lock (pe_lc (own := [("word", 5)]) rfl sc_Table_all_wanted.nd (pi_keys (pv 2)) (blkOk_by (own := [("word", 5)]) (N := N_Table_all_wanted) (sc := defScope s_Table_all_wanted) (by decide +kernel)) (fun _ _ _ _ _ => (pg_name (i := 5) sc_Table_all_wanted.nd rfl (Or.inl rfl))) (fun _ _ _ _ _ => pts_nil) (fun _ _ _ _ _ => (pe_callTy (cr_listk K) (by rfl) T.b_list (by decide +kernel) (pa_cons (pv 5) pa_nil)))))))))), ?_⟩
    intro fd hfd
    have s1 : Sm H (upd H fd (.dT [])) := .new hfd
    have e1 : upd H fd (.dT []) fd = some (DtO tV (kU [])) := upd_same
    have W1 : Wf (ad fd N) (upd H fd (.dT [])) := (W.ev s1).ad e1 DtO.noT
    have hT1 := hT.ad hfd s1
    have nft : t ≠ fd := fun e => W.no hfd (e ▸ hT.nt)
    have nfs : sl ≠ fd := fun e => W.no hfd (e ▸ hT.ns)
    have nfc : cl ≠ fd := fun e => W.no hfd (e ▸ hT.nc)
    have nfk : kd ≠ fd := fun e => by
      have hk' : H kd = _ := hk
      rw [e, hfd] at hk'; cases hk'
    have hk1 := s1.at hk
    generalize upd H fd (.dT []) = H1 at s1 e1 W1 hT1 hk1
    have hsf : ∀ b, on fd b → ad fd N b := fun b z => .inl z
    obtain ⟨rv, hI, hrv⟩ := hT1.ex
    have hRl : (rws k S).length ≤ 30 * 31 := Nat.le_trans rws_len (Nat.mul_le_mul hz.s (Nat.succ_le_succ hz.k))
    have hrl : ∀ r ∈ rws k S, r.length ≤ 101 := fun r hr => by
      rcases List.mem_append.mp hr with h | h
      · have := hz.sw r h; omega
      · obtain ⟨_, w, hw, b, _, rfl⟩ := mem_fur.mp h
        have := hz.sw w hw
        rw [List.length_append, List.length_singleton]; omega
    have hcard : ∀ ks : List (List Nat), ks.Nodup → (∀ u ∈ ks, ∃ r ∈ rws k S, ∃ c ∈ C, u = r ++ c) → ks.length ≤ 30000 := fun ks h1 h2 => by
      have h := List.Nodup.length_le_of_subset h1 (l₂ := (rws k S).flatMap fun r => C.map fun c => r ++ c) fun u hu => by
        obtain ⟨r, hr, c, hc, e⟩ := h2 u hu
        exact List.mem_flatMap.mpr ⟨r, hr, List.mem_map.mpr ⟨c, hc, e.symm⟩⟩
      have e : ((rws k S).flatMap fun r => C.map fun c => r ++ c).length = (rws k S).length * C.length := by
        rw [List.length_flatMap]
        simp [List.map_const']
      have := Nat.mul_le_mul hRl hz.c
      omega
    refine ⟨_, rfl, fldR hI T.cl_Table T.n_Table__rows rfl ?_⟩
    refine forL (N := ad fd N) hrv (fun i σ H' => Ev (on fd) H1 H' ∧ ∃ ks : List (List Nat), H' fd = some (DtO tV (kU ks)) ∧ ks.Nodup ∧ (∀ u ∈ ks, (∃ r ∈ rws k S, ∃ c ∈ C, u = r ++ c) ∧ ps.lookup u = none) ∧ (∀ r ∈ (rws k S).take i, ∀ c ∈ C, ps.lookup (r ++ c) = none → r ++ c ∈ ks) ∧
      ∃ x3 x4, σ = [some (.ref t), some (.ref kd), some (.ref fd), x3, x4, none]) ⟨.refl _ _, [], e1, List.nodup_nil, (fun _ z => nomatch z), (fun _ z => nomatch z), none, none, rfl⟩ (fun i σ' H' h => h.1.mono hsf) ?_ ?_
    · rintro i d3 z3 σ' H2 hd3 hz3 ⟨e2, ks, hks, hnd, hwd, hin, x3, x4, rfl⟩
      obtain ⟨hi, rfl⟩ := map_get hd3
      have hT2 := hT1.ev e2 hsf nft nfs nfc
      have hI2 := hI.ev e2 nft
      refine ⟨_, rfl, fldR hI2 T.cl_Table T.n_Table__columns rfl ?_⟩
      refine forLs (N := ad fd N) hT2.co (fun j σ H' => Ev (on fd) H1 H' ∧ Ev (on fd) H2 H' ∧ ∃ ks : List (List Nat), H' fd = some (DtO tV (kU ks)) ∧ ks.Nodup ∧ (∀ u ∈ ks, (∃ r ∈ rws k S, ∃ c ∈ C, u = r ++ c) ∧ ps.lookup u = none) ∧ (∀ r ∈ (rws k S).take i, ∀ c ∈ C, ps.lookup (r ++ c) = none → r ++ c ∈ ks) ∧ (∀ c ∈ C.take j, ps.lookup ((rws k S)[i] ++ c) = none → (rws k S)[i] ++ c ∈ ks) ∧
        ∃ x4, σ = [some (.ref t), some (.ref kd), some (.ref fd), some z3, x4, none]) ⟨e2, .refl _ _, ks, hks, hnd, hwd, hin, (fun _ z => nomatch z), x4, rfl⟩ (fun i σ' H' h => h.2.1.mono hsf) (fun i σ' H' h => h.2.1.kp' hT2.co.tr nfc) ?_ ?_
      · rintro j d4 z4 σ' H3 hd4 hz4 ⟨e3, e23, ks, hks, hnd, hwd, hin, hin2, x4, rfl⟩
        obtain ⟨hj, rfl⟩ := map_get hd4
        have W3 := W1.ev e3
        have hz3' := hz3.evs e23 hsf
        have hk3 : KnAt H3 kd ps := e3.kp kd _ hk1 nfk
        have hlen : ((rws k S)[i].map D.n).length + (C[j].map D.n).length ≤ 1000000 := by
          have := hrl _ (List.getElem_mem hi)
          have := hz.cw _ (List.getElem_mem hj)
          rw [List.length_map, List.length_map]; omega
        refine ⟨_, rfl, _, rfl, catT W3 hz3' hz4 hlen fun z5 H5 s5 h5 => ?_⟩
        have h5' : At (ad fd N) H5 z5 (wT ((rws k S)[i] ++ C[j])) := by unfold wT; rw [List.map_append]; exact h5
        refine ⟨_, rfl, kd, _, rfl, dgetO_Dt (s5.at hk3) h5', ?_⟩
        cases hlk : ps.lookup ((rws k S)[i] ++ C[j]) with
        | some y =>
          refine ⟨_, rfl, ifF rfl ?_⟩
          refine ⟨e3.trans (.of s5), e23.trans (.of s5), ks, s5.at hks, hnd, hwd, hin, fun c hc hn => ?_, _, rfl⟩
          rw [List.take_succ_eq_append_getElem hj, List.mem_append, List.mem_singleton] at hc
          rcases hc with hc | rfl
          · exact hin2 c hc hn
          · rw [hlk] at hn; cases hn
        | none =>
          refine ⟨_, rfl, ifT rfl ?_⟩
          refine ⟨_, rfl, _, rfl, _, rfl, catT (W3.ev s5) (hz3'.sm s5) (hz4.sm s5) hlen fun z6 H6 s6 h6 => ?_⟩
          have h6' : At (ad fd N) H6 z6 (wT ((rws k S)[i] ++ C[j])) := by unfold wT; rw [List.map_append]; exact h6
          have hkl := hcard ks hnd fun u hu => (hwd u hu).1
          refine putKU ((s5.trans s6).at hks) h6' hnd (by omega) fun H7 e7 h7 => ?_
          have ex := (Ev.of (s5.trans s6)).trans e7
          refine ⟨e3.trans ex, e23.trans ex, _, h7, addK_nodup hnd, fun u hu => ?_, fun r hr c hc hn => addK_mem.mpr (.inl (hin r hr c hc hn)), fun c hc hn => ?_, _, rfl⟩
          · rcases addK_mem.mp hu with h | rfl
            · exact hwd u h
            · exact ⟨⟨_, List.getElem_mem hi, _, List.getElem_mem hj, rfl⟩, hlk⟩
          · rw [List.take_succ_eq_append_getElem hj, List.mem_append, List.mem_singleton] at hc
            rcases hc with hc | rfl
            · exact addK_mem.mpr (.inl (hin2 c hc hn))
            · exact addK_mem.mpr (.inr rfl)
      · rintro σ' H3 ⟨e3, e23, ks, hks, hnd, hwd, hin, hin2, x4, rfl⟩
        rw [List.length_map, List.take_of_length_le (Nat.le_refl _)] at hin2
        refine ⟨e3, ks, hks, hnd, hwd, fun r hr c hc hn => ?_, _, _, rfl⟩
        rw [List.take_succ_eq_append_getElem hi, List.mem_append, List.mem_singleton] at hr
        rcases hr with hr | rfl
        · exact hin r hr c hc hn
        · exact hin2 c hc hn
    · rintro σ' H2 ⟨e2, ks, hks, hnd, hwd, hin, x3, x4, rfl⟩
      rw [List.length_map, List.take_of_length_le (Nat.le_refl _)] at hin
      have W2 := W1.ev e2
      have hkl := hcard ks hnd fun u hu => (hwd u hu).1
      refine keysLC (i := 2) (enc' := wL) rfl hks W2 (.inl rfl) (by unfold kU; rw [List.length_map]; omega) (fun _ => rfl) (fun u hu z H' N' W' hz' R k' => ⟨_, rfl, listT hz' fun p vs hp hvs => k' _ _ (.new hp) (.mkL W' hp hvs)⟩) fun p9 H9 s9 hp9 h9 => ?_
      rw [kU_fst] at h9
      refine q _ _ ks ((s1.then e2 fun b z => .inr ((show b = fd from z) ▸ hfd)).trans s9) hnd (fun u => ⟨hwd u, ?_⟩) hkl (h9.sub fun b z => .inr z)
      rintro ⟨⟨r, hr, c, hc, rfl⟩, hn⟩
      exact hin r hr c hc hn
theorem ok_Table_numbers (T : TX K mg base a d) : FnOk P w K mg base CX0 2 a.f_Table_numbers d.d_Table_numbers ["self", "known"] (sp_Table_numbers a) := by
  refine T.F_Table_numbers.ok sc_Table_numbers (fun vs H Q E h => ?_) (fun cdv A outer s H vs Q E hr h => ?_)
  · obtain ⟨_, _, _, _, _, _, _, _, _, _, rfl, _⟩ := h
    rfl
  · obtain ⟨N, t, sl, cl, kd, k, S, C, ps, f, rfl, W, hT, hz, nk, hk, hD, hkn, q⟩ := h
    have hu := hu_of hr
    refine ⟨_, (pss_cons (ps_set (i := 2) sc_Table_numbers.nd rfl (Or.inl rfl) pe_dnewT)
    (pss_cons (ps_forEL PassesOwn.never rfl (by rfl) T.b_enumerate (pa_cons (pe_fldk K (pv 0) rfl) pa_nil) (pg_tup rfl (pgs_cons (pg_name (i := 3) sc_Table_numbers.nd rfl (Or.inl rfl)) (pgs_cons (pg_name (i := 4) sc_Table_numbers.nd rfl (Or.inl rfl)) pgs_nil))) (pss_one (ps_expr (pe_dsetdT hu (pv 2) (pe_meth (pv 0) T.cl_Table T.M_Table_outputs_of (ok_Table_outputs_of T) (hr.mono (by decide)) T.B_Table_outputs_of .nil pass0 (pa_cons (pv 4) (pa_cons (pv 1) pa_nil))) (pv 3) ⟨rfl, rfl, rfl, rfl⟩))))
    (pss_one (ps_ret (pv 2))))), ?_⟩
    intro fd hfd
    have s1 : Sm H (upd H fd (.dT [])) := .new hfd
    have e1 : upd H fd (.dT []) fd = some (DtO nV (numN f C S 0)) := upd_same
    have W1 : Wf (ad fd N) (upd H fd (.dT [])) := (W.ev s1).ad e1 DtO.noT
    have hT1 := hT.ad hfd s1
    have nft : t ≠ fd := fun e => W.no hfd (e ▸ hT.nt)
    have nfs : sl ≠ fd := fun e => W.no hfd (e ▸ hT.ns)
    have nfc : cl ≠ fd := fun e => W.no hfd (e ▸ hT.nc)
    have nfk : kd ≠ fd := fun e => W.no hfd (e ▸ nk)
    have hk1 : KnAt _ kd ps := s1.at hk
    generalize upd H fd (.dT []) = H1 at s1 e1 W1 hT1 hk1
    have hsf : ∀ b, on fd b → ad fd N b := fun b z => .inl z
    obtain ⟨rv, hI, hrv⟩ := hT1.ex
    refine ⟨_, rfl, fldR hI T.cl_Table T.n_Table__states rfl ?_⟩
    refine forELs (N := ad fd N) hT1.st (fun i σ H' => Ev (on fd) H1 H' ∧ KnAt H' fd (numN f C S i) ∧ ∃ x3 x4, σ = [some (.ref t), some (.ref kd), some (.ref fd), x3, x4]) ⟨.refl _ _, e1, none, none, rfl⟩ (fun i σ' H' h => h.1.mono hsf) (fun i σ' H' h => h.1.kp' hT1.st.tr nfs) ?_ ?_
    · rintro i d3 z3 T3 σ' H2 hd3 hz3 ⟨e2, hn2, x3, x4, rfl⟩ hT3
      obtain ⟨hi, rfl⟩ := map_get hd3
      have s3 : Sm H2 (upd H2 T3 (.tup [nV i, z3])) := .new hT3
      generalize upd H2 T3 (.tup [nV i, z3]) = H3 at s3
      have e3 := e2.trans (.of s3)
      have hT3 := hT1.ev e3 hsf nft nfs nfc
      have hI3 := hI.ev e3 nft
      have W3 := W1.ev e3
      obtain ⟨dx, hH⟩ := hI3
      have hiw := List.getElem_mem hi
      have hgd : S.getD i [] = S[i] := getD_lt hi
      refine ⟨_, rfl, ⟨fd, rfl, DtO.isD (s3.at hn2)⟩, ?_⟩
      refine ⟨_, rfl, t, dx, _, rfl, hH, rfl, _, rfl, _, rfl, ad fd N, t, sl, cl, kd, k, S, C, ps, f, z3, S[i], rfl, W3, hT3, hz, e3.kp kd _ hk1 nfk, hz3.sm s3, by have := hz.sw _ hiw; omega, hkn _ hiw, fun r H4 s4 h4 => ?_⟩
      refine ⟨_, rfl, ?_⟩
      rw [← hgd] at h4
      refine dsetT (r := i) (f := nV) ((s3.trans s4).at hn2) h4 (numN_new hD hi) (by unfold numN; rw [List.length_map, List.length_range]; have := hz.s; omega) rfl fun H5 e5 h5 => ?_
      refine ⟨(e3.trans (.of s4)).trans e5, ?_, _, _, rfl⟩
      show H5 fd = some (DtO nV (numN f C S (i + 1)))
      have : numN f C S (i + 1) = numN f C S i ++ [(rowOf f C (S.getD i []), i)] := by unfold numN; rw [List.range_succ, List.map_append]; rfl
      rw [this]; exact h5
    · rintro σ' H2 ⟨e2, hn2, x3, x4, rfl⟩
      rw [List.length_map] at hn2
      exact ⟨_, rfl, q fd _ (s1.then e2 fun b z => .inr ((show b = fd from z) ▸ hfd)) hfd hn2⟩
theorem ok_Table_add_column (T : TX K mg base a d) : FnOk P w K mg base CX0 1 a.f_Table_add_column d.d_Table_add_column ["self", "word"] (sp_Table_add_column a) := by
  refine T.F_Table_add_column.ok sc_Table_add_column (fun vs H Q E h => ?_) (fun cdv A outer s H vs Q E hr h => ?_)
  · obtain ⟨_, _, _, _, _, _, _, _, _, rfl, _⟩ := h
    rfl
  · obtain ⟨N, t, sl, cl, k, S, C, u, wd, rfl, W, hT, hz, hw, hn, q⟩ := h
    have hu := hu_of hr
    refine ⟨_, (pss_cons (ps_set (i := 2) sc_Table_add_column.nd rfl (Or.inl rfl) (pe_callTy (cr_tupk K) (by rfl) T.b_tuple (by decide +kernel) (pa_cons (pv 1) pa_nil)))
    (pss_cons (ps_if (pt_cmpR (op_inDk K (hu65 hr)) (pv 2) (pe_fldk K (pv 0) rfl) rfl) (pss_one ps_never) pss_nil)
    (pss_one (ps_expr (pe_bmk K PySem.F.plainAttrs_list PySem.F.slot_list_append PySem.F.type_list_append mt_appendm (pe_fldk K (pv 0) rfl) (pa_cons (pv 2) pa_nil)))))), ?_⟩
    refine ⟨_, rfl, tupL W hw fun p1 H1 s1 h1 => ?_⟩
    have hT1 := hT.sm s1
    obtain ⟨rv, hI, hrv⟩ := hT1.ex
    refine ⟨_, rfl, _, rfl, fldR hI T.cl_Table T.n_Table__columns rfl (inW h1 hT1.co ⟨_, rfl, ifF (decide_eq_false hn) ?_⟩)⟩
    refine ⟨_, rfl, fldR hI T.cl_Table T.n_Table__columns rfl ⟨hT1.co.ty, _, rfl, appL (N := N) hT1.co hT.nc h1 (by rw [List.length_map]; have := hz.c; omega) fun H2 e2 L2 => ?_⟩⟩
    have hsub : ∀ b, on cl b → N b := fun b z => by rw [show b = cl from z]; exact hT.nc
    refine q H2 ((Ev.of s1).trans e2) ⟨hT.nt, hT.ns, hT.nc, hT.d1, hT.d2, hT.d3, ⟨rv, hI.ev e2 hT.d2, hrv.evs e2 hsub⟩, hT1.st.ev e2 hsub hT.d3, ?_⟩
    rw [List.map_append]; exact L2
end
end Tk
/-! text D10 -/
set_option maxHeartbeats 4000000
namespace Tk
open PySem L2
def sp_Table_mistake (a : Ads) : Sp := fun vs H Q _ => ∃ (N : Fp) (t sl cl kd : Addr) (k o : Nat) (S C : List (List Nat)) (ps : List (List Nat × Nat)) (f : List Nat → Nat), vs = [.ref t, nV o, .ref kd] ∧ Wf N H ∧ TblAt a N H t sl cl k S C ∧ TSz k S C ∧ N kd ∧ KnAt H kd ps ∧
  Dst f C S ∧ (∀ r ∈ rws k S, Kn f C ps r) ∧ [] ∈ C ∧ Cls f k C S ∧ 0 < S.length ∧ (∀ s ∈ S, f s < o) ∧ (∀ c ∈ C, Wd k c) ∧
  ((∀ i, i < S.length → ∀ c ∈ C, (hypM f k C S o).outp i c = f (S.getD i [] ++ c)) → ∀ H', Sm H H' → Q .non H') ∧
  ∀ (r : V) (H' : Hp) (i : Nat) (c : List Nat), Sm H H' → i < S.length → c ∈ C → (hypM f k C S o).outp i c ≠ f (S.getD i [] ++ c) → At N H' r (.t [wL (S.getD i []), wL c]) → Q r H'
section
variable {P : Program} {w : World} {K : PySem.W.Frag} {mg : Str → Option Value} {base : Heap} {a : Ads} {d : Fds}
theorem ok_Table_extend (T : TX K mg base a d) : FnOk P w K mg base CX0 3 a.f_Table_extend d.d_Table_extend ["self", "known"] (sp_Table_extend a) := by
  refine T.F_Table_extend.ok sc_Table_extend (fun vs H Q E h => ?_) (fun cdv A outer s H vs Q E hr h => ?_)
  · obtain ⟨_, _, _, _, _, _, _, _, _, _, rfl, _⟩ := h
    rfl
  · obtain ⟨N, t, sl, cl, kd, k, S, C, ps, f, rfl, W, hT, hz, nk, hk, nkt, nks, hD, hkn, q0, q1⟩ := h
    have hu := hu_of hr
    refine ⟨_, (pss_cons (ps_set (i := 2) sc_Table_extend.nd rfl (Or.inl rfl) (pe_meth (pv 0) T.cl_Table T.M_Table_numbers (ok_Table_numbers T) (hr.mono (by decide)) T.B_Table_numbers .nil pass0 (pa_cons (pv 1) pa_nil)))
    (pss_cons (ps_forL PassesOwn.never rfl (pe_slice (sl_listk K) (pe_fldk K (pv 0) rfl) (po_some (pe_callB (cr_lenk K) (by rfl) T.b_len (by decide +kernel) (pa_cons (pe_fldk K (pv 0) rfl) pa_nil))) po_none) (pg_name (i := 3) sc_Table_extend.nd rfl (Or.inl rfl)) (pss_one (ps_if (pt_cmp (pc_dnotin hu (pe_meth (pv 0) T.cl_Table T.M_Table_outputs_of (ok_Table_outputs_of T) (hr.mono (by decide)) T.B_Table_outputs_of .nil pass0 (pa_cons (pv 3) (pa_cons (pv 1) pa_nil))) (pv 2))) (pss_cons (ps_expr (pe_bmk K PySem.F.plainAttrs_list PySem.F.slot_list_append PySem.F.type_list_append mt_appendm (pe_fldk K (pv 0) rfl) (pa_cons (pv 3) pa_nil)))
        (pss_cons (ps_fldk K (pv 0) (pe_op op_catLm (pe_fldk K (pv 0) rfl) (pe_meth0 (pv 0) T.cl_Table T.M_Table_further_rows (ok_Table_further_rows T) (hr.mono (by decide)) T.B_Table_further_rows .nil pass0)) rfl)
        (pss_one (ps_ret pe_bl)))) pss_nil)))
    (pss_one (ps_ret pe_bl)))), ?_⟩
    obtain ⟨rv, hI, hrv⟩ := hT.ex
    have hI0 := hI
    obtain ⟨dx, hH⟩ := hI0
    have hrS : ∀ s ∈ S, s ∈ rws k S := fun s hs => List.mem_append_left _ hs
    refine ⟨_, rfl, t, dx, _, rfl, hH, rfl, _, rfl, N, t, sl, cl, kd, k, S, C, ps, f, rfl, W, hT, hz, nk, hk, hD, (fun s hs => hkn s (hrS s hs)), fun nd H1 s1 hnd hn1 => ?_⟩
    have hT1 := hT.sm s1
    have hI1 := hI.sm s1
    have W1 := W.ev s1
    refine ⟨_, rfl, fldR hI1 T.cl_Table T.n_Table__rows rfl ?_⟩
    refine ⟨_, rfl, fldR hI1 T.cl_Table T.n_Table__states rfl (lenLs hT1.st ⟨_, rfl, ?_⟩)⟩
    rw [List.length_map]
    refine slLfrom S.length (hrv.sm s1) fun p2 vs2 hp2 hvs2 => ?_
    have s2 : Sm H1 (upd H1 p2 (.lst vs2)) := .new hp2
    have h2 : At N (upd H1 p2 (.lst vs2)) (.ref p2) (.l ((fur k S).map wT)) := by
      unfold rws at hvs2
      rw [← List.map_drop, List.drop_left] at hvs2
      exact .mkL W1 hp2 hvs2
    generalize upd H1 p2 (.lst vs2) = H2 at s2 h2
    have W2 := W1.ev s2
    refine forL (N := N) h2 (fun i σ H' => Sm H2 H' ∧ (∀ r ∈ (fur k S).take i, rowOf f C r ∈ S.map (rowOf f C)) ∧ ∃ x3, σ = [some (.ref t), some (.ref kd), some (.ref nd), x3]) ⟨.refl _ _, (fun _ z => nomatch z), none, rfl⟩ (fun i σ' H' h => .of h.1) ?_ ?_
    · rintro i d3 z3 σ' H3 hd3 hz3 ⟨s3, hin, x3, rfl⟩
      obtain ⟨hi, rfl⟩ := map_get hd3
      have s13 := s2.trans s3
      have hT3 := hT1.sm s13
      have W3 := W2.ev s3
      have hri := List.getElem_mem hi
      have hrr : (fur k S)[i] ∈ rws k S := List.mem_append_right _ hri
      obtain ⟨hnS, w0, hw0, a0, ha0, ew⟩ := mem_fur.mp hri
      have hwl : (fur k S)[i].length ≤ 101 := by
        have := hz.sw w0 hw0
        rw [ew, List.length_append, List.length_singleton]; omega
      obtain ⟨dx3, hH3⟩ := hI1.sm s13
      refine ⟨_, rfl, t, dx3, _, rfl, hH3, rfl, _, rfl, _, rfl, N, t, sl, cl, kd, k, S, C, ps, f, z3, (fur k S)[i], rfl, W3, hT3, hz, (s1.trans s13).at hk, hz3, by omega, hkn _ hrr, fun r H4 s4 h4 => ?_⟩
      have s14 := s13.trans s4
      refine ⟨_, rfl, nd, _, rfl, dgetO_Dt (s14.at hn1) h4, ?_⟩
      by_cases hr : rowOf f C (fur k S)[i] ∈ S.map (rowOf f C)
      · rw [numN_some hD hr]
        refine ⟨_, rfl, ifF rfl ?_⟩
        refine ⟨s3.trans s4, fun r hr' => ?_, _, rfl⟩
        rw [List.take_succ_eq_append_getElem hi, List.mem_append, List.mem_singleton] at hr'
        rcases hr' with hr' | rfl
        · exact hin r hr'
        · exact hr
      · rw [numN_none hr]
        refine ⟨_, rfl, ifT rfl ?_⟩
        have hT4 := hT3.sm s4
        have hI4 := hI1.sm s14
        refine ⟨_, rfl, fldR hI4 T.cl_Table T.n_Table__states rfl ⟨hT4.st.ty, _, rfl, appL (N := N) hT4.st hT.ns (hz3.sm s4) (by rw [List.length_map]; have := hz.s; omega) fun H5 e5 L5 => ?_⟩⟩
        have hsub : ∀ b, on sl b → N b := fun b z => by rw [show b = sl from z]; exact hT.ns
        have L5 : Lst N H5 sl ((S ++ [(fur k S)[i]]).map wT) := by rw [List.map_append]; exact L5
        have hI5 := hI4.ev e5 hT.d1
        have W5 := (W3.ev s4).ev e5
        obtain ⟨dx5, hH5⟩ := hI5
        refine ⟨_, rfl, fldR ⟨dx5, hH5⟩ T.cl_Table T.n_Table__states rfl ?_⟩
        refine ⟨_, rfl, t, dx5, _, rfl, hH5, rfl, N, t, sl, _, k, S ++ [(fur k S)[i]], rfl, W5, ⟨dx5, hH5⟩, rfl, rfl, L5, ?_, hz.k, fun w hw => ?_, fun r6 H6 s6 h6 => ?_⟩
        · rw [List.length_append, List.length_singleton]; have := hz.s; omega
        · rcases List.mem_append.mp hw with hw | hw
          · have := hz.sw w hw; omega
          · rw [List.mem_singleton.mp hw]; exact hwl
        · obtain ⟨b6, vs6, rfl, _⟩ := At.lst h6
          refine newCat (W5.ev s6) (L5.sm s6) h6.toLst ?_ fun p7 H7 hp7 s7 h7 => ?_
          · rw [List.length_map, List.length_map, List.length_append, List.length_singleton]
            have h1 := fur_len (k := k) (S := S ++ [(fur k S)[i]])
            rw [List.length_append, List.length_singleton] at h1
            have h2 : (S.length + 1) * k ≤ 31 * 30 := Nat.mul_le_mul (by have := hz.s; omega) hz.k
            have := hz.s
            omega
          · have s57 := s6.trans s7
            refine ⟨_, rfl, fldS (Ins.sm ⟨dx5, hH5⟩ s57) T.cl_Table T.n_Table__rows (Nat.le_of_ble_eq_true rfl) fun H8 e8 I8 => ?_⟩
            have tN : ∀ b, on t b → N b := fun b z => by rw [show b = t from z]; exact hT.nt
            have ex : Ev (fun b => b = t ∨ b = sl) H H8 := (((Ev.of (s1.trans s14)).trans (e5.mono fun b z => .inr z)).trans (.of s57)).trans (e8.mono fun b z => .inl z)
            refine q1 H8 _ hri hr ex ⟨hT.nt, hT.ns, hT.nc, hT.d1, hT.d2, hT.d3, ⟨_, I8, ?_⟩, (L5.sm s57).ev e8 tN hT.d1.symm, ((hT4.co.ev e5 hsub hT.d3.symm).sm s57).ev e8 tN hT.d2.symm⟩
            have := h7.evs e8 tN
            rw [← List.map_append] at this
            exact this
    · rintro σ' H3 ⟨s3, hin, x3, rfl⟩
      rw [List.length_map, List.take_of_length_le (Nat.le_refl _)] at hin
      refine q0 (fun s hs b hb => ?_) _ ((s1.trans s2).trans s3)
      rcases List.mem_append.mp (rws_step (k := k) hs hb) with h | h
      · exact List.mem_map.mpr ⟨_, h, rfl⟩
      · exact hin _ h
theorem ok_Table_machine (T : TX K mg base a d) : FnOk P w K mg base CX0 3 a.f_Table_machine d.d_Table_machine ["self", "outs", "known"] (sp_Table_machine a) := by
  refine T.F_Table_machine.ok sc_Table_machine (fun vs H Q E h => ?_) (fun cdv A outer s H vs Q E hr h => ?_)
  · obtain ⟨_, _, _, _, _, _, _, _, _, _, _, rfl, _⟩ := h
    rfl
  · obtain ⟨N, t, sl, cl, kd, k, o, S, C, ps, f, rfl, W, hT, hz, nk, hk, hD, hkn, hC0, hcl, q⟩ := h
    have hu := hu_of hr
    refine ⟨_, (pss_cons (ps_set (i := 3) sc_Table_machine.nd rfl (Or.inl rfl) (pe_meth (pv 0) T.cl_Table T.M_Table_numbers (ok_Table_numbers T) (hr.mono (by decide)) T.B_Table_numbers .nil pass0 (pa_cons (pv 2) pa_nil)))
    (pss_cons (ps_set (i := 4) sc_Table_machine.nd rfl (Or.inl rfl) (pe_lstm pa_nil))
    (pss_cons (ps_forL PassesOwn.never rfl (pe_fldk K (pv 0) rfl) (pg_name (i := 5) sc_Table_machine.nd rfl (Or.inl rfl)) (pss_cons (ps_set (i := 6) sc_Table_machine.nd rfl (Or.inl rfl) (pe_lstm pa_nil))
      (pss_cons (ps_forR PassesOwn.never rfl rfl T.b_range (pa_cons (pe_fldk K (pv 0) rfl) pa_nil) (pg_name (i := 7) sc_Table_machine.nd rfl (Or.inl rfl)) (pss_cons (ps_set (i := 8) sc_Table_machine.nd rfl (Or.inl rfl) (pe_meth (pv 0) T.cl_Table T.M_Table_outputs_of (ok_Table_outputs_of T) (hr.mono (by decide)) T.B_Table_outputs_of .nil pass0 (pa_cons (pe_op (op_catTk K) (pv 5) (pe_tupm (pa_cons (pv 7) pa_nil))) (pa_cons (pv 2) pa_nil))))
        (pss_cons (ps_if (pt_cmp (pc_dnotin hu (pv 8) (pv 3))) (pss_one ps_never) pss_nil)
        (pss_one (ps_expr (pe_bmk K PySem.F.plainAttrs_list PySem.F.slot_list_append PySem.F.type_list_append mt_appendm (pv 6) (pa_cons (pe_dget hu (pv 3) (pv 8) (fun _ _ => rfl)) pa_nil)))))))
      (pss_one (ps_expr (pe_bmk K PySem.F.plainAttrs_list PySem.F.slot_list_append PySem.F.type_list_append mt_appendm (pv 4) (pa_cons (pe_callTy (cr_tupk K) (by rfl) T.b_tuple (by decide +kernel) (pa_cons (pv 6) pa_nil)) pa_nil)))))))
    (pss_one (ps_ret (pe_tupm (pa_cons (pe_fldk K (pv 0) rfl) (pa_cons (pv 1) (pa_cons (pe_callTy (cr_tupk K) (by rfl) T.b_tuple (by decide +kernel) (pa_cons (pv 4) pa_nil)) (pa_cons (pe_callTy (cr_tupFk K) (by rfl) T.b_tuple (by decide +kernel) (pa_cons (peLk K (pe_lc (own := [("word", 5)]) rfl sc_Table_machine.nd (pi_listk K (pe_fldk K (pv 0) rfl)) (blkOk_by (own := [("word", 5)]) (N := N_Table_machine) (sc := defScope s_Table_machine) (by decide +kernel)) (fun _ _ _ _ _ => (pg_name (i := 5) sc_Table_machine.nd rfl (Or.inl rfl))) (fun _ _ _ _ _ => pts_nil) (fun _ _ _ _ _ => (pe_dget hu (pv 2) (pv 5) (fun _ _ => rfl))))) pa_nil)) pa_nil)))))))))), ?_⟩
    obtain ⟨rv, hI, hrv⟩ := hT.ex
    have hI0 := hI
    obtain ⟨dx, hH⟩ := hI0
    have hrS : ∀ s ∈ S, s ∈ rws k S := fun s hs => List.mem_append_left _ hs
    refine ⟨_, rfl, t, dx, _, rfl, hH, rfl, _, rfl, N, t, sl, cl, kd, k, S, C, ps, f, rfl, W, hT, hz, nk, hk, hD, (fun s hs => hkn s (hrS s hs)), fun nd H1 s1 hnd hn1 => ?_⟩
    have hT1 := hT.sm s1
    have hI1 := hI.sm s1
    have W1 := W.ev s1
    refine newL W1 (ds := []) (by simp) .nil fun ml H2 hml s2 L2 W2 => ?_
    have hT2 := hT1.ad hml s2
    have hI2 := hI1.sm s2
    have hn2 : KnAt H2 nd _ := s2.at hn1
    have hk2 : KnAt H2 kd ps := (s1.trans s2).at hk
    have nmt : t ≠ ml := fun e => W1.no hml (e ▸ hT.nt)
    have nms : sl ≠ ml := fun e => W1.no hml (e ▸ hT.ns)
    have nmc : cl ≠ ml := fun e => W1.no hml (e ▸ hT.nc)
    have nmk : kd ≠ ml := fun e => W1.no hml (e ▸ nk)
    have nmn : nd ≠ ml := fun e => by
      have h : H1 nd = _ := hn1
      rw [e, hml] at h; cases h
    have hsub : ∀ b, on ml b → ad ml N b := fun b z => .inl z
    refine ⟨_, rfl, fldR hI2 T.cl_Table T.n_Table__states rfl ?_⟩
    refine forLs (N := ad ml N) hT2.st (fun i σ H' => Ev (on ml) H2 H' ∧ Lst (ad ml N) H' ml ((S.take i).map fun s => wT ((List.range k).map fun b => ixR f C S (s ++ [b]))) ∧ ∃ x5 x6 x7 x8, σ = [some (.ref t), some (nV o), some (.ref kd), some (.ref nd), some (.ref ml), x5, x6, x7, x8]) ⟨.refl _ _, L2, none, none, none, none, rfl⟩ (fun i σ' H' h => h.1.mono hsub) (fun i σ' H' h => h.1.kp' hT2.st.tr nms) ?_ ?_
    · rintro i d3 z3 σ' H3 hd3 hz3 ⟨e3, L3, x5, x6, x7, x8, rfl⟩
      obtain ⟨hi, rfl⟩ := map_get hd3
      have hiw := List.getElem_mem hi
      have W3 := W2.ev e3
      have hT3 := hT2.ev e3 hsub nmt nms nmc
      refine newL W3 (ds := []) (by simp) .nil fun xl H4 hxl s4 L4 W4 => ?_
      have hT4 := hT3.ad hxl s4
      have hI4 := (hI2.ev e3 nmt).sm s4
      have hk4 : KnAt H4 kd ps := s4.at (e3.kp kd _ hk2 nmk)
      have hn4 : KnAt H4 nd _ := s4.at (e3.kp nd _ hn2 nmn)
      have hz4 := hz3.ad hxl s4
      have nxt : t ≠ xl := fun e => W3.no hxl (e ▸ hT3.nt)
      have nxs : sl ≠ xl := fun e => W3.no hxl (e ▸ hT3.ns)
      have nxc : cl ≠ xl := fun e => W3.no hxl (e ▸ hT3.nc)
      have nxk : kd ≠ xl := fun e => W3.no hxl (e ▸ (.inr nk))
      have nxn : nd ≠ xl := fun e => by
        have h : H3 nd = _ := e3.kp nd _ hn2 nmn
        rw [e, hxl] at h; cases h
      have L3x := L3.ad hxl s4
      have nxm : ml ≠ xl := L3.ne hxl
      have hsx : ∀ b, on xl b → ad xl (ad ml N) b := fun b z => .inl z
      refine ⟨_, rfl, fldR hI4 T.cl_Table T.n_Table_letters rfl ?_⟩
      refine forR k rfl (by have := hz.k; omega) (fun j σ H' => Ev (on xl) H4 H' ∧ Lst (ad xl (ad ml N)) H' xl (((List.range j).map fun b => ixR f C S (S[i] ++ [b])).map D.n) ∧ ∃ x7 x8, σ = [some (.ref t), some (nV o), some (.ref kd), some (.ref nd), some (.ref ml), some z3, some (.ref xl), x7, x8]) ⟨.refl _ _, L4, x7, x8, rfl⟩ ?_ ?_
      · rintro j σ' H5 hj ⟨e5, L5, x7, x8, rfl⟩
        have W5 := W4.ev e5
        have hT5 := hT4.ev e5 hsx nxt nxs nxc
        have hz5 := hz4.evs e5 hsx
        obtain ⟨dx5, hH5⟩ := hI4.ev e5 nxt
        refine ⟨_, rfl, t, dx5, _, rfl, hH5, rfl, _, rfl, _, rfl, mkT W5 (by simp) (.one (.n j)) fun p6 H6 s6 h6 => ?_⟩
        refine catT (W5.ev s6) (hz5.sm s6) h6 (ds := S[i].map D.n) (es := [D.n j]) (by rw [List.length_map, List.length_singleton]; have := hz.sw _ hiw; omega) fun z7 H7 s7 h7 => ?_
        have h7' : At (ad xl (ad ml N)) H7 z7 (wT (S[i] ++ [j])) := by unfold wT; rw [List.map_append]; exact h7
        have s57 := s6.trans s7
        have hrow := hcl S[i] hiw j hj
        refine ⟨_, rfl, ad xl (ad ml N), t, sl, cl, kd, k, S, C, ps, f, z7, S[i] ++ [j], rfl, W5.ev s57, hT5.sm s57, hz, s57.at (e5.kp kd _ hk4 nxk), h7', ?_, hkn _ (rws_step hiw hj), fun r H8 s8 h8 => ?_⟩
        · have := hz.sw _ hiw
          rw [List.length_append, List.length_singleton]; omega
        · have s58 := s57.trans s8
          have hn8 : KnAt H8 nd _ := s58.at (e5.kp nd _ hn4 nxn)
          refine ⟨_, rfl, _, rfl, nd, _, rfl, dgetO_Dt hn8 h8, ?_⟩
          rw [numN_some hD hrow]
          refine ⟨_, rfl, ifF rfl ?_⟩
          refine ⟨_, rfl, (L5.sm s58).ty, _, rfl, _, rfl, nd, _, rfl, dget_Dt hn8 h8 (numN_some hD hrow), ?_⟩
          refine appL (N := ad xl (ad ml N)) (L5.sm s58) (.inl rfl) (.n _) (by simp; have := hz.k; omega) fun H9 e9 L9 => ?_
          refine ⟨(e5.trans (.of s58)).trans e9, ?_, _, _, rfl⟩
          rw [List.range_succ, List.map_append, List.map_append]
          exact L9
      · rintro σ' H5 ⟨e5, L5, x7, x8, rfl⟩
        have LM5 := L3x.ev e5 hsx nxm
        have e35 : Ev F0 H3 H5 := s4.then e5 fun b z => .inr ((show b = xl from z) ▸ hxl)
        refine ⟨_, rfl, LM5.ty, _, rfl, tupLs (W3.ev e35) (L5.sub fun b z => .inr z) fun p6 H6 s6 h6 => ?_⟩
        have LM6 := (L3.sm e35).sm s6
        refine appL (N := ad ml N) LM6 (.inl rfl) h6 (by rw [List.length_map, List.length_take]; have := hz.s; omega) fun H7 e7 L7 => ?_
        refine ⟨(e3.trans (.of (e35.trans s6))).trans e7, ?_, _, _, _, _, rfl⟩
        rw [List.take_succ_eq_append_getElem hi, List.map_append]
        exact L7
    · rintro σ' H3 ⟨e3, L3, x5, x6, x7, x8, rfl⟩
      rw [List.length_map, List.take_of_length_le (Nat.le_refl _)] at L3
      have e13 : Ev F0 H1 H3 := s2.then e3 fun b z => .inr ((show b = ml from z) ▸ hml)
      have hT3 := hT1.sm e13
      have hI3 := hI1.sm e13
      have W3 := W1.ev e13
      have hk3 : KnAt H3 kd ps := (s1.trans e13).at hk
      refine ⟨_, rfl, fldR hI3 T.cl_Table T.n_Table_letters rfl ⟨_, rfl, _, rfl, tupLs W3 (L3.sub fun b z => .inr z) fun p4 H4 s4 h4 => ?_⟩⟩
      refine ⟨_, rfl, fldR (hI3.sm s4) T.cl_Table T.n_Table__states rfl ?_⟩
      refine lcLs S wT (fun s => D.n (f s)) (W3.ev s4) (hT3.sm s4).st (by have := hz.s; omega) (fun _ => rfl) (fun u hu' z H' N' s' W' _ hn' hz' R k' => ?_) fun p5 H5 s5 hp5 h5 => ?_
      · have hkw : ps.lookup u = some (f u) := by
          have := hkn u (hrS u hu') [] hC0
          rwa [List.append_nil] at this
        refine ⟨_, rfl, _, rfl, kd, _, rfl, dget_Dt (N := N') ((s4.trans s').at hk3) hz' hkw, k' _ _ (.refl _ _) (.n _)⟩
      · refine tupF ((W3.ev s4).ev s5) h5 fun p6 H6 s6 h6 => ?_
        have s36 := (s4.trans s5).trans s6
        refine mkT (W3.ev s36) (by simp) (.cons (.n k) (.cons (.n o) (.cons ((h4.sm s5).sm s6) (.cons h6 .nil)))) fun p7 H7 s7 h7 => ?_
        refine q _ _ (((s1.trans e13).trans s36).trans s7) ?_
        unfold mD hypM
        simp only [List.map_map]
        exact h7
theorem ok_Table_mistake (T : TX K mg base a d) : FnOk P w K mg base CX0 4 a.f_Table_mistake d.d_Table_mistake ["self", "outs", "known"] (sp_Table_mistake a) := by
  refine T.F_Table_mistake.ok sc_Table_mistake (fun vs H Q E h => ?_) (fun cdv A outer s H vs Q E hr h => ?_)
  · obtain ⟨_, _, _, _, _, _, _, _, _, _, _, rfl, _⟩ := h
    rfl
  · obtain ⟨N, t, sl, cl, kd, k, o, S, C, ps, f, rfl, W, hT, hz, nk, hk, hD, hkn, hC0, hcl, hS0, ho, hCw, q0, q1⟩ := h
    have hu := hu_of hr
    refine ⟨_, (pss_cons (ps_set (i := 3) sc_Table_mistake.nd rfl (Or.inl rfl) (pe_meth (pv 0) T.cl_Table T.M_Table_machine (ok_Table_machine T) (hr.mono (by decide)) T.B_Table_machine .nil pass0 (pa_cons (pv 1) (pa_cons (pv 2) pa_nil))))
    (pss_cons (ps_forEL PassesOwn.never rfl (by rfl) T.b_enumerate (pa_cons (pe_fldk K (pv 0) rfl) pa_nil) (pg_tup rfl (pgs_cons (pg_name (i := 4) sc_Table_mistake.nd rfl (Or.inl rfl)) (pgs_cons (pg_name (i := 5) sc_Table_mistake.nd rfl (Or.inl rfl)) pgs_nil))) (pss_one (ps_forL PassesOwn.never rfl (pe_fldk K (pv 0) rfl) (pg_name (i := 6) sc_Table_mistake.nd rfl (Or.inl rfl)) (pss_cons (ps_set (i := 7) sc_Table_mistake.nd rfl (Or.inl rfl) (pv 4))
        (pss_cons (ps_forT PassesOwn.never rfl (pv 6) (pg_name (i := 8) sc_Table_mistake.nd rfl (Or.inl rfl)) (pss_one (ps_set (i := 7) sc_Table_mistake.nd rfl (Or.inl rfl) (pe_ix (ix_tupk K) (pe_ix (ix_tupk K) (pe_ix (ix_tupk K) (pv 3) pe_int (fun _ _ => rfl)) (pv 7) (fun _ _ => rfl)) (pv 8) (fun _ _ => rfl)))))
        (pss_one (ps_if (pt_cmpR op_ne (pe_ix (ix_tupk K) (pe_ix (ix_tupk K) (pv 3) pe_int (fun _ _ => rfl)) (pv 7) (fun _ _ => rfl)) (pe_dget hu (pv 2) (pe_op (op_catTk K) (pv 5) (pv 6)) (fun _ _ => rfl)) (nomark _)) (pss_one (ps_ret (pe_tupm (pa_cons (pe_callTy (cr_listk K) (by rfl) T.b_list (by decide +kernel) (pa_cons (pv 5) pa_nil)) (pa_cons (pe_callTy (cr_listk K) (by rfl) T.b_list (by decide +kernel) (pa_cons (pv 6) pa_nil)) pa_nil))))) pss_nil)))))))
    (pss_one (ps_ret pe_non)))), ?_⟩
    obtain ⟨rv, hI, hrv⟩ := hT.ex
    have hI0 := hI
    obtain ⟨dx, hH⟩ := hI0
    have hM := hypM_ok (o := o) hS0 hcl ho
    have hMn : (hypM f k C S o).n = S.length := hypM_n o
    refine ⟨_, rfl, t, dx, _, rfl, hH, rfl, _, rfl, _, rfl, N, t, sl, cl, kd, k, o, S, C, ps, f, rfl, W, hT, hz, nk, hk, hD, hkn, hC0, hcl, fun mv H1 s1 hm1 => ?_⟩
    have hT1 := hT.sm s1
    have hI1 := hI.sm s1
    have W1 := W.ev s1
    have hk1 : KnAt H1 kd ps := s1.at hk
    refine ⟨_, rfl, fldR hI1 T.cl_Table T.n_Table__states rfl ?_⟩
    refine forELs (N := N) hT1.st (fun i σ H' => Sm H1 H' ∧ (∀ i', i' < i → ∀ c ∈ C, (hypM f k C S o).outp i' c = f (S.getD i' [] ++ c)) ∧ ∃ x4 x5 x6 x7 x8, σ = [some (.ref t), some (nV o), some (.ref kd), some mv, x4, x5, x6, x7, x8]) ⟨.refl _ _, (fun i' h => absurd h (Nat.not_lt_zero _)), none, none, none, none, none, rfl⟩ (fun i σ' H' h => .of h.1) (fun i σ' H' h => h.1.kp' hT1.st.tr fun z => z) ?_ ?_
    · rintro i d3 z3 T3 σ' H2 hd3 hz3 ⟨s2, hin, x4, x5, x6, x7, x8, rfl⟩ hT3
      obtain ⟨hi, rfl⟩ := map_get hd3
      have s3 : Sm H2 (upd H2 T3 (.tup [nV i, z3])) := .new hT3
      generalize upd H2 T3 (.tup [nV i, z3]) = H3 at s3
      have s13 := s2.trans s3
      have hT3 := hT1.sm s13
      have hz3 := hz3.sm s3
      have hgd : S.getD i [] = S[i] := getD_lt hi
      refine ⟨_, rfl, fldR (hI1.sm s13) T.cl_Table T.n_Table__columns rfl ?_⟩
      refine forLs (N := N) hT3.co (fun j σ H' => Sm H3 H' ∧ (∀ c ∈ C.take j, (hypM f k C S o).outp i c = f (S.getD i [] ++ c)) ∧ ∃ x6 x7 x8, σ = [some (.ref t), some (nV o), some (.ref kd), some mv, some (nV i), some z3, x6, x7, x8]) ⟨.refl _ _, (fun _ z => nomatch z), _, _, _, rfl⟩ (fun i σ' H' h => .of h.1) (fun i σ' H' h => h.1.kp' hT3.co.tr fun z => z) ?_ ?_
      · rintro j d4 z4 σ' H4 hd4 hz4 ⟨s4, hin2, x6, x7, x8, rfl⟩
        obtain ⟨hj, rfl⟩ := map_get hd4
        have hjw := hCw _ (List.getElem_mem hj)
        have s14 := s13.trans s4
        refine ⟨_, rfl, _, rfl, ?_⟩
        refine forT (N := N) hz4 (fun l σ H' => Sm H4 H' ∧ ∃ x8, σ = [some (.ref t), some (nV o), some (.ref kd), some mv, some (nV i), some z3, some z4, some (nV ((hypM f k C S o).run i (C[j].take l))), x8]) ⟨.refl _ _, _, rfl⟩ (fun i σ' H' h => .of h.1) ?_ ?_
        · rintro l d5 z5 σ' H5 hd5 hz5 ⟨s5, x8, rfl⟩
          obtain ⟨hl, rfl⟩ := word_get hd5
          have hm5 := hm1.sm (s14.trans s5)
          have hr1 : (hypM f k C S o).run i (C[j].take l) < (hypM f k C S o).n := hM.run_lt _ (by rw [hMn]; exact hi)
          refine ⟨_, rfl, ixT 2 hm5 rfl rfl fun y1 g1 => ⟨_, rfl, ixT _ g1 (mv_get hM hr1) rfl fun y2 g2 => ⟨_, rfl, ixT _ g2 (row_get hM hr1 (hjw _ (List.getElem_mem hl))) hz5.isN fun y3 g3 => ?_⟩⟩⟩
          rw [g3.isN]
          refine ⟨s5, some z5, ?_⟩
          rw [List.take_succ_eq_append_getElem hl, Mach.run_append]
          rfl
        · rintro σ' H5 ⟨s5, x8, rfl⟩
          rw [List.length_map, List.take_of_length_le (Nat.le_refl _)]
          have s15 := s14.trans s5
          have hm5 := hm1.sm s15
          have hrn : (hypM f k C S o).run i C[j] < (hypM f k C S o).n := hM.run_lt _ (by rw [hMn]; exact hi)
          have hz3' := (hz3.sm s4).sm s5
          have hz4' := hz4.sm s5
          have W5 := W1.ev s15
          refine ⟨_, rfl, ixT 3 hm5 rfl rfl fun y1 g1 => ⟨_, rfl, ixF _ g1 (out_get hrn) rfl fun y2 g2 => ?_⟩⟩
          rw [g2.isN]
          refine ⟨_, rfl, _, rfl, _, rfl, catT W5 hz3' hz4' (ds := S[i].map D.n) (es := C[j].map D.n) ?_ fun z6 H6 s6 h6 => ?_⟩
          · have := hz.sw _ (List.getElem_mem hi)
            have := hz.cw _ (List.getElem_mem hj)
            rw [List.length_map, List.length_map]; omega
          · have h6' : At N H6 z6 (wT (S[i] ++ C[j])) := by unfold wT; rw [List.map_append]; exact h6
            refine ⟨kd, _, rfl, dget_Dt ((s15.trans s6).at hk1) h6' (hkn _ (List.mem_append_left _ (List.getElem_mem hi)) _ (List.getElem_mem hj)), ?_⟩
            refine ⟨rfl, _, rfl, ?_⟩
            by_cases heq : (hypM f k C S o).outp i C[j] = f (S[i] ++ C[j])
            · have heq' : (hypM f k C S o).ou ((hypM f k C S o).run i C[j]) = f (S[i] ++ C[j]) := heq
              refine ifF (by rw [heq']; simp) ?_
              refine ⟨(s4.trans s5).trans s6, fun c hc => ?_, _, _, _, rfl⟩
              rw [List.take_succ_eq_append_getElem hj, List.mem_append, List.mem_singleton] at hc
              rcases hc with hc | rfl
              · exact hin2 c hc
              · rw [hgd]; exact heq
            · have heq' : ¬ (hypM f k C S o).ou ((hypM f k C S o).run i C[j]) = f (S[i] ++ C[j]) := heq
              refine ifT (by simp [nV]; omega) ?_
              refine ⟨_, rfl, listT (hz3'.sm s6) fun p7 vs7 hp7 hvs7 => ?_⟩
              have s7 : Sm H6 (upd H6 p7 (.lst vs7)) := .new hp7
              have h7 : At N (upd H6 p7 (.lst vs7)) (.ref p7) (wL S[i]) := .mkL (W5.ev s6) hp7 hvs7
              generalize upd H6 p7 (.lst vs7) = H7 at s7 h7
              refine ⟨_, rfl, listT ((hz4'.sm s6).sm s7) fun p8 vs8 hp8 hvs8 => ?_⟩
              have s8 : Sm H7 (upd H7 p8 (.lst vs8)) := .new hp8
              have h8 : At N (upd H7 p8 (.lst vs8)) (.ref p8) (wL C[j]) := .mkL ((W5.ev s6).ev s7) hp8 hvs8
              generalize upd H7 p8 (.lst vs8) = H8 at s8 h8
              have s68 := s7.trans s8
              refine mkT ((W5.ev s6).ev s68) (by simp) (.cons (h7.sm s8) (.cons h8 .nil)) fun p9 H9 s9 h9 => ?_
              refine q1 _ _ i C[j] (((s1.trans s15).trans s6).trans (s68.trans s9)) hi (List.getElem_mem hj) ?_ ?_
              · rw [hgd]; exact heq
              · rw [hgd]; exact h9
      · rintro σ' H4 ⟨s4, hin2, x6, x7, x8, rfl⟩
        rw [List.length_map, List.take_of_length_le (Nat.le_refl _)] at hin2
        refine ⟨s13.trans s4, fun i' hi' c hc => ?_, _, _, _, _, _, rfl⟩
        by_cases z : i' = i
        · rw [z]; exact hin2 c hc
        · exact hin i' (by omega) c hc
    · rintro σ' H2 ⟨s2, hin, x4, x5, x6, x7, x8, rfl⟩
      rw [List.length_map] at hin
      exact q0 hin _ (s1.trans s2)
end
end Tk
/-! text MH -/
namespace Tk
/-! ### learning: f tells the outputs of a machine B from its first state -/
abbrev fB (B : Mach) (u : List Nat) : Nat := B.outp 0 u
section
variable {B : Mach} {C S : List (List Nat)} {k o : Nat}
theorem rowOf_run (u : List Nat) : rowOf (fB B) C u = C.map fun c => B.outp (B.run 0 u) c := by
  unfold rowOf
  refine List.map_congr_left fun c _ => ?_
  exact Mach.outp_append 0 u c
theorem dst_le (hB : B.Ok) (D : Dst (fB B) C S) : S.length ≤ B.n := by
  have h := List.Nodup.length_le_of_subset (l₁ := (List.range S.length).map fun i => B.run 0 (S.getD i [])) (l₂ := List.range B.n) ?_ fun x hx => ?_
  · rwa [List.length_map, List.length_range, List.length_range] at h
  · rw [List.nodup_iff_pairwise_ne, List.pairwise_map]
    refine List.Pairwise.imp_of_mem ?_ (List.nodup_iff_pairwise_ne.mp List.nodup_range)
    intro i j hi hj ne e
    refine ne (D i j (List.mem_range.mp hi) (List.mem_range.mp hj) ?_)
    rw [rowOf_run, rowOf_run, e]
  · obtain ⟨i, _, rfl⟩ := List.mem_map.mp hx
    exact List.mem_range.mpr (hB.run_lt _ hB.pos)
theorem dst_snoc {f : List Nat → Nat} (D : Dst f C S) {w : List Nat} (h : rowOf f C w ∉ S.map (rowOf f C)) : Dst f C (S ++ [w]) := by
  have inS : ∀ i, i < S.length → rowOf f C (S.getD i []) ∈ S.map (rowOf f C) := fun i hi => List.mem_map.mpr ⟨_, getD_mem hi, rfl⟩
  have old : ∀ i, i < S.length → (S ++ [w]).getD i [] = S.getD i [] := fun i hi => by
    rw [getD_lt (by rw [List.length_append]; omega), getD_lt hi, List.getElem_append_left hi]
  have new : (S ++ [w]).getD S.length [] = w := by
    rw [getD_lt (by simp), List.getElem_append_right (Nat.le_refl _)]; simp
  intro i j hi hj e
  rw [List.length_append, List.length_singleton] at hi hj
  by_cases q1 : i < S.length <;> by_cases q2 : j < S.length
  · rw [old i q1, old j q2] at e
    exact D i j q1 q2 e
  · have z : j = S.length := by omega
    rw [z, old i q1, new] at e
    exact absurd (e ▸ inS i q1) h
  · have z : i = S.length := by omega
    rw [z, old j q2, new] at e
    exact absurd (e ▸ inS j q2) h
  · omega
theorem dst_col {f : List Nat → Nat} (D : Dst f C S) (c : List Nat) : Dst f (C ++ [c]) S := fun i j hi hj e => by
  refine D i j hi hj ?_
  unfold rowOf at e ⊢
  rw [List.map_append, List.map_append] at e
  exact (List.append_inj' e rfl).1
theorem row_col {f : List Nat → Nat} {c u v : List Nat} (e : rowOf f (C ++ [c]) u = rowOf f (C ++ [c]) v) : rowOf f C u = rowOf f C v ∧ f (u ++ c) = f (v ++ c) := by
  unfold rowOf at e ⊢
  rw [List.map_append, List.map_append] at e
  have := List.append_inj' e rfl
  exact ⟨this.1, by simpa using this.2⟩
theorem row_mem {f : List Nat → Nat} {c u v : List Nat} (h : c ∈ C) (e : rowOf f C u = rowOf f C v) : f (u ++ c) = f (v ++ c) := by
  unfold rowOf at e
  rw [List.map_inj_left] at e
  exact e c h
theorem notcls_lt (hB : B.Ok) (D : Dst (fB B) C S) (n : ¬ Cls (fB B) k C S) : S.length + 1 ≤ B.n := by
  apply Classical.byContradiction
  intro z
  refine n fun s hs a ha => Classical.byContradiction fun h => z ?_
  have := dst_le hB (dst_snoc D h)
  rwa [List.length_append, List.length_singleton] at this
/-! the table's state -/
structure TI (B : Mach) (Lw : Nat) (S C : List (List Nat)) : Prop where
  s0 : S[0]? = some []
  c0 : [] ∈ C
  dst : Dst (fB B) C S
  sl : ∀ i w, S[i]? = some w → Wd B.k w ∧ w.length ≤ i
  cw : ∀ c ∈ C, Wd B.k c ∧ c.length + 1 ≤ Lw
  cn : C.Nodup
  cs : C.length ≤ S.length ∨ (C.length = S.length + 1 ∧ ¬ Cls (fB B) B.k C S)
section
variable {Lw : Nat}
theorem TI.sn (h : TI B Lw S C) (hB : B.Ok) : S.length ≤ B.n := dst_le hB h.dst
theorem TI.cle (h : TI B Lw S C) (hB : B.Ok) : C.length ≤ B.n := by
  rcases h.cs with q | ⟨q, z⟩
  · exact Nat.le_trans q (h.sn hB)
  · have := notcls_lt hB h.dst z
    omega
theorem TI.pos (h : TI B Lw S C) : 0 < S.length := (List.getElem?_eq_some_iff.mp h.s0).1
theorem TI.smem (h : TI B Lw S C) (hB : B.Ok) {w : List Nat} (hw : w ∈ S) : Wd B.k w ∧ w.length + 1 ≤ B.n := by
  obtain ⟨i, hi, e⟩ := List.getElem_of_mem hw
  have h1 := h.sl i w (by rw [List.getElem?_eq_getElem hi, e])
  have h2 := h.sn hB
  have h3 := h1.2
  exact ⟨h1.1, by omega⟩
theorem TI.rmem (h : TI B Lw S C) (hB : B.Ok) {w : List Nat} (hw : w ∈ rws B.k S) : Wd B.k w ∧ w.length ≤ B.n := by
  rcases List.mem_append.mp hw with hw | hw
  · have := h.smem hB hw
    exact ⟨this.1, by omega⟩
  · obtain ⟨_, v, hv, a, ha, rfl⟩ := mem_fur.mp hw
    have := h.smem hB hv
    exact ⟨Wd.append this.1 (Wd.one ha), by rw [List.length_append, List.length_singleton]; exact this.2⟩
theorem TI.init (hL : 1 ≤ Lw) : TI B Lw [[]] [[]] where
  s0 := rfl
  c0 := by simp
  dst := fun i j hi hj _ => by simp at hi hj; omega
  sl := fun i w h => by
    rw [List.mem_singleton.mp (List.mem_of_getElem? h)]
    exact ⟨Wd.nil, Nat.zero_le _⟩
  cw := fun c hc => by
    rw [List.mem_singleton.mp hc]
    exact ⟨Wd.nil, by simpa using hL⟩
  cn := by simp
  cs := .inl (Nat.le_refl _)
theorem TI.ext (h : TI B Lw S C) {w : List Nat} (hw : w ∈ fur B.k S) (hr : rowOf (fB B) C w ∉ S.map (rowOf (fB B) C)) : TI B Lw (S ++ [w]) C where
  s0 := by rw [List.getElem?_append_left h.pos]; exact h.s0
  c0 := h.c0
  dst := dst_snoc h.dst hr
  sl := fun i v hi => by
    by_cases q : i < S.length
    · rw [List.getElem?_append_left q] at hi
      exact h.sl i v hi
    · rw [List.getElem?_append_right (by omega)] at hi
      rw [List.mem_singleton.mp (List.mem_of_getElem? hi)]
      obtain ⟨_, u, hu, a, ha, rfl⟩ := mem_fur.mp hw
      obtain ⟨j, hj, e⟩ := List.getElem_of_mem hu
      have := h.sl j u (by rw [List.getElem?_eq_getElem hj, e])
      exact ⟨Wd.append this.1 (Wd.one ha), by rw [List.length_append, List.length_singleton]; omega⟩
  cw := h.cw
  cn := h.cn
  cs := .inl (by
    rw [List.length_append, List.length_singleton]
    rcases h.cs with q | ⟨q, _⟩ <;> omega)
theorem TI.col (h : TI B Lw S C) (hc : Cls (fB B) B.k C S) {c : List Nat} (hw : Wd B.k c ∧ c.length + 1 ≤ Lw) (n : c ∉ C) (nc : ¬ Cls (fB B) B.k (C ++ [c]) S) : TI B Lw S (C ++ [c]) where
  s0 := h.s0
  c0 := List.mem_append_left _ h.c0
  dst := dst_col h.dst c
  sl := h.sl
  cw := fun x hx => by
    rcases List.mem_append.mp hx with hx | hx
    · exact h.cw x hx
    · rw [List.mem_singleton.mp hx]; exact hw
  cn := by
    rw [List.nodup_append]
    refine ⟨h.cn, by simp, fun x hx y hy e => ?_⟩
    rw [List.mem_singleton] at hy
    exact n (hy ▸ e ▸ hx)
  cs := by
    rcases h.cs with q | ⟨q, z⟩
    · by_cases e : C.length + 1 ≤ S.length
      · exact .inl (by rw [List.length_append, List.length_singleton]; exact e)
      · exact .inr ⟨by rw [List.length_append, List.length_singleton]; omega, nc⟩
    · exact absurd hc z
/-! the search -/
/-- the j-th place of the search from state st along word -/
def plc (M : Mach) (S : List (List Nat)) (st : Nat) (w : List Nat) (j : Nat) : List Nat := S.getD (M.run st (w.take j)) [] ++ w.drop j
theorem plc_zero (M : Mach) (st : Nat) (w : List Nat) : plc M S st w 0 = S.getD st [] ++ w := rfl
theorem plc_end (M : Mach) (st : Nat) (w : List Nat) : plc M S st w w.length = S.getD (M.run st w) [] := by
  unfold plc
  rw [List.take_of_length_le (Nat.le_refl _), List.drop_of_length_le (Nat.le_refl _), List.append_nil]
/-- two places next to one another tell a new column, and the table is open behind it -/
theorem found_col (D : Dst (fB B) C S) (hc : Cls (fB B) k C S) {st lo : Nat} {w : List Nat} (hst : st < S.length) (hw : Wd k w) (hlo : lo < w.length) (ho : ∀ s ∈ S, fB B s < o)
    (h1 : fB B (plc (hypM (fB B) k C S o) S st w lo) ≠ (hypM (fB B) k C S o).outp st w) (h2 : fB B (plc (hypM (fB B) k C S o) S st w (lo + 1)) = (hypM (fB B) k C S o).outp st w) :
    w.drop (lo + 1) ∉ C ∧ ¬ Cls (fB B) k (C ++ [w.drop (lo + 1)]) S := by
  have hM := hypM_ok (o := o) (Nat.lt_of_le_of_lt (Nat.zero_le _) hst) hc ho
  have hn : (hypM (fB B) k C S o).n = S.length := hypM_n o
  have hr : (hypM (fB B) k C S o).run st (w.take lo) < S.length := by rw [← hn]; exact hM.run_lt _ (by rw [hn]; exact hst)
  have ha : w[lo] < k := hw _ (List.getElem_mem hlo)
  generalize hs : (hypM (fB B) k C S o).run st (w.take lo) = s at hr
  have e1 : plc (hypM (fB B) k C S o) S st w lo = (S.getD s [] ++ [w[lo]]) ++ w.drop (lo + 1) := by
    unfold plc
    rw [hs, List.append_assoc, List.singleton_append, ← List.drop_eq_getElem_cons hlo]
  have e2 : plc (hypM (fB B) k C S o) S st w (lo + 1) = S.getD (ixR (fB B) C S (S.getD s [] ++ [w[lo]])) [] ++ w.drop (lo + 1) := by
    unfold plc
    rw [List.take_succ_eq_append_getElem hlo, Mach.run_append, hs]
    show S.getD ((hypM (fB B) k C S o).st s w[lo]) [] ++ _ = _
    rw [hypM_st hr ha]
  have hcl := hc (S.getD s []) (getD_mem hr) w[lo] ha
  have row := ixR_row hcl
  have ixl := ixR_lt hcl
  rw [e1] at h1
  rw [e2] at h2
  have ne : fB B ((S.getD s [] ++ [w[lo]]) ++ w.drop (lo + 1)) ≠ fB B (S.getD (ixR (fB B) C S (S.getD s [] ++ [w[lo]])) [] ++ w.drop (lo + 1)) := fun e => h1 (e.trans h2)
  refine ⟨fun hC => ne (row_mem hC row).symm, fun hcl' => ?_⟩
  obtain ⟨t, ht, e⟩ := List.mem_map.mp (hcl' (S.getD s []) (getD_mem hr) w[lo] ha)
  obtain ⟨j, hj, rfl⟩ := List.getElem_of_mem ht
  obtain ⟨r1, r2⟩ := row_col e
  have : j = ixR (fB B) C S (S.getD s [] ++ [w[lo]]) := D j _ hj ixl (by rw [getD_lt hj, r1, row])
  subst this
  rw [← getD_lt (d := []) hj] at r2
  exact ne r2.symm
end
end
end Tk
/-! text MI -/
namespace Tk
structure SE where
  lo : Nat
  hi : Nat
  st : Nat
  w : List Nat
  pl : List (List Nat)
  out : Nat
structure AG where
  S : List (List Nat)
  C : List (List Nat)
  ps : List (List Nat × Nat)
  hy : Option Mach
  sh : Option (List Nat)
  se : Option SE
  qu : List (List Nat)
  G : List (List Nat)
  rc : Nat
structure Par (B : Mach) (m Lw : Nat) : Prop where
  ok : B.Ok
  n : B.n ≤ 20
  k : B.k ≤ 4
  o : B.o ≤ 6
  m1 : B.n ≤ m
  m : m ≤ 30
  lw : Lw ≤ 60
  lw1 : 1 ≤ Lw
  sz : szW B.k Lw ≤ 2000
def RC (B : Mach) (g : AG) (u : List Nat) : Prop := ∃ r ∈ rws B.k g.S, ∃ c ∈ g.C, u = r ++ c
def Cov (B : Mach) (Lw : Nat) (g : AG) (u : List Nat) : Prop := Wd B.k u ∧ u.length ≤ B.n + Lw ∧ (u.length ≤ Lw ∨ RC B g u ∨ u ∈ g.G)
abbrev Hyp (B : Mach) (g : AG) : Mach := hypM (fB B) B.k g.C g.S B.o
structure Rdy (B : Mach) (g : AG) : Prop where
  hy : g.hy = some (Hyp B g)
  cls : Cls (fB B) B.k g.C g.S
  kn : ∀ r ∈ rws B.k g.S, Kn (fB B) g.C g.ps r
structure SOK (B : Mach) (Lw : Nat) (g : AG) (e : SE) : Prop where
  st : e.st < g.S.length
  wd : Wd B.k e.w
  wl : e.w.length ≤ Lw
  lh : e.lo < e.hi
  hl : e.hi ≤ e.w.length
  pl : e.pl = (List.range (e.w.length + 1)).map (plc (Hyp B g) g.S e.st e.w)
  out : e.out = (Hyp B g).outp e.st e.w
  lo : fB B (plc (Hyp B g) g.S e.st e.w e.lo) ≠ e.out
  hi : fB B (plc (Hyp B g) g.S e.st e.w e.hi) = e.out
  G : ∀ u ∈ e.pl, u ∈ g.G
def sa (g : AG) : Nat := if g.se.isSome = true then 1 else 0
def act (g : AG) : Nat := if g.sh.isSome = true ∨ g.se.isSome = true then 1 else 0
structure AI (B : Mach) (Lw : Nat) (g : AG) : Prop where
  ti : TI B Lw g.S g.C
  kn : ∀ p ∈ g.ps, p.2 = fB B p.1
  nd : (g.ps.map (·.1)).Nodup
  cov : ∀ u ∈ g.ps.map (·.1), Cov B Lw g u
  gl : g.G.length ≤ (g.C.length - 1 + sa g) * (Lw + 1)
  qc : ∀ u ∈ g.qu, RC B g u
  sh : ∀ w, g.sh = some w → Rdy B g ∧ g.se = none ∧ Wd B.k w ∧ w.length ≤ Lw ∧ (Hyp B g).outp 0 w ≠ fB B w
  se : ∀ e, g.se = some e → Rdy B g ∧ g.sh = none ∧ SOK B Lw g e
  rc : g.rc ≤ g.ps.length + (g.C.length - 1) + act g
section
variable {B : Mach} {m Lw : Nat} {g : AG}
theorem lookup_mem {ps : List (List Nat × Nat)} {u : List Nat} {y : Nat} : ps.lookup u = some y → (u, y) ∈ ps := by
  induction ps with
  | nil => intro h; cases h
  | cons p ps ih =>
    obtain ⟨v, z⟩ := p
    rw [List.lookup_cons]
    by_cases e : u = v
    · subst e
      rw [show (u == u) = true from beq_self_eq_true u]
      intro h
      cases h
      exact List.mem_cons_self
    · rw [show (u == v) = false from beq_eq_false_iff_ne.mpr e]
      exact fun h => List.mem_cons_of_mem _ (ih h)
theorem lookup_key {ps : List (List Nat × Nat)} {u : List Nat} : ps.lookup u = none ↔ u ∉ ps.map (·.1) := by
  induction ps with
  | nil => simp
  | cons p ps ih =>
    obtain ⟨v, z⟩ := p
    rw [List.lookup_cons, List.map_cons]
    by_cases e : u = v
    · subst e; simp
    · rw [show (u == v) = false from beq_eq_false_iff_ne.mpr e]
      simp only [List.mem_cons, e, false_or]
      exact ih
theorem AI.look (h : AI B Lw g) {u : List Nat} {y : Nat} (e : g.ps.lookup u = some y) : y = fB B u := h.kn _ (lookup_mem e)
theorem AI.lk (h : AI B Lw g) {u : List Nat} (e : g.ps.lookup u ≠ none) : g.ps.lookup u = some (fB B u) := by
  cases q : g.ps.lookup u with
  | none => exact absurd q e
  | some y => rw [h.look q]
theorem lookup_app {ps qs : List (List Nat × Nat)} {u : List Nat} {y : Nat} (e : ps.lookup u = some y) : (ps ++ qs).lookup u = some y := by
  rw [List.lookup_append, e]; rfl
theorem Par.tsz (h : Par B m Lw) (i : TI B Lw g.S g.C) : g.S.length ≤ 20 ∧ g.C.length ≤ 20 ∧ (∀ w ∈ g.S, w.length ≤ 20) ∧ ∀ c ∈ g.C, c.length ≤ 60 := by
  have h1 := i.sn h.ok
  have h2 := i.cle h.ok
  have h3 := h.n
  have h4 := h.lw
  exact ⟨by omega, by omega, fun w hw => by have := (i.smem h.ok hw).2; omega, fun c hc => by have := (i.cw c hc).2; omega⟩
theorem RC.ok (h : Par B m Lw) (i : TI B Lw g.S g.C) {u : List Nat} (r : RC B g u) : Wd B.k u ∧ u.length + 1 ≤ B.n + Lw := by
  obtain ⟨r, hr, c, hc, rfl⟩ := r
  have h1 := i.rmem h.ok hr
  have h2 := i.cw c hc
  exact ⟨Wd.append h1.1 h2.1, by rw [List.length_append]; omega⟩
theorem RC.cov (h : Par B m Lw) (i : TI B Lw g.S g.C) {u : List Nat} (r : RC B g u) : Cov B Lw g u := ⟨(r.ok h i).1, by have := (r.ok h i).2; omega, .inr (.inl r)⟩
/-- few words are known -/
theorem cov_len (h : Par B m Lw) (hG : g.G.length ≤ (g.C.length - 1 + sa g) * (Lw + 1)) (i : TI B Lw g.S g.C) {us : List (List Nat)} (hn : us.Nodup) (hc : ∀ u ∈ us, Cov B Lw g u) :
    us.length ≤ szW B.k Lw + B.n * (B.k + 1) * B.n + B.n * (Lw + 1) := by
  have hl := List.Nodup.length_le_of_subset hn (l₂ := allW B.k Lw ++ ((rws B.k g.S).flatMap fun r => g.C.map fun c => r ++ c) ++ g.G) fun u hu => by
    obtain ⟨h1, h2, h3⟩ := hc u hu
    rcases h3 with h3 | ⟨r, hr, c, hc, rfl⟩ | h3
    · exact List.mem_append_left _ (List.mem_append_left _ ((allW_mem B.k Lw u).mpr ⟨h1, h3⟩))
    · exact List.mem_append_left _ (List.mem_append_right _ (List.mem_flatMap.mpr ⟨r, hr, List.mem_map.mpr ⟨c, hc, rfl⟩⟩))
    · exact List.mem_append_right _ h3
  have e : ((rws B.k g.S).flatMap fun r => g.C.map fun c => r ++ c).length = (rws B.k g.S).length * g.C.length := by
    rw [List.length_flatMap]
    simp [List.map_const']
  have h1 := i.sn h.ok
  have h2 := i.cle h.ok
  have h3 : (rws B.k g.S).length ≤ B.n * (B.k + 1) := Nat.le_trans rws_len (Nat.mul_le_mul_right _ h1)
  have h4 : (rws B.k g.S).length * g.C.length ≤ B.n * (B.k + 1) * B.n := Nat.mul_le_mul h3 h2
  have h5 : (g.C.length - 1 + sa g) ≤ B.n := by
    have : sa g ≤ 1 := by unfold sa; split <;> omega
    have hc0 : 0 < g.C.length := List.length_pos_of_mem i.c0
    omega
  have h6 := Nat.mul_le_mul_right (Lw + 1) h5
  rw [List.length_append, List.length_append, allW_len, e] at hl
  omega
theorem AI.plen (h : AI B Lw g) (P : Par B m Lw) : g.ps.length ≤ 6000 := by
  have h1 := cov_len P h.gl h.ti h.nd h.cov
  rw [List.length_map] at h1
  have h2 := P.sz
  have h3 := P.n
  have h4 : B.n * (B.k + 1) * B.n ≤ 20 * 5 * 20 := Nat.mul_le_mul (Nat.mul_le_mul h3 (Nat.succ_le_succ P.k)) h3
  have h5 : B.n * (Lw + 1) ≤ 20 * 61 := Nat.mul_le_mul h3 (Nat.succ_le_succ P.lw)
  omega
theorem AI.rlen (h : AI B Lw g) (P : Par B m Lw) : g.rc ≤ 7000 := by
  have h1 := h.plen P
  have h2 := h.rc
  have h3 := (P.tsz h.ti).2.1
  have h4 : act g ≤ 1 := by unfold act; split <;> omega
  omega
/-! ### the steps -/
def ag0 : AG := ⟨[[]], [[]], [], none, none, none, [], [], 0⟩
theorem AI.init (P : Par B m Lw) : AI B Lw ag0 :=
  ⟨TI.init P.lw1, (fun _ z => nomatch z), List.nodup_nil, (fun _ z => nomatch z), Nat.zero_le _, (fun _ z => nomatch z), (fun _ z => nomatch z), (fun _ z => nomatch z), Nat.zero_le _⟩
def AG.learn (g : AG) (u : List Nat) (y : Nat) : AG := { g with ps := g.ps ++ [(u, y)], rc := g.rc + 1 }
theorem Rdy.more {g g' : AG} (h : Rdy B g) (hy : g'.hy = g.hy) (hS : g'.S = g.S) (hC : g'.C = g.C) (hp : ∀ u y, g.ps.lookup u = some y → g'.ps.lookup u = some y) : Rdy B g' := by
  refine ⟨?_, ?_, ?_⟩
  · rw [hy, h.hy]; unfold Hyp; rw [hS, hC]
  · rw [hS, hC]; exact h.cls
  · rw [hS, hC]; exact fun r hr c hc => hp _ _ (h.kn r hr c hc)
theorem SOK.more {g g' : AG} {e : SE} (h : SOK B Lw g e) (hS : g'.S = g.S) (hC : g'.C = g.C) (hG : ∀ u ∈ g.G, u ∈ g'.G) : SOK B Lw g' e := by
  have eH : Hyp B g' = Hyp B g := by unfold Hyp; rw [hS, hC]
  refine ⟨by rw [hS]; exact h.st, h.wd, h.wl, h.lh, h.hl, by rw [eH, hS]; exact h.pl, by rw [eH]; exact h.out, by rw [eH, hS]; exact h.lo, by rw [eH, hS]; exact h.hi, fun u hu => hG u (h.G u hu)⟩
theorem AI.learn (h : AI B Lw g) {u : List Nat} (hu : u ∉ g.ps.map (·.1)) (hc : Cov B Lw g u) : AI B Lw (g.learn u (fB B u)) := by
  refine ⟨h.ti, fun p hp => ?_, ?_, fun v hv => ?_, h.gl, h.qc, fun w hw => ?_, fun e he => ?_, ?_⟩
  · rcases List.mem_append.mp hp with hp | hp
    · exact h.kn p hp
    · rw [List.mem_singleton.mp hp]
  · show ((g.ps ++ [(u, fB B u)]).map (·.1)).Nodup
    rw [List.map_append, List.nodup_append]
    refine ⟨h.nd, by simp, fun x hx y hy e => ?_⟩
    rw [List.map_singleton, List.mem_singleton] at hy
    rw [e, hy] at hx
    exact hu hx
  · have hv : v ∈ (g.ps ++ [(u, fB B u)]).map (·.1) := hv
    rw [List.map_append, List.mem_append] at hv
    rcases hv with hv | hv
    · exact h.cov v hv
    · rw [List.map_singleton, List.mem_singleton] at hv
      rw [hv]; exact hc
  · obtain ⟨a1, a2⟩ := h.sh w hw
    exact ⟨a1.more rfl rfl rfl fun u y e => lookup_app e, a2⟩
  · obtain ⟨a1, a2, a3⟩ := h.se e he
    exact ⟨a1.more rfl rfl rfl fun u y e => lookup_app e, a2, a3.more rfl rfl fun _ z => z⟩
  · have := h.rc
    show g.rc + 1 ≤ (g.ps ++ [(u, fB B u)]).length + (g.C.length - 1) + act g
    rw [List.length_append, List.length_singleton]; omega
theorem AI.queue (h : AI B Lw g) {qu : List (List Nat)} (q : ∀ u ∈ qu, RC B g u) : AI B Lw { g with qu := qu } :=
  ⟨h.ti, h.kn, h.nd, h.cov, h.gl, q, fun w hw => by obtain ⟨a1, a2⟩ := h.sh w hw; exact ⟨a1.more rfl rfl rfl fun _ _ e => e, a2⟩, fun e he => by
    obtain ⟨a1, a2, a3⟩ := h.se e he
    exact ⟨a1.more rfl rfl rfl fun _ _ e => e, a2, a3.more rfl rfl fun _ z => z⟩, h.rc⟩
theorem rws_mono {k : Nat} {S : List (List Nat)} {w r : List Nat} (h : r ∈ rws k S) : r ∈ rws k (S ++ [w]) := by
  rcases List.mem_append.mp h with h | h
  · exact List.mem_append_left _ (List.mem_append_left _ h)
  · obtain ⟨_, v, hv, a, ha, rfl⟩ := mem_fur.mp h
    exact rws_step (List.mem_append_left _ hv) ha
/-- in idle -/
def Idle (g : AG) : Prop := g.sh = none ∧ g.se = none
theorem Idle.act (h : Idle g) : act g = 0 := by unfold Tk.act; rw [h.1, h.2]; rfl
theorem Idle.sa (h : Idle g) : sa g = 0 := by unfold Tk.sa; rw [h.2]; rfl
theorem AI.ext (h : AI B Lw g) (i : Idle g) {w : List Nat} (hw : w ∈ fur B.k g.S) (hr : rowOf (fB B) g.C w ∉ g.S.map (rowOf (fB B) g.C)) : AI B Lw { g with S := g.S ++ [w] } := by
  have rc : ∀ u, RC B g u → RC B { g with S := g.S ++ [w] } u := fun u ⟨r, hr, c, hc, e⟩ => ⟨r, rws_mono hr, c, hc, e⟩
  refine ⟨h.ti.ext hw hr, h.kn, h.nd, fun u hu => ?_, h.gl, fun u hu => rc u (h.qc u hu), fun w hw => ?_, fun e he => ?_, h.rc⟩
  · obtain ⟨a1, a2, a3⟩ := h.cov u hu
    exact ⟨a1, a2, a3.elim .inl fun z => .inr (z.elim (fun z => .inl (rc u z)) .inr)⟩
  · have hw : g.sh = some w := hw
    rw [i.1] at hw; cases hw
  · have he : g.se = some e := he
    rw [i.2] at he; cases he
theorem AI.hyp (h : AI B Lw g) (i : Idle g) (M : Option Mach) : AI B Lw { g with hy := M } :=
  ⟨h.ti, h.kn, h.nd, h.cov, h.gl, h.qc, (fun w hw => by
    have hw : g.sh = some w := hw
    rw [i.1] at hw; cases hw), (fun e he => by
    have he : g.se = some e := he
    rw [i.2] at he; cases he), h.rc⟩
/-- a search begins -/
def AG.begin (g : AG) (M : Mach) (st : Nat) (w : List Nat) : AG :=
  { g with sh := none, se := some ⟨0, w.length, st, w, (List.range (w.length + 1)).map (plc M g.S st w), M.outp st w⟩, G := g.G ++ (List.range (w.length + 1)).map (plc M g.S st w) }
theorem AI.begin (h : AI B Lw g) (P : Par B m Lw) (r : Rdy B g) (hs : g.se = none) {st : Nat} {w : List Nat} (hst : st < g.S.length) (hw : Wd B.k w) (hl : w.length ≤ Lw) (hne : fB B (g.S.getD st [] ++ w) ≠ (Hyp B g).outp st w)
    (ha : g.sh = none ∨ g.sh.isSome = true) (hrc : g.rc ≤ g.ps.length + (g.C.length - 1) + 1) : AI B Lw (g.begin (Hyp B g) st w) := by
  have hM : (Hyp B g).Ok := hypM_ok h.ti.pos r.cls fun s hs => P.ok.outp_lt s P.ok.pos
  have hn : (Hyp B g).n = g.S.length := hypM_n _
  have w0 : 0 < w.length := by
    rcases Nat.eq_zero_or_pos w.length with q | q
    · rw [List.length_eq_zero_iff.mp q] at hne
      rw [List.append_nil] at hne
      exact absurd (hypM_ou hst).symm hne
    · exact q
  refine ⟨h.ti, h.kn, h.nd, fun u hu => ?_, ?_, h.qc, (fun _ z => nomatch z), fun e he => ?_, ?_⟩
  · obtain ⟨a1, a2, a3⟩ := h.cov u hu
    exact ⟨a1, a2, a3.elim .inl fun z => .inr (z.elim .inl fun z => .inr (List.mem_append_left _ z))⟩
  · have h1 := h.gl
    unfold sa at h1 ⊢
    rw [hs] at h1
    show (g.G ++ (List.range (w.length + 1)).map (plc (Hyp B g) g.S st w)).length ≤ (g.C.length - 1 + 1) * (Lw + 1)
    rw [List.length_append, List.length_map, List.length_range, Nat.add_mul]
    have h1 : g.G.length ≤ (g.C.length - 1 + 0) * (Lw + 1) := h1
    rw [Nat.add_zero] at h1
    omega
  · cases he
    refine ⟨r.more rfl rfl rfl fun _ _ e => e, rfl, ⟨hst, hw, hl, w0, Nat.le_refl _, rfl, rfl, ?_, ?_, fun u hu => List.mem_append_right _ hu⟩⟩
    · exact hne
    · show fB B (plc (Hyp B g) g.S st w w.length) = (Hyp B g).outp st w
      rw [plc_end]
      exact (hypM_ou (by rw [← hn]; exact hM.run_lt _ (by rw [hn]; exact hst))).symm
  · exact hrc
theorem SOK.place (P : Par B m Lw) (i : TI B Lw g.S g.C) (hc : Cls (fB B) B.k g.C g.S) {e : SE} (s : SOK B Lw g e) {u : List Nat} (hu : u ∈ e.pl) : Cov B Lw g u := by
  have hM : (Hyp B g).Ok := hypM_ok i.pos hc fun s hs => P.ok.outp_lt s P.ok.pos
  have hn : (Hyp B g).n = g.S.length := hypM_n _
  have hG := s.G u hu
  rw [s.pl] at hu
  obtain ⟨j, hj, rfl⟩ := List.mem_map.mp hu
  have hr : (Hyp B g).run e.st (e.w.take j) < g.S.length := by rw [← hn]; exact hM.run_lt _ (by rw [hn]; exact s.st)
  have h1 := i.smem P.ok (getD_mem (d := []) hr)
  have h2 := s.wl
  refine ⟨?_, ?_, .inr (.inr hG)⟩
  · unfold plc
    exact Wd.append h1.1 fun x hx => s.wd x (List.mem_of_mem_drop hx)
  · unfold plc
    rw [List.length_append, List.length_drop]
    omega
def SE.up (e : SE) (p : Nat) (b : Bool) : SE := if b = true then { e with lo := p } else { e with hi := p }
theorem AI.tell (h : AI B Lw g) {e : SE} (he : g.se = some e) {p : Nat} (h1 : e.lo < p) (h2 : p < e.hi) : AI B Lw { g with se := some (e.up p (!decide (fB B (plc (Hyp B g) g.S e.st e.w p) = e.out))) } := by
  obtain ⟨r, i, s⟩ := h.se e he
  have hsa : sa g = 1 := by unfold sa; rw [he]; rfl
  have hact : act g = 1 := by unfold act; rw [he]; simp
  refine ⟨h.ti, h.kn, h.nd, h.cov, ?_, h.qc, fun w hw => ?_, fun e' he' => ?_, ?_⟩
  · have := h.gl; rw [hsa] at this; exact this
  · have hw : g.sh = some w := hw
    rw [i] at hw; cases hw
  · cases he'
    refine ⟨r.more rfl rfl rfl fun _ _ e => e, i, ?_⟩
    by_cases q : fB B (plc (Hyp B g) g.S e.st e.w p) = e.out
    · rw [decide_eq_true q]
      exact ⟨s.st, s.wd, s.wl, h1, Nat.le_trans (Nat.le_of_lt h2) s.hl, s.pl, s.out, s.lo, q, s.G⟩
    · rw [decide_eq_false q]
      exact ⟨s.st, s.wd, s.wl, h2, s.hl, s.pl, s.out, q, s.hi, s.G⟩
  · have := h.rc; rw [hact] at this
    unfold act
    rw [if_pos (.inr rfl)]; exact this
/-- the search ends -/
theorem AI.col (h : AI B Lw g) (P : Par B m Lw) {e : SE} (he : g.se = some e) (h1 : e.hi = e.lo + 1) : e.w.drop (e.lo + 1) ∉ g.C ∧ AI B Lw { g with se := none, C := g.C ++ [e.w.drop (e.lo + 1)] } := by
  obtain ⟨r, i, s⟩ := h.se e he
  have hsa : sa g = 1 := by unfold sa; rw [he]; rfl
  have hact : act g = 1 := by unfold act; rw [he]; simp
  have hll : e.lo < e.w.length := by have := s.lh; have := s.hl; omega
  have hlo := s.lo
  have hhi := s.hi
  rw [s.out] at hlo hhi
  rw [h1] at hhi
  obtain ⟨f1, f2⟩ := found_col h.ti.dst r.cls s.st s.wd hll (fun s hs => P.ok.outp_lt s P.ok.pos) hlo hhi
  have hc0 : 0 < g.C.length := List.length_pos_of_mem h.ti.c0
  have rc : ∀ u, RC B g u → RC B { g with se := none, C := g.C ++ [e.w.drop (e.lo + 1)] } u := fun u ⟨r, hr, c, hc, e⟩ => ⟨r, hr, c, List.mem_append_left _ hc, e⟩
  refine ⟨f1, h.ti.col r.cls ⟨fun x hx => s.wd x (List.mem_of_mem_drop hx), ?_⟩ f1 f2, h.kn, h.nd, fun u hu => ?_, ?_, fun u hu => rc u (h.qc u hu), fun w hw => ?_, (fun _ z => nomatch z), ?_⟩
  · rw [List.length_drop]; have := s.wl; omega
  · obtain ⟨a1, a2, a3⟩ := h.cov u hu
    exact ⟨a1, a2, a3.elim .inl fun z => .inr (z.elim (fun z => .inl (rc u z)) .inr)⟩
  · have := h.gl
    rw [hsa] at this
    show g.G.length ≤ ((g.C ++ [e.w.drop (e.lo + 1)]).length - 1 + 0) * (Lw + 1)
    rw [List.length_append, List.length_singleton, Nat.add_zero]
    rw [show g.C.length + 1 - 1 = g.C.length - 1 + 1 by omega]
    exact this
  · have hw : g.sh = some w := hw
    rw [i] at hw; cases hw
  · have := h.rc
    rw [hact] at this
    show g.rc ≤ g.ps.length + ((g.C ++ [e.w.drop (e.lo + 1)]).length - 1) + act _
    rw [List.length_append, List.length_singleton]
    omega
/-- a counterexample is shown -/
theorem AI.show' (h : AI B Lw g) (i : Idle g) (r : Rdy B g) {w : List Nat} (hw : Wd B.k w) (hl : w.length ≤ Lw) (hne : (Hyp B g).outp 0 w ≠ fB B w) : AI B Lw { g with sh := some w, rc := g.rc + 1 } :=
  ⟨h.ti, h.kn, h.nd, h.cov, by have := h.gl; rw [i.sa] at this; unfold sa; rw [i.2]; exact this, h.qc, fun w' hw' => by
    cases hw'
    exact ⟨r.more rfl rfl rfl fun _ _ e => e, i.2, hw, hl, hne⟩, (fun e he => by
    have he : g.se = some e := he
    rw [i.2] at he; cases he), by
    have := h.rc
    rw [i.act] at this
    unfold act
    rw [if_pos (.inl rfl)]
    show g.rc + 1 ≤ g.ps.length + (g.C.length - 1) + 1
    omega⟩
/-! the measure of a turn -/
def stg (g : AG) (fr : Bool) : Nat := match g.se with
  | some e => e.hi - e.lo
  | none => if g.sh.isSome = true then 70 else if fr = true then 90 else 91
def mu (B : Mach) (g : AG) (fr : Bool) : Nat := ((B.n - g.S.length) + (B.n + 1 - g.C.length)) * 200 + stg g fr
end
end Tk
namespace Tk
/-! how the ghost goes on between two replies -/
def lv (B : Mach) (g : AG) : Nat := ((B.n - g.S.length) + (B.n + 1 - g.C.length)) * 2 + (1 - act g)
structure Nxt (B : Mach) (Lw : Nat) (g g' : AG) : Prop where
  ps : g'.ps = g.ps
  rc : g'.rc = g.rc
  cov : ∀ u, Cov B Lw g u → Cov B Lw g' u
  lv : lv B g' ≤ lv B g
theorem Nxt.refl {B : Mach} {Lw : Nat} {g : AG} : Nxt B Lw g g := ⟨rfl, rfl, fun _ h => h, Nat.le_refl _⟩
theorem Nxt.trans {B : Mach} {Lw : Nat} {g g1 g2 : AG} (a : Nxt B Lw g g1) (b : Nxt B Lw g1 g2) : Nxt B Lw g g2 := ⟨b.ps.trans a.ps, b.rc.trans a.rc, fun u h => b.cov u (a.cov u h), Nat.le_trans b.lv a.lv⟩
def FrOk (fr : Bool) (g : AG) : Prop := fr = true → Idle g ∧ g.qu ≠ [] ∧ ∀ u ∈ g.qu, g.ps.lookup u = none
section
variable {B : Mach} {m Lw : Nat} {g : AG}
theorem stg_le (h : AI B Lw g) (P : Par B m Lw) (fr : Bool) : stg g fr ≤ 91 := by
  unfold stg
  cases q : g.se with
  | some e =>
    have s := (h.se e q).2.2
    have := s.hl
    have := s.wl
    have := P.lw
    show e.hi - e.lo ≤ 91
    omega
  | none =>
    dsimp only
    split
    · omega
    · split <;> omega
theorem nxt_col (h : AI B Lw g) (P : Par B m Lw) {e : SE} (he : g.se = some e) (c : List Nat) (h' : AI B Lw { g with se := none, C := g.C ++ [c] }) (fr fr' : Bool) :
    Nxt B Lw g { g with se := none, C := g.C ++ [c] } ∧ mu B { g with se := none, C := g.C ++ [c] } fr' < mu B g fr := by
  have h1 := h.ti.cle P.ok
  have hact : act g = 1 := by unfold act; rw [he]; simp
  refine ⟨⟨rfl, rfl, fun u hu => ?_, ?_⟩, ?_⟩
  · obtain ⟨a1, a2, a3⟩ := hu
    refine ⟨a1, a2, a3.elim .inl fun z => .inr (z.elim (fun ⟨r, hr, c', hc, e⟩ => .inl ⟨r, hr, c', List.mem_append_left _ hc, e⟩) .inr)⟩
  · unfold lv
    rw [hact]
    show ((B.n - g.S.length) + (B.n + 1 - (g.C ++ [c]).length)) * 2 + _ ≤ _
    rw [List.length_append, List.length_singleton]
    omega
  · have h2 := stg_le h' P fr'
    unfold mu
    show ((B.n - g.S.length) + (B.n + 1 - (g.C ++ [c]).length)) * 200 + _ < _
    rw [List.length_append, List.length_singleton]
    omega
theorem nxt_tell (h : AI B Lw g) {e : SE} (he : g.se = some e) {p : Nat} (b : Bool) (h1 : e.lo < p) (h2 : p < e.hi) (fr fr' : Bool) :
    Nxt B Lw g { g with se := some (e.up p b) } ∧ mu B { g with se := some (e.up p b) } fr' < mu B g fr := by
  have hact : act g = 1 := by unfold act; rw [he]; simp
  refine ⟨⟨rfl, rfl, fun u hu => hu, ?_⟩, ?_⟩
  · unfold lv
    rw [hact]
    have : act { g with se := some (e.up p b) } = 1 := by unfold act; rw [if_pos (.inr rfl)]
    rw [this]
    exact Nat.le_refl _
  · unfold mu stg
    rw [he]
    show ((B.n - g.S.length) + (B.n + 1 - g.C.length)) * 200 + ((e.up p b).hi - (e.up p b).lo) < ((B.n - g.S.length) + (B.n + 1 - g.C.length)) * 200 + (e.hi - e.lo)
    have : (e.up p b).hi - (e.up p b).lo < e.hi - e.lo := by
      unfold SE.up
      split
      · show e.hi - p < _; omega
      · show p - e.lo < _; omega
    omega
theorem nxt_begin (P : Par B m Lw) (hs : g.se = none) {M : Mach} {st : Nat} {w : List Nat} (hl : w.length ≤ Lw) (fr fr' : Bool) :
    Nxt B Lw g (g.begin M st w) ∧ mu B (g.begin M st w) fr' < mu B g fr := by
  refine ⟨⟨rfl, rfl, fun u hu => ?_, ?_⟩, ?_⟩
  · obtain ⟨a1, a2, a3⟩ := hu
    exact ⟨a1, a2, a3.elim .inl fun z => .inr (z.elim .inl fun z => .inr (List.mem_append_left _ z))⟩
  · unfold lv
    have : act (g.begin M st w) = 1 := by unfold act; rw [if_pos (.inr rfl)]
    rw [this]
    show ((B.n - g.S.length) + (B.n + 1 - g.C.length)) * 2 + 0 ≤ _
    omega
  · have h3 := P.lw
    unfold mu
    have h1 : stg (g.begin M st w) fr' = w.length - 0 := rfl
    have h2 : 70 ≤ stg g fr := by
      unfold stg
      rw [hs]
      dsimp only
      split
      · exact Nat.le_refl _
      · split <;> omega
    rw [h1]
    show ((B.n - g.S.length) + (B.n + 1 - g.C.length)) * 200 + _ < _
    omega
theorem nxt_ext (h : AI B Lw g) (P : Par B m Lw) (i : Idle g) {w : List Nat} (h' : AI B Lw { g with S := g.S ++ [w] }) (fr fr' : Bool) :
    Nxt B Lw g { g with S := g.S ++ [w] } ∧ mu B { g with S := g.S ++ [w] } fr' < mu B g fr := by
  have h1 := h'.ti.sn P.ok
  have h1 : g.S.length + 1 ≤ B.n := by
    have h1 : (g.S ++ [w]).length ≤ B.n := h1
    rwa [List.length_append, List.length_singleton] at h1
  refine ⟨⟨rfl, rfl, fun u hu => ?_, ?_⟩, ?_⟩
  · obtain ⟨a1, a2, a3⟩ := hu
    exact ⟨a1, a2, a3.elim .inl fun z => .inr (z.elim (fun ⟨r, hr, c', hc, e⟩ => .inl ⟨r, rws_mono hr, c', hc, e⟩) .inr)⟩
  · unfold lv
    have : act { g with S := g.S ++ [w] } = act g := rfl
    rw [this]
    show ((B.n - (g.S ++ [w]).length) + (B.n + 1 - g.C.length)) * 2 + _ ≤ _
    rw [List.length_append, List.length_singleton]
    omega
  · have h2 := stg_le h' P fr'
    unfold mu
    show ((B.n - (g.S ++ [w]).length) + (B.n + 1 - g.C.length)) * 200 + _ < _
    rw [List.length_append, List.length_singleton]
    omega
end
end Tk
/-! text D11 -/
set_option maxHeartbeats 4000000
namespace Tk
open PySem L2
/-! ### Asker: its state -/
structure AP where
  s : Addr
  kd : Addr
  rl : Addr
  cn : Addr
  t : Addr
  sl : Addr
  cl : Addr
  qa : Addr
structure AV where
  gv : V
  mv : V
  sv : V
  ev : V
abbrev aF (p : AP) (k o m : Nat) (v : AV) (tl : List (Str × V)) : List (Str × V) :=
  ("letters", nV k) :: ("outs", nV o) :: ("most", nV m) :: ("_given", v.gv) :: ("_known", .ref p.kd) :: ("_replies", .ref p.rl) :: ("_counts", .ref p.cn) :: ("_table", .ref p.t) :: ("_machine", v.mv) :: ("_shown", v.sv) :: ("_search", v.ev) :: ("_queue", .ref p.qa) :: tl
def AP.all (p : AP) : List Addr := [p.s, p.kd, p.rl, p.cn, p.t, p.sl, p.cl, p.qa]
def hyV (N : Fp) (H : Hp) (v : V) : Option Mach → Prop
  | none => v = .non
  | some M => At N H v (mD M)
def shV (N : Fp) (H : Hp) (v : V) : Option (List Nat) → Prop
  | none => v = .non
  | some w => At N H v (wT w)
def seV (a : Ads) (N : Fp) (H : Hp) (p : AP) (v : V) : Option SE → Prop
  | none => v = .non
  | some e => ∃ (ea h : Addr) (pv wv : V), v = .ref ea ∧ ¬ N ea ∧ H ea = some (.tup [.ref h, pv, nV e.out, wv]) ∧ HalvAt a H h e.lo e.hi ∧ N h ∧ h ∉ p.all ∧ At N H pv (.l (e.pl.map wT)) ∧ At N H wv (wT e.w)
def TlOk (tl : List (Str × V)) : Prop := tl = [] ∨ ∃ st : V, tl = [(("_step" : Str), st)]
structure AskAt (a : Ads) (N : Fp) (H : Hp) (p : AP) (k o m : Nat) (g : AG) (tl : List (Str × V)) : Prop where
  all : ∀ b ∈ p.all, N b
  nd : p.all.Nodup
  tlk : TlOk tl
  ins : ∃ v : AV, Ins H p.s a.C_Asker (aF p k o m v tl) ∧ hyV N H v.mv g.hy ∧ shV N H v.sv g.sh ∧ seV a N H p v.ev g.se
  kn : KnAt H p.kd g.ps
  rl : ∃ rs : List Str, Lst N H p.rl (rs.map D.s) ∧ rs.length = g.rc
  cn : ∃ c0 c1 c2 c3 : Nat, Lst N H p.cn [.n c0, .n c1, .n c2, .n c3]
  tb : TblAt a N H p.t p.sl p.cl k g.S g.C
  qu : Lst N H p.qa (g.qu.map wL)
section
variable {a : Ads} {N N' F : Fp} {H H' : Hp} {p : AP} {k o m : Nat} {g : AG} {tl : List (Str × V)} {v : V}
theorem hyV.upE {x : Option Mach} (h : hyV N H v x) (e : Ev F H H') (s : ∀ b, F b → N b) (hn : ∀ b, N' b → N b ∨ H b = none) : hyV N' H' v x := by
  cases x with
  | none => exact h
  | some M => exact At.upE h e s hn
theorem shV.upE {x : Option (List Nat)} (h : shV N H v x) (e : Ev F H H') (s : ∀ b, F b → N b) (hn : ∀ b, N' b → N b ∨ H b = none) : shV N' H' v x := by
  cases x with
  | none => exact h
  | some M => exact At.upE h e s hn
/-- the halving at which the search looks -/
def seH (a : Ads) (H : Hp) (v : V) (h : Addr) : Prop := ∃ (ea : Addr) (x y z : V), v = .ref ea ∧ H ea = some (.tup [.ref h, x, y, z])
theorem seV.upE {x : Option SE} (h : seV a N H p v x) (e : Ev F H H') (s : ∀ b, F b → N b) (hi : ∀ b, N b → N' b) (hn : ∀ b, N' b → N b ∨ H b = none) (n : ∀ b, F b → b ∈ p.all) : seV a N' H' p v x := by
  cases x with
  | none => exact h
  | some x =>
    obtain ⟨ea, hh, pv, wv, e1, e2, e3, e4, e5, e6, e7, e8⟩ := h
    refine ⟨ea, hh, pv, wv, e1, ?_, e.kp _ _ e3 fun z => e2 (s _ z), e4.ev e fun z => e6 (n _ z), hi _ e5, e6, e7.upE e s hn, e8.upE e s hn⟩
    intro z
    rcases hn _ z with z | z
    · exact e2 z
    · rw [z] at e3; cases e3
theorem seV.qa {x : Option SE} {q : Addr} (h : seV a N H p v x) (nq : H q = none) : seV a N H { p with qa := q } v x := by
  cases x with
  | none => exact h
  | some x =>
    obtain ⟨ea, hh, pv, wv, e1, e2, e3, e4, e5, e6, e7, e8⟩ := h
    refine ⟨ea, hh, pv, wv, e1, e2, e3, e4, e5, ?_, e7, e8⟩
    have hq : hh ≠ q := fun z => by
      obtain ⟨dx, e⟩ := e4
      rw [z, nq] at e; cases e
    simp only [AP.all, List.mem_cons, List.not_mem_nil, or_false, not_or] at e6 ⊢
    obtain ⟨z1, z2, z3, z4, z5, z6, z7, z8⟩ := e6
    exact ⟨z1, z2, z3, z4, z5, z6, z7, hq⟩
theorem TlOk.look (h : TlOk tl) {x : Str} (n : (x == ("_step" : Str)) = false) : tl.lookup x = none := by
  rcases h with rfl | ⟨st, rfl⟩
  · rfl
  · rw [List.lookup_cons, n]; rfl
theorem TlOk.len (h : TlOk tl) : tl.length ≤ 1 := by
  rcases h with rfl | ⟨st, rfl⟩
  · exact Nat.zero_le _
  · exact Nat.le_refl _
/-- carried along where none of its places is written -/
theorem AskAt.upE (h : AskAt a N H p k o m g tl) (e : Ev F H H') (s : ∀ b, F b → N b) (hi : ∀ b, N b → N' b) (hn : ∀ b, N' b → N b ∨ H b = none) (n : ∀ b, ¬ F b) : AskAt a N' H' p k o m g tl := by
  obtain ⟨v, h1, h2, h3, h4⟩ := h.ins
  obtain ⟨rs, r1, r2⟩ := h.rl
  obtain ⟨c0, c1, c2, c3, hc⟩ := h.cn
  exact ⟨fun b z => hi _ (h.all b z), h.nd, h.tlk, ⟨v, h1.ev e (n _), h2.upE e s hn, h3.upE e s hn, h4.upE e s hi hn fun b z => absurd z (n b)⟩, e.kp _ _ h.kn (n _), ⟨rs, r1.upE e s hn (n _), r2⟩, ⟨c0, c1, c2, c3, hc.upE e s hn (n _)⟩,
    h.tb.upE e s hi hn (n _) (n _) (n _), h.qu.upE e s hn (n _)⟩
theorem AskAt.sm (h : AskAt a N H p k o m g tl) (e : Sm H H') : AskAt a N H' p k o m g tl := h.upE e (fun _ z => z.elim) (fun _ z => z) (fun _ z => .inl z) fun _ z => z
theorem AskAt.ad {b : Addr} (h : AskAt a N H p k o m g tl) (hb : H b = none) (e : Sm H H') : AskAt a (ad b N) H' p k o m g tl := h.upE e (fun _ z => z.elim) (fun _ z => .inr z) (fun _ z => z.elim (fun w => .inr (w ▸ hb)) .inl) fun _ z => z
/-- its pairs of places -/
structure ANe (p : AP) : Prop where
  s : p.s ≠ p.kd ∧ p.s ≠ p.rl ∧ p.s ≠ p.cn ∧ p.s ≠ p.t ∧ p.s ≠ p.sl ∧ p.s ≠ p.cl ∧ p.s ≠ p.qa
  kd : p.kd ≠ p.rl ∧ p.kd ≠ p.cn ∧ p.kd ≠ p.t ∧ p.kd ≠ p.sl ∧ p.kd ≠ p.cl ∧ p.kd ≠ p.qa
  rl : p.rl ≠ p.cn ∧ p.rl ≠ p.t ∧ p.rl ≠ p.sl ∧ p.rl ≠ p.cl ∧ p.rl ≠ p.qa
  cn : p.cn ≠ p.t ∧ p.cn ≠ p.sl ∧ p.cn ≠ p.cl ∧ p.cn ≠ p.qa
  t : p.t ≠ p.sl ∧ p.t ≠ p.cl ∧ p.t ≠ p.qa
  sl : p.sl ≠ p.cl ∧ p.sl ≠ p.qa
  cl : p.cl ≠ p.qa
theorem AP.ne {p : AP} (h : p.all.Nodup) : ANe p := by
  simp only [AP.all, List.nodup_cons, List.mem_cons, List.not_mem_nil, or_false, not_or, not_false_eq_true, List.nodup_nil, and_true] at h
  obtain ⟨h1, h2, h3, h4, h5, h6, h7⟩ := h
  exact ⟨h1, h2, h3, h4, h5, h6, h7⟩
theorem AP.of {p : AP} (h : ANe p) : p.all.Nodup := by
  simp only [AP.all, List.nodup_cons, List.mem_cons, List.not_mem_nil, or_false, not_or, not_false_eq_true, List.nodup_nil, and_true]
  exact ⟨h.s, h.kd, h.rl, h.cn, h.t, h.sl, h.cl⟩
theorem AP.mem {p : AP} : p.s ∈ p.all ∧ p.kd ∈ p.all ∧ p.rl ∈ p.all ∧ p.cn ∈ p.all ∧ p.t ∈ p.all ∧ p.sl ∈ p.all ∧ p.cl ∈ p.all ∧ p.qa ∈ p.all := by simp [AP.all]
theorem onN {x : Addr} (h : N x) : ∀ b, on x b → N b := fun b z => by rw [show b = x from z]; exact h
/-- a field of its own is written -/
theorem AskAt.fld (h : AskAt a N H p k o m g tl) (e : Ev (on p.s) H H') {v : AV} {tl' : List (Str × V)} (ht : TlOk tl') (hI : Ins H' p.s a.C_Asker (aF p k o m v tl')) {hy : Option Mach} {sh : Option (List Nat)} {se : Option SE}
    (h1 : hyV N H' v.mv hy) (h2 : shV N H' v.sv sh) (h3 : seV a N H' p v.ev se) : AskAt a N H' p k o m { g with hy := hy, sh := sh, se := se } tl' := by
  have ne := AP.ne h.nd
  have s := onN (N := N) (h.all _ AP.mem.1)
  obtain ⟨rs, r1, r2⟩ := h.rl
  obtain ⟨c0, c1, c2, c3, hc⟩ := h.cn
  exact ⟨h.all, h.nd, ht, ⟨v, hI, h1, h2, h3⟩, e.kp _ _ h.kn fun z => ne.s.1 (Eq.symm z), ⟨rs, r1.ev e s fun z => ne.s.2.1 (Eq.symm z), r2⟩, ⟨c0, c1, c2, c3, hc.ev e s fun z => ne.s.2.2.1 (Eq.symm z)⟩,
    h.tb.ev e s (fun z => ne.s.2.2.2.1 (Eq.symm z)) (fun z => ne.s.2.2.2.2.1 (Eq.symm z)) (fun z => ne.s.2.2.2.2.2.1 (Eq.symm z)), h.qu.ev e s fun z => ne.s.2.2.2.2.2.2 (Eq.symm z)⟩
/-- another place of its own is written: what is not written stays -/
theorem AskAt.insE (h : AskAt a N H p k o m g tl) {x : Addr} (hx : x ∈ p.all) (e : Ev (on x) H H') (n : x ≠ p.s) : ∃ v : AV, Ins H' p.s a.C_Asker (aF p k o m v tl) ∧ hyV N H' v.mv g.hy ∧ shV N H' v.sv g.sh ∧ seV a N H' p v.ev g.se := by
  have s := onN (N := N) (h.all _ hx)
  obtain ⟨v, h1, h2, h3, h4⟩ := h.ins
  exact ⟨v, h1.ev e fun z => n (Eq.symm z), h2.upE e s fun _ z => .inl z, h3.upE e s fun _ z => .inl z, h4.upE e s (fun _ z => z) (fun _ z => .inl z) fun b z => by rw [show b = x from z]; exact hx⟩
theorem AskAt.known (h : AskAt a N H p k o m g tl) (e : Ev (on p.kd) H H') {ps : List (List Nat × Nat)} (hk : KnAt H' p.kd ps) : AskAt a N H' p k o m { g with ps := ps } tl := by
  have ne := AP.ne h.nd
  have s := onN (N := N) (h.all _ AP.mem.2.1)
  obtain ⟨rs, r1, r2⟩ := h.rl
  obtain ⟨c0, c1, c2, c3, hc⟩ := h.cn
  exact ⟨h.all, h.nd, h.tlk, h.insE AP.mem.2.1 e (Ne.symm ne.s.1), hk, ⟨rs, r1.ev e s fun z => ne.kd.1 (Eq.symm z), r2⟩, ⟨c0, c1, c2, c3, hc.ev e s fun z => ne.kd.2.1 (Eq.symm z)⟩,
    h.tb.ev e s (fun z => ne.kd.2.2.1 (Eq.symm z)) (fun z => ne.kd.2.2.2.1 (Eq.symm z)) (fun z => ne.kd.2.2.2.2.1 (Eq.symm z)), h.qu.ev e s fun z => ne.kd.2.2.2.2.2 (Eq.symm z)⟩
theorem AskAt.reply (h : AskAt a N H p k o m g tl) (e : Ev (on p.rl) H H') {rs : List Str} (hr : Lst N H' p.rl (rs.map D.s)) : AskAt a N H' p k o m { g with rc := rs.length } tl := by
  have ne := AP.ne h.nd
  have s := onN (N := N) (h.all _ AP.mem.2.2.1)
  obtain ⟨c0, c1, c2, c3, hc⟩ := h.cn
  exact ⟨h.all, h.nd, h.tlk, h.insE AP.mem.2.2.1 e (Ne.symm ne.s.2.1), e.kp _ _ h.kn fun z => ne.kd.1 z, ⟨rs, hr, rfl⟩, ⟨c0, c1, c2, c3, hc.ev e s fun z => ne.rl.1 (Eq.symm z)⟩,
    h.tb.ev e s (fun z => ne.rl.2.1 (Eq.symm z)) (fun z => ne.rl.2.2.1 (Eq.symm z)) (fun z => ne.rl.2.2.2.1 (Eq.symm z)), h.qu.ev e s fun z => ne.rl.2.2.2.2 (Eq.symm z)⟩
theorem AskAt.count (h : AskAt a N H p k o m g tl) (e : Ev (on p.cn) H H') {c0 c1 c2 c3 : Nat} (hc : Lst N H' p.cn [.n c0, .n c1, .n c2, .n c3]) : AskAt a N H' p k o m g tl := by
  have ne := AP.ne h.nd
  have s := onN (N := N) (h.all _ AP.mem.2.2.2.1)
  obtain ⟨rs, r1, r2⟩ := h.rl
  exact ⟨h.all, h.nd, h.tlk, h.insE AP.mem.2.2.2.1 e (Ne.symm ne.s.2.2.1), e.kp _ _ h.kn fun z => ne.kd.2.1 z, ⟨rs, r1.ev e s fun z => ne.rl.1 z, r2⟩, ⟨c0, c1, c2, c3, hc⟩,
    h.tb.ev e s (fun z => ne.cn.1 (Eq.symm z)) (fun z => ne.cn.2.1 (Eq.symm z)) (fun z => ne.cn.2.2.1 (Eq.symm z)), h.qu.ev e s fun z => ne.cn.2.2.2 (Eq.symm z)⟩
theorem AskAt.queue (h : AskAt a N H p k o m g tl) (e : Ev (on p.qa) H H') {qu : List (List Nat)} (hq : Lst N H' p.qa (qu.map wL)) : AskAt a N H' p k o m { g with qu := qu } tl := by
  have ne := AP.ne h.nd
  have s := onN (N := N) (h.all _ AP.mem.2.2.2.2.2.2.2)
  obtain ⟨rs, r1, r2⟩ := h.rl
  obtain ⟨c0, c1, c2, c3, hc⟩ := h.cn
  exact ⟨h.all, h.nd, h.tlk, h.insE AP.mem.2.2.2.2.2.2.2 e (Ne.symm ne.s.2.2.2.2.2.2), e.kp _ _ h.kn fun z => ne.kd.2.2.2.2.2 z, ⟨rs, r1.ev e s fun z => ne.rl.2.2.2.2 z, r2⟩, ⟨c0, c1, c2, c3, hc.ev e s fun z => ne.cn.2.2.2 z⟩,
    h.tb.ev e s (fun z => ne.t.2.2 z) (fun z => ne.sl.2 z) (fun z => ne.cl z), hq⟩
/-- the table is written -/
theorem AskAt.table (h : AskAt a N H p k o m g tl) (e : Ev F H H') (hF : ∀ b, F b → b = p.t ∨ b = p.sl ∨ b = p.cl) {S C : List (List Nat)} (ht : TblAt a N H' p.t p.sl p.cl k S C) : AskAt a N H' p k o m { g with S := S, C := C } tl := by
  have ne := AP.ne h.nd
  have hall : ∀ b, F b → b ∈ p.all := fun b z => by
    rcases hF b z with rfl | rfl | rfl
    · exact AP.mem.2.2.2.2.1
    · exact AP.mem.2.2.2.2.2.1
    · exact AP.mem.2.2.2.2.2.2.1
  have s : ∀ b, F b → N b := fun b z => h.all _ (hall b z)
  obtain ⟨v, h1, h2, h3, h4⟩ := h.ins
  obtain ⟨rs, r1, r2⟩ := h.rl
  obtain ⟨c0, c1, c2, c3, hc⟩ := h.cn
  have nF : ∀ x, x ≠ p.t → x ≠ p.sl → x ≠ p.cl → ¬ F x := fun x a1 a2 a3 z => (hF x z).elim a1 fun z => z.elim a2 a3
  exact ⟨h.all, h.nd, h.tlk, ⟨v, h1.ev e (nF _ ne.s.2.2.2.1 ne.s.2.2.2.2.1 ne.s.2.2.2.2.2.1), h2.upE e s fun _ z => .inl z, h3.upE e s fun _ z => .inl z, h4.upE e s (fun _ z => z) (fun _ z => .inl z) hall⟩,
    e.kp _ _ h.kn (nF _ ne.kd.2.2.1 ne.kd.2.2.2.1 ne.kd.2.2.2.2.1), ⟨rs, r1.ev e s (nF _ ne.rl.2.1 ne.rl.2.2.1 ne.rl.2.2.2.1), r2⟩, ⟨c0, c1, c2, c3, hc.ev e s (nF _ ne.cn.1 ne.cn.2.1 ne.cn.2.2.1)⟩, ht,
    h.qu.ev e s (nF _ (Ne.symm ne.t.2.2) (Ne.symm ne.sl.2) (Ne.symm ne.cl))⟩
end
end Tk
/-! text D12 -/
set_option maxHeartbeats 4000000
namespace Tk
open PySem L2
def askD (u : List Nat) : D := .t [.s "ask", wL u]
def proD (L : Mach) : D := .t [.s "propose", mD L]
theorem mkTw {H : Hp} {Q : VK} {vs : List V} (hl : vs.length ≤ 1000000) (q : ∀ p, H p = none → Q (.ref p) (upd H p (.tup vs))) : rMkT vs H Q := by
  unfold rMkT
  exact ⟨sz hl, q⟩
def pathD (M : Mach) (st : Nat) (w : List Nat) : D := .l ((List.range (w.length + 1)).map fun j => D.n (M.run st (w.take j)))
def sp_Asker__path (a : Ads) : Sp := fun vs H Q _ => ∃ (N : Fp) (p : AP) (k o m : Nat) (g : AG) (tl : List (Str × V)) (M : Mach) (st : Nat) (wv : V) (w : List Nat), vs = [.ref p.s, nV st, wv] ∧ Wf N H ∧ AskAt a N H p k o m g tl ∧ g.hy = some M ∧ M.Ok ∧ st < M.n ∧
  At N H wv (wT w) ∧ Wd M.k w ∧ w.length ≤ 400 ∧ ∀ (r : V) (H' : Hp), Sm H H' → At N H' r (pathD M st w) → Q r H'
def sp_Asker__begin (a : Ads) : Sp := fun vs H Q _ => ∃ (N : Fp) (p : AP) (k o m : Nat) (g : AG) (tl : List (Str × V)) (M : Mach) (st : Nat) (wv : V) (w : List Nat), vs = [.ref p.s, nV st, wv] ∧ Wf N H ∧ AskAt a N H p k o m g tl ∧ g.hy = some M ∧ M.Ok ∧ st < M.n ∧ M.n = g.S.length ∧
  TSz k g.S g.C ∧ At N H wv (wT w) ∧ Wd M.k w ∧ 0 < w.length ∧ w.length ≤ 400 ∧
  ∀ (H' : Hp) (h : Addr), H h = none → Ev (on p.s) H H' → Wf (ad h N) H' → AskAt a (ad h N) H' p k o m { g with se := some ⟨0, w.length, st, w, (List.range (w.length + 1)).map (plc M g.S st w), M.outp st w⟩ } tl → Q .non H'
section
variable {P : Program} {w : World} {K : PySem.W.Frag} {mg : Str → Option Value} {base : Heap} {a : Ads} {d : Fds}
theorem ok_Asker__path (T : TX K mg base a d) : FnOk P w K mg base CX0 1 a.f_Asker__path d.d_Asker__path ["self", "state", "word"] (sp_Asker__path a) := by
  refine T.F_Asker__path.ok sc_Asker__path (fun vs H Q E h => ?_) (fun cdv A outer s H vs Q E hr h => ?_)
  · obtain ⟨_, _, _, _, _, _, _, _, _, _, _, rfl, _⟩ := h
    rfl
  · obtain ⟨N, p, k, o, m, g, tl, M, st, wv, wd, rfl, W, hA, hy, hM, hst, hw, hwk, hwl, q⟩ := h
    have hu := hu_of hr
    refine ⟨_, (pss_cons (ps_set (i := 3) sc_Asker__path.nd rfl (Or.inl rfl) (pe_lstm (pa_cons (pv 1) pa_nil)))
    (pss_cons (ps_forT PassesOwn.never rfl (pv 2) (pg_name (i := 4) sc_Asker__path.nd rfl (Or.inl rfl)) (pss_one (ps_expr (pe_bmk K PySem.F.plainAttrs_list PySem.F.slot_list_append PySem.F.type_list_append mt_appendm (pv 3) (pa_cons (pe_ix (ix_tupk K) (pe_ix (ix_tupk K) (pe_ix (ix_tupk K) (pe_fldk K (pv 0) rfl) pe_int (fun _ _ => rfl)) (pe_ix (ix_listk K) (pv 3) (pe_un un_neg pe_int) (fun _ _ => rfl)) (fun _ _ => rfl)) (pv 4) (fun _ _ => rfl)) pa_nil)))))
    (pss_one (ps_ret (pv 3))))), ?_⟩
    obtain ⟨v, hI, hmv, _, _⟩ := hA.ins
    rw [hy] at hmv
    have hmv : At N H v.mv (mD M) := hmv
    refine ⟨_, rfl, newL W (ds := [D.n st]) (by simp) (.one (.n st)) fun l H1 hl s1 L1 W1 => ?_⟩
    have hm1 := hmv.ad hl s1
    have hI1 := hI.sm s1
    have nls : p.s ≠ l := fun e => hI.tr (e ▸ hl)
    have hsub : ∀ b, on l b → ad l N b := fun b z => .inl z
    refine ⟨_, rfl, ?_⟩
    refine forT (N := ad l N) (hw.ad hl s1) (fun i σ H' => Ev (on l) H1 H' ∧ Lst (ad l N) H' l ((List.range (i + 1)).map fun j => D.n (M.run st (wd.take j))) ∧ ∃ x4, σ = [some (.ref p.s), some (nV st), some wv, some (.ref l), x4]) ⟨.refl _ _, L1, none, rfl⟩ (fun i σ' H' h => h.1.mono hsub) ?_ ?_
    · rintro i e z σ' H2 he hz ⟨e2, L2, x4, rfl⟩
      obtain ⟨hi, rfl⟩ := word_get he
      rw [hz.isN]
      have hr1 : M.run st (wd.take i) < M.n := hM.run_lt _ hst
      have hm2 := hm1.evs e2 hsub
      refine ⟨_, rfl, L2.ty, _, rfl, fldR (hI1.ev e2 nls) T.cl_Asker T.n_Asker__machine rfl (ixT 2 hm2 rfl rfl fun z1 h1 => ⟨_, rfl, ?_⟩)⟩
      refine ⟨_, rfl, ?_⟩
      refine ixLast (L2.at (N' := fun b => ad l N b ∧ b ≠ l) (fun z => z.2 rfl) fun b z => z.1) (d := D.n (M.run st (wd.take i))) ?_ fun z2 h2 => ?_
      · rw [List.length_map, List.length_range, Nat.add_sub_cancel, get_map (by rw [List.length_range]; omega), List.getElem_range]
      · rw [h2.isN]
        refine ixT _ h1 (mv_get hM hr1) rfl fun z3 h3 => ⟨_, rfl, ixT _ h3 (row_get hM hr1 (hwk _ (List.getElem_mem hi))) rfl fun z4 h4 => ?_⟩
        refine appL (N := ad l N) L2 (.inl rfl) h4 (by simp; omega) fun H3 e3 L3 => ?_
        refine ⟨e2.trans e3, ?_, _, rfl⟩
        rw [List.range_succ, List.map_append]
        have : M.run st (wd.take (i + 1)) = M.st (M.run st (wd.take i)) wd[i] := by
          rw [List.take_succ_eq_append_getElem hi, Mach.run_append]; rfl
        show Lst _ _ _ (_ ++ [D.n (M.run st (wd.take (i + 1)))])
        rw [this]
        exact L3
    · rintro σ' H2 ⟨e2, L2, x4, rfl⟩
      rw [List.length_map] at L2
      exact ⟨_, rfl, q _ _ (s1.then e2 fun b z => .inr (z ▸ hl)) (L2.at (fun z => W.no hl z) fun b z => .inr z)⟩
theorem ok_Asker__begin (T : TX K mg base a d) : FnOk P w K mg base CX0 3 a.f_Asker__begin d.d_Asker__begin ["self", "state", "word"] (sp_Asker__begin a) := by
  refine T.F_Asker__begin.ok sc_Asker__begin (fun vs H Q E h => ?_) (fun cdv A outer s H vs Q E hr h => ?_)
  · obtain ⟨_, _, _, _, _, _, _, _, _, _, _, rfl, _⟩ := h
    rfl
  · obtain ⟨N, p, k, o, m, g, tl, M, st, wv, wd, rfl, W, hA, hy, hM, hst, hMS, hz, hw, hwk, hw0, hwl, q⟩ := h
    have hu := hu_of hr
    refine ⟨_, (pss_cons (ps_set (i := 3) sc_Asker__begin.nd rfl (Or.inr rfl) (pe_meth (pv 0) T.cl_Asker T.M_Asker__path (ok_Asker__path T) (hr.mono (by decide)) T.B_Asker__path .nil pass0 (pa_cons (pv 1) (pa_cons (pv 2) pa_nil))))
    (pss_cons (ps_set (i := 4) sc_Asker__begin.nd rfl (Or.inr rfl) (peLk K (pe_lc (own := [("one", 6)]) rfl sc_Asker__begin.nd (pi_listk K (pe_meth0 (pe_fldk K (pv 0) rfl) T.cl_Table T.M_Table_state_words (ok_Table_state_words T) (hr.mono (by decide)) T.B_Table_state_words .nil pass0)) (blkOk_by (own := [("one", 6)]) (N := N_Asker__begin) (sc := defScope s_Asker__begin) (by decide +kernel)) (fun _ _ _ _ _ => (pg_name (i := 6) sc_Asker__begin.nd rfl (Or.inl rfl))) (fun _ _ _ _ _ => pts_nil) (fun _ _ _ _ _ => (pe_callTy (cr_tupk K) (by rfl) T.b_tuple (by decide +kernel) (pa_cons (pv 6) pa_nil))))))
    (pss_cons (psR (ps_setLc (i := 5) (own := [("at", 7)]) rfl sc_Asker__begin.nd rfl rfl (sw_true rfl rfl rfl (by decide +kernel)) (pi_range1 rfl T.b_range (pa_cons (pe_op op_add (pe_callB (cr_lenk K) (by rfl) T.b_len (by decide +kernel) (pa_cons (pv 2) pa_nil)) pe_int) pa_nil)) (blkOk_by (own := [("at", 7)]) (N := N_Asker__begin) (sc := defScope s_Asker__begin) (by decide +kernel)) (fun _ _ _ _ _ => (pg_name (i := 7) sc_Asker__begin.nd rfl (Or.inl rfl))) (fun _ _ _ _ _ => pts_nil) (fun _ _ _ _ _ => (pe_op (op_catTk K) (pe_ix (ix_listk K) (pv 4) (pe_ix (ix_listk K) (pv 3) (pv 7) (fun _ _ => rfl)) (fun _ _ => rfl)) (pe_slice (sl_tupk K) (pv 2) (po_some (pv 7)) po_none)))))
    (pss_one (ps_fldk K (pv 0) (pe_tupm (pa_cons (pe_make T.mk_Halving (ok_Halving___init__ T) (hr.mono (by decide)) rfl T.g_Halving T.B_Halving___init__ .nil pass0 (pa_cons (pe_callB (cr_lenk K) (by rfl) T.b_len (by decide +kernel) (pa_cons (pv 2) pa_nil)) pa_nil)) (pa_cons (pv 5) (pa_cons (pe_ix (ix_tupk K) (pe_ix (ix_tupk K) (pe_fldk K (pv 0) rfl) pe_int (fun _ _ => rfl)) (pe_ix (ix_listk K) (pv 3) (pe_un un_neg pe_int) (fun _ _ => rfl)) (fun _ _ => rfl)) (pa_cons (pv 2) pa_nil))))) rfl))))), ?_⟩
    obtain ⟨v, hI, hmv, hsv, hev⟩ := hA.ins
    have hmv' : At N H v.mv (mD M) := by rw [hy] at hmv; exact hmv
    have hI0 := hI
    obtain ⟨dx, hH⟩ := hI0
    refine ⟨_, rfl, p.s, dx, _, rfl, hH, (hA.tlk.look rfl : _), _, rfl, _, rfl, N, p, k, o, m, g, tl, M, st, wv, wd, rfl, W, hA, hy, hM, hst, hw, hwk, hwl, fun pv H1 s1 hpv => ?_⟩
    have hA1 := hA.sm s1
    have hI1 := hI.sm s1
    obtain ⟨rv, hT1, hrv⟩ := hA1.tb.ex
    obtain ⟨dt, hHt⟩ := hT1
    refine ⟨_, rfl, fldR hI1 T.cl_Asker T.n_Asker__table rfl ⟨p.t, dt, _, rfl, hHt, rfl, N, p.t, p.sl, p.cl, k, g.S, g.C, rfl, W.ev s1, hA1.tb, hz, fun sv H2 s2 hsv2 => ?_⟩⟩
    have W2 := W.ev (s1.trans s2)
    refine lcL g.S wL wT W2 hsv2 (by have := hz.s; omega) (fun _ => rfl) (fun u hu z H' N' s' W' _ hn' hz' R k' => ⟨_, rfl, tupL W' hz' fun p3 H3 s3 h3 => k' _ _ s3 h3⟩) fun p3 H3 s3 hp3 hw3 => ?_
    have s03 := (s1.trans s2).trans s3
    have s13 := s2.trans s3
    have W3 := W.ev s03
    have hpv3 := hpv.sm s13
    have hw3' := hw.sm s03
    have hrl : ∀ j, M.run st (wd.take j) < g.S.length := fun j => by rw [← hMS]; exact hM.run_lt _ hst
    refine ⟨_, rfl, lenT hw3' ⟨_, _, rfl, rfl, ?_⟩⟩
    rw [List.length_map]
    refine lcR (wd.length + 1) (fun j => wT (plc M g.S st wd j)) W3 rfl (by omega) (fun _ => rfl) (fun j hj H' N' s' W' _ hn' R k' => ?_) fun p4 H4 s4 hp4 h4 => ?_
    · refine ⟨_, rfl, _, rfl, _, rfl, ixL j (hpv3.up s' hn') (d := .n (M.run st (wd.take j))) ?_ rfl fun z5 h5 => ?_⟩
      · rw [get_map (by rw [List.length_range]; omega), List.getElem_range]
      · have hrj := hrl j
        refine ixL _ (hw3.up s' hn') (d := wT (g.S.getD (M.run st (wd.take j)) [])) (by rw [get_map hrj, getD_lt hrj]) h5.isN fun z6 h6 => ?_
        refine ⟨_, rfl, _, rfl, _, rfl, slT j W' (hw3'.up s' hn') fun z7 H7 s7 h7 => ?_⟩
        refine catT (W'.ev s7) (h6.sm s7) h7 (ds := (g.S.getD (M.run st (wd.take j)) []).map D.n) (es := (wd.map D.n).drop j) ?_ fun z8 H8 s8 h8 => k' _ _ (s7.trans s8) ?_
        · have := hz.sw _ (getD_mem (d := []) hrj)
          rw [List.length_map, List.length_drop, List.length_map]; omega
        · unfold wT plc
          rw [List.map_append, List.map_drop]
          exact h8
    · have s04 := s03.trans s4
      have W4 := W3.ev s4
      refine ⟨_, rfl, lenT (hw3'.sm s4) ?_⟩
      rw [List.length_map]
      intro hh dx' hhh hdx hne
      have f1 : Sm H4 (upd H4 dx' (.own hh)) := .new hdx
      have f2 : Sm (upd H4 dx' (.own hh)) (upd (upd H4 dx' (.own hh)) hh (.ins a.C_Halving dx' [])) := .new (by rw [upd_ne (Ne.symm hne)]; exact hhh)
      have i5 : Ins (upd (upd H4 dx' (.own hh)) hh (.ins a.C_Halving dx' [])) hh a.C_Halving [] := ⟨dx', upd_same⟩
      have f12 := f1.trans f2
      generalize upd (upd H4 dx' (.own hh)) hh (.ins a.C_Halving dx' []) = H5 at f12 i5
      refine ⟨hh, wd.length, rfl, hw0, i5, fun H6 e6 i6 => ⟨rfl, ?_⟩⟩
      have hh0 : H hh = none := s04.free hhh
      have s46 : Sm H4 H6 := f12.then e6 fun b z => .inr ((show b = hh from z) ▸ hhh)
      have s06 := s04.trans s46
      have W6 : Wf (ad hh N) H6 := by
        obtain ⟨dz, hz6⟩ := i6
        exact (W.ev s06).ad hz6
      have hA6 : AskAt a (ad hh N) H6 p k o m g tl := hA.ad hh0 s06
      have hI6 := hI.sm s06
      refine ⟨_, rfl, _, rfl, fldR hI6 T.cl_Asker T.n_Asker__machine rfl (ixT 3 (hmv'.sm s06) rfl rfl fun z7 h7 => ⟨_, rfl, ⟨_, rfl, ?_⟩⟩)⟩
      refine ixLast ((hpv3.sm s4).sm s46) (d := D.n (M.run st (wd.take wd.length))) ?_ fun z8 h8 => ?_
      · rw [List.length_map, List.length_range, Nat.add_sub_cancel, get_map (by rw [List.length_range]; omega), List.getElem_range]
      · rw [List.take_of_length_le (Nat.le_refl _)] at h8
        refine ixF _ h7 (out_get (hM.run_lt wd hst)) h8.isN fun z9 h9 => ⟨_, rfl, mkTw (by simp) fun ea hea => ?_⟩
        rw [h9.isN]
        have s7 : Sm H6 (upd H6 ea (.tup [.ref hh, .ref p4, nV (M.ou (M.run st wd)), wv])) := .new hea
        have e7 : upd H6 ea (.tup [.ref hh, .ref p4, nV (M.ou (M.run st wd)), wv]) ea = some (.tup [.ref hh, .ref p4, nV (M.ou (M.run st wd)), wv]) := upd_same
        have nea : ¬ ad hh N ea := W6.no hea
        generalize upd H6 ea (.tup [.ref hh, .ref p4, nV (M.ou (M.run st wd)), wv]) = H7 at s7 e7
        have s07 := s06.trans s7
        have hlen : (aF p k o m v tl).length < 1000 := by
          have := hA.tlk.len
          simp only [List.length_cons]
          omega
        refine ⟨_, rfl, fldS (hI6.sm s7) T.cl_Asker T.n_Asker__search hlen fun H8 e8 I8 => ?_⟩
        have nhs : hh ≠ p.s := fun e => hI.tr (e ▸ hh0)
        have hhall : hh ∉ p.all := fun z => W.no hh0 (hA.all _ z)
        have os : ∀ b, on p.s b → ad hh N b := onN (.inr (hA.all _ AP.mem.1))
        refine q H8 hh hh0 ((Ev.of s07).trans e8) ((W6.ev s7).ev e8) ?_
        have hA7 := hA6.sm s7
        refine AskAt.fld (v := { v with ev := .ref ea }) hA7 e8 hA.tlk I8 ?_ ?_ ?_
        · obtain ⟨v', i1, i2, i3, i4⟩ := hA7.ins
          exact (hmv.upE (N' := ad hh N) s07 (fun _ z => z.elim) fun b z => z.elim (fun w => .inr (w ▸ hh0)) .inl).upE e8 os fun _ z => .inl z
        · exact (hsv.upE (N' := ad hh N) s07 (fun _ z => z.elim) fun b z => z.elim (fun w => .inr (w ▸ hh0)) .inl).upE e8 os fun _ z => .inl z
        · refine ⟨ea, hh, .ref p4, wv, rfl, nea, e8.kp _ _ e7 fun z => nea (os _ z), (i6.sm s7).ev e8 nhs, .inl rfl, hhall, ?_, ?_⟩
          · have h4' := ((h4.ad hhh (f12.then e6 fun b z => .inr ((show b = hh from z) ▸ hhh))).sm s7).evs e8 os
            rw [List.map_map]
            exact h4'
          · exact ((hw.ad hh0 s06).sm s7).evs e8 os
end
end Tk
/-! text D13 -/
set_option maxHeartbeats 4000000
namespace Tk
open PySem L2
structure Grow (N N' : Fp) (H : Hp) : Prop where
  up : ∀ b, N b → N' b
  new : ∀ b, N' b → N b ∨ H b = none
theorem Grow.refl {N : Fp} {H : Hp} : Grow N N H := ⟨fun _ z => z, fun _ z => .inl z⟩
theorem Grow.trans {N N1 N2 F : Fp} {H H1 : Hp} (a : Grow N N1 H) (b : Grow N1 N2 H1) (e : Ev F H H1) : Grow N N2 H := ⟨fun x z => b.up x (a.up x z), fun x z => (b.new x z).elim (a.new x) fun w => .inr (e.th x w)⟩
theorem Grow.ad {N : Fp} {H : Hp} {b : Addr} (h : H b = none) : Grow N (Tk.ad b N) H := ⟨fun _ z => .inr z, fun _ z => z.elim (fun e => .inr (e ▸ h)) .inl⟩
/-- an event within the places that have grown, seen from before -/
theorem Ev.grow {N N1 : Fp} {H H1 H2 : Hp} (e : Ev N H H1) (f : Ev N1 H1 H2) (g : Grow N N1 H) : Ev N H H2 := e.then f fun b z => g.new b z
def StepV (B : Mach) (Lw : Nat) (N : Fp) (H : Hp) (r : V) (g : AG) : Prop :=
  (∃ u, At N H r (askD u) ∧ g.ps.lookup u = none ∧ Cov B Lw g u) ∨ ∃ L, At N H r (proD L) ∧ IsL (Hyp B g) L ∧ Rdy B g ∧ Idle g
structure TurnPost (a : Ads) (B : Mach) (m Lw : Nat) (N : Fp) (H : Hp) (p : AP) (tl : List (Str × V)) (g : AG) (fr : Bool) (Q : VK) : Prop where
  go : ∀ (N' : Fp) (p' : AP) (H' : Hp) (g' : AG) (fr' : Bool), Grow N N' H → Ev N H H' → Wf N' H' → p'.s = p.s → AskAt a N' H' p' B.k B.o m g' tl → AI B Lw g' → Nxt B Lw g g' → FrOk fr' g' → mu B g' fr' < mu B g fr → Q .non H'
  out : ∀ (r : V) (N' : Fp) (p' : AP) (H' : Hp) (g' : AG), Grow N N' H → Ev N H H' → Wf N' H' → p'.s = p.s → AskAt a N' H' p' B.k B.o m g' tl → AI B Lw g' → Nxt B Lw g g' → StepV B Lw N' H' r g' → Q r H'
def sp_turn (a : Ads) (pre : AG → Prop) : Sp := fun vs H Q _ => ∃ (N : Fp) (p : AP) (tl : List (Str × V)) (B : Mach) (m Lw : Nat) (g : AG) (fr : Bool), vs = [.ref p.s] ∧ Wf N H ∧ AskAt a N H p B.k B.o m g tl ∧ Par B m Lw ∧ AI B Lw g ∧ FrOk fr g ∧ pre g ∧ TurnPost a B m Lw N H p tl g fr Q
def sp_Asker__look (a : Ads) : Sp := sp_turn a fun g => g.se.isSome = true
def sp_Asker__judge (a : Ads) : Sp := sp_turn a fun g => g.sh.isSome = true ∧ g.se = none
def sp_Asker__fill (a : Ads) : Sp := sp_turn a Idle
theorem Par.tz {B : Mach} {m Lw : Nat} {S C : List (List Nat)} (h : Par B m Lw) (i : TI B Lw S C) : TSz B.k S C := by
  have h1 := i.sn h.ok
  have h2 := i.cle h.ok
  have h3 := h.n
  have h4 := h.lw
  have h5 := h.k
  exact ⟨by omega, by omega, by omega, fun w hw => by have := (i.smem h.ok hw).2; omega, fun c hc => by have := (i.cw c hc).2; omega⟩
section
variable {a : Ads} {N N' F : Fp} {H H' : Hp} {p : AP} {k o m : Nat} {g : AG} {tl : List (Str × V)}
/-- the halving is written -/
theorem AskAt.half (h : AskAt a N H p k o m g tl) {hh : Addr} (hn : N hh) (nh : hh ∉ p.all) (e : Ev (on hh) H H') {se : Option SE} {v : AV} (hI : Ins H p.s a.C_Asker (aF p k o m v tl)) (h1 : hyV N H v.mv g.hy) (h2 : shV N H v.sv g.sh) (h3 : seV a N H' p v.ev se) :
    AskAt a N H' p k o m { g with se := se } tl := by
  have s := onN (N := N) hn
  have ne : ∀ b ∈ p.all, ¬ on hh b := fun b hb z => nh ((show b = hh from z) ▸ hb)
  obtain ⟨rs, r1, r2⟩ := h.rl
  obtain ⟨c0, c1, c2, c3, hc⟩ := h.cn
  have M := AP.mem (p := p)
  exact ⟨h.all, h.nd, h.tlk, ⟨v, hI.ev e (ne _ M.1), h1.upE e s fun _ z => .inl z, h2.upE e s fun _ z => .inl z, h3⟩, e.kp _ _ h.kn (ne _ M.2.1), ⟨rs, r1.ev e s (ne _ M.2.2.1), r2⟩, ⟨c0, c1, c2, c3, hc.ev e s (ne _ M.2.2.2.1)⟩,
    h.tb.ev e s (ne _ M.2.2.2.2.1) (ne _ M.2.2.2.2.2.1) (ne _ M.2.2.2.2.2.2.1), h.qu.ev e s (ne _ M.2.2.2.2.2.2.2)⟩
theorem AskAt.ghost {g' : AG} (h : AskAt a N H p k o m g tl) (e1 : g'.S = g.S) (e2 : g'.C = g.C) (e3 : g'.ps = g.ps) (e4 : g'.hy = g.hy) (e5 : g'.sh = g.sh) (e6 : g'.se = g.se) (e7 : g'.qu = g.qu) (e8 : g'.rc = g.rc) : AskAt a N H p k o m g' tl := by
  refine ⟨h.all, h.nd, h.tlk, ?_, ?_, ?_, h.cn, ?_, ?_⟩
  · rw [e4, e5, e6]; exact h.ins
  · rw [e3]; exact h.kn
  · rw [e8]; exact h.rl
  · rw [e1, e2]; exact h.tb
  · rw [e7]; exact h.qu
theorem aF_len {p : AP} {v : AV} (h : TlOk tl) : (aF p k o m v tl).length < 1000 := by
  have := h.len
  simp only [List.length_cons]
  omega
end
section
variable {P : Program} {w : World} {K : PySem.W.Frag} {mg : Str → Option Value} {base : Heap} {a : Ads} {d : Fds}
theorem ok_Asker__look (T : TX K mg base a d) : FnOk P w K mg base CX0 3 a.f_Asker__look d.d_Asker__look ["self"] (sp_Asker__look a) := by
  refine T.F_Asker__look.ok sc_Asker__look (fun vs H Q E h => ?_) (fun cdv A outer s H vs Q E hr h => ?_)
  · obtain ⟨_, _, _, _, _, _, _, _, rfl, _⟩ := h
    rfl
  · obtain ⟨N, p, tl, B, m, Lw, g, fr, rfl, W, hA, HP, hi, hfr, hpre, post⟩ := h
    have hu := hu_of hr
    refine ⟨_, (pss_cons (ps_asg (pe_fldk K (pv 0) rfl) (pg_tup rfl (pgs_cons (pg_name (i := 1) sc_Asker__look.nd rfl (Or.inl rfl)) (pgs_cons (pg_name (i := 2) sc_Asker__look.nd rfl (Or.inl rfl)) (pgs_cons (pg_name (i := 3) sc_Asker__look.nd rfl (Or.inl rfl)) (pgs_cons (pg_name (i := 4) sc_Asker__look.nd rfl (Or.inl rfl)) pgs_nil))))))
    (pss_cons (ps_set (i := 5) sc_Asker__look.nd rfl (Or.inl rfl) (pe_meth0 (pv 1) T.cl_Halving T.M_Halving_place (ok_Halving_place T) (hr.mono (by decide)) T.B_Halving_place .nil pass0))
    (pss_cons (ps_if (pt_cmp (pc_isN (pv 5))) (pss_cons (ps_fldk K (pv 0) pe_non rfl)
      (pss_cons (ps_expr (pe_meth (pe_fldk K (pv 0) rfl) T.cl_Table T.M_Table_add_column (ok_Table_add_column T) (hr.mono (by decide)) T.B_Table_add_column .nil pass0 (pa_cons (pe_callTy (cr_listk K) (by rfl) T.b_list (by decide +kernel) (pa_cons (pe_slice (sl_tupk K) (pv 4) (po_some (pe_op op_add (pe_meth0 (pv 1) T.cl_Halving T.M_Halving_found (ok_Halving_found T) (hr.mono (by decide)) T.B_Halving_found .nil pass0) pe_int)) po_none) pa_nil)) pa_nil)))
      (pss_one (ps_ret pe_non)))) pss_nil)
    (pss_cons (ps_if (pt_cmp (pc_dnotin hu (pe_ix (ix_listk K) (pv 2) (pv 5) (fun _ _ => rfl)) (pe_fldk K (pv 0) rfl))) (pss_one (ps_ret (pe_tupm (pa_cons pe_str (pa_cons (pe_callTy (cr_listk K) (by rfl) T.b_list (by decide +kernel) (pa_cons (pe_ix (ix_listk K) (pv 2) (pv 5) (fun _ _ => rfl)) pa_nil)) pa_nil))))) pss_nil)
    (pss_cons (ps_expr (pe_meth (pv 1) T.cl_Halving T.M_Halving_tell (ok_Halving_tell T) (hr.mono (by decide)) T.B_Halving_tell .nil pass0 (pa_cons (pe_cmpR op_ne (pe_dget hu (pe_fldk K (pv 0) rfl) (pe_ix (ix_listk K) (pv 2) (pv 5) (fun _ _ => rfl)) (fun _ _ => rfl)) (pv 3) (nomark _)) pa_nil)))
    (pss_one (ps_ret pe_non))))))), ?_⟩
    obtain ⟨v, hI, hmv, hsv, hev⟩ := hA.ins
    cases hse : g.se with
    | none => rw [hse] at hpre; cases hpre
    | some e =>
      rw [hse] at hev
      obtain ⟨ea, hh, pv, wv, e1, e2, e3, e4, e5, e6, e7, e8⟩ := hev
      obtain ⟨rdy, hsh, sok⟩ := hi.se e hse
      refine ⟨_, rfl, fldR hI T.cl_Asker T.n_Asker__search rfl ?_⟩
      rw [e1]
      refine ⟨ea, _, rfl, SqT.of e3, rfl, _, _, rfl, _, _, rfl, _, _, rfl, _, _, rfl, rfl, ?_⟩
      obtain ⟨dh, hHh⟩ := e4
      refine ⟨_, rfl, hh, dh, _, rfl, hHh, rfl, hh, e.lo, e.hi, rfl, sok.lh, ⟨dh, hHh⟩, fun H1 s1 => ?_⟩
      have hA1 := hA.sm s1
      have hI1 := hI.sm s1
      have W1 := W.ev s1
      have i1 : HalvAt a H1 hh e.lo e.hi := Ins.sm ⟨dh, hHh⟩ s1
      unfold hPl
      by_cases h1 : e.hi - e.lo = 1
      · rw [if_pos h1]
        have hhl : e.hi = e.lo + 1 := by have := sok.lh; omega
        refine ⟨_, rfl, _, rfl, ifT rfl ?_⟩
        refine ⟨_, rfl, fldS hI1 T.cl_Asker T.n_Asker__search (aF_len hA.tlk) fun H2 e2' I2 => ?_⟩
        have os := onN (N := N) (hA.all _ AP.mem.1)
        have A2 : AskAt a N H2 p B.k B.o m { g with hy := g.hy, sh := g.sh, se := none } tl := AskAt.fld (v := { v with ev := .non }) hA1 e2' hA.tlk I2 ((hmv.upE (N' := N) s1 (fun _ z => z.elim) fun _ z => .inl z).upE e2' os fun _ z => .inl z) ((hsv.upE (N' := N) s1 (fun _ z => z.elim) fun _ z => .inl z).upE e2' os fun _ z => .inl z) rfl
        have W2 := W1.ev e2'
        have nhs : hh ≠ p.s := fun z => e6 (z ▸ AP.mem.1)
        have i2 : HalvAt a H2 hh e.lo (e.lo + 1) := by rw [← hhl]; exact i1.ev e2' nhs
        obtain ⟨dh2, hHh2⟩ := i2
        obtain ⟨rv, ⟨dt, hHt⟩, hrv⟩ := A2.tb.ex
        have hw2 : At N H2 wv (wT e.w) := (e8.sm s1).evs e2' os
        refine ⟨_, rfl, fldR I2 T.cl_Asker T.n_Asker__table rfl ⟨p.t, dt, _, rfl, hHt, rfl, _, rfl, _, rfl, hh, dh2, _, rfl, hHh2, rfl, hh, e.lo, rfl, ⟨dh2, hHh2⟩, fun H3 s3 => ?_⟩⟩
        refine ⟨_, _, rfl, rfl, _, rfl, slT (e.lo + 1) (W2.ev s3) (hw2.sm s3) fun z4 H4 s4 h4 => listT h4 fun p5 vs5 hp5 hvs5 => ?_⟩
        have W4 := (W2.ev s3).ev s4
        have s5 : Sm H4 (upd H4 p5 (.lst vs5)) := .new hp5
        have h5 : At N (upd H4 p5 (.lst vs5)) (.ref p5) (wL (e.w.drop (e.lo + 1))) := by
          unfold wL
          rw [List.map_drop]
          exact .mkL W4 hp5 hvs5
        generalize upd H4 p5 (.lst vs5) = H5 at s5 h5
        have s25 := (s3.trans s4).trans s5
        have A5 := A2.sm s25
        obtain ⟨f1, hi'⟩ := hi.col HP hse hhl
        refine ⟨N, p.t, p.sl, p.cl, B.k, g.S, g.C, .ref p5, e.w.drop (e.lo + 1), rfl, W2.ev s25, A5.tb, HP.tz hi.ti, h5, f1, fun H6 e6' t6 => ?_⟩
        have A6 := AskAt.table (S := g.S) (C := g.C ++ [e.w.drop (e.lo + 1)]) A5 e6' (fun b z => .inr (.inr z)) t6
        obtain ⟨nx, mx⟩ := nxt_col hi HP hse _ hi' fr false
        have oc : ∀ b, on p.cl b → N b := onN (hA.all _ AP.mem.2.2.2.2.2.2.1)
        exact post.go N p H6 _ false .refl ((((Ev.of s1).trans (e2'.mono os)).trans (.of s25)).trans (e6'.mono oc)) ((W2.ev s25).ev e6') rfl A6 hi' nx (fun z => nomatch z) mx
      · rw [if_neg h1]
        refine ⟨_, rfl, _, rfl, ifF (decide_eq_false fun z => nomatch z) ?_⟩
        have b1 : e.lo < (e.lo + e.hi) / 2 := by have := sok.lh; omega
        have b2 : (e.lo + e.hi) / 2 < e.hi := by have := sok.lh; omega
        generalize hqe : (e.lo + e.hi) / 2 = q at b1 b2 ⊢
        have hql : q < e.w.length + 1 := by have := sok.hl; omega
        have hpl : (e.pl.map wT)[q]? = some (wT (plc (Hyp B g) g.S e.st e.w q)) := by
          rw [sok.pl, List.map_map, get_map (by rw [List.length_range]; exact hql), List.getElem_range]
          rfl
        have hpm : plc (Hyp B g) g.S e.st e.w q ∈ e.pl := by
          rw [sok.pl]
          exact List.mem_map.mpr ⟨q, List.mem_range.mpr hql, rfl⟩
        refine ⟨_, rfl, _, rfl, ixL q (e7.sm s1) hpl rfl fun z3 h3 => ⟨_, rfl, fldR hI1 T.cl_Asker T.n_Asker__known rfl ⟨p.kd, _, rfl, dgetO_Dt hA1.kn h3, ?_⟩⟩⟩
        cases hlk : g.ps.lookup (plc (Hyp B g) g.S e.st e.w q) with
        | none =>
          refine ⟨_, rfl, ifT rfl ?_⟩
          refine ⟨_, rfl, _, rfl, ixL q (e7.sm s1) hpl rfl fun z4 h4 => listT h4 fun p5 vs5 hp5 hvs5 => ?_⟩
          have s5 : Sm H1 (upd H1 p5 (.lst vs5)) := .new hp5
          have h5 : At N (upd H1 p5 (.lst vs5)) (.ref p5) (wL (plc (Hyp B g) g.S e.st e.w q)) := .mkL W1 hp5 hvs5
          generalize upd H1 p5 (.lst vs5) = H5 at s5 h5
          refine mkT (W1.ev s5) (by simp) (.cons (.s _) (.cons h5 .nil)) fun p6 H6 s6 h6 => ?_
          have s06 := (s1.trans s5).trans s6
          exact post.out _ N p H6 g .refl (.of s06) (W.ev s06) rfl (hA.sm s06) hi .refl (.inl ⟨_, h6, hlk, sok.place HP hi.ti rdy.cls hpm⟩)
        | some y =>
          have hy := hi.look hlk
          refine ⟨_, rfl, ifF rfl ?_⟩
          obtain ⟨dh1, hHh1⟩ := i1
          refine ⟨_, rfl, hh, dh1, _, rfl, hHh1, rfl, _, rfl, fldR hI1 T.cl_Asker T.n_Asker__known rfl ⟨_, rfl, _, rfl, ixL q (e7.sm s1) hpl rfl fun z4 h4 => ⟨p.kd, _, rfl, dget_Dt hA1.kn h4 hlk, ⟨_, rfl, rfl, ?_⟩⟩⟩⟩
          have nh0 : hh ∉ p.all := e6
          refine ⟨hh, e.lo, e.hi, _, rfl, by omega, ⟨dh1, hHh1⟩, fun H2 e2' ht hf => ?_⟩
          rw [hqe] at ht hf
          have eb : (!decide (nV y = nV e.out)) = !decide (fB B (plc (Hyp B g) g.S e.st e.w q) = e.out) := by
            rw [hy]
            congr 1
            refine decide_eq_decide.mpr ⟨fun z => by unfold nV at z; injection z with z; exact Int.ofNat.inj z, fun z => by rw [z]⟩
          have eb' : (!decide (V.int (y : Int) = nV e.out)) = !decide (fB B (plc (Hyp B g) g.S e.st e.w q) = e.out) := eb
          have hse' : seV a N H2 p v.ev (some (e.up q (!decide (fB B (plc (Hyp B g) g.S e.st e.w q) = e.out)))) := by
            have oh := onN (N := N) e5
            have up : ∀ {lo hi : Nat}, HalvAt a H2 hh lo hi → ∀ e' : SE, e'.lo = lo → e'.hi = hi → e'.w = e.w → e'.pl = e.pl → e'.out = e.out → seV a N H2 p v.ev (some e') := fun hv e' q1 q2 q3 q4 q5 =>
              ⟨ea, hh, pv, wv, e1, e2, by rw [q5]; exact e2'.kp _ _ (s1.at e3) fun z => e2 (oh _ z), by rw [q1, q2]; exact hv, e5, e6, by rw [q4]; exact (e7.sm s1).evs e2' oh, by rw [q3]; exact (e8.sm s1).evs e2' oh⟩
            cases hb : (!decide (fB B (plc (Hyp B g) g.S e.st e.w q) = e.out)) with
            | true => exact up (ht (eb.trans hb)) _ rfl rfl rfl rfl rfl
            | false => exact up (hf (eb.trans hb)) _ rfl rfl rfl rfl rfl
          have A2 := AskAt.half hA1 e5 e6 e2' hI1 (hmv.upE (N' := N) s1 (fun _ z => z.elim) fun _ z => .inl z) (hsv.upE (N' := N) s1 (fun _ z => z.elim) fun _ z => .inl z) hse'
          obtain ⟨nx, mx⟩ := nxt_tell hi hse (!decide (fB B (plc (Hyp B g) g.S e.st e.w q) = e.out)) b1 b2 fr false
          exact post.go N p H2 _ false .refl ((Ev.of s1).trans (e2'.mono (onN e5))) (W1.ev e2') rfl A2 (hi.tell hse b1 b2) nx (fun z => nomatch z) mx
end
end Tk
/-! text D14 -/
set_option maxHeartbeats 4000000
namespace Tk
open PySem L2
section
variable {a : Ads} {N N' F : Fp} {H H' H1 : Hp} {p : AP} {k o m : Nat} {g : AG} {tl : List (Str × V)} {B : Mach} {Lw : Nat}
theorem hyVs {v : V} {x : Option Mach} (h : hyV N H v x) (e : Sm H H') : hyV N H' v x := h.upE e (fun _ z => z.elim) fun _ z => .inl z
theorem shVs {v : V} {x : Option (List Nat)} (h : shV N H v x) (e : Sm H H') : shV N H' v x := h.upE e (fun _ z => z.elim) fun _ z => .inl z
theorem seVs {v : V} {x : Option SE} (h : seV a N H p v x) (e : Sm H H') : seV a N H' p v x := h.upE e (fun _ z => z.elim) (fun _ z => z) (fun _ z => .inl z) fun _ z => z.elim
/-- a new queue -/
theorem AskAt.newq (h : AskAt a N H p k o m g tl) {q : Addr} (hq : H q = none) (s : Sm H H1) (e : Ev (on p.s) H1 H') {v : AV} {qu : List (List Nat)} (hI : Ins H p.s a.C_Asker (aF p k o m v tl)) (h1 : hyV N H v.mv g.hy) (h2 : shV N H v.sv g.sh) (h3 : seV a N H p v.ev g.se)
    (hI' : Ins H' p.s a.C_Asker (aF { p with qa := q } k o m v tl)) (L : Lst (Tk.ad q N) H1 q (qu.map wL)) : AskAt a (Tk.ad q N) H' { p with qa := q } k o m { g with qu := qu } tl := by
  have ne := AP.ne h.nd
  have ns : ∀ b ∈ p.all, b ≠ q := fun b hb z => by
    have t : H b ≠ none := by
      have M := AP.mem (p := p)
      simp only [AP.all, List.mem_cons, List.not_mem_nil, or_false] at hb
      rcases hb with rfl | rfl | rfl | rfl | rfl | rfl | rfl | rfl
      · exact hI.tr
      · have := h.kn; intro z; have h' : H p.kd = _ := this; rw [z] at h'; cases h'
      · obtain ⟨rs, r, _⟩ := h.rl; exact r.tr
      · obtain ⟨_, _, _, _, r⟩ := h.cn; exact r.tr
      · obtain ⟨_, r, _⟩ := h.tb.ex; exact r.tr
      · exact h.tb.st.tr
      · exact h.tb.co.tr
      · exact h.qu.tr
    exact t (z ▸ hq)
  have M := AP.mem (p := p)
  have gw : ∀ b, Tk.ad q N b → N b ∨ H b = none := fun b z => z.elim (fun w => .inr (w ▸ hq)) .inl
  have os : ∀ b, on p.s b → Tk.ad q N b := onN (.inr (h.all _ M.1))
  obtain ⟨rs, r1, r2⟩ := h.rl
  obtain ⟨c0, c1, c2, c3, hc⟩ := h.cn
  have z0 : ∀ b, F0 b → N b := fun _ z => z.elim
  refine ⟨fun b hb => ?_, AP.of ⟨⟨ne.s.1, ne.s.2.1, ne.s.2.2.1, ne.s.2.2.2.1, ne.s.2.2.2.2.1, ne.s.2.2.2.2.2.1, ns _ M.1⟩, ⟨ne.kd.1, ne.kd.2.1, ne.kd.2.2.1, ne.kd.2.2.2.1, ne.kd.2.2.2.2.1, ns _ M.2.1⟩, ⟨ne.rl.1, ne.rl.2.1, ne.rl.2.2.1, ne.rl.2.2.2.1, ns _ M.2.2.1⟩, ⟨ne.cn.1, ne.cn.2.1, ne.cn.2.2.1, ns _ M.2.2.2.1⟩, ⟨ne.t.1, ne.t.2.1, ns _ M.2.2.2.2.1⟩, ⟨ne.sl.1, ns _ M.2.2.2.2.2.1⟩, ns _ M.2.2.2.2.2.2.1⟩, h.tlk,
    ⟨v, hI', (h1.upE s z0 gw).upE e os fun _ z => .inl z, (h2.upE s z0 gw).upE e os fun _ z => .inl z, ?_⟩, ?_, ⟨rs, (r1.upE s z0 gw (fun z => z)).ev e os fun z => ne.s.2.1 (Eq.symm z), r2⟩, ⟨c0, c1, c2, c3, (hc.upE s z0 gw (fun z => z)).ev e os fun z => ne.s.2.2.1 (Eq.symm z)⟩,
    (h.tb.upE s z0 (fun b z => .inr z) gw (fun z => z) (fun z => z) (fun z => z)).ev e os (fun z => ne.s.2.2.2.1 (Eq.symm z)) (fun z => ne.s.2.2.2.2.1 (Eq.symm z)) (fun z => ne.s.2.2.2.2.2.1 (Eq.symm z)), L.ev e os fun z => ns _ M.1 (Eq.symm z)⟩
  · have hb : b ∈ [p.s, p.kd, p.rl, p.cn, p.t, p.sl, p.cl, q] := hb
    simp only [List.mem_cons, List.not_mem_nil, or_false] at hb
    rcases hb with rfl | rfl | rfl | rfl | rfl | rfl | rfl | rfl
    · exact .inr (h.all _ M.1)
    · exact .inr (h.all _ M.2.1)
    · exact .inr (h.all _ M.2.2.1)
    · exact .inr (h.all _ M.2.2.2.1)
    · exact .inr (h.all _ M.2.2.2.2.1)
    · exact .inr (h.all _ M.2.2.2.2.2.1)
    · exact .inr (h.all _ M.2.2.2.2.2.2.1)
    · exact .inl rfl
  · have h3' : seV a (Tk.ad q N) H1 { p with qa := q } v.ev g.se := (h3.qa hq).upE s z0 (fun b z => .inr z) gw fun _ z => z.elim
    exact h3'.upE e os (fun _ z => z) (fun _ z => .inl z) fun b z => by
      rw [show b = p.s from z]
      exact List.mem_cons_self
  · exact e.kp _ _ (s.at h.kn) fun z => ne.s.1 (Eq.symm z)
theorem Rdy.ok (r : Rdy B g) (i : TI B Lw g.S g.C) (hB : B.Ok) : (Hyp B g).Ok := hypM_ok i.pos r.cls fun s _ => hB.outp_lt s hB.pos
theorem Rdy.nS : (Hyp B g).n = g.S.length := hypM_n _
end
section
variable {P : Program} {w : World} {K : PySem.W.Frag} {mg : Str → Option Value} {base : Heap} {a : Ads} {d : Fds}
theorem ok_Asker__judge (T : TX K mg base a d) : FnOk P w K mg base CX0 4 a.f_Asker__judge d.d_Asker__judge ["self"] (sp_Asker__judge a) := by
  refine T.F_Asker__judge.ok sc_Asker__judge (fun vs H Q E h => ?_) (fun cdv A outer s H vs Q E hr h => ?_)
  · obtain ⟨_, _, _, _, _, _, _, _, rfl, _⟩ := h
    rfl
  · obtain ⟨N, p, tl, B, m, Lw, g, fr, rfl, W, hA, HP, hi, hfr, ⟨hpre, hse⟩, post⟩ := h
    have hu := hu_of hr
    refine ⟨_, (pss_cons (ps_set (i := 1) sc_Asker__judge.nd rfl (Or.inl rfl) (pe_fldk K (pv 0) rfl))
    (pss_cons (ps_if (pt_cmp (pc_dnotin hu (pv 1) (pe_fldk K (pv 0) rfl))) (pss_one (ps_ret (pe_tupm (pa_cons pe_str (pa_cons (pe_callTy (cr_listk K) (by rfl) T.b_list (by decide +kernel) (pa_cons (pv 1) pa_nil)) pa_nil))))) pss_nil)
    (pss_cons (ps_fldk K (pv 0) pe_non rfl)
    (pss_cons (ps_set (i := 2) sc_Asker__judge.nd rfl (Or.inl rfl) (pe_ix (ix_listk K) (pe_meth (pv 0) T.cl_Asker T.M_Asker__path (ok_Asker__path T) (hr.mono (by decide)) T.B_Asker__path .nil pass0 (pa_cons pe_int (pa_cons (pv 1) pa_nil))) (pe_un un_neg pe_int) (fun _ _ => rfl)))
    (pss_cons (ps_if (pt_cmpR op_eq (pe_ix (ix_tupk K) (pe_ix (ix_tupk K) (pe_fldk K (pv 0) rfl) pe_int (fun _ _ => rfl)) (pv 2) (fun _ _ => rfl)) (pe_dget hu (pe_fldk K (pv 0) rfl) (pv 1) (fun _ _ => rfl)) (nomark _)) (pss_one (ps_ret (pe_tupm (pa_cons pe_str (pa_cons pe_str pa_nil))))) pss_nil)
    (pss_cons (ps_expr (pe_meth (pv 0) T.cl_Asker T.M_Asker__begin (ok_Asker__begin T) (hr.mono (by decide)) T.B_Asker__begin .nil pass0 (pa_cons pe_int (pa_cons (pv 1) pa_nil))))
    (pss_one (ps_ret pe_non)))))))), ?_⟩
    obtain ⟨v, hI, hmv, hsv, hev⟩ := hA.ins
    cases hsh : g.sh with
    | none => rw [hsh] at hpre; cases hpre
    | some u =>
      have hsv0 := hsv
      rw [hsh] at hsv
      have hsv : At N H v.sv (wT u) := hsv
      obtain ⟨rdy, _, huw, hul, hne⟩ := hi.sh u hsh
      refine ⟨_, rfl, fldR hI T.cl_Asker T.n_Asker__shown rfl ?_⟩
      refine ⟨_, rfl, _, rfl, fldR hI T.cl_Asker T.n_Asker__known rfl ⟨p.kd, _, rfl, dgetO_Dt hA.kn hsv, ?_⟩⟩
      cases hlk : g.ps.lookup u with
      | none =>
        refine ⟨_, rfl, ifT rfl ?_⟩
        refine ⟨_, rfl, listT hsv fun p5 vs5 hp5 hvs5 => ?_⟩
        have s5 : Sm H (upd H p5 (.lst vs5)) := .new hp5
        have h5 : At N (upd H p5 (.lst vs5)) (.ref p5) (wL u) := .mkL W hp5 hvs5
        generalize upd H p5 (.lst vs5) = H5 at s5 h5
        refine mkT (W.ev s5) (by simp) (.cons (.s _) (.cons h5 .nil)) fun p6 H6 s6 h6 => ?_
        have s06 := s5.trans s6
        exact post.out _ N p H6 g .refl (.of s06) (W.ev s06) rfl (hA.sm s06) hi .refl (.inl ⟨_, h6, hlk, huw, by omega, .inl hul⟩)
      | some y =>
        have hy := hi.look hlk
        refine ⟨_, rfl, ifF rfl ?_⟩
        refine ⟨_, rfl, fldS hI T.cl_Asker T.n_Asker__shown (aF_len hA.tlk) fun H2 e2 I2 => ?_⟩
        have os := onN (N := N) (hA.all _ AP.mem.1)
        have A2 : AskAt a N H2 p B.k B.o m { g with hy := g.hy, sh := none, se := g.se } tl := AskAt.fld (v := { v with sv := .non }) hA e2 hA.tlk I2 (hmv.upE e2 os fun _ z => .inl z) rfl (hev.upE e2 os (fun _ z => z) (fun _ z => .inl z) fun b z => by rw [show b = p.s from z]; exact AP.mem.1)
        have W2 := W.ev e2
        have hsv2 := hsv.evs e2 os
        have hM := rdy.ok hi.ti HP.ok
        have hn : (Hyp B g).n = g.S.length := Rdy.nS
        have hul' : u.length ≤ 400 := by have := HP.lw; omega
        obtain ⟨dx, hH2⟩ := I2
        refine ⟨_, rfl, p.s, dx, _, rfl, hH2, (hA.tlk.look rfl : _), _, rfl, N, p, B.k, B.o, m, _, tl, Hyp B g, 0, v.sv, u, rfl, W2, A2, rdy.hy, hM, hM.pos, hsv2, huw, hul', fun pv H3 s3 h3 => ⟨_, rfl, ?_⟩⟩
        refine ixLast h3 (d := D.n ((Hyp B g).run 0 u)) ?_ fun z4 h4 => ?_
        · rw [List.length_map, List.length_range, Nat.add_sub_cancel, get_map (by rw [List.length_range]; omega), List.getElem_range, List.take_of_length_le (Nat.le_refl _)]
        · have A3 := A2.sm s3
          obtain ⟨v3, I3, hmv3, _, _⟩ := A3.ins
          have hmv3 : hyV N H3 v3.mv g.hy := hmv3
          rw [rdy.hy] at hmv3
          have hmv3 : At N H3 v3.mv (mD (Hyp B g)) := hmv3
          refine ⟨_, rfl, fldR I3 T.cl_Asker T.n_Asker__machine rfl (ixT 3 hmv3 rfl rfl fun z5 h5 => ⟨_, rfl, ixF _ h5 (out_get (hM.run_lt u hM.pos)) h4.isN fun z6 h6 => ?_⟩)⟩
          rw [h6.isN]
          refine ⟨_, rfl, fldR I3 T.cl_Asker T.n_Asker__known rfl ⟨_, rfl, p.kd, _, rfl, dget_Dt A3.kn (hsv2.sm s3) hlk, ⟨rfl, _, rfl, ifF (decide_eq_false fun z => ?_) ?_⟩⟩⟩
          · refine hne ?_
            rw [← hy]
            unfold nV at z
            injection z with z
            exact Int.ofNat.inj z
          · have hw0 : 0 < u.length := by
              rcases Nat.eq_zero_or_pos u.length with q | q
              · rw [List.length_eq_zero_iff.mp q] at hne
                exact absurd (by
                  show (Hyp B g).ou 0 = B.outp 0 []
                  rw [hypM_ou hi.ti.pos, getD_of_get? hi.ti.s0]) hne
              · exact q
            obtain ⟨dx3, hH3⟩ := I3
            refine ⟨_, rfl, p.s, dx3, _, rfl, hH3, (hA.tlk.look rfl : _), _, rfl, N, p, B.k, B.o, m, _, tl, Hyp B g, 0, v.sv, u, rfl, W2.ev s3, A3, rdy.hy, hM, hM.pos, hn, HP.tz hi.ti, hsv2.sm s3, huw, hw0, hul', fun H4 hh hhh e4 W4 A4 => ?_⟩
            have hh0 : H hh = none := (e2.trans (.of s3)).free hhh
            have A4' : AskAt a (ad hh N) H4 p B.k B.o m (g.begin (Hyp B g) 0 u) tl := A4.ghost rfl rfl rfl rfl rfl rfl rfl rfl
            obtain ⟨nx, mx⟩ := nxt_begin (M := Hyp B g) (st := 0) HP hse hul fr false
            have hS0 : g.S.getD 0 [] = [] := getD_of_get? hi.ti.s0
            refine post.go (ad hh N) p H4 _ false (.ad hh0) (((e2.mono os).trans (.of s3)).trans (e4.mono os)) W4 rfl A4' (hi.begin HP rdy hse hi.ti.pos huw hul ?_ (.inr hpre) ?_) nx (fun z => nomatch z) mx
            · rw [hS0, List.nil_append]
              exact fun z => hne z.symm
            · have := hi.rc
              have h' : act g ≤ 1 := by unfold act; split <;> omega
              omega
end
end Tk
/-! text D15 -/
set_option maxHeartbeats 4000000
namespace Tk
open PySem L2
section
variable {B : Mach} {m Lw : Nat} {g : AG}
theorem nxt_queue (qu : List (List Nat)) : Nxt B Lw g { g with qu := qu } := ⟨rfl, rfl, fun _ h => h, Nat.le_refl _⟩
theorem nxt_hyp (M : Option Mach) : Nxt B Lw g { g with hy := M } := ⟨rfl, rfl, fun _ h => h, Nat.le_refl _⟩
theorem mu_queue (i : Idle g) (qu : List (List Nat)) : mu B { g with qu := qu } true < mu B g false := by
  unfold mu stg
  rw [i.2, i.1]
  show _ + 90 < _ + 91
  exact Nat.lt_succ_self _
end
theorem indexW {K : PySem.W.Frag} {N N2 : Fp} {H : Hp} {x y : V} {Q : VK} {S : List (List Nat)} {j : Nat} {w : List Nat} (hl : At N H x (.l (S.map wL))) (hy : At N2 H y (wL w)) (hj : S[j]? = some w) (hf : ∀ m, m < j → S[m]? ≠ some w) (q : Q (nV j) H) : rIndexD K x [y] H Q := by
  have e : D.pys (S.map wL) = S.map fun w => (wL w).py := by rw [D.pys_map, List.map_map]; rfl
  have dl := hl.dp (K := K)
  rw [D.py, e] at dl
  obtain ⟨a, vs, rfl, _⟩ := At.lst hl
  refine ⟨a, y, _, _, j, (wL w).py, rfl, rfl, dl, hy.dp, (Sh.list (n := 1) fun z hz => ?_).ok (by decide), (sh_wL w).ok (by decide), ?_, by rw [eqv_wL]; simp, fun m z' hm hz' => ?_, q⟩
  · obtain ⟨u, _, rfl⟩ := List.mem_map.mp hz
    exact sh_wL u
  · rw [List.getElem?_map, hj]; rfl
  · rw [List.getElem?_map] at hz'
    cases hs : S[m]? with
    | none => rw [hs] at hz'; cases hz'
    | some u =>
      rw [hs] at hz'
      cases hz'
      rw [eqv_wL]
      refine decide_eq_false fun e => hf m hm ?_
      rw [hs, e]
/-- what the queue has left -/
structure QuS (a : Ads) (B : Mach) (m : Nat) (N : Fp) (H : Hp) (p : AP) (tl : List (Str × V)) (g : AG) (fr : Bool) (i : Nat) (H' : Hp) (qu : List (List Nat)) : Prop where
  len : qu.length + i = g.qu.length
  sub : ∀ u ∈ qu, u ∈ g.qu
  ev : Ev (on p.qa) H H'
  at_ : AskAt a N H' p B.k B.o m { g with qu := qu } tl
  z : i = 0 → qu = g.qu
  nz : i = 0 ∨ fr = false
section
variable {P : Program} {w : World} {K : PySem.W.Frag} {mg : Str → Option Value} {base : Heap} {a : Ads} {d : Fds}
theorem ok_Asker__fill (T : TX K mg base a d) : FnOk P w K mg base CX0 5 a.f_Asker__fill d.d_Asker__fill ["self"] (sp_Asker__fill a) := by
  refine T.F_Asker__fill.ok sc_Asker__fill (fun vs H Q E h => ?_) (fun cdv A outer s H vs Q E hr h => ?_)
  · obtain ⟨_, _, _, _, _, _, _, _, rfl, _⟩ := h
    rfl
  · obtain ⟨N, p, tl, B, m, Lw, g, fr, rfl, W, hA, HP, hi, hfr, hid, post⟩ := h
    have hu := hu_of hr
    refine ⟨_, (pss_cons (ps_while PassesOwn.never (pt_cmpR op_gt (pe_callB (cr_lenk K) (by rfl) T.b_len (by decide +kernel) (pa_cons (pe_fldk K (pv 0) rfl) pa_nil)) pe_int (nomark _)) (pss_cons (ps_set (i := 1) sc_Asker__fill.nd rfl (Or.inl rfl) (pe_bm0k K PySem.F.plainAttrs_list PySem.F.slot_list_pop PySem.F.type_list_pop mt_popm (pe_fldk K (pv 0) rfl)))
      (pss_one (ps_if (pt_cmp (pc_dnotin hu (pe_callTy (cr_tupk K) (by rfl) T.b_tuple (by decide +kernel) (pa_cons (pv 1) pa_nil)) (pe_fldk K (pv 0) rfl))) (pss_one (ps_ret (pe_tupm (pa_cons pe_str (pa_cons (pv 1) pa_nil))))) pss_nil))))
    (pss_cons (ps_fldk K (pv 0) (pe_listRev rfl (by rfl) T.b_list (by rfl) T.b_reversed (pe_meth (pe_fldk K (pv 0) rfl) T.cl_Table T.M_Table_all_wanted (ok_Table_all_wanted T) (hr.mono (by decide)) T.B_Table_all_wanted .nil pass0 (pa_cons (pe_fldk K (pv 0) rfl) pa_nil))) rfl)
    (pss_cons (ps_if (pt_cmpR op_gt (pe_callB (cr_lenk K) (by rfl) T.b_len (by decide +kernel) (pa_cons (pe_fldk K (pv 0) rfl) pa_nil)) pe_int (nomark _)) (pss_one (ps_ret pe_non)) pss_nil)
    (pss_cons (ps_if (pt_val (pe_meth (pe_fldk K (pv 0) rfl) T.cl_Table T.M_Table_extend (ok_Table_extend T) (hr.mono (by decide)) T.B_Table_extend .nil pass0 (pa_cons (pe_fldk K (pv 0) rfl) pa_nil))) (pss_cons (ps_if (pt_cmpR op_gt (pe_callB (cr_lenk K) (by rfl) T.b_len (by decide +kernel) (pa_cons (pe_meth0 (pe_fldk K (pv 0) rfl) T.cl_Table T.M_Table_state_words (ok_Table_state_words T) (hr.mono (by decide)) T.B_Table_state_words .nil pass0) pa_nil)) (pe_fldk K (pv 0) rfl) (nomark _)) (pss_one (ps_ret (pe_tupm (pa_cons pe_str pa_nil)))) pss_nil)
      (pss_one (ps_ret pe_non))) pss_nil)
    (pss_cons (ps_fldk K (pv 0) (pe_meth (pe_fldk K (pv 0) rfl) T.cl_Table T.M_Table_machine (ok_Table_machine T) (hr.mono (by decide)) T.B_Table_machine .nil pass0 (pa_cons (pe_fldk K (pv 0) rfl) (pa_cons (pe_fldk K (pv 0) rfl) pa_nil))) rfl)
    (pss_cons (ps_set (i := 2) sc_Asker__fill.nd rfl (Or.inl rfl) (pe_meth (pe_fldk K (pv 0) rfl) T.cl_Table T.M_Table_mistake (ok_Table_mistake T) (hr.mono (by decide)) T.B_Table_mistake .nil pass0 (pa_cons (pe_fldk K (pv 0) rfl) (pa_cons (pe_fldk K (pv 0) rfl) pa_nil))))
    (pss_cons (ps_if (pt_cmp (pc_notN (pv 2))) (pss_cons (ps_set (i := 3) sc_Asker__fill.nd rfl (Or.inl rfl) (pe_bmk K PySem.F.plainAttrs_list PySem.F.slot_list_index PySem.F.type_list_index (mt_indexDk K (hu65 hr)) (pe_meth0 (pe_fldk K (pv 0) rfl) T.cl_Table T.M_Table_state_words (ok_Table_state_words T) (hr.mono (by decide)) T.B_Table_state_words .nil pass0) (pa_cons (pe_ix (ix_tupk K) (pv 2) pe_int (fun _ _ => rfl)) pa_nil)))
      (pss_cons (ps_expr (pe_meth (pv 0) T.cl_Asker T.M_Asker__begin (ok_Asker__begin T) (hr.mono (by decide)) T.B_Asker__begin .nil pass0 (pa_cons (pv 3) (pa_cons (pe_callTy (cr_tupk K) (by rfl) T.b_tuple (by decide +kernel) (pa_cons (pe_ix (ix_tupk K) (pv 2) pe_int (fun _ _ => rfl)) pa_nil)) pa_nil))))
      (pss_one (ps_ret pe_non)))) pss_nil)
    (pss_cons (ps_augS (pe_fldk K (pv 0) rfl) pe_int pget_list pe_int ip_add set_listm)
    (pss_one (ps_ret (pe_tupm (pa_cons pe_str (pa_cons (pe_call (ok_least T) (hr.mono (by decide)) rfl T.g_least T.F_least.kp T.B_least .nil pass0 (pa_cons (pe_fldk K (pv 0) rfl) pa_nil)) pa_nil))))))))))))), ?_⟩
    have oq := onN (N := N) (hA.all _ AP.mem.2.2.2.2.2.2.2)
    have os := onN (N := N) (hA.all _ AP.mem.1)
    refine whileI g.qu.length (fun i σ H' => ∃ qu, QuS a B m N H p tl g fr i H' qu ∧ ∃ x1 x2 x3, σ = [some (.ref p.s), x1, x2, x3]) ⟨g.qu, ⟨rfl, fun _ z => z, .refl _ _, hA.ghost rfl rfl rfl rfl rfl rfl rfl rfl, fun _ => rfl, .inl rfl⟩, none, none, none, rfl⟩ ?_
    rintro i σ H1 ⟨qu, q1, x1, x2, x3, rfl⟩
    have A1 := q1.at_
    have W1 := W.ev q1.ev
    obtain ⟨v1, I1, hm1, hs1, he1⟩ := A1.ins
    refine ⟨_, rfl, fldR I1 T.cl_Asker T.n_Asker__queue rfl (lenLs A1.qu ⟨_, _, rfl, rfl, _, rfl, ?_⟩)⟩
    rw [List.length_map]
    rcases List.eq_nil_or_concat qu with hq | ⟨qi, u, hq⟩
    · subst hq
      refine ifF (decide_eq_false (by simp)) ?_
      have hf : fr = false := by
        rcases q1.nz with z | z
        · cases hb : fr with
          | false => rfl
          | true => exact absurd (q1.z z).symm (hfr hb).2.1
        · exact z
      subst hf
      obtain ⟨rv, ⟨dt, hHt⟩, hrv⟩ := A1.tb.ex
      refine ⟨_, rfl, fldR I1 T.cl_Asker T.n_Asker__table rfl ⟨p.t, dt, _, rfl, hHt, rfl, _, rfl, fldR I1 T.cl_Asker T.n_Asker__known rfl ⟨N, p.t, p.sl, p.cl, p.kd, B.k, g.S, g.C, g.ps, rfl, W1, A1.tb, HP.tz hi.ti, A1.kn, fun r H2 ws s2 hnd hws hwl h2 => revL h2 fun q vs hq hvs => ?_⟩⟩⟩
      have s3 : Sm H2 (upd H2 q (.lst vs)) := .new hq
      have L3 : Lst (ad q N) (upd H2 q (.lst vs)) q (ws.reverse.map wL) := by
        rw [List.map_reverse]
        exact .new (.refl _ _) hq hvs
      have W3 : Wf (ad q N) (upd H2 q (.lst vs)) := L3.wf ((W1.ev s2).ev s3)
      generalize upd H2 q (.lst vs) = H3 at s3 L3 W3
      refine ⟨_, rfl, fldS ((I1.sm s2).sm s3) T.cl_Asker T.n_Asker__queue (aF_len hA.tlk) fun H4 e4 I4 => ?_⟩
      have A4 := AskAt.newq (A1.sm s2) hq s3 e4 (I1.sm s2) (hyVs hm1 s2) (shVs hs1 s2) (seVs he1 s2) I4 L3
      have W4 := W3.ev e4
      have hq0 : H q = none := q1.ev.th q (s2.free hq)
      have gr : Grow N (ad q N) H := .ad hq0
      have e04 : Ev N H H4 := (((q1.ev.mono oq).trans (.of (s2.trans s3)))).trans (e4.mono os)
      have hi4 : AI B Lw { g with qu := ws.reverse } := hi.queue fun u hu => by
        obtain ⟨r, hr, c, hc, e⟩ := ((hws u).mp (List.mem_reverse.mp hu)).1
        exact ⟨r, hr, c, hc, e⟩
      have nx4 : Nxt B Lw g { g with qu := ws.reverse } := nxt_queue _
      generalize hp4 : ({ p with qa := q } : AP) = p4 at A4 I4
      have hps : p4.s = p.s := by rw [← hp4]
      have hpt : p4.t = p.t := by rw [← hp4]
      have hid4 : Idle { g with qu := ws.reverse } := hid
      rw [← hps] at I4
      have sself : ∀ x : Option V, ([some (V.ref p.s), x1, x2, x3] : List (Option V)) = [some (.ref p4.s), x1, x2, x3] := fun _ => by rw [hps]
      rw [sself none]
      clear sself
      obtain ⟨v4, J4, hm4, hs4, he4⟩ := A4.ins
      refine ⟨_, rfl, fldR J4 T.cl_Asker T.n_Asker__queue rfl (lenLs A4.qu ⟨_, _, rfl, rfl, _, rfl, ?_⟩)⟩
      rw [List.length_map, List.length_reverse]
      by_cases hw0 : ws = []
      · refine ifF (decide_eq_false (by rw [hw0]; simp)) ?_
        have hkn : ∀ r ∈ rws B.k g.S, Kn (fB B) g.C g.ps r := fun r hr c hc => by
          refine hi.lk fun z => ?_
          have := (hws (r ++ c)).mpr ⟨⟨r, hr, c, hc, rfl⟩, z⟩
          rw [hw0] at this; cases this
        have ne4 := AP.ne A4.nd
        have M4 := AP.mem (p := p4)
        obtain ⟨rv4, ⟨dt4, hHt4⟩, hrv4⟩ := A4.tb.ex
        refine ⟨_, rfl, fldR J4 T.cl_Asker T.n_Asker__table rfl ⟨p4.t, dt4, _, rfl, hHt4, rfl, _, rfl, fldR J4 T.cl_Asker T.n_Asker__known rfl ?_⟩⟩
        refine ⟨ad q N, p4.t, p4.sl, p4.cl, p4.kd, B.k, g.S, g.C, g.ps, fB B, rfl, W4, A4.tb, HP.tz hi.ti, A4.all _ M4.2.1, A4.kn, ne4.kd.2.2.1, ne4.kd.2.2.2.1, hi.ti.dst, hkn, fun hcl H5 s5 => ?_, fun H5 wd hwf hwr e5 t5 => ?_⟩
        · refine ⟨_, rfl, ifF rfl ?_⟩
          have A5 := A4.sm s5
          have J5 := J4.sm s5
          have W5 := W4.ev s5
          have hS0 := hi.ti.pos
          have hod : ∀ s ∈ g.S, fB B s < B.o := fun s _ => HP.ok.outp_lt s HP.ok.pos
          have hM := hypM_ok (o := B.o) hS0 hcl hod
          have hMn : (Hyp B g).n = g.S.length := hypM_n _
          have tz := HP.tz hi.ti
          have nkd : ad q N p4.kd := A4.all _ M4.2.1
          obtain ⟨rv5, ⟨dt5, hHt5⟩, hrv5⟩ := A5.tb.ex
          refine ⟨_, rfl, fldR J5 T.cl_Asker T.n_Asker__table rfl ⟨p4.t, dt5, _, rfl, hHt5, rfl, _, rfl, fldR J5 T.cl_Asker T.n_Asker_outs rfl ⟨_, rfl, fldR J5 T.cl_Asker T.n_Asker__known rfl ?_⟩⟩⟩
          refine ⟨ad q N, p4.t, p4.sl, p4.cl, p4.kd, B.k, B.o, g.S, g.C, g.ps, fB B, rfl, W5, A5.tb, tz, nkd, A5.kn, hi.ti.dst, hkn, hi.ti.c0, hcl, fun mv H6 s6 hm6 => ?_⟩
          have os4 : ∀ b, on p4.s b → ad q N b := onN (A4.all _ M4.1)
          refine ⟨_, rfl, fldS (J5.sm s6) T.cl_Asker T.n_Asker__machine (aF_len hA.tlk) fun H7 e7 I7 => ?_⟩
          have s46 := s5.trans s6
          have W7 := (W5.ev s6).ev e7
          have A7 : AskAt a (ad q N) H7 p4 B.k B.o m { g with hy := some (Hyp B g), qu := ws.reverse } tl := (AskAt.fld (v := { v4 with mv := mv }) (hy := some (Hyp B g)) (A5.sm s6) e7 hA.tlk I7 (hm6.evs e7 os4) ((shVs hs4 s46).upE e7 os4 fun _ z => .inl z) ((seVs he4 s46).upE e7 os4 (fun _ z => z) (fun _ z => .inl z) fun b z => by rw [show b = p4.s from z]; exact M4.1)).ghost rfl rfl rfl rfl rfl rfl rfl rfl
          have hi7 : AI B Lw { g with hy := some (Hyp B g), qu := ws.reverse } := hi4.hyp hid4 _
          have hid7 : Idle { g with hy := some (Hyp B g), qu := ws.reverse } := hid
          have rdy7 : Rdy B { g with hy := some (Hyp B g), qu := ws.reverse } := ⟨rfl, hcl, hkn⟩
          have nx7 : Nxt B Lw g { g with hy := some (Hyp B g), qu := ws.reverse } := ⟨rfl, rfl, fun _ h => h, Nat.le_refl _⟩
          have e07 : Ev N H H7 := e04.grow ((Ev.of s46).trans (e7.mono os4)) gr
          clear hm4 hs4 he4 J4 J5 A5 A4
          obtain ⟨v7, J7, hm7, hs7, he7⟩ := A7.ins
          obtain ⟨rv7, ⟨dt7, hHt7⟩, hrv7⟩ := A7.tb.ex
          refine ⟨_, rfl, fldR J7 T.cl_Asker T.n_Asker__table rfl ⟨p4.t, dt7, _, rfl, hHt7, rfl, _, rfl, fldR J7 T.cl_Asker T.n_Asker_outs rfl ⟨_, rfl, fldR J7 T.cl_Asker T.n_Asker__known rfl ?_⟩⟩⟩
          refine ⟨ad q N, p4.t, p4.sl, p4.cl, p4.kd, B.k, B.o, g.S, g.C, g.ps, fB B, rfl, W7, A7.tb, tz, nkd, A7.kn, hi.ti.dst, hkn, hi.ti.c0, hcl, hS0, hod, (fun c hc => (hi.ti.cw c hc).1), fun hall H8 s8 => ?_, fun r8 H8 i8 c8 s8 hi8 hc8 hne8 h8 => ?_⟩
          · refine ⟨_, rfl, _, rfl, ifF rfl ?_⟩
            have A8 := A7.sm s8
            obtain ⟨v8, J8, hm8, hs8, he8⟩ := A8.ins
            have W8 := W7.ev s8
            obtain ⟨c0, c1, c2, c3, hc⟩ := A8.cn
            refine ⟨_, rfl, fldR J8 T.cl_Asker T.n_Asker__counts rfl (ixLs 2 hc rfl rfl fun z9 h9 => ?_)⟩
            rw [h9.isN]
            refine ⟨_, _, rfl, rfl, setLs 2 hc (A8.all _ M4.2.2.2.1) (by simp) rfl (d := .n (c2 + 1)) (.n (c2 + 1)) fun H9 e9 L9 => ?_⟩
            have A9 := AskAt.count A8 e9 (c0 := c0) (c1 := c1) (c2 := c2 + 1) (c3 := c3) L9
            obtain ⟨v9, J9, hm9, hs9, he9⟩ := A9.ins
            have W9 := W8.ev e9
            have hm9 : At (ad q N) H9 v9.mv (mD (Hyp B g)) := hm9
            have oc : ∀ b, on p4.cn b → ad q N b := onN (A9.all _ M4.2.2.2.1)
            have hn20 : (Hyp B g).n ≤ 1000 := by rw [hMn]; have := tz.s; omega
            refine ⟨_, rfl, fldR J9 T.cl_Asker T.n_Asker__machine rfl ⟨ad q N, v9.mv, Hyp B g, rfl, W9, hm9, hM, hn20, ?_, fun r H10 L s10 hL h10 => ?_⟩⟩
            · show B.k ≤ 1000
              have := HP.k; omega
            · refine mkT (W9.ev s10) (by simp) (.cons (.s _) (.cons h10 .nil)) fun p11 H11 s11 h11 => ?_
              have s911 := s10.trans s11
              refine post.out _ (ad q N) p4 H11 _ gr (e07.grow (((Ev.of s8).trans (e9.mono oc)).trans (.of s911)) gr) (W9.ev s911) hps (A9.sm s911) hi7 nx7 (.inr ⟨L, h11, hL, rdy7, hid7⟩)
          · have hrn : r8 ≠ .non := fun z => by
              obtain ⟨b, vs', e, _⟩ := At.tup h8
              rw [z] at e; cases e
            refine ⟨_, rfl, _, rfl, ifT (by rw [decide_eq_false hrn]; rfl) ?_⟩
            have A8 := A7.sm s8
            have W8 := W7.ev s8
            obtain ⟨v8, J8, hm8, hs8, he8⟩ := A8.ins
            obtain ⟨rv8, ⟨dt8, hHt8⟩, hrv8⟩ := A8.tb.ex
            have hget : g.S[i8]? = some (g.S.getD i8 []) := by rw [getD_lt hi8]; exact List.getElem?_eq_getElem hi8
            refine ⟨_, rfl, fldR J8 T.cl_Asker T.n_Asker__table rfl ⟨p4.t, dt8, _, rfl, hHt8, rfl, ad q N, p4.t, p4.sl, p4.cl, B.k, g.S, g.C, rfl, W8, A8.tb, tz, fun r9 H9 s9 h9 => ?_⟩⟩
            refine ⟨tyL h9, _, rfl, ixT 0 (h8.sm s9) rfl rfl fun z10 h10 => ?_⟩
            unfold tNil
            dsimp only
            refine indexW h9 h10 hget (fun m' hm' hz' => ?_) ?_
            · have hm'' : m' < g.S.length := by omega
              have : g.S.getD m' [] = g.S.getD i8 [] := getD_of_get? hz'
              have := hi.ti.dst m' i8 hm'' hi8 (by rw [this])
              omega
            · have A9 := A8.sm s9
              obtain ⟨v9, ⟨dx9, hH9⟩, hm9, hs9, he9⟩ := A9.ins
              have W9 := W8.ev s9
              have hcw := hi.ti.cw c8 hc8
              have hc0 : 0 < c8.length := by
                rcases Nat.eq_zero_or_pos c8.length with z | z
                · rw [List.length_eq_zero_iff.mp z, List.append_nil] at hne8
                  exact absurd (hypM_ou hi8) hne8
                · exact z
              refine ⟨_, rfl, p4.s, dx9, _, rfl, hH9, (hA.tlk.look rfl : _), _, rfl, _, rfl, ixT 1 (h8.sm s9) rfl rfl fun z11 h11 => tupL W9 h11 fun p12 H12 s12 h12 => ?_⟩
              refine ⟨ad q N, p4, B.k, B.o, m, _, tl, Hyp B g, i8, .ref p12, c8, rfl, W9.ev s12, A9.sm s12, rfl, hM, by rw [hMn]; exact hi8, hMn, tz, h12, hcw.1, hc0, by have := hcw.2; have := HP.lw; omega, fun H13 hh hhh e13 W13 A13 => ?_⟩
              have s812 := (s8.trans s9).trans s12
              have e012 : Ev N H H12 := e07.grow (.of s812) gr
              have gr13 : Grow N (ad hh (ad q N)) H := ⟨fun b z => .inr (.inr z), fun b z => z.elim (fun e => .inr (e ▸ e012.th hh hhh)) fun z => gr.new b z⟩
              have A13' : AskAt a (ad hh (ad q N)) H13 p4 B.k B.o m (({ g with hy := some (Hyp B g), qu := ws.reverse } : AG).begin (Hyp B g) i8 c8) tl := A13.ghost rfl rfl rfl rfl hid.1.symm rfl rfl rfl
              obtain ⟨nx, mx⟩ := nxt_begin (g := { g with hy := some (Hyp B g), qu := ws.reverse }) (M := Hyp B g) (st := i8) HP hid.2 (w := c8) (by have := hcw.2; omega) false false
              have mx' : mu B (({ g with hy := some (Hyp B g), qu := ws.reverse } : AG).begin (Hyp B g) i8 c8) false < mu B g false := mx
              refine post.go (ad hh (ad q N)) p4 H13 _ false gr13 (e012.grow (e13.mono os4) gr) W13 hps A13' (hi7.begin HP rdy7 hid.2 hi8 hcw.1 (by have := hcw.2; omega) ?_ (.inl hid.1) ?_) (nx7.trans nx) (fun z => nomatch z) mx'
              · exact fun z => hne8 z.symm
              · have := hi7.rc
                rw [hid7.act] at this
                omega
        · refine ⟨_, rfl, ifT rfl ?_⟩
          have A5 := AskAt.table (S := g.S ++ [wd]) (C := g.C) A4 e5 (fun b z => z.elim .inl fun z => .inr (.inl z)) t5
          have hi5 := hi4.ext hid4 hwf hwr
          have ot : ∀ b, (b = p4.t ∨ b = p4.sl) → ad q N b := fun b z => A4.all b (z.elim (fun e => e ▸ M4.2.2.2.2.1) fun e => e ▸ M4.2.2.2.2.2.1)
          have W5 := W4.ev e5
          obtain ⟨v5, J5, _⟩ := A5.ins
          obtain ⟨rv5, ⟨dt5, hHt5⟩, hrv5⟩ := A5.tb.ex
          refine ⟨_, rfl, fldR J5 T.cl_Asker T.n_Asker__table rfl ⟨p4.t, dt5, _, rfl, hHt5, rfl, ad q N, p4.t, p4.sl, p4.cl, B.k, g.S ++ [wd], g.C, rfl, W5, A5.tb, HP.tz hi5.ti, fun r6 H6 s6 h6 => lenL h6 ?_⟩⟩
          rw [List.length_map]
          refine ⟨_, rfl, fldR (J5.sm s6) T.cl_Asker T.n_Asker_most rfl ⟨_, _, rfl, rfl, _, rfl, ifF (decide_eq_false ?_) ?_⟩⟩
          · have h1 : (g.S ++ [wd]).length ≤ B.n := hi5.ti.sn HP.ok
            have := HP.m1
            omega
          · obtain ⟨nx, mx⟩ := nxt_ext hi4 HP hid4 hi5 false false
            have mx' : mu B { g with qu := ws.reverse, S := g.S ++ [wd] } false < mu B g false := mx
            exact post.go (ad q N) p4 H6 _ false gr (e04.grow ((e5.mono ot).trans (.of s6)) gr) (W5.ev s6) hps (A5.sm s6) hi5 (nx4.trans nx) (fun z => nomatch z) mx'
      · refine ifT (decide_eq_true (by have := List.length_pos_iff.mpr hw0; omega)) ?_
        refine post.go (ad q N) p4 H4 _ true gr e04 W4 hps A4 hi4 nx4 (fun _ => ⟨hid4, fun z => hw0 (List.reverse_eq_nil_iff.mp z), fun u hu => ((hws u).mp (List.mem_reverse.mp hu)).2⟩) (mu_queue hid _)
    · have hq : qu = qi ++ [u] := by rw [hq, List.concat_eq_append]
      subst hq
      refine ifT (decide_eq_true (by rw [List.length_append, List.length_singleton]; omega)) (whT (by have := q1.len; simp at this; omega) ?_)
      have hL1 : Lst N H1 p.qa (qi.map wL ++ [wL u]) := by
        have := A1.qu
        rw [List.map_append] at this
        exact this
      refine ⟨_, rfl, fldR I1 T.cl_Asker T.n_Asker__queue rfl ⟨hL1.ty, popL hL1 (hA.all _ AP.mem.2.2.2.2.2.2.2) fun z2 H2 e2 L2 h2 => ?_⟩⟩
      have W2 := W1.ev e2
      have A2 := AskAt.queue (qu := qi) A1 e2 L2
      obtain ⟨v2, I2, hm2, hs2, he2⟩ := A2.ins
      have hug : u ∈ g.qu := q1.sub u (by simp)
      refine ⟨_, rfl, tupL W2 h2 fun p3 H3 s3 h3 => ⟨_, rfl, fldR (I2.sm s3) T.cl_Asker T.n_Asker__known rfl ⟨p.kd, _, rfl, dgetO_Dt (A2.sm s3).kn h3, ?_⟩⟩⟩
      have e03 := (q1.ev.trans e2).trans (.of s3)
      cases hlk : g.ps.lookup u with
      | none =>
        refine ⟨_, rfl, ifT rfl ?_⟩
        refine ⟨_, rfl, mkT (W2.ev s3) (by simp) (.cons (.s _) (.cons (h2.sm s3) .nil)) fun p4 H4 s4 h4 => ?_⟩
        have hi2 := hi.queue (qu := qi) (fun x hx => hi.qc x (q1.sub x (by simp [hx])))
        exact post.out _ N p H4 _ .refl ((e03.trans (.of s4)).mono oq) ((W2.ev s3).ev s4) rfl ((A2.sm s3).sm s4) hi2 (nxt_queue qi) (.inl ⟨u, h4, hlk, (hi.qc u hug).cov HP hi.ti⟩)
      | some y =>
        refine ⟨_, rfl, ifF rfl ?_⟩
        refine ⟨qi, ⟨?_, fun x hx => q1.sub x (by simp [hx]), e03, A2.sm s3, fun z => by omega, .inr ?_⟩, _, _, _, rfl⟩
        · have := q1.len
          simp at this
          omega
        · cases hb : fr with
          | false => rfl
          | true =>
            have := (hfr hb).2.2 u hug
            rw [hlk] at this; cases this
end
end Tk
/-! text D16 -/
set_option maxHeartbeats 4000000
namespace Tk
open PySem L2
/-- behind a reply: the next step -/
def NextPost (a : Ads) (B : Mach) (m Lw : Nat) (N : Fp) (H : Hp) (p : AP) (tl : List (Str × V)) (g : AG) (Q : VK) : Prop :=
  ∀ (r : V) (N' : Fp) (p' : AP) (H' : Hp) (g' : AG), Grow N N' H → Ev N H H' → Wf N' H' → p'.s = p.s → AskAt a N' H' p' B.k B.o m g' tl → AI B Lw g' → Nxt B Lw g g' → StepV B Lw N' H' r g' → Q r H'
def sp_Asker__next_step (a : Ads) : Sp := fun vs H Q _ => ∃ (N : Fp) (p : AP) (tl : List (Str × V)) (B : Mach) (m Lw : Nat) (g : AG), vs = [.ref p.s] ∧ Wf N H ∧ AskAt a N H p B.k B.o m g tl ∧ Par B m Lw ∧ AI B Lw g ∧ NextPost a B m Lw N H p tl g Q
theorem StepV.ne {B : Mach} {Lw : Nat} {N : Fp} {H : Hp} {r : V} {g : AG} (h : StepV B Lw N H r g) : r ≠ .non := by
  rcases h with ⟨u, h, _⟩ | ⟨L, h, _⟩
  · intro z
    obtain ⟨b, vs', e, _⟩ := At.tup h
    rw [z] at e; cases e
  · intro z
    obtain ⟨b, vs', e, _⟩ := At.tup h
    rw [z] at e; cases e
section
variable {P : Program} {w : World} {K : PySem.W.Frag} {mg : Str → Option Value} {base : Heap} {a : Ads} {d : Fds}
theorem ok_Asker__next_step (T : TX K mg base a d) : FnOk P w K mg base CX0 6 a.f_Asker__next_step d.d_Asker__next_step ["self"] (sp_Asker__next_step a) := by
  refine T.F_Asker__next_step.ok sc_Asker__next_step (fun vs H Q E h => ?_) (fun cdv A outer s H vs Q E hr h => ?_)
  · obtain ⟨_, _, _, _, _, _, _, rfl, _⟩ := h
    rfl
  · obtain ⟨N, p, tl, B, m, Lw, g, rfl, W, hA, HP, hi, post⟩ := h
    have hu := hu_of hr
    refine ⟨_, (pss_one (ps_while PassesOwn.never (pt_val pe_bl) (pss_cons (ps_if (pt_cmp (pc_notN (pe_fldk K (pv 0) rfl))) (pss_one (ps_set (i := 1) sc_Asker__next_step.nd rfl (Or.inl rfl) (pe_meth0 (pv 0) T.cl_Asker T.M_Asker__look (ok_Asker__look T) (hr.mono (by decide)) T.B_Asker__look .nil pass0))) (pss_one (ps_if (pt_cmp (pc_notN (pe_fldk K (pv 0) rfl))) (pss_one (ps_set (i := 1) sc_Asker__next_step.nd rfl (Or.inl rfl) (pe_meth0 (pv 0) T.cl_Asker T.M_Asker__judge (ok_Asker__judge T) (hr.mono (by decide)) T.B_Asker__judge .nil pass0))) (pss_one (ps_set (i := 1) sc_Asker__next_step.nd rfl (Or.inl rfl) (pe_meth0 (pv 0) T.cl_Asker T.M_Asker__fill (ok_Asker__fill T) (hr.mono (by decide)) T.B_Asker__fill .nil pass0))))))
      (pss_one (ps_if (pt_cmp (pc_notN (pv 1))) (pss_one (ps_ret (pv 1))) pss_nil))))), ?_⟩
    refine ⟨fun n σ H' => ∃ N1 p1 g1 fr1, n = mu B g1 fr1 ∧ Grow N N1 H ∧ Ev N H H' ∧ Wf N1 H' ∧ p1.s = p.s ∧ AskAt a N1 H' p1 B.k B.o m g1 tl ∧ AI B Lw g1 ∧ Nxt B Lw g g1 ∧ FrOk fr1 g1 ∧ ∃ x1, σ = [some (.ref p.s), x1],
      ⟨_, N, p, g, false, rfl, .refl, .refl _ _, W, rfl, hA, hi, .refl, (fun z => nomatch z), none, rfl⟩, ?_⟩
    rintro n σ H1 ⟨N1, p1, g1, fr1, rfl, gr1, e1, W1, hp1, A1, i1, nx1, f1, x1, rfl⟩
    refine ⟨_, rfl, ifT rfl ?_⟩
    refine ⟨fun σ' H' => ∃ N2 p2 g2 fr2, mu B g2 fr2 < mu B g1 fr1 ∧ Grow N N2 H ∧ Ev N H H' ∧ Wf N2 H' ∧ p2.s = p.s ∧ AskAt a N2 H' p2 B.k B.o m g2 tl ∧ AI B Lw g2 ∧ Nxt B Lw g g2 ∧ FrOk fr2 g2 ∧ ∃ x1, σ' = [some (.ref p.s), x1],
      fun σ' H' ⟨N2, p2, g2, fr2, h1, h2⟩ => ⟨_, h1, N2, p2, g2, fr2, rfl, h2⟩, ?_⟩
    obtain ⟨v, hI, hmv, hsv, hev⟩ := A1.ins
    rw [← hp1]
    obtain ⟨dx, hH⟩ := hI
    have hI : Ins H1 p1.s a.C_Asker (aF p1 B.k B.o m v tl) := ⟨dx, hH⟩
    have hnon : ∀ {x : V} {b : Bool}, (b = true → x ≠ .non) → (b = false → x = .non) → (!decide (x = .non)) = b := fun {x b} h1 h2 => by
      cases b with
      | true => rw [decide_eq_false (h1 rfl)]; rfl
      | false => rw [decide_eq_true (h2 rfl)]; rfl
    have hse : (!decide (v.ev = .non)) = g1.se.isSome := hnon (fun z => by
      cases q : g1.se with
      | none => rw [q] at z; cases z
      | some e => rw [q] at hev; obtain ⟨ea, _, _, _, e1, _⟩ := hev; rw [e1]; exact fun z => nomatch z) fun z => by
      cases q : g1.se with
      | none => rw [q] at hev; exact hev
      | some e => rw [q] at z; cases z
    have hsh : (!decide (v.sv = .non)) = g1.sh.isSome := hnon (fun z => by
      cases q : g1.sh with
      | none => rw [q] at z; cases z
      | some e => rw [q] at hsv; obtain ⟨b, vs', e1, _⟩ := At.tup (show At N1 H1 v.sv (.t (e.map D.n)) from hsv); rw [e1]; exact fun z => nomatch z) fun z => by
      cases q : g1.sh with
      | none => rw [q] at hsv; exact hsv
      | some e => rw [q] at z; cases z
    refine ⟨_, rfl, fldR hI T.cl_Asker T.n_Asker__search rfl ⟨_, rfl, ?_⟩⟩
    rw [hse]
    cases hb : g1.se.isSome with
    | true =>
      refine ifT rfl ?_
      refine ⟨_, rfl, p1.s, dx, _, rfl, hH, (hA.tlk.look rfl : _), N1, p1, tl, B, m, Lw, g1, fr1, rfl, W1, A1, HP, i1, f1, hb, ⟨fun N' p' H' g' fr' gr e W' hp A' i' nx f' mx => ?_, fun r N' p' H' g' gr e W' hp A' i' nx sv => ?_⟩⟩
      · refine ⟨_, rfl, _, rfl, ifF rfl ?_⟩
        exact ⟨N', p', g', fr', mx, gr1.trans gr e1, e1.grow e gr1, W', hp, A', i', nx1.trans nx, f', _, rfl⟩
      · refine ⟨_, rfl, _, rfl, ifT (by rw [decide_eq_false sv.ne]; rfl) ⟨_, rfl, ?_⟩⟩
        exact post r N' p' H' g' (gr1.trans gr e1) (e1.grow e gr1) W' (hp.trans hp1) A' i' (nx1.trans nx) sv
    | false =>
      refine ifF rfl ?_
      refine ⟨_, rfl, fldR hI T.cl_Asker T.n_Asker__shown rfl ⟨_, rfl, ?_⟩⟩
      rw [hsh]
      have hb' : g1.se = none := by
        cases q : g1.se with
        | none => rfl
        | some e => rw [q] at hb; cases hb
      cases hc : g1.sh.isSome with
      | true =>
        refine ifT rfl ?_
        refine ⟨_, rfl, p1.s, dx, _, rfl, hH, (hA.tlk.look rfl : _), N1, p1, tl, B, m, Lw, g1, fr1, rfl, W1, A1, HP, i1, f1, ⟨hc, hb'⟩, ⟨fun N' p' H' g' fr' gr e W' hp A' i' nx f' mx => ?_, fun r N' p' H' g' gr e W' hp A' i' nx sv => ?_⟩⟩
        · refine ⟨_, rfl, _, rfl, ifF rfl ?_⟩
          exact ⟨N', p', g', fr', mx, gr1.trans gr e1, e1.grow e gr1, W', hp, A', i', nx1.trans nx, f', _, rfl⟩
        · refine ⟨_, rfl, _, rfl, ifT (by rw [decide_eq_false sv.ne]; rfl) ⟨_, rfl, ?_⟩⟩
          exact post r N' p' H' g' (gr1.trans gr e1) (e1.grow e gr1) W' (hp.trans hp1) A' i' (nx1.trans nx) sv
      | false =>
        refine ifF rfl ?_
        have hc' : g1.sh = none := by
          cases q : g1.sh with
          | none => rfl
          | some e => rw [q] at hc; cases hc
        refine ⟨_, rfl, p1.s, dx, _, rfl, hH, (hA.tlk.look rfl : _), N1, p1, tl, B, m, Lw, g1, fr1, rfl, W1, A1, HP, i1, f1, ⟨hc', hb'⟩, ⟨fun N' p' H' g' fr' gr e W' hp A' i' nx f' mx => ?_, fun r N' p' H' g' gr e W' hp A' i' nx sv => ?_⟩⟩
        · refine ⟨_, rfl, _, rfl, ifF rfl ?_⟩
          exact ⟨N', p', g', fr', mx, gr1.trans gr e1, e1.grow e gr1, W', hp, A', i', nx1.trans nx, f', _, rfl⟩
        · refine ⟨_, rfl, _, rfl, ifT (by rw [decide_eq_false sv.ne]; rfl) ⟨_, rfl, ?_⟩⟩
          exact post r N' p' H' g' (gr1.trans gr e1) (e1.grow e gr1) W' (hp.trans hp1) A' i' (nx1.trans nx) sv
end
end Tk
/-! text D17 -/
set_option maxHeartbeats 4000000
namespace Tk
open PySem L2
def donD (L : Mach) : D := .t [.s "done", mD L]
def sp_digits_of : Sp := fun vs H Q _ => ∃ (N : Fp) (v : V) (w : List Nat), vs = [v] ∧ Wf N H ∧ At N H v (wL w) ∧ Wd 9 w ∧ w.length ≤ 400 ∧ ∀ (s : Str) (H' : Hp), Sm H H' → s.length ≤ 401 → Q (.str s) H'
def sp_is_word_asker : Sp := fun vs H Q _ => ∃ (N : Fp) (v : V) (w : List Nat) (k l : Nat), vs = [v, nV k, nV l] ∧ Wf N H ∧ At N H v (wL w) ∧ Wd k w ∧ w.length ≤ l ∧ w.length ≤ 400 ∧ ∀ H', Sm H H' → Q (.bl true) H'
def sp_read_known : Sp := fun vs H Q _ => ∃ (N : Fp) (v : V) (k o : Nat), vs = [nV k, nV o, v] ∧ Wf N H ∧ At N H v (.l []) ∧ ∀ (d : Addr) (H' : Hp), H d = none → Sm H H' → H' d = some (.dK []) → Q (.ref d) H'
def dg (x : Nat) : Str := Str.ofString (toString (x : Int))
theorem one_digit {x : Nat} (h : x < 9) : (dg x).length = 1 := by
  have : ∀ y : Fin 9, (Str.ofString (toString ((y.val : Nat) : Int))).length = 1 := by decide +kernel
  exact this ⟨x, h⟩
section
variable {P : Program} {w : World} {K : PySem.W.Frag} {mg : Str → Option Value} {base : Heap} {a : Ads} {d : Fds}
theorem ok_digits_of (T : TX K mg base a d) : FnOk P w K mg base CX0 1 a.f_digits_of d.d_digits_of ["word"] (sp_digits_of) := by
  refine T.F_digits_of.ok sc_digits_of (fun vs H Q E h => ?_) (fun cdv A outer s H vs Q E hr h => ?_)
  · obtain ⟨_, _, _, rfl, _⟩ := h
    rfl
  · obtain ⟨N, v, wd, rfl, W, hv, hw, hl, q⟩ := h
    have hu := hu_of hr
    refine ⟨_, (pss_one (ps_ret (pe_orT (pe_join pe_str (peLk K (pe_lc (own := [("letter", 1)]) rfl sc_digits_of.nd (pi_listk K (pv 0)) (blkOk_by (own := [("letter", 1)]) (N := N_digits_of) (sc := defScope s_digits_of) (by decide +kernel)) (fun _ _ _ _ _ => (pg_name (i := 1) sc_digits_of.nd rfl (Or.inl rfl))) (fun _ _ _ _ _ => pts_nil) (fun _ _ _ _ _ => (pe_callTy call_str_int (by rfl) T.b_str (by decide +kernel) (pa_cons (pv 1) pa_nil)))))) (pe_one pe_str)))), ?_⟩
    refine ⟨⟨_, rfl⟩, _, rfl, ?_⟩
    refine lcL wd D.n (fun x => D.s (dg x)) W hv (by omega) (fun _ => rfl) (fun x hx z H' N' s' W' _ hn' hz' R k' => ?_) fun p H1 s1 hp h1 => ?_
    · refine ⟨_, rfl, (x : Int), by rw [hz'.isN]; rfl, ?_, k' _ _ (.refl _ _) (.s _)⟩
      have := hw x hx
      have : ∀ y : Fin 9, ((y.val : Nat) : Int).natAbs.log2 < 1920 := by decide +kernel
      exact this ⟨x, hw x hx⟩
    · obtain ⟨b, vs, eb, nb, hb, r⟩ := At.lst h1
      have ev : ∀ {us : List Nat} {vs : List V}, Ats N H1 vs (us.map fun x => D.s (dg x)) → vs = (us.map dg).map V.str := by
        intro us
        induction us with
        | nil => intro vs r; cases r; rfl
        | cons u us ih =>
          intro vs r
          cases r with
          | cons r1 r2 =>
            cases r1
            rw [ih r2]; rfl
      rw [ev r] at hb
      have hone : ∀ y ∈ wd.map dg, y.length = 1 := fun y hy => by
        obtain ⟨x, hx, rfl⟩ := List.mem_map.mp hy
        exact one_digit (hw x hx)
      have hsum : ((wd.map dg).map (·.length)).sum = wd.length := by
        have : (wd.map dg).map (·.length) = wd.map fun _ => 1 := by
          rw [List.map_map]
          exact List.map_congr_left fun x hx => one_digit (hw x hx)
        rw [this, List.map_const', List.sum_replicate_nat]; omega
      have hjl : (Txt.join (Str.ofString "") (wd.map dg)).length = wd.length := by
        have := PySem.W.KT.join_ones _ hone
        rw [List.length_map] at this
        exact this
      refine ⟨_, b, _, rfl, by rw [eb], .inl (SqL.of hb), ?_, ?_⟩
      · rw [hsum]
        have e0 : (Str.ofString "").length = 0 := by decide
        rw [e0]; omega
      · refine ⟨_, ⟨by rw [hjl]; exact sz (by omega), rfl⟩, ?_⟩
        rw [hjl]
        by_cases h0 : wd.length = 0
        · refine ifF (by rw [h0]; rfl) (q _ _ s1 ?_)
          decide
        · refine ifT (bne_iff_ne.mpr (by omega)) (q _ _ s1 ?_)
          rw [hjl]; omega
theorem ok_is_word_asker (T : TX K mg base a d) : FnOk P w K mg base CX0 1 a.f_is_word_asker d.d_is_word_asker ["word", "letters", "longest"] (sp_is_word_asker) := by
  refine T.F_is_word_asker.ok sc_is_word_asker (fun vs H Q E h => ?_) (fun cdv A outer s H vs Q E hr h => ?_)
  · obtain ⟨_, _, _, _, _, rfl, _⟩ := h
    rfl
  · obtain ⟨N, v, wd, k, l, rfl, W, hv, hw, hll, hl, q⟩ := h
    have hu := hu_of hr
    refine ⟨_, (pss_one (ps_ret (pe_and (pe_cmpR op_le (pe_callB (cr_lenk K) (by rfl) T.b_len (by decide +kernel) (pa_cons (pv 0) pa_nil)) (pv 2) (nomark _)) (pe_one (pe_callB (cr_allk K rfl) (by rfl) T.b_all (by decide +kernel) (pa_cons (peLk K (pe_lc (own := [("letter", 3)]) rfl sc_is_word_asker.nd (pi_listk K (pv 0)) (blkOk_by (own := [("letter", 3)]) (N := N_is_word_asker) (sc := defScope s_is_word_asker) (by decide +kernel)) (fun _ _ _ _ _ => (pg_name (i := 3) sc_is_word_asker.nd rfl (Or.inl rfl))) (fun _ _ _ _ _ => pts_nil) (fun _ _ _ _ _ => (pe_chain op_le op_lt pe_int (pv 3) (pv 1))))) pa_nil)))))), ?_⟩
    refine ⟨_, rfl, lenL hv ⟨_, rfl, _, _, rfl, rfl, _, rfl, ifT (decide_eq_true (by rw [List.length_map]; omega)) ?_⟩⟩
    refine ⟨_, rfl, ?_⟩
    refine lcL wd D.n (fun _ => D.b true) W hv (by omega) (fun _ => rfl) (fun e he z H' N' s' W' _ _ hz R k' => ?_) fun p H' s' hp hr' => ?_
    · rw [hz.isN]
      refine ⟨_, rfl, _, _, rfl, rfl, _, rfl, ifT (decide_eq_true (by omega)) ⟨_, rfl, _, _, rfl, rfl, k' _ _ (.refl _ _) ?_⟩⟩
      show At N' H' (V.bl (decide ((e : Int) < (k : Int)))) (.b true)
      rw [decide_eq_true (by have := hw e he; omega)]
      exact .b true
    · exact allTrue hr' (q _ s')
theorem ok_read_known (T : TX K mg base a d) : FnOk P w K mg base CX0 1 a.f_read_known d.d_read_known ["letters", "outs", "known"] (sp_read_known) := by
  refine T.F_read_known.ok sc_read_known (fun vs H Q E h => ?_) (fun cdv A outer s H vs Q E hr h => ?_)
  · obtain ⟨_, _, _, _, rfl, _⟩ := h
    rfl
  · obtain ⟨N, v, k, o, rfl, W, hv, q⟩ := h
    have hu := hu_of hr
    refine ⟨_, (pss_cons (ps_if (pt_cmpR op_gt (pe_callB (cr_lenk K) (by rfl) T.b_len (by decide +kernel) (pa_cons (pv 2) pa_nil)) (pe_glob (v := .int 400) rfl T.c_MAX_KNOWN ⟨_, rfl⟩) (nomark _)) (pss_one ps_never) pss_nil)
    (pss_cons (ps_for PassesOwn.never rfl (pi_listk K (pv 2)) (pg_tup rfl (pgs_cons (pg_name (i := 3) sc_read_known.nd rfl (Or.inl rfl)) (pgs_cons (pg_name (i := 4) sc_read_known.nd rfl (Or.inl rfl)) pgs_nil))) pss_never)
    (pss_cons (ps_set (i := 5) sc_read_known.nd rfl (Or.inl rfl) pe_dnewK)
    (pss_cons (ps_for PassesOwn.never rfl (pi_listk K (pv 2)) (pg_tup rfl (pgs_cons (pg_name (i := 3) sc_read_known.nd rfl (Or.inl rfl)) (pgs_cons (pg_name (i := 4) sc_read_known.nd rfl (Or.inl rfl)) pgs_nil))) pss_never)
    (pss_one (ps_ret (pv 5))))))), ?_⟩
    obtain ⟨b, vs, rfl, nb, hb, r⟩ := At.lst hv
    cases r
    refine ⟨_, rfl, lenL hv ⟨_, _, rfl, rfl, _, rfl, ifF (decide_eq_false (by simp)) ?_⟩⟩
    refine ⟨_, rfl, b, rfl, ⟨[], SqL.of hb⟩, ?_⟩
    refine for_list (K := K) (a := b) (xs := []) (fun i σ H' => σ = [some (nV k), some (nV o), some (.ref b), none, none, none] ∧ H' = H) ⟨rfl, rfl⟩ (fun i σ' H' _ p => by rw [p.2]; exact SqL.of hb) (fun i z σ' H' hi p => by cases hi) ?_
    rintro σ' H' ⟨rfl, rfl⟩
    intro dd hdd
    have s1 : Sm H' (upd H' dd (.dK [])) := .new hdd
    have e1 : upd H' dd (.dK []) dd = some (.dK []) := upd_same
    generalize upd H' dd (.dK []) = H1 at s1 e1
    refine ⟨_, rfl, b, rfl, ⟨[], SqL.of (s1.at hb)⟩, ?_⟩
    refine for_list (K := K) (a := b) (xs := []) (fun i σ H2 => σ = [some (nV k), some (nV o), some (.ref b), none, none, some (.ref dd)] ∧ H2 = H1) ⟨rfl, rfl⟩ (fun i σ' H' _ p => by rw [p.2]; exact SqL.of (s1.at hb)) (fun i z σ' H' hi p => by cases hi) ?_
    rintro σ' H2 ⟨rfl, rfl⟩
    exact ⟨_, rfl, q dd _ hdd s1 e1⟩
end
end Tk
/-! text D18 -/
set_option maxHeartbeats 4000000
namespace Tk
open PySem L2
abbrev stF (st : V) : List (Str × V) := [(("_step" : Str), st)]
theorem At.isS {N : Fp} {H : Hp} {v : V} {x : Str} (h : At N H v (.s x)) : v = .str x := by cases h; rfl
theorem stF_ok (st : V) : TlOk (stF st) := .inr ⟨st, rfl⟩
def sp_Asker_step (a : Ads) : Sp := fun vs H Q _ => ∃ (N : Fp) (p : AP) (k o m : Nat) (g : AG) (st : V) (d : D), vs = [.ref p.s] ∧ Wf N H ∧ AskAt a N H p k o m g (stF st) ∧ At N H st d ∧ ((∃ u, d = askD u) ∨ (∃ L, d = proD L) ∨ ∃ L, d = donD L) ∧ ∀ (r : V) (H' : Hp), Sm H H' → At N H' r d → Q r H'
def sp_Asker_need (a : Ads) : Sp := fun vs H Q _ => ∃ (N : Fp) (p : AP) (k o m : Nat) (g : AG) (st : V) (kd : Str) (rest : List D), vs = [.ref p.s, .str kd] ∧ Wf N H ∧ AskAt a N H p k o m g (stF st) ∧ At N H st (.t (.s kd :: rest)) ∧ ∀ H', Sm H H' → Q .non H'
def sp_Asker_accept (a : Ads) : Sp := fun vs H Q _ => ∃ (N : Fp) (p : AP) (k o m : Nat) (g : AG) (st : V) (L : Mach), vs = [.ref p.s] ∧ Wf N H ∧ AskAt a N H p k o m g (stF st) ∧ At N H st (proD L) ∧ g.rc ≤ 100000 ∧
  ∀ (H' : Hp) (st' : V), Ev N H H' → AskAt a N H' p k o m { g with rc := g.rc + 1 } (stF st') → At N H' st' (donD L) → Q .non H'
/-- the state of an asker with a step -/
def AskOk (a : Ads) (B : Mach) (m Lw : Nat) (N : Fp) (H : Hp) (p : AP) (g : AG) : Prop := ∃ st, AskAt a N H p B.k B.o m g (stF st) ∧ AI B Lw g ∧ StepV B Lw N H st g
def ReplyPost (a : Ads) (B : Mach) (m Lw : Nat) (N : Fp) (H : Hp) (s : Addr) (g : AG) (Q : VK) : Prop :=
  ∀ (N' : Fp) (p' : AP) (H' : Hp) (g' : AG), Grow N N' H → Ev N H H' → Wf N' H' → p'.s = s → AskOk a B m Lw N' H' p' g' → Nxt B Lw g g' → Q .non H'
def sp_Asker_answer (a : Ads) : Sp := fun vs H Q _ => ∃ (N : Fp) (p : AP) (B : Mach) (m Lw : Nat) (g : AG) (st : V) (u : List Nat), vs = [.ref p.s, nV (fB B u)] ∧ Wf N H ∧ AskAt a N H p B.k B.o m g (stF st) ∧ Par B m Lw ∧ AI B Lw g ∧ At N H st (askD u) ∧ g.ps.lookup u = none ∧ Cov B Lw g u ∧
  ReplyPost a B m Lw N H p.s (g.learn u (fB B u)) Q
def sp_Asker_show (a : Ads) : Sp := fun vs H Q _ => ∃ (N : Fp) (p : AP) (B : Mach) (m Lw : Nat) (g : AG) (st wv : V) (L : Mach) (u : List Nat), vs = [.ref p.s, wv] ∧ Wf N H ∧ AskAt a N H p B.k B.o m g (stF st) ∧ Par B m Lw ∧ AI B Lw g ∧ At N H st (proD L) ∧ Rdy B g ∧ Idle g ∧
  At N H wv (wL u) ∧ Wd B.k u ∧ u.length ≤ Lw ∧ (Hyp B g).outp 0 u ≠ fB B u ∧ ReplyPost a B m Lw N H p.s { g with sh := some u, rc := g.rc + 1 } Q
def sp_Asker___init__ (a : Ads) : Sp := fun vs H Q _ => ∃ (N : Fp) (s : Addr) (B : Mach) (m Lw : Nat) (kv : V), vs = [.ref s, nV B.k, nV B.o, nV m, kv] ∧ Wf N H ∧ N s ∧ (∀ b, N b → b = s) ∧ Ins H s a.C_Asker [] ∧ Par B m Lw ∧ 1 ≤ B.k ∧ At N H kv (.l []) ∧
  ∀ (N' : Fp) (p' : AP) (H' : Hp) (g' : AG), Grow N N' H → Ev (on s) H H' → Wf N' H' → p'.s = s → AskOk a B m Lw N' H' p' g' → Nxt B Lw ag0 g' → Q .non H'
section
variable {P : Program} {w : World} {K : PySem.W.Frag} {mg : Str → Option Value} {base : Heap} {a : Ads} {d : Fds}
theorem ok_Asker_step (T : TX K mg base a d) : FnOk P w K mg base CX0 1 a.f_Asker_step d.d_Asker_step ["self"] (sp_Asker_step a) := by
  refine T.F_Asker_step.ok sc_Asker_step (fun vs H Q E h => ?_) (fun cdv A outer s H vs Q E hr h => ?_)
  · obtain ⟨_, _, _, _, _, _, _, _, rfl, _⟩ := h
    rfl
  · obtain ⟨N, p, k, o, m, g, st, dd, rfl, W, hA, hst, hd, q⟩ := h
    have hu := hu_of hr
    refine ⟨_, (pss_cons (ps_if (pt_cmpR op_eq (pe_ix (ix_tupk K) (pe_fldk K (pv 0) rfl) pe_int (fun _ _ => rfl)) pe_str (nomark _)) (pss_one (ps_ret (pe_tupm (pa_cons pe_str (pa_cons (pe_callTy (cr_listk K) (by rfl) T.b_list (by decide +kernel) (pa_cons (pe_ix (ix_tupk K) (pe_fldk K (pv 0) rfl) pe_int (fun _ _ => rfl)) pa_nil)) pa_nil))))) pss_nil)
    (pss_one (ps_ret (pe_fldk K (pv 0) rfl)))), ?_⟩
    obtain ⟨v, hI, _⟩ := hA.ins
    rcases hd with ⟨u, rfl⟩ | ⟨L, rfl⟩ | ⟨L, rfl⟩
    · refine ⟨_, rfl, fldR hI T.cl_Asker T.n_Asker__step rfl (ixT 0 hst rfl rfl fun z hz => ?_)⟩
      rw [hz.isS]
      refine ⟨rfl, _, rfl, ifT (decide_eq_true rfl) ?_⟩
      refine ⟨_, rfl, fldR hI T.cl_Asker T.n_Asker__step rfl (ixT 1 hst rfl rfl fun z1 h1 => listL h1 fun p2 vs2 hp2 hvs2 => ?_)⟩
      have s2 : Sm H (upd H p2 (.lst vs2)) := .new hp2
      have h2 : At N (upd H p2 (.lst vs2)) (.ref p2) (wL u) := .mkL W hp2 hvs2
      generalize upd H p2 (.lst vs2) = H2 at s2 h2
      exact mkT (W.ev s2) (by simp) (.cons (.s _) (.cons h2 .nil)) fun p3 H3 s3 h3 => q _ _ (s2.trans s3) h3
    · refine ⟨_, rfl, fldR hI T.cl_Asker T.n_Asker__step rfl (ixT 0 hst rfl rfl fun z hz => ?_)⟩
      rw [hz.isS]
      refine ⟨rfl, _, rfl, ifF (decide_eq_false fun z => by injection z with z; exact absurd z (by decide)) ?_⟩
      exact ⟨_, rfl, fldR hI T.cl_Asker T.n_Asker__step rfl (q _ _ (.refl _ _) hst)⟩
    · refine ⟨_, rfl, fldR hI T.cl_Asker T.n_Asker__step rfl (ixT 0 hst rfl rfl fun z hz => ?_)⟩
      rw [hz.isS]
      refine ⟨rfl, _, rfl, ifF (decide_eq_false fun z => by injection z with z; exact absurd z (by decide)) ?_⟩
      exact ⟨_, rfl, fldR hI T.cl_Asker T.n_Asker__step rfl (q _ _ (.refl _ _) hst)⟩
theorem ok_Asker_need (T : TX K mg base a d) : FnOk P w K mg base CX0 1 a.f_Asker_need d.d_Asker_need ["self", "kind"] (sp_Asker_need a) := by
  refine T.F_Asker_need.ok sc_Asker_need (fun vs H Q E h => ?_) (fun cdv A outer s H vs Q E hr h => ?_)
  · obtain ⟨_, _, _, _, _, _, _, _, _, rfl, _⟩ := h
    rfl
  · obtain ⟨N, p, k, o, m, g, st, kd, rest, rfl, W, hA, hst, q⟩ := h
    have hu := hu_of hr
    refine ⟨_, (pss_one (ps_if (pt_cmpR op_ne (pe_ix (ix_tupk K) (pe_fldk K (pv 0) rfl) pe_int (fun _ _ => rfl)) (pv 1) (nomark _)) (pss_one ps_never) pss_nil)), ?_⟩
    obtain ⟨v, hI, _⟩ := hA.ins
    refine ⟨_, rfl, fldR hI T.cl_Asker T.n_Asker__step rfl (ixT 0 hst rfl rfl fun z hz => ⟨_, rfl, ?_⟩)⟩
    rw [hz.isS]
    exact ⟨rfl, _, rfl, ifF (by rw [decide_eq_true rfl]; rfl) (q _ (.refl _ _))⟩
theorem ok_Asker_accept (T : TX K mg base a d) : FnOk P w K mg base CX0 2 a.f_Asker_accept d.d_Asker_accept ["self"] (sp_Asker_accept a) := by
  refine T.F_Asker_accept.ok sc_Asker_accept (fun vs H Q E h => ?_) (fun cdv A outer s H vs Q E hr h => ?_)
  · obtain ⟨_, _, _, _, _, _, _, _, rfl, _⟩ := h
    rfl
  · obtain ⟨N, p, k, o, m, g, st, L, rfl, W, hA, hst, hrc, q⟩ := h
    have hu := hu_of hr
    refine ⟨_, (pss_cons (ps_expr (pe_meth (pv 0) T.cl_Asker T.M_Asker_need (ok_Asker_need T) (hr.mono (by decide)) T.B_Asker_need .nil pass0 (pa_cons pe_str pa_nil)))
    (pss_cons (ps_expr (pe_bmk K PySem.F.plainAttrs_list PySem.F.slot_list_append PySem.F.type_list_append mt_appendm (pe_fldk K (pv 0) rfl) (pa_cons pe_str pa_nil)))
    (pss_one (ps_fldk K (pv 0) (pe_tupm (pa_cons pe_str (pa_cons (pe_ix (ix_tupk K) (pe_fldk K (pv 0) rfl) pe_int (fun _ _ => rfl)) pa_nil))) rfl)))), ?_⟩
    obtain ⟨v, ⟨dx, hH⟩, _⟩ := hA.ins
    refine ⟨_, rfl, p.s, dx, _, rfl, hH, rfl, N, p, k, o, m, g, st, _, _, rfl, W, hA, hst, fun H1 s1 => ?_⟩
    have A1 := hA.sm s1
    obtain ⟨v1, I1, m1, sh1, se1⟩ := A1.ins
    obtain ⟨rs, hrl, hrn⟩ := A1.rl
    have M := AP.mem (p := p)
    refine ⟨_, rfl, fldR I1 T.cl_Asker T.n_Asker__replies rfl ⟨hrl.ty, appL (N := N) hrl (hA.all _ M.2.2.1) (.s _) (by rw [List.length_map]; omega) fun H2 e2 L2 => ?_⟩⟩
    have A2 := AskAt.reply (rs := rs ++ [Str.ofString "+"]) A1 e2 (by rw [List.map_append]; exact L2)
    obtain ⟨v2, I2, m2, sh2, se2⟩ := A2.ins
    have or_ : ∀ b, on p.rl b → N b := onN (hA.all _ M.2.2.1)
    have os : ∀ b, on p.s b → N b := onN (hA.all _ M.1)
    have W2 := (W.ev s1).ev e2
    have hst2 := (hst.sm s1).evs e2 or_
    refine ⟨_, rfl, fldR I2 T.cl_Asker T.n_Asker__step rfl (ixT 1 hst2 rfl rfl fun z3 h3 => mkT W2 (by simp) (.cons (.s _) (.cons h3 .nil)) fun p4 H4 s4 h4 => ?_)⟩
    have A4 := A2.sm s4
    refine ⟨_, rfl, fldS (I2.sm s4) T.cl_Asker T.n_Asker__step (aF_len (stF_ok st)) fun H5 e5 I5 => ?_⟩
    have A5 := AskAt.fld (v := v2) (tl' := stF (.ref p4)) A4 e5 (stF_ok _) I5 ((hyVs m2 s4).upE e5 os fun _ z => .inl z) ((shVs sh2 s4).upE e5 os fun _ z => .inl z) ((seVs se2 s4).upE e5 os (fun _ z => z) (fun _ z => .inl z) fun b z => by rw [show b = p.s from z]; exact M.1)
    refine q H5 (.ref p4) ((((Ev.of s1).trans (e2.mono or_)).trans (.of s4)).trans (e5.mono os)) (A5.ghost rfl rfl rfl rfl rfl rfl rfl ?_) (h4.evs e5 os)
    show g.rc + 1 = (rs ++ [Str.ofString "+"]).length
    rw [List.length_append, List.length_singleton, hrn]
end
end Tk
/-! text D19 -/
set_option maxHeartbeats 4000000
namespace Tk
open PySem L2
theorem eqTxt {y : Nat} (h : y < 6) : ((Str.empty ++ Str.ofString "=") ++ Str.ofString (toString (y : Int))).length ≤ sizeLine := by
  have : ∀ y : Fin 6, ((Str.empty ++ Str.ofString "=") ++ Str.ofString (toString ((y.val : Nat) : Int))).length ≤ sizeLine := by decide +kernel
  exact this ⟨y, h⟩
theorem smallLog {y : Nat} (h : y < 6) : (y : Int).natAbs.log2 < 1920 := by
  have : ∀ y : Fin 6, ((y.val : Nat) : Int).natAbs.log2 < 1920 := by decide +kernel
  exact this ⟨y, h⟩
theorem StepV.up {B : Mach} {Lw : Nat} {N F : Fp} {H H' : Hp} {r : V} {g : AG} (h : StepV B Lw N H r g) (e : Ev F H H') (s : ∀ b, F b → N b) : StepV B Lw N H' r g := by
  rcases h with ⟨u, h, h2⟩ | ⟨L, h, h2⟩
  · exact .inl ⟨u, h.evs e s, h2⟩
  · exact .inr ⟨L, h.evs e s, h2⟩
section
variable {P : Program} {w : World} {K : PySem.W.Frag} {mg : Str → Option Value} {base : Heap} {a : Ads} {d : Fds}
theorem ok_Asker_answer (T : TX K mg base a d) : FnOk P w K mg base CX0 7 a.f_Asker_answer d.d_Asker_answer ["self", "output"] (sp_Asker_answer a) := by
  refine T.F_Asker_answer.ok sc_Asker_answer (fun vs H Q E h => ?_) (fun cdv A outer s H vs Q E hr h => ?_)
  · obtain ⟨_, _, _, _, _, _, _, _, rfl, _⟩ := h
    rfl
  · obtain ⟨N, p, B, m, Lw, g, st, u, rfl, W, hA, HP, hi, hst, hlk, hcov, post⟩ := h
    have hu := hu_of hr
    refine ⟨_, (pss_cons (ps_expr (pe_meth (pv 0) T.cl_Asker T.M_Asker_need (ok_Asker_need T) (hr.mono (by decide)) T.B_Asker_need .nil pass0 (pa_cons pe_str pa_nil)))
    (pss_cons (ps_if (pt_not (pt_chain op_le op_lt pe_int (pv 1) (pe_fldk K (pv 0) rfl))) (pss_cons (ps_expr (pe_bmk K PySem.F.plainAttrs_list PySem.F.slot_list_append PySem.F.type_list_append mt_appendm (pe_fldk K (pv 0) rfl) (pa_cons pe_str pa_nil)))
      (pss_cons (ps_fldk K (pv 0) (pe_tupm (pa_cons pe_str (pa_cons pe_str pa_nil))) rfl)
      (pss_one ps_retN))) pss_nil)
    (pss_cons (ps_set (i := 2) sc_Asker_answer.nd rfl (Or.inl rfl) (pe_callTy (cr_tupk K) (by rfl) T.b_tuple (by decide +kernel) (pa_cons (pe_ix (ix_tupk K) (pe_fldk K (pv 0) rfl) pe_int (fun _ _ => rfl)) pa_nil)))
    (pss_cons (ps_dput hu (pe_fldk K (pv 0) rfl) (pv 2) (pv 1) rfl)
    (pss_cons (ps_augS (pe_fldk K (pv 0) rfl) pe_int pget_list pe_int ip_add set_listm)
    (pss_cons (ps_augS (pe_fldk K (pv 0) rfl) pe_int pget_list (pe_callB (cr_lenk K) (by rfl) T.b_len (by decide +kernel) (pa_cons (pv 2) pa_nil)) ip_add set_listm)
    (pss_cons (ps_expr (pe_bmk K PySem.F.plainAttrs_list PySem.F.slot_list_append PySem.F.type_list_append mt_appendm (pe_fldk K (pv 0) rfl) (pa_cons (pe_joined (PJ.cons pe_str (PJ.cons (pe_fmt (pv 1)) PJ.nil))) pa_nil)))
    (pss_one (ps_fldk K (pv 0) (pe_meth0 (pv 0) T.cl_Asker T.M_Asker__next_step (ok_Asker__next_step T) (hr.mono (by decide)) T.B_Asker__next_step .nil pass0) rfl))))))))), ?_⟩
    have M := AP.mem (p := p)
    have os := onN (N := N) (hA.all _ M.1)
    have ok_ := onN (N := N) (hA.all _ M.2.1)
    have or_ := onN (N := N) (hA.all _ M.2.2.1)
    have oc := onN (N := N) (hA.all _ M.2.2.2.1)
    have hfo : fB B u < B.o := HP.ok.outp_lt u HP.ok.pos
    have hf6 : fB B u < 6 := Nat.lt_of_lt_of_le hfo HP.o
    obtain ⟨v, ⟨dx, hH⟩, _⟩ := hA.ins
    refine ⟨_, rfl, p.s, dx, _, rfl, hH, rfl, N, p, B.k, B.o, m, g, st, _, _, rfl, W, hA, hst, fun H1 s1 => ?_⟩
    have A1 := hA.sm s1
    obtain ⟨v1, I1, _⟩ := A1.ins
    refine ⟨_, rfl, _, _, rfl, rfl, _, rfl, ifT (decide_eq_true (by omega)) ⟨_, rfl, fldR I1 T.cl_Asker T.n_Asker_outs rfl ⟨_, _, rfl, rfl, _, rfl, ifF (by rw [decide_eq_true (by omega)]; rfl) ?_⟩⟩⟩
    refine ⟨_, rfl, fldR I1 T.cl_Asker T.n_Asker__step rfl (ixT 1 (hst.sm s1) rfl rfl fun z2 h2 => tupL (W.ev s1) h2 fun p3 H3 s3 h3 => ?_)⟩
    have A3 := A1.sm s3
    have W3 := (W.ev s1).ev s3
    obtain ⟨v3, I3, _⟩ := A3.ins
    refine ⟨_, rfl, _, rfl, fldR I3 T.cl_Asker T.n_Asker__known rfl ⟨_, rfl, dputN (w := u) (f := nV) (r := fB B u) A3.kn h3 hlk (by have := hi.plen HP; omega) rfl fun H4 e4 k4 => ?_⟩⟩
    have A4 := AskAt.known A3 e4 k4
    have W4 := W3.ev e4
    have h4 := h3.evs e4 ok_
    obtain ⟨v4, I4, _⟩ := A4.ins
    obtain ⟨c0, c1, c2, c3, hc4⟩ := A4.cn
    refine ⟨_, rfl, fldR I4 T.cl_Asker T.n_Asker__counts rfl (ixLs 0 hc4 rfl rfl fun z5 h5 => ?_)⟩
    rw [h5.isN]
    refine ⟨_, _, rfl, rfl, setLs 0 hc4 (hA.all _ M.2.2.2.1) (by simp) rfl (d := .n (c0 + 1)) (.n (c0 + 1)) fun H5 e5 L5 => ?_⟩
    have A5 := AskAt.count A4 e5 (c0 := c0 + 1) (c1 := c1) (c2 := c2) (c3 := c3) L5
    have W5 := W4.ev e5
    have h5' := h4.evs e5 oc
    obtain ⟨v5, I5, _⟩ := A5.ins
    refine ⟨_, rfl, fldR I5 T.cl_Asker T.n_Asker__counts rfl (ixLs 1 L5 rfl rfl fun z6 h6 => ?_)⟩
    rw [h6.isN]
    refine ⟨_, rfl, lenT h5' ⟨_, _, rfl, rfl, setLs 1 L5 (hA.all _ M.2.2.2.1) (by simp) rfl (d := .n (c1 + u.length)) ?_ fun H6 e6 L6 => ?_⟩⟩
    · have : nV (c1 + u.length) = V.int ((c1 : Int) + ((u.map D.n).length : Int)) := by
        rw [List.length_map]; unfold nV; push_cast; rfl
      rw [← this]
      exact .n _
    have A6 := AskAt.count A5 e6 (c0 := c0 + 1) (c1 := c1 + u.length) (c2 := c2) (c3 := c3) L6
    have W6 := W5.ev e6
    obtain ⟨v6, I6, _⟩ := A6.ins
    obtain ⟨rs, hrl, hrn⟩ := A6.rl
    refine ⟨_, rfl, fldR I6 T.cl_Asker T.n_Asker__replies rfl ⟨hrl.ty, Str.ofString "=", rfl, by decide, _, rfl, .inr ⟨_, rfl, smallLog hf6, _, rfl, eqTxt hf6, ?_⟩⟩⟩
    refine appL (N := N) hrl (hA.all _ M.2.2.1) (.s _) (by rw [List.length_map, hrn]; have := hi.rlen HP; show g.rc ≤ 1000000; omega) fun H7 e7 L7 => ?_
    have A7 := AskAt.reply (rs := rs ++ [_]) A6 e7 (by rw [List.map_append]; exact L7)
    have A7' : AskAt a N H7 p B.k B.o m (g.learn u (fB B u)) (stF st) := A7.ghost rfl rfl rfl rfl rfl rfl rfl (by
      show g.rc + 1 = (rs ++ [_]).length
      rw [List.length_append, List.length_singleton, hrn])
    have W7 := W6.ev e7
    have hku : u ∉ g.ps.map (·.1) := lookup_key.mp hlk
    have hi7 := hi.learn hku hcov
    have e07 : Ev N H H7 := ((((Ev.of (s1.trans s3)).trans (e4.mono ok_)).trans (e5.mono oc)).trans (e6.mono oc)).trans (e7.mono or_)
    obtain ⟨v7, ⟨dx7, hH7⟩, _⟩ := A7'.ins
    refine ⟨_, rfl, p.s, dx7, _, rfl, hH7, rfl, N, p, stF st, B, m, Lw, _, rfl, W7, A7', HP, hi7, fun r N' p' H8 g8 gr e8 W8 hp A8 i8 nx sv => ?_⟩
    obtain ⟨v8, I8, m8, sh8, se8⟩ := A8.ins
    rw [hp] at I8
    refine ⟨_, rfl, fldS I8 T.cl_Asker T.n_Asker__step (aF_len (stF_ok st)) fun H9 e9 I9 => ?_⟩
    rw [← hp] at e9 I9
    have M' := AP.mem (p := p')
    have os' := onN (N := N') (A8.all _ M'.1)
    have A9 := AskAt.fld (v := v8) (tl' := stF r) A8 e9 (stF_ok _) I9 (m8.upE e9 os' fun _ z => .inl z) (sh8.upE e9 os' fun _ z => .inl z) (se8.upE e9 os' (fun _ z => z) (fun _ z => .inl z) fun b z => by rw [show b = p'.s from z]; exact M'.1)
    have gr0 : Grow N N' H := ⟨gr.up, fun b z => (gr.new b z).elim .inl fun w => .inr (e07.th b w)⟩
    exact post N' p' H9 g8 gr0 (e07.then (e8.grow (e9.mono os') gr) fun b z => .inl z) (W8.ev e9) hp ⟨r, A9.ghost rfl rfl rfl rfl rfl rfl rfl rfl, i8, sv.up e9 os'⟩ nx
theorem ok_Asker_show (T : TX K mg base a d) : FnOk P w K mg base CX0 7 a.f_Asker_show d.d_Asker_show ["self", "word"] (sp_Asker_show a) := by
  refine T.F_Asker_show.ok sc_Asker_show (fun vs H Q E h => ?_) (fun cdv A outer s H vs Q E hr h => ?_)
  · obtain ⟨_, _, _, _, _, _, _, _, _, _, rfl, _⟩ := h
    rfl
  · obtain ⟨N, p, B, m, Lw, g, st, wv, L, u, rfl, W, hA, HP, hi, hst, rdy, hid, hw, huw, hul, hne, post⟩ := h
    have hu := hu_of hr
    refine ⟨_, (pss_cons (ps_expr (pe_meth (pv 0) T.cl_Asker T.M_Asker_need (ok_Asker_need T) (hr.mono (by decide)) T.B_Asker_need .nil pass0 (pa_cons pe_str pa_nil)))
    (pss_cons (ps_if (pt_not (pt_val (pe_call (ok_is_word_asker T) (hr.mono (by decide)) rfl T.g_is_word_asker T.F_is_word_asker.kp T.B_is_word_asker .nil pass0 (pa_cons (pv 1) (pa_cons (pe_fldk K (pv 0) rfl) (pa_cons (pe_glob (v := .int 300) rfl T.c_MAX_SHOWN ⟨_, rfl⟩) pa_nil)))))) (pss_cons (ps_expr (pe_bmk K PySem.F.plainAttrs_list PySem.F.slot_list_append PySem.F.type_list_append mt_appendm (pe_fldk K (pv 0) rfl) (pa_cons pe_str pa_nil)))
      (pss_cons (ps_fldk K (pv 0) (pe_tupm (pa_cons pe_str (pa_cons pe_str pa_nil))) rfl)
      (pss_one ps_retN))) pss_nil)
    (pss_cons (ps_asg (pe_callB (call_max2 rfl) (by rfl) T.b_max (by decide +kernel) (pa_cons (pe_ix (ix_listk K) (pe_fldk K (pv 0) rfl) pe_int (fun _ _ => rfl)) (pa_cons (pe_callB (cr_lenk K) (by rfl) T.b_len (by decide +kernel) (pa_cons (pv 1) pa_nil)) pa_nil))) (pg_sub (pe_fldk K (pv 0) rfl) pe_int set_listm))
    (pss_cons (ps_expr (pe_bmk K PySem.F.plainAttrs_list PySem.F.slot_list_append PySem.F.type_list_append mt_appendm (pe_fldk K (pv 0) rfl) (pa_cons (pe_op op_add_str pe_str (pe_call (ok_digits_of T) (hr.mono (by decide)) rfl T.g_digits_of T.F_digits_of.kp T.B_digits_of .nil pass0 (pa_cons (pv 1) pa_nil))) pa_nil)))
    (pss_cons (ps_fldk K (pv 0) (pe_callTy (cr_tupk K) (by rfl) T.b_tuple (by decide +kernel) (pa_cons (pv 1) pa_nil)) rfl)
    (pss_one (ps_fldk K (pv 0) (pe_meth0 (pv 0) T.cl_Asker T.M_Asker__next_step (ok_Asker__next_step T) (hr.mono (by decide)) T.B_Asker__next_step .nil pass0) rfl))))))), ?_⟩
    have M := AP.mem (p := p)
    have os := onN (N := N) (hA.all _ M.1)
    have or_ := onN (N := N) (hA.all _ M.2.2.1)
    have oc := onN (N := N) (hA.all _ M.2.2.2.1)
    have hul4 : u.length ≤ 300 := by have := HP.lw; omega
    obtain ⟨v, ⟨dx, hH⟩, _⟩ := hA.ins
    refine ⟨_, rfl, p.s, dx, _, rfl, hH, rfl, N, p, B.k, B.o, m, g, st, _, _, rfl, W, hA, hst, fun H1 s1 => ?_⟩
    have A1 := hA.sm s1
    have W1 := W.ev s1
    obtain ⟨v1, I1, _⟩ := A1.ins
    refine ⟨_, rfl, _, rfl, fldR I1 T.cl_Asker T.n_Asker_letters rfl ⟨N, wv, u, B.k, 300, rfl, W1, hw.sm s1, huw, hul4, by omega, fun H2 s2 => ⟨_, rfl, ifF rfl ?_⟩⟩⟩
    have A2 := A1.sm s2
    have W2 := W1.ev s2
    have hw2 := (hw.sm s1).sm s2
    obtain ⟨v2, I2, _⟩ := A2.ins
    obtain ⟨c0, c1, c2, c3, hc2⟩ := A2.cn
    refine ⟨_, rfl, fldR I2 T.cl_Asker T.n_Asker__counts rfl (ixLs 3 hc2 rfl rfl fun z3 h3 => ?_)⟩
    rw [h3.isN]
    refine ⟨_, rfl, lenL hw2 ⟨_, _, rfl, ?_⟩⟩
    rw [List.length_map]
    refine ⟨_, rfl, fldR I2 T.cl_Asker T.n_Asker__counts rfl (setLs 3 hc2 (hA.all _ M.2.2.2.1) (by simp) rfl (d := .n (max c3 u.length)) ?_ fun H3 e3 L3 => ?_)⟩
    · have : (V.int (if ((u.length : Nat) : Int) > ((c3 : Nat) : Int) then ((u.length : Nat) : Int) else ((c3 : Nat) : Int))) = nV (max c3 u.length) := by
        unfold nV
        congr 1
        split <;> omega
      rw [this]
      exact .n _
    have A3 := AskAt.count A2 e3 (c0 := c0) (c1 := c1) (c2 := c2) (c3 := max c3 u.length) L3
    have W3 := W2.ev e3
    have hw3 := hw2.evs e3 oc
    obtain ⟨v3, I3, _⟩ := A3.ins
    obtain ⟨rs, hrl, hrn⟩ := A3.rl
    refine ⟨_, rfl, fldR I3 T.cl_Asker T.n_Asker__replies rfl ⟨hrl.ty, _, rfl, N, wv, u, rfl, W3, hw3, fun x hx => ?_, by omega, fun sx H4 s4 hsx => ?_⟩⟩
    · have := huw x hx; have := HP.k; omega
    have A4 := A3.sm s4
    have W4 := W3.ev s4
    refine ⟨_, _, rfl, rfl, ?_, ?_⟩
    · have : (Str.ofString "-").length = 1 := by decide
      rw [this]
      exact sz (by omega)
    refine appL (N := N) (hrl.sm s4) (hA.all _ M.2.2.1) (.s _) (by rw [List.length_map, hrn]; have := hi.rlen HP; show g.rc ≤ 1000000; omega) fun H5 e5 L5 => ?_
    have A5 := AskAt.reply (rs := rs ++ [_]) A4 e5 (by rw [List.map_append]; exact L5)
    have W5 := W4.ev e5
    have hw5 := (hw3.sm s4).evs e5 or_
    refine ⟨_, rfl, tupL W5 hw5 fun p6 H6 s6 h6 => ?_⟩
    have A6 := A5.sm s6
    obtain ⟨v6, I6, m6, sh6, se6⟩ := A6.ins
    refine ⟨_, rfl, fldS I6 T.cl_Asker T.n_Asker__shown (aF_len (stF_ok st)) fun H7 e7 I7 => ?_⟩
    have A7 := AskAt.fld (v := { v6 with sv := .ref p6 }) (sh := some u) A6 e7 (stF_ok st) I7 (m6.upE e7 os fun _ z => .inl z) (h6.evs e7 os) (se6.upE e7 os (fun _ z => z) (fun _ z => .inl z) fun b z => by rw [show b = p.s from z]; exact M.1)
    have A7' : AskAt a N H7 p B.k B.o m { g with sh := some u, rc := g.rc + 1 } (stF st) := A7.ghost rfl rfl rfl rfl rfl rfl rfl (by
      show g.rc + 1 = (rs ++ [_]).length
      rw [List.length_append, List.length_singleton, hrn])
    have W7 := (W5.ev s6).ev e7
    have hi7 := hi.show' hid rdy huw hul hne
    have e07 : Ev N H H7 := (((((Ev.of (s1.trans s2)).trans (e3.mono oc)).trans (.of s4)).trans (e5.mono or_)).trans (.of s6)).trans (e7.mono os)
    obtain ⟨v7, ⟨dx7, hH7⟩, _⟩ := A7'.ins
    refine ⟨_, rfl, p.s, dx7, _, rfl, hH7, rfl, N, p, stF st, B, m, Lw, _, rfl, W7, A7', HP, hi7, fun r N' p' H8 g8 gr e8 W8 hp A8 i8 nx sv => ?_⟩
    obtain ⟨v8, I8, m8, sh8, se8⟩ := A8.ins
    rw [hp] at I8
    refine ⟨_, rfl, fldS I8 T.cl_Asker T.n_Asker__step (aF_len (stF_ok st)) fun H9 e9 I9 => ?_⟩
    rw [← hp] at e9 I9
    have M' := AP.mem (p := p')
    have os' := onN (N := N') (A8.all _ M'.1)
    have A9 := AskAt.fld (v := v8) (tl' := stF r) A8 e9 (stF_ok _) I9 (m8.upE e9 os' fun _ z => .inl z) (sh8.upE e9 os' fun _ z => .inl z) (se8.upE e9 os' (fun _ z => z) (fun _ z => .inl z) fun b z => by rw [show b = p'.s from z]; exact M'.1)
    have gr0 : Grow N N' H := ⟨gr.up, fun b z => (gr.new b z).elim .inl fun w => .inr (e07.th b w)⟩
    exact post N' p' H9 g8 gr0 (e07.then (e8.grow (e9.mono os') gr) fun b z => .inl z) (W8.ev e9) hp ⟨r, A9.ghost rfl rfl rfl rfl rfl rfl rfl rfl, i8, sv.up e9 os'⟩ nx
end
end Tk
/-! text D20 -/
set_option maxHeartbeats 4000000
namespace Tk
open PySem L2
/-- on: only s is written, the places grow -/
structure Stp (s : Addr) (N N' : Fp) (H H' : Hp) : Prop where
  g : Grow N N' H
  e : Ev (on s) H H'
theorem Stp.trans {s : Addr} {N N1 N2 : Fp} {H H1 H2 : Hp} (a : Stp s N N1 H H1) (b : Stp s N1 N2 H1 H2) : Stp s N N2 H H2 := ⟨a.g.trans b.g a.e, a.e.trans b.e⟩
theorem Stp.fl {s : Addr} {N : Fp} {H H1 : Hp} (e : Ev (on s) H H1) : Stp s N N H H1 := ⟨.refl, e⟩
theorem Stp.sm {s : Addr} {N : Fp} {H H1 : Hp} (e : Sm H H1) : Stp s N N H H1 := ⟨.refl, .of e⟩
theorem Stp.nw {s q : Addr} {N : Fp} {H H1 : Hp} (h : H q = none) (e : Sm H H1) : Stp s N (ad q N) H H1 := ⟨.ad h, .of e⟩
theorem dict0 {H : Hp} {b : Addr} {Q : VK} (h : H b = some (.dK [])) (q : ∀ p H', H p = none → Sm H H' → H' p = some (.dT []) → Q (.ref p) H') : rDict0 [.ref b] H Q := by
  unfold rDict0
  exact ⟨b, rfl, h, fun p hp => q p _ hp (.new hp) upd_same⟩
section
variable {P : Program} {w : World} {K : PySem.W.Frag} {mg : Str → Option Value} {base : Heap} {a : Ads} {d : Fds}
theorem ok_Asker___init__ (T : TX K mg base a d) : FnOk P w K mg base CX0 7 a.f_Asker___init__ d.d_Asker___init__ ["self", "letters", "outs", "most", "known"] (sp_Asker___init__ a) := by
  refine T.F_Asker___init__.ok sc_Asker___init__ (fun vs H Q E h => ?_) (fun cdv A outer s H vs Q E hr h => ?_)
  · obtain ⟨_, _, _, _, _, _, rfl, _⟩ := h
    rfl
  · obtain ⟨N, x, B, m, Lw, kv, rfl, W, nx, hNx, hI, HP, hk1, hkv, post⟩ := h
    have hu := hu_of hr
    refine ⟨_, (pss_cons (ps_if (PW.pt (pw_or (pt_not (pt_chain op_le op_le pe_int (pv 1) (pe_glob (v := .int 4) rfl T.c_MAX_LETTERS ⟨_, rfl⟩))) (pw_or (pt_not (pt_chain op_le op_le pe_int (pv 2) (pe_glob (v := .int 6) rfl T.c_MAX_OUTS ⟨_, rfl⟩))) (pw_or1 (pt_not (pt_chain op_le op_le pe_int (pv 3) (pe_glob (v := .int 30) rfl T.c_MAX_STATES ⟨_, rfl⟩))))))) (pss_one ps_never) pss_nil)
    (pss_cons (ps_fldk K (pv 0) (pv 1) rfl)
    (pss_cons (ps_fldk K (pv 0) (pv 2) rfl)
    (pss_cons (ps_fldk K (pv 0) (pv 3) rfl)
    (pss_cons (ps_fldk K (pv 0) (pe_call (ok_read_known T) (hr.mono (by decide)) rfl T.g_read_known T.F_read_known.kp T.B_read_known .nil pass0 (pa_cons (pv 1) (pa_cons (pv 2) (pa_cons (pv 4) pa_nil)))) rfl)
    (pss_cons (ps_fldk K (pv 0) (pe_callTy cr_dict0 (by rfl) T.b_dict (by decide +kernel) (pa_cons (pe_fldk K (pv 0) rfl) pa_nil)) rfl)
    (pss_cons (ps_fldk K (pv 0) (pe_lstm pa_nil) rfl)
    (pss_cons (ps_fldk K (pv 0) (pe_lstm (pa_cons pe_int (pa_cons pe_int (pa_cons pe_int (pa_cons pe_int pa_nil))))) rfl)
    (pss_cons (ps_fldk K (pv 0) (pe_make T.mk_Table (ok_Table___init__ T) (hr.mono (by decide)) rfl T.g_Table T.B_Table___init__ .nil pass0 (pa_cons (pv 1) pa_nil)) rfl)
    (pss_cons (ps_fldk K (pv 0) pe_non rfl)
    (pss_cons (ps_fldk K (pv 0) pe_non rfl)
    (pss_cons (ps_fldk K (pv 0) pe_non rfl)
    (pss_cons (ps_fldk K (pv 0) (pe_lstm pa_nil) rfl)
    (pss_one (ps_fldk K (pv 0) (pe_meth0 (pv 0) T.cl_Asker T.M_Asker__next_step (ok_Asker__next_step T) (hr.mono (by decide)) T.B_Asker__next_step .nil pass0) rfl))))))))))))))), ?_⟩
    have hk := HP.k
    have ho := HP.o
    have ho1 := HP.ok.opos
    have hm1 : 1 ≤ m := Nat.le_trans HP.ok.pos HP.m1
    have hm := HP.m
    have os : ∀ b, on x b → N b := onN nx
    refine ⟨_, rfl, _, _, rfl, rfl, _, rfl, ifT (decide_eq_true (by omega)) ⟨_, _, rfl, rfl, _, rfl, ifF (by rw [decide_eq_true (by omega)]; rfl) ?_⟩⟩
    refine ⟨_, rfl, _, _, rfl, rfl, _, rfl, ifT (decide_eq_true (by omega)) ⟨_, _, rfl, rfl, _, rfl, ifF (by rw [decide_eq_true (by omega)]; rfl) ?_⟩⟩
    refine ⟨_, rfl, _, _, rfl, rfl, _, rfl, ifT (decide_eq_true (by omega)) ⟨_, _, rfl, rfl, _, rfl, ifF (by rw [decide_eq_true (by omega)]; rfl) ?_⟩⟩
    refine ⟨_, rfl, _, rfl, fldS hI T.cl_Asker T.n_Asker_letters (Nat.le_of_ble_eq_true rfl) fun H1 e1 I1 => ?_⟩
    refine ⟨_, rfl, _, rfl, fldS I1 T.cl_Asker T.n_Asker_outs (Nat.le_of_ble_eq_true rfl) fun H2 e2 I2 => ?_⟩
    refine ⟨_, rfl, _, rfl, fldS I2 T.cl_Asker T.n_Asker_most (Nat.le_of_ble_eq_true rfl) fun H3 e3 I3 => ?_⟩
    have e03 : Ev (on x) H H3 := (e1.trans e2).trans e3
    have W3 := W.ev e03
    refine ⟨_, rfl, _, rfl, _, rfl, N, kv, B.k, B.o, rfl, W3, hkv.evs e03 os, fun d0 H4 hd0 s4 k4 => ?_⟩
    have nd0 : d0 ≠ x := fun e => I3.tr (e ▸ hd0)
    refine ⟨_, rfl, fldS (I3.sm s4) T.cl_Asker T.n_Asker__given (Nat.le_of_ble_eq_true rfl) fun H5 e5 I5 => ?_⟩
    have k5 : H5 d0 = some (.dK []) := e5.kp _ _ k4 nd0
    have W5 := (W3.ev s4).ev e5
    have c5 : Stp x N N H H5 := (Stp.fl e03).trans ((Stp.sm s4).trans (.fl e5))
    refine ⟨_, rfl, fldR I5 T.cl_Asker T.n_Asker__given rfl ?_⟩
    refine dict0 k5 fun kd H6 hkd s6 k6 => ?_
    have W6 : Wf (ad kd N) H6 := (W5.ev s6).ad k6
    refine ⟨_, rfl, fldS (I5.sm s6) T.cl_Asker T.n_Asker__known (Nat.le_of_ble_eq_true rfl) fun H7 e7 I7 => ?_⟩
    have nkd : kd ≠ x := fun e => I5.tr (e ▸ hkd)
    have k7 : KnAt H7 kd [] := e7.kp _ _ k6 nkd
    have W7 := W6.ev e7
    have c7 : Stp x N (ad kd N) H H7 := c5.trans ((Stp.nw hkd s6).trans (.fl e7))
    have nx7 : ad kd N x := .inr nx
    have kd7 : ad kd N kd := .inl rfl
    generalize ad kd N = N7 at W7 c7 nx7 kd7
    clear W6
    -- replies
    refine newL W7 (ds := []) (by simp) .nil fun rl H8 hrl s8 L8 W8 => ?_
    refine ⟨_, rfl, fldS (I7.sm s8) T.cl_Asker T.n_Asker__replies (Nat.le_of_ble_eq_true rfl) fun H9 e9 I9 => ?_⟩
    have nrl : rl ≠ x := fun e => W7.no hrl (e ▸ nx7)
    have nkr : kd ≠ rl := fun e => W7.no hrl (e ▸ kd7)
    have c79 : Stp x N7 (ad rl N7) H7 H9 := (Stp.nw hrl s8).trans (.fl e9)
    have L9 : Lst (ad rl N7) H9 rl [] := L8.ev e9 (onN (.inr nx7)) nrl
    have W9 := W8.ev e9
    have nx9 : ad rl N7 x := .inr nx7
    have kd9 : ad rl N7 kd := .inr kd7
    have rl9 : ad rl N7 rl := .inl rfl
    generalize ad rl N7 = N9 at W9 c79 nx9 kd9 rl9 L9
    clear L8 W8
    -- counts
    refine newL W9 (ds := [.n 0, .n 0, .n 0, .n 0]) (by simp) (.cons (.n 0) (.cons (.n 0) (.cons (.n 0) (.cons (.n 0) .nil)))) fun cn H10 hcn s10 L10 W10 => ?_
    refine ⟨_, rfl, fldS (I9.sm s10) T.cl_Asker T.n_Asker__counts (Nat.le_of_ble_eq_true rfl) fun H11 e11 I11 => ?_⟩
    have ncn : cn ≠ x := fun e => W9.no hcn (e ▸ nx9)
    have nkc : kd ≠ cn := fun e => W9.no hcn (e ▸ kd9)
    have nrc : rl ≠ cn := fun e => W9.no hcn (e ▸ rl9)
    have c911 : Stp x N9 (ad cn N9) H9 H11 := (Stp.nw hcn s10).trans (.fl e11)
    have L11 : Lst (ad cn N9) H11 cn [.n 0, .n 0, .n 0, .n 0] := L10.ev e11 (onN (.inr nx9)) ncn
    have W11 := W10.ev e11
    have nx11 : ad cn N9 x := .inr nx9
    have kd11 : ad cn N9 kd := .inr kd9
    have rl11 : ad cn N9 rl := .inr rl9
    have cn11 : ad cn N9 cn := .inl rfl
    generalize ad cn N9 = N11 at W11 c911 nx11 kd11 rl11 cn11 L11
    clear L10 W10
    -- table
    refine ⟨_, rfl, ?_⟩
    intro t dt ht hdt hne
    have f1 : Sm H11 (upd H11 dt (.own t)) := .new hdt
    have f2 : Sm (upd H11 dt (.own t)) (upd (upd H11 dt (.own t)) t (.ins a.C_Table dt [])) := .new (by rw [upd_ne (Ne.symm hne)]; exact ht)
    have i12 : Ins (upd (upd H11 dt (.own t)) t (.ins a.C_Table dt [])) t a.C_Table [] := ⟨dt, upd_same⟩
    have s12 := f1.trans f2
    generalize upd (upd H11 dt (.own t)) t (.ins a.C_Table dt []) = H12 at s12 i12
    clear f1 f2
    have W12 : Wf (ad t N11) H12 := by
      obtain ⟨dz, hz⟩ := i12
      exact (W11.ev s12).ad hz
    refine ⟨ad t N11, t, B.k, rfl, W12, .inl rfl, i12, by omega, fun H13 sl cl e13 hsl hcl W13 T13 => ⟨rfl, ?_⟩⟩
    have ntx : t ≠ x := fun e => W11.no ht (e ▸ nx11)
    have s13 : Sm H11 H13 := s12.then e13 fun b z => .inr ((show b = t from z) ▸ ht)
    have nsx : sl ≠ x := fun e => W12.no hsl (e ▸ .inr nx11)
    have ncx : cl ≠ x := fun e => W12.no hcl (e ▸ .inr nx11)
    have nkt : kd ≠ t := fun e => W11.no ht (e ▸ kd11)
    have nrt : rl ≠ t := fun e => W11.no ht (e ▸ rl11)
    have nct : cn ≠ t := fun e => W11.no ht (e ▸ cn11)
    have nks : kd ≠ sl := fun e => W12.no hsl (e ▸ .inr kd11)
    have nkl : kd ≠ cl := fun e => W12.no hcl (e ▸ .inr kd11)
    have nrs : rl ≠ sl := fun e => W12.no hsl (e ▸ .inr rl11)
    have nrcl : rl ≠ cl := fun e => W12.no hcl (e ▸ .inr rl11)
    have ncs : cn ≠ sl := fun e => W12.no hsl (e ▸ .inr cn11)
    have nccl : cn ≠ cl := fun e => W12.no hcl (e ▸ .inr cn11)
    refine ⟨_, rfl, fldS (I11.sm s13) T.cl_Asker T.n_Asker__table (Nat.le_of_ble_eq_true rfl) fun H14 e14 I14 => ?_⟩
    refine ⟨_, rfl, fldS I14 T.cl_Asker T.n_Asker__machine (Nat.le_of_ble_eq_true rfl) fun H15 e15 I15 => ?_⟩
    refine ⟨_, rfl, fldS I15 T.cl_Asker T.n_Asker__shown (Nat.le_of_ble_eq_true rfl) fun H16 e16 I16 => ?_⟩
    refine ⟨_, rfl, fldS I16 T.cl_Asker T.n_Asker__search (Nat.le_of_ble_eq_true rfl) fun H17 e17 I17 => ?_⟩
    have e1417 : Ev (on x) H13 H17 := ((e14.trans e15).trans e16).trans e17
    have nx13 : ad cl (ad sl (ad t N11)) x := .inr (.inr (.inr nx11))
    have T17 := T13.ev e1417 (onN nx13) (fun z => ntx z) (fun z => nsx z) (fun z => ncx z)
    have W17 := W13.ev e1417
    have c1117 : Stp x N11 (ad cl (ad sl (ad t N11))) H11 H17 := ⟨⟨fun b z => .inr (.inr (.inr z)), fun b z => z.elim (fun e => .inr (e ▸ s12.th cl hcl)) fun z => z.elim (fun e => .inr (e ▸ s12.th sl hsl)) fun z => z.elim (fun e => .inr (e ▸ ht)) .inl⟩, (Ev.of s13).trans e1417⟩
    have t13 : ad cl (ad sl (ad t N11)) t := .inr (.inr (.inl rfl))
    have sl13 : ad cl (ad sl (ad t N11)) sl := .inr (.inl rfl)
    have cl13 : ad cl (ad sl (ad t N11)) cl := .inl rfl
    have kd13 : ad cl (ad sl (ad t N11)) kd := .inr (.inr (.inr kd11))
    have rl13 : ad cl (ad sl (ad t N11)) rl := .inr (.inr (.inr rl11))
    have cn13 : ad cl (ad sl (ad t N11)) cn := .inr (.inr (.inr cn11))
    clear T13 W13
    generalize ad cl (ad sl (ad t N11)) = N13 at T17 W17 c1117 nx13 t13 sl13 cl13 kd13 rl13 cn13
    refine newL W17 (ds := []) (by simp) .nil fun qa H18 hqa s18 L18 W18 => ?_
    refine ⟨_, rfl, fldS (I17.sm s18) T.cl_Asker T.n_Asker__queue (Nat.le_of_ble_eq_true rfl) fun H19 e19 I19 => ?_⟩
    have nq : ∀ {b : Addr}, N13 b → b ≠ qa := fun {b} h e => W17.no hqa (e ▸ h)
    have c1719 : Stp x N13 (ad qa N13) H17 H19 := (Stp.nw hqa s18).trans (.fl e19)
    have W19 := W18.ev e19
    have L19 : Lst (ad qa N13) H19 qa [] := L18.ev e19 (onN (.inr nx13)) fun z => nq nx13 (Eq.symm z)
    have c1119 := c1117.trans c1719
    have c919 := c911.trans c1119
    have c719 := c79.trans c919
    have cAll := c7.trans c719
    have A19 : AskAt a (ad qa N13) H19 ⟨x, kd, rl, cn, t, sl, cl, qa⟩ B.k B.o m ag0 [] := by
      refine ⟨fun b hb => ?_, AP.of ⟨⟨Ne.symm nkd, Ne.symm nrl, Ne.symm ncn, Ne.symm ntx, Ne.symm nsx, Ne.symm ncx, nq nx13⟩, ⟨nkr, nkc, nkt, nks, nkl, nq kd13⟩, ⟨nrc, nrt, nrs, nrcl, nq rl13⟩, ⟨nct, ncs, nccl, nq cn13⟩, ⟨T17.d1, T17.d2, nq t13⟩, ⟨T17.d3, nq sl13⟩, nq cl13⟩, .inl rfl,
        ⟨⟨.ref d0, .non, .non, .non⟩, I19, rfl, rfl, rfl⟩, c719.e.kp _ _ k7 nkd, ⟨[], L9.upE c919.e (onN nx9) c919.g.new nrl, rfl⟩, ⟨0, 0, 0, 0, L11.upE c1119.e (onN nx11) c1119.g.new ncn⟩, T17.upE c1719.e (onN nx13) c1719.g.up c1719.g.new ntx nsx ncx, L19⟩
      have hb : b ∈ [x, kd, rl, cn, t, sl, cl, qa] := hb
      simp only [List.mem_cons, List.not_mem_nil, or_false] at hb
      rcases hb with rfl | rfl | rfl | rfl | rfl | rfl | rfl | rfl
      · exact .inr nx13
      · exact .inr kd13
      · exact .inr rl13
      · exact .inr cn13
      · exact .inr t13
      · exact .inr sl13
      · exact .inr cl13
      · exact .inl rfl
    obtain ⟨dx, hH⟩ := I19
    refine ⟨_, rfl, x, dx, _, rfl, hH, rfl, ad qa N13, ⟨x, kd, rl, cn, t, sl, cl, qa⟩, [], B, m, Lw, ag0, rfl, W19, A19, HP, AI.init HP, fun r N' p' H' g' gr e W' hp A' i' nx' sv => ?_⟩
    obtain ⟨v8, I8, m8, sh8, se8⟩ := A'.ins
    have hp : p'.s = x := hp
    rw [hp] at I8
    refine ⟨_, rfl, fldS I8 T.cl_Asker T.n_Asker__step (aF_len (.inl rfl)) fun H9 e9 I9 => ?_⟩
    rw [← hp] at e9 I9
    have M' := AP.mem (p := p')
    have os' := onN (N := N') (A'.all _ M'.1)
    have A9 := AskAt.fld (v := v8) (tl' := stF r) A' e9 (stF_ok _) I9 (m8.upE e9 os' fun _ z => .inl z) (sh8.upE e9 os' fun _ z => .inl z) (se8.upE e9 os' (fun _ z => z) (fun _ z => .inl z) fun b z => by rw [show b = p'.s from z]; exact M'.1)
    have gr0 : Grow N N' H := cAll.g.trans gr cAll.e
    have eAll : Ev (on x) H H' := cAll.e.then e fun b z => (cAll.g.new b z).elim (fun z => .inl (hNx b z)) .inr
    refine post N' p' H9 g' gr0 (eAll.then e9 fun b z => .inl ((show b = p'.s from z).trans hp)) (W'.ev e9) hp ⟨r, A9.ghost rfl rfl rfl rfl rfl rfl rfl rfl, i', sv.up e9 os'⟩ nx'
end
end Tk
/-! text MJ -/
namespace Tk
/-! ### the tested asker -/
def lsum (qs : List (List Nat × Nat)) : Nat := (qs.map fun p => p.1.length).sum
structure ParT (B : Mach) (m Lw : Nat) : Prop where
  p : Par B m Lw
  n4 : B.n ≤ 4
  k1 : 1 ≤ B.k
  k2 : B.k ≤ 2
  lwm : Lw + 1 = B.n + m
  lw : Lw ≤ 12
  sz : szW B.k Lw ≤ 1023
  sz2 : szW B.k (Lw + 1) ≤ 10000
  lb : ∀ n, 1 ≤ n → n ≤ m → lbd n B.k (m - n) ≤ 4000
structure TInv (B : Mach) (Lw : Nat) (g : AG) (qs : List (List Nat × Nat)) : Prop where
  kn : ∀ p ∈ qs, p.2 = fB B p.1
  nd : (qs.map (·.1)).Nodup
  cov : ∀ u ∈ qs.map (·.1), Cov B Lw g u
  sub : ∀ u ∈ g.ps.map (·.1), u ∈ qs.map (·.1)
section
variable {B : Mach} {m Lw : Nat} {g g' : AG} {qs : List (List Nat × Nat)}
theorem TInv.len (h : TInv B Lw g qs) (P : ParT B m Lw) (i : AI B Lw g) : qs.length ≤ 1150 := by
  have h1 := cov_len P.p i.gl i.ti h.nd h.cov
  rw [List.length_map] at h1
  have h2 := P.sz
  have h3 : B.n * (B.k + 1) * B.n ≤ 4 * 3 * 4 := Nat.mul_le_mul (Nat.mul_le_mul P.n4 (Nat.succ_le_succ P.k2)) P.n4
  have h4 : B.n * (Lw + 1) ≤ 4 * 13 := Nat.mul_le_mul P.n4 (Nat.succ_le_succ P.lw)
  omega
theorem TInv.look (h : TInv B Lw g qs) {u : List Nat} {y : Nat} (e : qs.lookup u = some y) : y = fB B u := h.kn _ (lookup_mem e)
theorem TInv.pslen (h : TInv B Lw g qs) (i : AI B Lw g) : g.ps.length ≤ qs.length := by
  have := List.Nodup.length_le_of_subset i.nd (l₂ := qs.map (·.1)) fun u hu => h.sub u hu
  rwa [List.length_map, List.length_map] at this
theorem TInv.nxt (h : TInv B Lw g qs) (n : Nxt B Lw g g') : TInv B Lw g' qs := ⟨h.kn, h.nd, fun u hu => n.cov u (h.cov u hu), by rw [n.ps]; exact h.sub⟩
theorem TInv.ghost (h : TInv B Lw g qs) (e1 : ∀ u, Cov B Lw g u → Cov B Lw g' u) (e2 : g'.ps = g.ps) : TInv B Lw g' qs := ⟨h.kn, h.nd, fun u hu => e1 u (h.cov u hu), by rw [e2]; exact h.sub⟩
/-- the asker learns what the tester knows -/
theorem TInv.ask (h : TInv B Lw g qs) {u : List Nat} (hu : u ∈ qs.map (·.1)) (y : Nat) : TInv B Lw (g.learn u y) qs := by
  refine ⟨h.kn, h.nd, h.cov, fun v hv => ?_⟩
  have hv : v ∈ (g.ps ++ [(u, y)]).map (·.1) := hv
  rw [List.map_append, List.mem_append] at hv
  rcases hv with hv | hv
  · exact h.sub v hv
  · rw [List.map_singleton, List.mem_singleton] at hv
    rw [hv]; exact hu
/-- the tester learns -/
theorem TInv.learn (h : TInv B Lw g qs) {u : List Nat} (hu : u ∉ qs.map (·.1)) (hc : Cov B Lw g u) : TInv B Lw g (qs ++ [(u, fB B u)]) := by
  refine ⟨fun p hp => ?_, ?_, fun v hv => ?_, fun v hv => ?_⟩
  · rcases List.mem_append.mp hp with hp | hp
    · exact h.kn p hp
    · rw [List.mem_singleton.mp hp]
  · rw [List.map_append, List.nodup_append]
    refine ⟨h.nd, by simp, fun x hx y hy e => ?_⟩
    rw [List.map_singleton, List.mem_singleton] at hy
    rw [e, hy] at hx
    exact hu hx
  · rw [List.map_append, List.mem_append] at hv
    rcases hv with hv | hv
    · exact h.cov v hv
    · rw [List.map_singleton, List.mem_singleton] at hv
      rw [hv]; exact hc
  · rw [List.map_append]
    exact List.mem_append_left _ (h.sub v hv)
theorem lsum_snoc (u : List Nat) (y : Nat) : lsum (qs ++ [(u, y)]) = lsum qs + u.length := by
  unfold lsum
  rw [List.map_append, List.sum_append]
  simp
def psi (B : Mach) (g : AG) (qs : List (List Nat × Nat)) : Nat := lv B g * 7000 + (qs.length - g.ps.length)
theorem psi_ask (h : TInv B Lw g qs) (i : AI B Lw g) (P : ParT B m Lw) {u : List Nat} {y : Nat} (hu : u ∈ qs.map (·.1)) (hn : u ∉ g.ps.map (·.1)) (n : Nxt B Lw (g.learn u y) g') : psi B g' qs < psi B g qs := by
  have h1 : g'.ps.length = g.ps.length + 1 := by
    rw [n.ps]
    show (g.ps ++ [(u, y)]).length = _
    rw [List.length_append, List.length_singleton]
  have h2 : lv B g' ≤ lv B g := n.lv
  have h3 : g.ps.length + 1 ≤ qs.length := by
    have hnd : (u :: g.ps.map (·.1)).Nodup := List.nodup_cons.mpr ⟨hn, i.nd⟩
    have := List.Nodup.length_le_of_subset hnd (l₂ := qs.map (·.1)) fun v hv => by
      rcases List.mem_cons.mp hv with e | hv
      · rw [e]; exact hu
      · exact h.sub v hv
    rw [List.length_cons, List.length_map, List.length_map] at this
    exact this
  unfold psi
  have := Nat.mul_le_mul_right 7000 h2
  omega
theorem psi_show (h : TInv B Lw g qs) (i : AI B Lw g) (P : ParT B m Lw) (d : Idle g) {u : List Nat} {r : Nat} (n : Nxt B Lw { g with sh := some u, rc := r } g') : psi B g' qs < psi B g qs := by
  have h0 := h.len P i
  have h1 : g'.ps.length = g.ps.length := by rw [n.ps]
  have h2 : lv B g' ≤ lv B { g with sh := some u, rc := r } := n.lv
  have h3 : lv B { g with sh := some u, rc := r } + 1 = lv B g := by
    unfold lv
    rw [d.act]
    have : act { g with sh := some u, rc := r } = 1 := by unfold act; rw [if_pos (.inl rfl)]
    rw [this]
  unfold psi
  have := Nat.mul_le_mul_right 7000 (show lv B g' + 1 ≤ lv B g by omega)
  omega
/-- how far the tests of a proposal have come -/
structure TestOk (B : Mach) (m : Nat) (L : Mach) (tests : List (List Nat)) (i : Nat) (qs : List (List Nat × Nat)) : Prop where
  su : ∃ ws, Suite L (m - L.n) ws ∧ ∀ p, p ∈ tests ↔ ∃ u ∈ ws, p <+: u
  le : i ≤ tests.length
  ok : ∀ (j : Nat) (u : List Nat), j < i → tests[j]? = some u → fB B u = L.outp 0 u
theorem TestOk.all {L : Mach} {tests : List (List Nat)} (h : TestOk B m L tests tests.length qs) (hL : L.Ok) (hB : B.Ok) (hk : B.k = L.k) (hn : L.n ≤ m) (hm : B.n ≤ m) : Eqv L B 0 0 := by
  obtain ⟨ws, S, hw⟩ := h.su
  refine S.eqv hL hB hk (by omega) fun u hu p hp => ?_
  obtain ⟨j, hj, e⟩ := List.getElem_of_mem ((hw p).mpr ⟨u, hu, hp⟩)
  exact (h.ok j p hj (by rw [List.getElem?_eq_getElem hj, e])).symm
/-- its words are short -/
theorem TestOk.word {L : Mach} {tests : List (List Nat)} {i : Nat} (h : TestOk B m L tests i qs) (hn : L.n ≤ m) {u : List Nat} (hu : u ∈ tests) : Wd L.k u ∧ u.length + 1 ≤ L.n + m := by
  obtain ⟨ws, S, hw⟩ := h.su
  obtain ⟨v, hv, e⟩ := (hw u).mp hu
  have := S.wd v hv
  have := e.length_le
  exact ⟨fun x hx => (S.wd v hv).1 x (e.subset hx), by omega⟩
end
end Tk
/-! text D21 -/
set_option maxHeartbeats 4000000
namespace Tk
open PySem L2
/-! ### writes that no data can see -/
structure ND (H : Hp) (b : Addr) : Prop where
  t : ∀ vs, H b ≠ some (.tup vs)
  l : ∀ vs, H b ≠ some (.lst vs)
  f : ∀ o vs, H b ≠ some (.frz o (.tup vs))
section
variable {N F : Fp} {H H' : Hp}
mutual
theorem At.off (e : Ev F H H') (hF : ∀ b, F b → ND H b) : ∀ {v : V} {d : D}, At N H v d → At N H' v d
  | _, _, .n x => .n x
  | _, _, .s x => .s x
  | _, _, .no => .no
  | _, _, .b x => .b x
  | _, _, .t h q r => .t h (e.kp _ _ q fun z => (hF _ z).t _ q) (Ats.off e hF r)
  | _, _, .l h q r => .l h (e.kp _ _ q fun z => (hF _ z).l _ q) (Ats.off e hF r)
  | _, _, .f h q d r => .f h (e.kp _ _ q fun z => (hF _ z).f _ _ q) d (Ats.off e hF r)
theorem Ats.off (e : Ev F H H') (hF : ∀ b, F b → ND H b) : ∀ {vs : List V} {ds : List D}, Ats N H vs ds → Ats N H' vs ds
  | _, _, .nil => .nil
  | _, _, .cons h r => .cons (At.off e hF h) (Ats.off e hF r)
end
theorem Lst.off {l : Addr} {ds : List D} (h : Lst N H l ds) (e : Ev F H H') (hF : ∀ b, F b → ND H b) : Lst N H' l ds := by
  obtain ⟨vs, hl, r⟩ := h.ex
  exact ⟨vs, e.kp _ _ hl fun z => (hF _ z).l _ hl, r.off e hF⟩
/-- off N, and no data -/
structure Off (N F : Fp) (H : Hp) : Prop where
  n : ∀ b, F b → ¬ N b
  d : ∀ b, F b → ND H b
variable {a : Ads} {p : AP} {k o m : Nat} {g : AG} {tl : List (Str × V)} {B : Mach} {Lw : Nat}
theorem TblAt.off {t sl cl : Addr} {S C : List (List Nat)} (h : TblAt a N H t sl cl k S C) (e : Ev F H H') (f : Off N F H) : TblAt a N H' t sl cl k S C := by
  obtain ⟨rv, h1, h2⟩ := h.ex
  exact ⟨h.nt, h.ns, h.nc, h.d1, h.d2, h.d3, ⟨rv, h1.ev e fun z => f.n _ z h.nt, h2.off e f.d⟩, h.st.off e f.d, h.co.off e f.d⟩
theorem AskAt.off (h : AskAt a N H p k o m g tl) (e : Ev F H H') (f : Off N F H) : AskAt a N H' p k o m g tl := by
  have nf : ∀ b ∈ p.all, ¬ F b := fun b hb z => f.n b z (h.all b hb)
  have M := AP.mem (p := p)
  obtain ⟨v, h1, h2, h3, h4⟩ := h.ins
  obtain ⟨rs, r1, r2⟩ := h.rl
  obtain ⟨c0, c1, c2, c3, hc⟩ := h.cn
  refine ⟨h.all, h.nd, h.tlk, ⟨v, h1.ev e (nf _ M.1), ?_, ?_, ?_⟩, e.kp _ _ h.kn (nf _ M.2.1), ⟨rs, r1.off e f.d, r2⟩, ⟨c0, c1, c2, c3, hc.off e f.d⟩, h.tb.off e f, h.qu.off e f.d⟩
  · cases q : g.hy with
    | none => rw [q] at h2; exact h2
    | some x => rw [q] at h2; exact At.off e f.d h2
  · cases q : g.sh with
    | none => rw [q] at h3; exact h3
    | some x => rw [q] at h3; exact At.off e f.d h3
  · cases q : g.se with
    | none => rw [q] at h4; exact h4
    | some x =>
      rw [q] at h4
      obtain ⟨ea, hh, pv, wv, e1, e2, e3, e4, e5, e6, e7, e8⟩ := h4
      exact ⟨ea, hh, pv, wv, e1, e2, e.kp _ _ e3 fun z => (f.d _ z).t _ e3, e4.ev e fun z => f.n _ z e5, e5, e6, e7.off e f.d, e8.off e f.d⟩
theorem StepV.off {r : V} (h : StepV B Lw N H r g) (e : Ev F H H') (f : Off N F H) : StepV B Lw N H' r g := by
  rcases h with ⟨u, h, h2⟩ | ⟨L, h, h2⟩
  · exact .inl ⟨u, h.off e f.d, h2⟩
  · exact .inr ⟨L, h.off e f.d, h2⟩
end
/-! ### TestedAsker: its state -/
abbrev ttF (s : Addr) (o m : Nat) (kd : Addr) (asked lets : Nat) (tv : V) (i : Nat) (st : V) : List (Str × V) :=
  [("_asker", .ref s), ("_outs", nV o), ("_most", nV m), ("_known", .ref kd), ("_asked", nV asked), ("_letters", nV lets), ("_tests", tv), ("_at", nV i), ("_step", st)]
structure TAt (a : Ads) (NT NA : Fp) (H : Hp) (t kd s : Addr) (o m : Nat) (qs : List (List Nat × Nat)) (asked lets : Nat) (tests : List (List Nat)) (i : Nat) (st : V) : Prop where
  nt : NT t
  nk : NT kd
  nP : NT a.P_in_order
  sub : ∀ b, NA b → NT b
  d1 : ¬ NA t
  d2 : ¬ NA kd
  d3 : ¬ NA a.P_in_order
  d4 : t ≠ kd
  d5 : t ≠ a.P_in_order
  d6 : kd ≠ a.P_in_order
  nd : ∀ b, NT b → NA b ∨ b = t ∨ b = kd ∨ b = a.P_in_order
  ins : ∃ tv, Ins H t a.C_TestedAsker (ttF s o m kd asked lets tv i st) ∧ At NT H tv (.l (tests.map wL))
  kn : KnAt H kd qs
  tab : Tab NT H a.P_in_order
  wf : Wf NT H
section
variable {a : Ads} {NT NA NA' F : Fp} {H H' : Hp} {t kd s : Addr} {o m : Nat} {qs : List (List Nat × Nat)} {asked lets : Nat} {tests : List (List Nat)} {i : Nat} {st : V}
theorem TAt.sm (h : TAt a NT NA H t kd s o m qs asked lets tests i st) (e : Sm H H') : TAt a NT NA H' t kd s o m qs asked lets tests i st := by
  obtain ⟨tv, h1, h2⟩ := h.ins
  exact ⟨h.nt, h.nk, h.nP, h.sub, h.d1, h.d2, h.d3, h.d4, h.d5, h.d6, h.nd, ⟨tv, h1.sm e, h2.sm e⟩, e.at h.kn, h.tab.sm e, h.wf.ev e⟩
/-- what is off the asker and no data -/
theorem TAt.offs (h : TAt a NT NA H t kd s o m qs asked lets tests i st) : Off NA (fun b => b = t ∨ b = kd ∨ b = a.P_in_order) H := by
  obtain ⟨tv, ⟨dx, h1⟩, h2⟩ := h.ins
  obtain ⟨ps, h3, _⟩ := h.tab.ex
  have h4 : H kd = some (DtO nV qs) := h.kn
  refine ⟨?_, ?_⟩
  · rintro b (rfl | rfl | rfl)
    · exact h.d1
    · exact h.d2
    · exact h.d3
  · have mk : ∀ (b : Addr) (o : HO), H b = some o → (∀ vs, o ≠ .tup vs) → (∀ vs, o ≠ .lst vs) → (∀ x vs, o ≠ .frz x (.tup vs)) → ND H b := fun b o e q1 q2 q3 =>
      ⟨fun vs z => q1 vs (Option.some.inj (e.symm.trans z)), fun vs z => q2 vs (Option.some.inj (e.symm.trans z)), fun x vs z => q3 x vs (Option.some.inj (e.symm.trans z))⟩
    rintro b (rfl | rfl | rfl)
    · exact mk b _ h1 (fun _ z => (by cases z)) (fun _ z => (by cases z)) fun _ _ z => (by cases z)
    · exact mk b _ h4 (fun _ z => (by unfold DtO at z; cases z)) (fun _ z => (by unfold DtO at z; cases z)) fun _ _ z => (by unfold DtO at z; cases z)
    · exact mk _ _ h3 (fun _ z => (by cases z)) (fun _ z => (by cases z)) fun _ _ z => (by cases z)
/-- the asker has gone on -/
theorem TAt.ask (h : TAt a NT NA H t kd s o m qs asked lets tests i st) (e : Ev NA H H') (g : Grow NA NA' H) (W' : Wf NA' H') : TAt a (fun b => NT b ∨ NA' b) NA' H' t kd s o m qs asked lets tests i st := by
  obtain ⟨tv, h1, h2⟩ := h.ins
  have gn : ∀ b, (NT b ∨ NA' b) → NT b ∨ H b = none := fun b z => z.elim .inl fun z => (g.new b z).elim (fun z => .inl (h.sub b z)) .inr
  have hk : H kd ≠ none := fun z => by
    have h' : H kd = _ := h.kn
    rw [z] at h'; cases h'
  have hP : H a.P_in_order ≠ none := fun z => by
    obtain ⟨ps, h', _⟩ := h.tab.ex
    rw [z] at h'; cases h'
  refine ⟨.inl h.nt, .inl h.nk, .inl h.nP, fun b z => .inr z, fun z => (g.new _ z).elim h.d1 h1.tr, fun z => (g.new _ z).elim h.d2 hk, fun z => (g.new _ z).elim h.d3 hP, h.d4, h.d5, h.d6, (fun b z => z.elim (fun z => (h.nd b z).elim (fun z => .inl (g.up b z)) .inr) .inl), ⟨tv, h1.ev e h.d1, h2.upE e h.sub gn⟩, e.kp _ _ h.kn h.d2, ?_, ?_⟩
  · obtain ⟨ps, q1, q2, q3⟩ := h.tab.ex
    refine ⟨ps, e.kp _ _ q1 h.d3, q2, fun pos cv hc => ?_⟩
    obtain ⟨c, e1, nc, e2⟩ := q3 pos cv hc
    exact ⟨c, e1, (fun z => (gn c z).elim nc fun w => (by rw [w] at e2; cases e2)), e.kp _ _ e2 fun z => nc (h.sub c z)⟩
  · exact fun b z => z.elim (fun z => h.wf.ev e b z) (fun z => W' b z)
/-- a field of its own is written -/
theorem TAt.fld (h : TAt a NT NA H t kd s o m qs asked lets tests i st) (e : Ev (on t) H H') {asked' lets' i' : Nat} {tests' : List (List Nat)} {tv' st' : V} (hI : Ins H' t a.C_TestedAsker (ttF s o m kd asked' lets' tv' i' st')) (ht : At NT H' tv' (.l (tests'.map wL))) :
    TAt a NT NA H' t kd s o m qs asked' lets' tests' i' st' :=
  ⟨h.nt, h.nk, h.nP, h.sub, h.d1, h.d2, h.d3, h.d4, h.d5, h.d6, h.nd, ⟨tv', hI, ht⟩, e.kp _ _ h.kn fun z => h.d4 (Eq.symm z), h.tab.ev e (onN h.nt) fun z => h.d5 (Eq.symm z), h.wf.ev e⟩
theorem TAt.known (h : TAt a NT NA H t kd s o m qs asked lets tests i st) (e : Ev (on kd) H H') {qs' : List (List Nat × Nat)} (hk : KnAt H' kd qs') : TAt a NT NA H' t kd s o m qs' asked lets tests i st := by
  obtain ⟨tv, h1, h2⟩ := h.ins
  exact ⟨h.nt, h.nk, h.nP, h.sub, h.d1, h.d2, h.d3, h.d4, h.d5, h.d6, h.nd, ⟨tv, h1.ev e fun z => h.d4 z, h2.evs e (onN h.nk)⟩, hk, h.tab.ev e (onN h.nk) fun z => h.d6 (Eq.symm z), h.wf.ev e⟩
theorem TAt.lam (h : TAt a NT NA H t kd s o m qs asked lets tests i st) (e : Ev (Ft a.P_in_order) H H') (hT : Tab NT H' a.P_in_order) : TAt a NT NA H' t kd s o m qs asked lets tests i st := by
  obtain ⟨tv, h1, h2⟩ := h.ins
  exact ⟨h.nt, h.nk, h.nP, h.sub, h.d1, h.d2, h.d3, h.d4, h.d5, h.d6, h.nd, ⟨tv, h1.ev e fun z => h.d5 z, h2.evs e fun b z => by rw [show b = a.P_in_order from z]; exact h.nP⟩, e.kp _ _ h.kn fun z => h.d6 z, hT, h.wf.ev e⟩
mutual
theorem At.wid {N N' : Fp} {H : Hp} (h : ∀ b, N' b → N b ∨ ND H b) : ∀ {v : V} {d : D}, At N H v d → At N' H v d
  | _, _, .n x => .n x
  | _, _, .s x => .s x
  | _, _, .no => .no
  | _, _, .b x => .b x
  | _, _, .t n q r => .t (fun z => (h _ z).elim n fun w => w.t _ q) q (Ats.wid h r)
  | _, _, .l n q r => .l (fun z => (h _ z).elim n fun w => w.l _ q) q (Ats.wid h r)
  | _, _, .f n q d r => .f (fun z => (h _ z).elim n fun w => w.f _ _ q) q d (Ats.wid h r)
theorem Ats.wid {N N' : Fp} {H : Hp} (h : ∀ b, N' b → N b ∨ ND H b) : ∀ {vs : List V} {ds : List D}, Ats N H vs ds → Ats N' H vs ds
  | _, _, .nil => .nil
  | _, _, .cons x r => .cons (At.wid h x) (Ats.wid h r)
end
/-- the asker's data, seen by the tester -/
theorem TAt.wid (h : TAt a NT NA H t kd s o m qs asked lets tests i st) {v : V} {d : D} (x : At NA H v d) : At NT H v d := x.wid fun b z => (h.nd b z).elim .inl fun z => .inr (h.offs.d b z)
end
end Tk
/-! text D22 -/
set_option maxHeartbeats 4000000
namespace Tk
open PySem L2
inductive Lv where
  | ask (u : List Nat)
  | pro (L : Mach)
  | don (L : Mach)
def lvD : Lv → D
  | .ask u => askD u
  | .pro L => proD L
  | .don L => donD L
def DonOk (B L : Mach) : Prop := ∃ M0 : Mach, M0.Ok ∧ IsL M0 L ∧ M0.k = B.k ∧ M0.o = B.o ∧ Eqv M0 B 0 0
def LvOk (B : Mach) (Lw : Nat) (g : AG) : Lv → Prop
  | .ask u => AI B Lw g ∧ g.ps.lookup u = none ∧ Cov B Lw g u
  | .pro L => AI B Lw g ∧ IsL (Hyp B g) L ∧ Rdy B g ∧ Idle g
  | .don L => DonOk B L
structure Live (a : Ads) (B : Mach) (m Lw : Nat) (N : Fp) (H : Hp) (p : AP) (g : AG) (x : Lv) : Prop where
  ex : ∃ st, AskAt a N H p B.k B.o m g (stF st) ∧ At N H st (lvD x)
  ok : LvOk B Lw g x
  wf : Wf N H
theorem AskOk.live {a : Ads} {B : Mach} {m Lw : Nat} {N : Fp} {H : Hp} {p : AP} {g : AG} (h : AskOk a B m Lw N H p g) (W : Wf N H) : ∃ x, Live a B m Lw N H p g x ∧ AI B Lw g ∧ ((∃ u, x = .ask u) ∨ ∃ L, x = .pro L) := by
  obtain ⟨st, h1, h2, h3⟩ := h
  rcases h3 with ⟨u, q1, q2⟩ | ⟨L, q1, q2⟩
  · exact ⟨.ask u, ⟨⟨st, h1, q1⟩, ⟨h2, q2⟩, W⟩, h2, .inl ⟨u, rfl⟩⟩
  · exact ⟨.pro L, ⟨⟨st, h1, q1⟩, ⟨h2, q2⟩, W⟩, h2, .inr ⟨L, rfl⟩⟩
theorem Live.off {a : Ads} {B : Mach} {m Lw : Nat} {N F : Fp} {H H' : Hp} {p : AP} {g : AG} {x : Lv} (h : Live a B m Lw N H p g x) (e : Ev F H H') (f : Off N F H) : Live a B m Lw N H' p g x := by
  obtain ⟨st, h1, h2⟩ := h.ex
  exact ⟨⟨st, h1.off e f, h2.off e f.d⟩, h.ok, h.wf.ev e⟩
theorem Live.sm {a : Ads} {B : Mach} {m Lw : Nat} {N : Fp} {H H' : Hp} {p : AP} {g : AG} {x : Lv} (h : Live a B m Lw N H p g x) (e : Sm H H') : Live a B m Lw N H' p g x := h.off e ⟨fun _ z => z.elim, fun _ z => z.elim⟩
def sp_TestedAsker_step (a : Ads) : Sp := fun vs H Q _ => ∃ (NT NA : Fp) (t kd s : Addr) (o m : Nat) (qs : List (List Nat × Nat)) (asked lets i : Nat) (tests : List (List Nat)) (st : V), vs = [.ref t] ∧ TAt a NT NA H t kd s o m qs asked lets tests i st ∧
  ((∃ u, At NT H st (askD u) ∧ ∀ (r l : Addr) (H' : Hp), Sm H H' → H l = none → H r = none → l ≠ r → H' l = some (.lst (u.map nV)) → H' r = some (.tup [.str "ask", .ref l]) → Q (.ref r) H') ∨
   ∃ L, At NT H st (donD L) ∧ ∀ H', Sm H H' → Q st H')
def sp_TestedAsker_report (a : Ads) : Sp := fun vs H Q _ => ∃ (NT NA : Fp) (t kd s : Addr) (o m : Nat) (qs : List (List Nat × Nat)) (asked lets i : Nat) (tests : List (List Nat)) (st : V), vs = [.ref t] ∧ TAt a NT NA H t kd s o m qs asked lets tests i st ∧
  ∀ (r : V) (H' : Hp), Sm H H' → At NT H' r (.t [.n asked, .n lets, .n 0, .n 0]) → Q r H'
def sp_TestedAsker__test (a : Ads) : Sp := fun vs H Q _ => ∃ (NT NA : Fp) (t kd : Addr) (p : AP) (B : Mach) (m Lw : Nat) (g : AG) (qs : List (List Nat × Nat)) (asked lets i : Nat) (tests : List (List Nat)) (st mv : V) (L : Mach), vs = [.ref t, mv] ∧
  TAt a NT NA H t kd p.s B.o m qs asked lets tests i st ∧ ParT B m Lw ∧ Live a B m Lw NA H p g (.pro L) ∧ TInv B Lw g qs ∧ At NT H mv (mD L) ∧ (i = 0 ∨ TestOk B m L tests i qs) ∧
  (∀ (H' : Hp) (tests' : List (List Nat)) (i' : Nat) (st' : V) (u : List Nat), Ev NT H H' → TAt a NT NA H' t kd p.s B.o m qs asked lets tests' i' st' → Live a B m Lw NA H' p g (.pro L) → TestOk B m L tests' i' qs → At NT H' st' (askD u) → u ∈ tests' → qs.lookup u = none → Q .non H') ∧
  (∀ (NT' NA' : Fp) (p' : AP) (H' : Hp) (g' : AG) (tests' : List (List Nat)), Grow NT NT' H → Ev NT H H' → p'.s = p.s → TAt a NT' NA' H' t kd p'.s B.o m qs asked lets tests' 0 st → AskOk a B m Lw NA' H' p' g' → Wf NA' H' → TInv B Lw g' qs → psi B g' qs < psi B g qs → Q .non H') ∧
  ∀ (H' : Hp) (g' : AG) (tests' : List (List Nat)), Ev NT H H' → TAt a NT NA H' t kd p.s B.o m qs asked lets tests' 0 st → Live a B m Lw NA H' p g' (.don L) → Q .non H'
section
variable {P : Program} {w : World} {K : PySem.W.Frag} {mg : Str → Option Value} {base : Heap} {a : Ads} {d : Fds}
theorem ok_TestedAsker_step (T : TX K mg base a d) : FnOk P w K mg base CX0 1 a.f_TestedAsker_step d.d_TestedAsker_step ["self"] (sp_TestedAsker_step a) := by
  refine T.F_TestedAsker_step.ok sc_TestedAsker_step (fun vs H Q E h => ?_) (fun cdv A outer s H vs Q E hr h => ?_)
  · obtain ⟨_, _, _, _, _, _, _, _, _, _, _, _, _, rfl, _⟩ := h
    rfl
  · obtain ⟨NT, NA, t, kd, s0, o, m, qs, asked, lets, i, tests, st, rfl, hT, hd⟩ := h
    have hu := hu_of hr
    refine ⟨_, (pss_cons (ps_if (pt_cmpR op_eq (pe_ix (ix_tupk K) (pe_fldk K (pv 0) rfl) pe_int (fun _ _ => rfl)) pe_str (nomark _)) (pss_one (ps_ret (pe_tupm (pa_cons pe_str (pa_cons (pe_callTy (cr_listk K) (by rfl) T.b_list (by decide +kernel) (pa_cons (pe_ix (ix_tupk K) (pe_fldk K (pv 0) rfl) pe_int (fun _ _ => rfl)) pa_nil)) pa_nil))))) pss_nil)
    (pss_one (ps_ret (pe_fldk K (pv 0) rfl)))), ?_⟩
    obtain ⟨tv, hI, _⟩ := hT.ins
    rcases hd with ⟨u, hst, q⟩ | ⟨L, hst, q⟩
    · refine ⟨_, rfl, fldR hI T.cl_TestedAsker T.n_TestedAsker__step rfl (ixT 0 hst rfl rfl fun z hz => ?_)⟩
      rw [hz.isS]
      refine ⟨rfl, _, rfl, ifT (decide_eq_true rfl) ?_⟩
      refine ⟨_, rfl, fldR hI T.cl_TestedAsker T.n_TestedAsker__step rfl (ixT 1 hst rfl rfl fun z1 h1 => listL h1 fun l vs2 hl hvs2 => mkTw (by simp) fun r hr' => ?_)⟩
      have e2 := hvs2.isInts
      have nlr : l ≠ r := fun e => by rw [← e, upd_same] at hr'; cases hr'
      have hr0 : H r = none := by rwa [upd_ne (Ne.symm nlr)] at hr'
      refine q r l _ ((Ev.new (F := F0) hl).trans (.new hr')) hl hr0 nlr ?_ upd_same
      rw [upd_ne nlr, upd_same, e2]
    · refine ⟨_, rfl, fldR hI T.cl_TestedAsker T.n_TestedAsker__step rfl (ixT 0 hst rfl rfl fun z hz => ?_)⟩
      rw [hz.isS]
      refine ⟨rfl, _, rfl, ifF (decide_eq_false fun z => by injection z with z; exact absurd z (by decide)) ?_⟩
      exact ⟨_, rfl, fldR hI T.cl_TestedAsker T.n_TestedAsker__step rfl (q _ (.refl _ _))⟩
theorem ok_TestedAsker_report (T : TX K mg base a d) : FnOk P w K mg base CX0 1 a.f_TestedAsker_report d.d_TestedAsker_report ["self"] (sp_TestedAsker_report a) := by
  refine T.F_TestedAsker_report.ok sc_TestedAsker_report (fun vs H Q E h => ?_) (fun cdv A outer s H vs Q E hr h => ?_)
  · obtain ⟨_, _, _, _, _, _, _, _, _, _, _, _, _, rfl, _⟩ := h
    rfl
  · obtain ⟨NT, NA, t, kd, s0, o, m, qs, asked, lets, i, tests, st, rfl, hT, q⟩ := h
    have hu := hu_of hr
    refine ⟨_, (pss_one (ps_ret (pe_tupm (pa_cons (pe_fldk K (pv 0) rfl) (pa_cons (pe_fldk K (pv 0) rfl) (pa_cons pe_int (pa_cons pe_int pa_nil))))))), ?_⟩
    obtain ⟨tv, hI, _⟩ := hT.ins
    refine ⟨_, rfl, fldR hI T.cl_TestedAsker T.n_TestedAsker__asked rfl ⟨_, rfl, fldR hI T.cl_TestedAsker T.n_TestedAsker__letters rfl ?_⟩⟩
    exact mkT hT.wf (by simp) (.cons (.n _) (.cons (.n _) (.cons (.n 0) (.cons (.n 0) .nil)))) fun p1 H1 s1 h1 => q _ _ s1 h1
end
end Tk
/-! text D23 -/
set_option maxHeartbeats 4000000
namespace Tk
open PySem L2
section
variable {P : Program} {w : World} {K : PySem.W.Frag} {mg : Str → Option Value} {base : Heap} {a : Ads} {d : Fds}
theorem ok_TestedAsker__test (T : TX K mg base a d) : FnOk P w K mg base CX0 8 a.f_TestedAsker__test d.d_TestedAsker__test ["self", "machine"] (sp_TestedAsker__test a) := by
  refine T.F_TestedAsker__test.ok sc_TestedAsker__test (fun vs H Q E h => ?_) (fun cdv A outer s H vs Q E hr h => ?_)
  · obtain ⟨_, _, _, _, _, _, _, _, _, _, _, _, _, _, _, _, _, rfl, _⟩ := h
    rfl
  · obtain ⟨NT, NA, t, kd, p, B, m, Lw, g, qs, asked, lets, i, tests, st, mv, L, rfl, hT, HP, hV, hI0, hm, hto, q1, q2, q3⟩ := h
    have hu := hu_of hr
    refine ⟨_, (pss_cons (ps_if (pt_cmpR op_eq (pe_fldk K (pv 0) rfl) pe_int (nomark _)) (pss_one (ps_fldk K (pv 0) (pe_call (ok_beginnings_of T) (hr.mono (by decide)) rfl T.g_beginnings_of T.F_beginnings_of.kp T.B_beginnings_of .nil pass0 (pa_cons (pe_call (ok_suite_words T) (hr.mono (by decide)) rfl T.g_suite_words T.F_suite_words.kp T.B_suite_words .nil pass0 (pa_cons (pv 1) (pa_cons (pe_op op_sub (pe_fldk K (pv 0) rfl) (pe_callB (cr_lenk K) (by rfl) T.b_len (by decide +kernel) (pa_cons (pe_ix (ix_tupk K) (pv 1) pe_int (fun _ _ => rfl)) pa_nil))) pa_nil))) pa_nil)) rfl)) pss_nil)
    (pss_cons (ps_while PassesOwn.never (pt_cmpR op_lt (pe_fldk K (pv 0) rfl) (pe_callB (cr_lenk K) (by rfl) T.b_len (by decide +kernel) (pa_cons (pe_fldk K (pv 0) rfl) pa_nil)) (nomark _)) (pss_cons (ps_set (i := 2) sc_TestedAsker__test.nd rfl (Or.inl rfl) (pe_ix (ix_listk K) (pe_fldk K (pv 0) rfl) (pe_fldk K (pv 0) rfl) (fun _ _ => rfl)))
      (pss_cons (ps_if (pt_cmp (pc_dnotin hu (pe_callTy (cr_tupk K) (by rfl) T.b_tuple (by decide +kernel) (pa_cons (pv 2) pa_nil)) (pe_fldk K (pv 0) rfl))) (pss_cons (ps_fldk K (pv 0) (pe_tupm (pa_cons pe_str (pa_cons (pe_callTy (cr_listk K) (by rfl) T.b_list (by decide +kernel) (pa_cons (pv 2) pa_nil)) pa_nil))) rfl)
        (pss_one ps_retN)) pss_nil)
      (pss_cons (ps_fldaug (pv 0) pe_int in_add)
      (pss_one (ps_if (pt_cmpR op_ne (pe_dget hu (pe_fldk K (pv 0) rfl) (pe_callTy (cr_tupk K) (by rfl) T.b_tuple (by decide +kernel) (pa_cons (pv 2) pa_nil)) (fun _ _ => rfl)) (pe_call (ok_output_after T) (hr.mono (by decide)) rfl T.g_output_after T.F_output_after.kp T.B_output_after .nil pass0 (pa_cons (pv 1) (pa_cons (pv 2) pa_nil))) (nomark _)) (pss_cons (ps_fldk K (pv 0) pe_int rfl)
        (pss_cons (ps_expr (pe_meth (pe_fldk K (pv 0) rfl) T.cl_Asker T.M_Asker_show (ok_Asker_show T) (hr.mono (by decide)) T.B_Asker_show .nil pass0 (pa_cons (pv 2) pa_nil)))
        (pss_one ps_retN))) pss_nil))))))
    (pss_cons (ps_fldk K (pv 0) pe_int rfl)
    (pss_one (ps_expr (pe_meth0 (pe_fldk K (pv 0) rfl) T.cl_Asker T.M_Asker_accept (ok_Asker_accept T) (hr.mono (by decide)) T.B_Asker_accept .nil pass0)))))), ?_⟩
    obtain ⟨hai, hIsL, rdy, hid⟩ : LvOk B Lw g (.pro L) := hV.ok
    have hMok := rdy.ok hai.ti HP.p.ok
    have LP := hIsL.p hMok
    have hLk : L.k = B.k := LP.k
    have hLn : L.n ≤ B.n := Nat.le_trans LP.le (by rw [Rdy.nS]; exact hai.ti.sn HP.p.ok)
    have hLm : L.n ≤ m := Nat.le_trans hLn HP.p.m1
    have hLp := LP.ok.pos
    have hn4 := HP.n4
    have hk2 := HP.k2
    have hm30 := HP.p.m
    obtain ⟨tv, hIt, htv⟩ := hT.ins
    have ot : ∀ b, on t b → NT b := onN hT.nt
    refine ⟨_, rfl, fldR hIt T.cl_TestedAsker T.n_TestedAsker__at rfl ⟨rfl, _, rfl, ?_⟩⟩
    by_cases hi0 : i = 0
    focus
      refine ifT (decide_eq_true (by rw [hi0]; rfl)) ?_
      refine ⟨_, rfl, _, rfl, fldR hIt T.cl_TestedAsker T.n_TestedAsker__most rfl ⟨_, rfl, ixT 3 hm rfl rfl fun z1 h1 => lenF h1 ?_⟩⟩
      refine ⟨_, _, rfl, rfl, ?_⟩
      have e1 : V.int ((m : Int) - ((L.out.map D.n).length : Int)) = nV (m - L.n) := by
        rw [List.length_map]
        show V.int ((m : Int) - (L.n : Int)) = _
        unfold nV
        congr 1
        omega
      have hsz : szW L.k (2 * L.n + (m - L.n)) ≤ 10000 := by
        rw [hLk]
        exact Nat.le_trans (szW_mono _ (by have := HP.lwm; omega)) HP.sz2
      refine ⟨NT, mv, L, m - L.n, by rw [← e1]; rfl, hT.wf, hT.nP, hT.tab, hm, ⟨Hyp B g, hMok, hIsL⟩, by omega, by rw [hLk]; omega, by omega, by rw [hLk]; exact HP.lb _ hLp hLm, hsz, fun r1 H1 ws e1' T1 S h2 => ?_⟩
      have hT1 := hT.lam e1' T1
      have hwl : ∀ u ∈ ws, Wd L.k u ∧ u.length ≤ Lw := fun u hu => ⟨(S.wd u hu).1, by have := (S.wd u hu).2; have := HP.lwm; omega⟩
      have hwn : ws.length ≤ 1023 := by
        refine Nat.le_trans (few S.nd hwl) ?_
        rw [hLk]; exact HP.sz
      refine ⟨NT, r1, ws, L.k, Lw, rfl, hT1.wf, h2, by omega, hwl, by have := HP.lw; omega, by rw [hLk]; have := HP.sz; omega, fun r2 H2 bs s2 hnd hbs h3 => ?_⟩
      have hT2 := hT1.sm s2
      obtain ⟨tv2, hI2, _⟩ := hT2.ins
      refine ⟨_, rfl, fldS hI2 T.cl_TestedAsker T.n_TestedAsker__tests (Nat.le_of_ble_eq_true rfl) fun H3 e3 hI3 => ?_⟩
      have hT3 : TAt a NT NA H3 t kd p.s B.o m qs asked lets bs i st := hT2.fld e3 hI3 (h3.evs e3 ot)
      have oP : ∀ b, Ft a.P_in_order b → NT b := fun b z => by rw [show b = a.P_in_order from z]; exact hT.nP
      have eH : Ev NT H H3 := ((e1'.mono oP).trans (.of s2)).trans (e3.mono ot)
      have hV3 : Live a B m Lw NA H3 p g (.pro L) := by
        have f0 := hT.offs
        have v1 := hV.off (F := Ft a.P_in_order) e1' ⟨fun b z => f0.n b (.inr (.inr z)), fun b z => f0.d b (.inr (.inr z))⟩
        have v2 := v1.sm s2
        have f2 := hT2.offs
        exact v2.off e3 ⟨fun b z => f2.n b (.inl z), fun b z => f2.d b (.inl z)⟩
      have hm3 : At NT H3 mv (mD L) := hm.evs eH fun _ z => z
      have hto3 : TestOk B m L bs i qs := ⟨⟨ws, S, hbs⟩, by rw [hi0]; exact Nat.zero_le _, fun j u hj => by rw [hi0] at hj; exact absurd hj (Nat.not_lt_zero _)⟩
      clear hT hV hm hto hIt htv hT1 hT2 hI2 h3 h2 h1
      generalize bs = tests at hT3 hto3
    rotate_left 1
    focus
      refine ifF (decide_eq_false fun z => hi0 (by unfold nV at z; injection z with z; omega)) ?_
      have hT3 := hT
      have hV3 := hV
      have hm3 := hm
      have hto3 : TestOk B m L tests i qs := hto.elim (fun z => absurd z hi0) id
      clear hT hV hm hto hIt htv
      generalize hH3 : H = H3 at hT3 hV3 hm3 ⊢
      have eH : Ev NT H H3 := hH3 ▸ Ev.refl NT H
      clear hH3
    all_goals
      have offT : Off NA (on t) H3 := ⟨fun b z => hT3.offs.n b (.inl z), fun b z => hT3.offs.d b (.inl z)⟩
      refine whileI tests.length (fun j σ H' => Ev (on t) H3 H' ∧ TAt a NT NA H' t kd p.s B.o m qs asked lets tests (i + j) st ∧ TestOk B m L tests (i + j) qs ∧ ∃ x2, σ = [some (.ref t), some mv, x2]) ⟨.refl _ _, hT3, hto3, none, rfl⟩ ?_
      rintro j σ H4 ⟨e4, hT4, hto4, x2, rfl⟩
      obtain ⟨tv4, hI4, ht4⟩ := hT4.ins
      refine ⟨_, rfl, fldR hI4 T.cl_TestedAsker T.n_TestedAsker__at rfl ⟨_, rfl, fldR hI4 T.cl_TestedAsker T.n_TestedAsker__tests rfl (lenL ht4 ⟨_, _, rfl, rfl, _, rfl, ?_⟩)⟩⟩
      rw [List.length_map]
      by_cases hlt : i + j < tests.length
      · refine ifT (decide_eq_true (by omega)) (whT (by omega) ?_)
        have hge : tests[i + j]? = some tests[i + j] := List.getElem?_eq_getElem hlt
        generalize tests[i + j] = u at hge
        have humem := List.mem_of_getElem? hge
        have huw := hto4.word hLm humem
        have hul : u.length ≤ 400 := by have := huw.2; omega
        refine ⟨_, rfl, fldR hI4 T.cl_TestedAsker T.n_TestedAsker__tests rfl ⟨_, rfl, fldR hI4 T.cl_TestedAsker T.n_TestedAsker__at rfl (ixL (i + j) ht4 (d := wL u) (by rw [List.getElem?_map, hge]; rfl) rfl fun z5 h5 => ?_)⟩⟩
        refine ⟨_, rfl, tupL hT4.wf h5 fun p6 H6 s6 h6 => ⟨_, rfl, fldR (hI4.sm s6) T.cl_TestedAsker T.n_TestedAsker__known rfl ⟨kd, _, rfl, dgetO_Dt (hT4.sm s6).kn h6, ?_⟩⟩⟩
        have hT6 := hT4.sm s6
        cases hlk : qs.lookup u with
        | none =>
          refine ⟨_, rfl, ifT rfl ?_⟩
          refine ⟨_, rfl, listL (h5.sm s6) fun p7 vs7 hp7 hvs7 => ?_⟩
          have s7 : Sm H6 (upd H6 p7 (.lst vs7)) := .new hp7
          have h7 : At NT (upd H6 p7 (.lst vs7)) (.ref p7) (wL u) := .mkL hT6.wf hp7 hvs7
          generalize upd H6 p7 (.lst vs7) = H7 at s7 h7
          refine mkT (hT6.wf.ev s7) (by simp) (.cons (.s _) (.cons h7 .nil)) fun p8 H8 s8 h8 => ?_
          have hT8 := (hT6.sm s7).sm s8
          obtain ⟨tv8, hI8, ht8⟩ := hT8.ins
          refine ⟨_, rfl, fldS hI8 T.cl_TestedAsker T.n_TestedAsker__step (Nat.le_of_ble_eq_true rfl) fun H9 e9 hI9 => ?_⟩
          have hT9 := hT8.fld (st' := .ref p8) e9 hI9 (ht8.evs e9 ot)
          have e39 : Ev (on t) H3 H9 := (e4.trans (.of ((s6.trans s7).trans s8))).trans e9
          exact q1 H9 tests (i + j) _ u (eH.trans (e39.mono ot)) hT9 (hV3.off e39 offT) hto4 (h8.evs e9 ot) humem hlk
        | some y =>
          have hy := hI0.look hlk
          refine ⟨_, rfl, ifF rfl ?_⟩
          obtain ⟨tv6, ⟨dx6, hH6⟩, ht6⟩ := hT6.ins
          refine ⟨_, rfl, t, a.C_TestedAsker, dx6, _, _, rfl, hH6, T.cl_TestedAsker, T.n_TestedAsker__at, rfl, _, _, rfl, rfl, dx6, _, hH6, Nat.le_of_ble_eq_true rfl, ?_⟩
          have e7 : Ev (on t) H6 (upd H6 t (HO.ins a.C_TestedAsker dx6 (putF (Str.ofString "_at") (V.int (((i + j : Nat) : Int) + 1)) (ttF p.s B.o m kd asked lets tv6 (i + j) st)))) := .put rfl
          have hI7 : Ins (upd H6 t (HO.ins a.C_TestedAsker dx6 (putF (Str.ofString "_at") (V.int (((i + j : Nat) : Int) + 1)) (ttF p.s B.o m kd asked lets tv6 (i + j) st)))) t a.C_TestedAsker (ttF p.s B.o m kd asked lets tv6 (i + j + 1) st) := ⟨dx6, upd_same⟩
          generalize upd H6 t (HO.ins a.C_TestedAsker dx6 (putF (Str.ofString "_at") (V.int (((i + j : Nat) : Int) + 1)) (ttF p.s B.o m kd asked lets tv6 (i + j) st))) = H7 at e7 hI7 ⊢
          have hT7 : TAt a NT NA H7 t kd p.s B.o m qs asked lets tests (i + j + 1) st := hT6.fld e7 hI7 (ht6.evs e7 ot)
          have h5' := (h5.sm s6).evs e7 ot
          have hm7 := hm3.evs (((e4.trans (.of s6)).trans e7).mono ot) fun _ z => z
          refine ⟨_, rfl, fldR hI7 T.cl_TestedAsker T.n_TestedAsker__known rfl ⟨_, rfl, tupL hT7.wf h5' fun p8 H8 s8 h8 => ⟨kd, _, rfl, dget_Dt (hT7.sm s8).kn h8 hlk, ?_⟩⟩⟩
          refine ⟨_, rfl, _, rfl, NT, mv, z5, L, u, rfl, hT7.wf.ev s8, hm7.sm s8, LP.ok, h5'.sm s8, huw.1, hul, fun H9 s9 => ⟨rfl, _, rfl, ?_⟩⟩
          have s79 := s8.trans s9
          have e39 : Ev (on t) H3 H9 := ((e4.trans (.of s6)).trans e7).trans (.of s79)
          by_cases heq : fB B u = L.outp 0 u
          · refine ifF (by rw [hy, heq]; simp) ?_
            refine ⟨e39, hT7.sm s79, ⟨hto4.su, by omega, fun j' u' hj' hu' => ?_⟩, _, rfl⟩
            by_cases z : j' = i + j
            · rw [z, hge] at hu'
              cases hu'; exact heq
            · exact hto4.ok j' u' (by omega) hu'
          · refine ifT (by rw [hy]; simp [nV]; omega) ?_
            have hT9 := hT7.sm s79
            obtain ⟨tv9, hI9, ht9⟩ := hT9.ins
            refine ⟨_, rfl, fldS hI9 T.cl_TestedAsker T.n_TestedAsker__at (Nat.le_of_ble_eq_true rfl) fun H10 e10 hI10 => ?_⟩
            have hT10 : TAt a NT NA H10 t kd p.s B.o m qs asked lets tests 0 st := hT9.fld e10 hI10 (ht9.evs e10 ot)
            have hV10 := hV3.off (e39.trans e10) offT
            obtain ⟨stA, hA10, hst10⟩ := hV10.ex
            obtain ⟨vA, ⟨dA, hHA⟩, _⟩ := hA10.ins
            have hne : (Hyp B g).outp 0 u ≠ fB B u := fun z => heq (by rw [← z]; exact (LP.eqv u huw.1).symm)
            have hku : Wd B.k u := by rw [← hLk]; exact huw.1
            have hwA : At NA H10 z5 (wL u) := ((h5'.sm s79).evs e10 ot).sub hT10.sub
            refine ⟨_, rfl, fldR hI10 T.cl_TestedAsker T.n_TestedAsker__asker rfl ⟨p.s, dA, _, rfl, hHA, rfl, _, rfl, ?_⟩⟩
            refine ⟨NA, p, B, m, Lw, g, stA, z5, L, u, rfl, hV10.wf, hA10, HP.p, hai, hst10, rdy, hid, hwA, hku, by have := huw.2; have := HP.lwm; omega, hne, fun NA' p' H11 g' gr e11 W11 hp hok nx => ?_⟩
            have hT11 := hT10.ask e11 gr W11
            have e0 : Ev NT H H10 := eH.trans ((e39.trans e10).mono ot)
            have gr0 : Grow NT (fun b => NT b ∨ NA' b) H := ⟨fun b z => .inl z, fun b z => z.elim .inl fun z => (gr.new b z).elim (fun z => .inl (hT10.sub b z)) fun w => .inr (e0.th b w)⟩
            rw [← hp] at hT11
            refine q2 (fun b => NT b ∨ NA' b) NA' p' H11 g' tests gr0 (e0.trans (e11.mono hT10.sub)) hp hT11 hok W11 ?_ (psi_show hI0 hai HP hid nx)
            exact (hI0.ghost (g' := { g with sh := some u, rc := g.rc + 1 }) (fun _ h => h) rfl).nxt nx
      · refine ifF (decide_eq_false (by omega)) ?_
        have hle := hto4.le
        have hij : i + j = tests.length := by omega
        refine ⟨_, rfl, fldS hI4 T.cl_TestedAsker T.n_TestedAsker__at (Nat.le_of_ble_eq_true rfl) fun H5 e5 hI5 => ?_⟩
        have hT5 : TAt a NT NA H5 t kd p.s B.o m qs asked lets tests 0 st := hT4.fld e5 hI5 (ht4.evs e5 ot)
        have e35 := e4.trans e5
        have hV5 := hV3.off e35 offT
        obtain ⟨stA, hA5, hst5⟩ := hV5.ex
        obtain ⟨vA, ⟨dA, hHA⟩, _⟩ := hA5.ins
        rw [hij] at hto4
        have heqv := hto4.all LP.ok HP.p.ok hLk.symm hLm HP.p.m1
        refine ⟨_, rfl, fldR hI5 T.cl_TestedAsker T.n_TestedAsker__asker rfl ⟨p.s, dA, _, rfl, hHA, rfl, ?_⟩⟩
        refine ⟨NA, p, B.k, B.o, m, g, stA, L, rfl, hV5.wf, hA5, hst5, by have := hai.rlen HP.p; omega, fun H6 st6 e6 hA6 hst6 => ?_⟩
        have W6 := hV5.wf.ev e6
        have e0 : Ev NT H H5 := eH.trans (e35.mono ot)
        have hT6 := hT5.ask e6 .refl W6
        have hsub : ∀ b, (NT b ∨ NA b) → NT b := fun b z => z.elim id (hT5.sub b)
        have hT6' : TAt a NT NA H6 t kd p.s B.o m qs asked lets tests 0 st := by
          have e : (fun b => NT b ∨ NA b) = NT := funext fun b => propext ⟨hsub b, .inl⟩
          rw [e] at hT6
          exact hT6
        exact q3 H6 { g with rc := g.rc + 1 } tests (e0.trans (e6.mono hT5.sub)) hT6' ⟨⟨st6, hA6, hst6⟩, ⟨Hyp B g, hMok, hIsL, rfl, rfl, Eqv.trans (LP.k.symm ▸ rfl : (Hyp B g).k = L.k) (Eqv.symm LP.k LP.eqv) heqv⟩, W6⟩
end
end Tk
/-! text D24 -/
set_option maxHeartbeats 4000000
namespace Tk
open PySem L2
/-- a step of the tester: a question, or done -/
inductive TOut (a : Ads) (B : Mach) (m Lw : Nat) (NT NA : Fp) (H : Hp) (t kd : Addr) (p : AP) (g : AG) (qs : List (List Nat × Nat)) (asked lets : Nat) (st : V) : Prop
  | ask (x : Lv) (tests : List (List Nat)) (i : Nat) (u : List Nat) : TAt a NT NA H t kd p.s B.o m qs asked lets tests i st → Live a B m Lw NA H p g x → TInv B Lw g qs → At NT H st (askD u) → qs.lookup u = none → Cov B Lw g u →
      ((x = .ask u ∧ i = 0) ∨ ∃ L, x = .pro L ∧ TestOk B m L tests i qs) → TOut a B m Lw NT NA H t kd p g qs asked lets st
  | don (tests : List (List Nat)) (i : Nat) (L : Mach) : TAt a NT NA H t kd p.s B.o m qs asked lets tests i st → At NT H st (donD L) → DonOk B L → TOut a B m Lw NT NA H t kd p g qs asked lets st
def GoPost (a : Ads) (B : Mach) (m Lw : Nat) (NT : Fp) (H : Hp) (t kd s : Addr) (qs : List (List Nat × Nat)) (asked lets : Nat) (Q : VK) : Prop :=
  ∀ (NT' NA' : Fp) (p' : AP) (H' : Hp) (g' : AG) (st' : V), Grow NT NT' H → Ev NT H H' → p'.s = s → TOut a B m Lw NT' NA' H' t kd p' g' qs asked lets st' → Q .non H'
def Run (B : Mach) (m : Nat) (x : Lv) (tests : List (List Nat)) (i : Nat) (qs : List (List Nat × Nat)) : Prop := i = 0 ∨ ∃ L, x = .pro L ∧ TestOk B m L tests i qs
def sp_TestedAsker__go_on (a : Ads) : Sp := fun vs H Q _ => ∃ (NT NA : Fp) (t kd : Addr) (p : AP) (B : Mach) (m Lw : Nat) (g : AG) (qs : List (List Nat × Nat)) (asked lets i : Nat) (tests : List (List Nat)) (st : V) (x : Lv), vs = [.ref t] ∧
  TAt a NT NA H t kd p.s B.o m qs asked lets tests i st ∧ ParT B m Lw ∧ Live a B m Lw NA H p g x ∧ AI B Lw g ∧ ((∃ u, x = .ask u) ∨ ∃ L, x = .pro L) ∧ TInv B Lw g qs ∧ Run B m x tests i qs ∧ GoPost a B m Lw NT H t kd p.s qs asked lets Q
/-- where the loop stands -/
inductive GoW (a : Ads) (B : Mach) (m Lw : Nat) (NT NA : Fp) (H : Hp) (t kd : Addr) (p : AP) (g : AG) (qs : List (List Nat × Nat)) (asked lets : Nat) (st : V) : Nat → Prop
  | run (x : Lv) (tests : List (List Nat)) (i : Nat) : st = .non → TAt a NT NA H t kd p.s B.o m qs asked lets tests i st → Live a B m Lw NA H p g x → AI B Lw g → ((∃ u, x = .ask u) ∨ ∃ L, x = .pro L) → TInv B Lw g qs → Run B m x tests i qs →
      GoW a B m Lw NT NA H t kd p g qs asked lets st (psi B g qs + 2)
  | fin (L : Mach) (tests : List (List Nat)) (i : Nat) : st = .non → TAt a NT NA H t kd p.s B.o m qs asked lets tests i st → Live a B m Lw NA H p g (.don L) → GoW a B m Lw NT NA H t kd p g qs asked lets st 1
  | out : TOut a B m Lw NT NA H t kd p g qs asked lets st → GoW a B m Lw NT NA H t kd p g qs asked lets st 0
theorem GoW.at {a : Ads} {B : Mach} {m Lw : Nat} {NT NA : Fp} {H : Hp} {t kd : Addr} {p : AP} {g : AG} {qs : List (List Nat × Nat)} {asked lets : Nat} {st : V} {n : Nat} (h : GoW a B m Lw NT NA H t kd p g qs asked lets st n) :
    ∃ tests i, TAt a NT NA H t kd p.s B.o m qs asked lets tests i st := by
  cases h with
  | run x tests i _ h => exact ⟨tests, i, h⟩
  | fin L tests i _ h => exact ⟨tests, i, h⟩
  | out h =>
    cases h with
    | ask x tests i u h => exact ⟨tests, i, h⟩
    | don tests i L h => exact ⟨tests, i, h⟩
theorem TOut.ne {a : Ads} {B : Mach} {m Lw : Nat} {NT NA : Fp} {H : Hp} {t kd : Addr} {p : AP} {g : AG} {qs : List (List Nat × Nat)} {asked lets : Nat} {st : V} (h : TOut a B m Lw NT NA H t kd p g qs asked lets st) : st ≠ .non := by
  have ne : ∀ {v : V} {ds : List D}, At NT H v (.t ds) → v ≠ .non := fun h z => by
    obtain ⟨b, vs', e, _⟩ := At.tup h
    rw [z] at e; cases e
  cases h with
  | ask x tests i u _ _ _ h => exact ne h
  | don tests i L _ h => exact ne h
section
variable {P : Program} {w : World} {K : PySem.W.Frag} {mg : Str → Option Value} {base : Heap} {a : Ads} {d : Fds}
theorem ok_TestedAsker__go_on (T : TX K mg base a d) : FnOk P w K mg base CX0 9 a.f_TestedAsker__go_on d.d_TestedAsker__go_on ["self"] (sp_TestedAsker__go_on a) := by
  refine T.F_TestedAsker__go_on.ok sc_TestedAsker__go_on (fun vs H Q E h => ?_) (fun cdv A outer s H vs Q E hr h => ?_)
  · obtain ⟨_, _, _, _, _, _, _, _, _, _, _, _, _, _, _, _, rfl, _⟩ := h
    rfl
  · obtain ⟨NT, NA, t, kd, p, B, m, Lw, g, qs, asked, lets, i, tests, st, x, rfl, hT, HP, hV, hai, hx, hI0, hrun, post⟩ := h
    have hu := hu_of hr
    refine ⟨_, (pss_cons (ps_fldk K (pv 0) pe_non rfl)
    (pss_one (ps_while PassesOwn.never (pt_cmp (pc_isN (pe_fldk K (pv 0) rfl))) (pss_cons (ps_set (i := 1) sc_TestedAsker__go_on.nd rfl (Or.inl rfl) (pe_meth0 (pe_fldk K (pv 0) rfl) T.cl_Asker T.M_Asker_step (ok_Asker_step T) (hr.mono (by decide)) T.B_Asker_step .nil pass0))
      (pss_one (ps_if (PW.pt (pw_and (pt_cmpR op_eq (pe_ix (ix_tupk K) (pv 1) pe_int (fun _ _ => rfl)) pe_str (nomark _)) (pw_and1 (pt_cmp (pc_din hu (pe_callTy (cr_tupk K) (by rfl) T.b_tuple (by decide +kernel) (pa_cons (pe_ix (ix_tupk K) (pv 1) pe_int (fun _ _ => rfl)) pa_nil)) (pe_fldk K (pv 0) rfl)))))) (pss_one (ps_expr (pe_meth (pe_fldk K (pv 0) rfl) T.cl_Asker T.M_Asker_answer (ok_Asker_answer T) (hr.mono (by decide)) T.B_Asker_answer .nil pass0 (pa_cons (pe_dget hu (pe_fldk K (pv 0) rfl) (pe_callTy (cr_tupk K) (by rfl) T.b_tuple (by decide +kernel) (pa_cons (pe_ix (ix_tupk K) (pv 1) pe_int (fun _ _ => rfl)) pa_nil)) (fun _ _ => rfl)) pa_nil)))) (pss_one (ps_if (pt_cmpR op_eq (pe_ix (ix_tupk K) (pv 1) pe_int (fun _ _ => rfl)) pe_str (nomark _)) (pss_one (ps_expr (pe_meth (pv 0) T.cl_TestedAsker T.M_TestedAsker__test (ok_TestedAsker__test T) (hr.mono (by decide)) T.B_TestedAsker__test .nil pass0 (pa_cons (pe_ix (ix_tupk K) (pv 1) pe_int (fun _ _ => rfl)) pa_nil)))) (pss_one (ps_fldk K (pv 0) (pv 1) rfl)))))))))), ?_⟩
    obtain ⟨tv, hIt, htv⟩ := hT.ins
    have ot : ∀ b, on t b → NT b := onN hT.nt
    refine ⟨_, rfl, fldS hIt T.cl_TestedAsker T.n_TestedAsker__step (Nat.le_of_ble_eq_true rfl) fun H0 e0 hI0' => ?_⟩
    have hT0 : TAt a NT NA H0 t kd p.s B.o m qs asked lets tests i .non := hT.fld e0 hI0' (htv.evs e0 ot)
    have hV0 := hV.off e0 ⟨fun b z => hT.offs.n b (.inl z), fun b z => hT.offs.d b (.inl z)⟩
    refine ⟨fun n σ H' => ∃ NT1 NA1 p1 g1 st1, Grow NT NT1 H ∧ Ev NT H H' ∧ p1.s = p.s ∧ GoW a B m Lw NT1 NA1 H' t kd p1 g1 qs asked lets st1 n ∧ ∃ x1, σ = [some (.ref t), x1],
      ⟨_, NT, NA, p, g, .non, .refl, e0.mono ot, rfl, .run x tests i rfl hT0 hV0 hai hx hI0 hrun, none, rfl⟩, ?_⟩
    rintro n σ H1 ⟨NT1, NA1, p1, g1, st1, gr1, ev1, hp1, hW, x1, rfl⟩
    obtain ⟨tests0, i0, hTa⟩ := hW.at
    obtain ⟨tv1, hI1, htv1⟩ := hTa.ins
    refine ⟨_, rfl, fldR hI1 T.cl_TestedAsker T.n_TestedAsker__step rfl ⟨_, rfl, ?_⟩⟩
    cases hW with
    | out ho =>
      refine ifF (decide_eq_false ho.ne) ?_
      exact post NT1 NA1 p1 H1 g1 st1 gr1 ev1 hp1 ho
    | fin L tests1 i1 hst hT1 hV1 =>
      refine ifT (decide_eq_true hst) ?_
      refine ⟨fun σ' H' => ∃ n', n' < 1 ∧ ∃ NT2 NA2 p2 g2 st2, Grow NT NT2 H ∧ Ev NT H H' ∧ p2.s = p.s ∧ GoW a B m Lw NT2 NA2 H' t kd p2 g2 qs asked lets st2 n' ∧ ∃ x1, σ' = [some (.ref t), x1], fun σ' H' ⟨n', h1, h2⟩ => ⟨n', h1, h2⟩, ?_⟩
      obtain ⟨stA, hA, hstA⟩ := hV1.ex
      obtain ⟨vA, ⟨dA, hHA⟩, _⟩ := hA.ins
      have ot1 : ∀ b, on t b → NT1 b := onN hT1.nt
      refine ⟨_, rfl, fldR hI1 T.cl_TestedAsker T.n_TestedAsker__asker rfl ⟨p1.s, dA, _, rfl, hHA, rfl, NA1, p1, B.k, B.o, m, g1, stA, _, rfl, hV1.wf, hA, hstA, .inr (.inr ⟨L, rfl⟩), fun r H2 s2 h2 => ?_⟩⟩
      have hT2 := hT1.sm s2
      have h2' := hT2.wid h2
      refine ⟨_, rfl, ixT 0 h2' rfl rfl fun z hz => ?_⟩
      rw [hz.isS]
      refine ⟨rfl, _, rfl, ifF (decide_eq_false fun z => by injection z with z; exact absurd z (by decide)) (ifF rfl ?_)⟩
      refine ⟨_, rfl, ixT 0 h2' rfl rfl fun z hz => ?_⟩
      rw [hz.isS]
      refine ⟨rfl, _, rfl, ifF (decide_eq_false fun z => by injection z with z; exact absurd z (by decide)) ?_⟩
      obtain ⟨tv2, hI2, htv2⟩ := hT2.ins
      refine ⟨_, rfl, _, rfl, fldS hI2 T.cl_TestedAsker T.n_TestedAsker__step (Nat.le_of_ble_eq_true rfl) fun H3 e3 hI3 => ?_⟩
      have hT3 : TAt a NT1 NA1 H3 t kd p1.s B.o m qs asked lets tests1 i1 r := hT2.fld e3 hI3 (htv2.evs e3 ot1)
      exact ⟨0, Nat.zero_lt_one, NT1, NA1, p1, g1, r, gr1, ev1.grow ((Ev.of s2).trans (e3.mono ot1)) gr1, hp1, .out (.don tests1 i1 L hT3 (h2'.evs e3 ot1) hV1.ok), _, rfl⟩
    | run x tests1 i1 hst hT1 hV1 hai1 hx1 hI1' hrun1 =>
      refine ifT (decide_eq_true hst) ?_
      refine ⟨fun σ' H' => ∃ n', n' < psi B g1 qs + 2 ∧ ∃ NT2 NA2 p2 g2 st2, Grow NT NT2 H ∧ Ev NT H H' ∧ p2.s = p.s ∧ GoW a B m Lw NT2 NA2 H' t kd p2 g2 qs asked lets st2 n' ∧ ∃ x1, σ' = [some (.ref t), x1], fun σ' H' ⟨n', h1, h2⟩ => ⟨n', h1, h2⟩, ?_⟩
      obtain ⟨stA, hA, hstA⟩ := hV1.ex
      obtain ⟨vA, ⟨dA, hHA⟩, _⟩ := hA.ins
      have ot1 : ∀ b, on t b → NT1 b := onN hT1.nt
      rcases hx1 with ⟨u, rfl⟩ | ⟨L, rfl⟩
      · have hi0 : i1 = 0 := hrun1.elim id fun ⟨L, e, _⟩ => by cases e
        obtain ⟨_, hlkA, hcov⟩ : LvOk B Lw g1 (.ask u) := hV1.ok
        refine ⟨_, rfl, fldR hI1 T.cl_TestedAsker T.n_TestedAsker__asker rfl ⟨p1.s, dA, _, rfl, hHA, rfl, NA1, p1, B.k, B.o, m, g1, stA, _, rfl, hV1.wf, hA, hstA, .inl ⟨u, rfl⟩, fun r H2 s2 h2 => ?_⟩⟩
        have hT2 := hT1.sm s2
        have hV2 := hV1.sm s2
        have h2' := hT2.wid h2
        obtain ⟨tv2, hI2, htv2⟩ := hT2.ins
        refine ⟨_, rfl, ixT 0 h2' rfl rfl fun z hz => ?_⟩
        rw [hz.isS]
        refine ⟨rfl, _, rfl, ifT (decide_eq_true rfl) ?_⟩
        refine ⟨_, rfl, ixT 1 h2' rfl rfl fun z3 h3 => tupL hT2.wf h3 fun p4 H4 s4 h4 => ⟨_, rfl, fldR (hI2.sm s4) T.cl_TestedAsker T.n_TestedAsker__known rfl ⟨kd, _, rfl, dgetO_Dt (hT2.sm s4).kn h4, ?_⟩⟩⟩
        have hT4 := hT2.sm s4
        have hV4 := hV2.sm s4
        obtain ⟨tv4, hI4, htv4⟩ := hT4.ins
        cases hlk : qs.lookup u with
        | none =>
          refine ⟨_, rfl, ifF rfl ?_⟩
          refine ⟨_, rfl, ixT 0 (h2'.sm s4) rfl rfl fun z hz => ?_⟩
          rw [hz.isS]
          refine ⟨rfl, _, rfl, ifF (decide_eq_false fun z => by injection z with z; exact absurd z (by decide)) ?_⟩
          refine ⟨_, rfl, _, rfl, fldS hI4 T.cl_TestedAsker T.n_TestedAsker__step (Nat.le_of_ble_eq_true rfl) fun H5 e5 hI5 => ?_⟩
          have hT5 : TAt a NT1 NA1 H5 t kd p1.s B.o m qs asked lets tests1 i1 r := hT4.fld e5 hI5 (htv4.evs e5 ot1)
          have hV5 := hV4.off e5 ⟨fun b z => hT4.offs.n b (.inl z), fun b z => hT4.offs.d b (.inl z)⟩
          exact ⟨0, by omega, NT1, NA1, p1, g1, r, gr1, ev1.grow ((Ev.of (s2.trans s4)).trans (e5.mono ot1)) gr1, hp1, .out (.ask (.ask u) tests1 i1 u hT5 hV5 hI1' ((h2'.sm s4).evs e5 ot1) hlk hcov (.inl ⟨rfl, hi0⟩)), _, rfl⟩
        | some y =>
          have hy := hI1'.look hlk
          refine ⟨_, rfl, ifT rfl ?_⟩
          obtain ⟨stA4, hA4, hstA4⟩ := hV4.ex
          obtain ⟨vA4, ⟨dA4, hHA4⟩, _⟩ := hA4.ins
          refine ⟨_, rfl, fldR hI4 T.cl_TestedAsker T.n_TestedAsker__asker rfl ⟨p1.s, dA4, _, rfl, hHA4, rfl, _, rfl, fldR hI4 T.cl_TestedAsker T.n_TestedAsker__known rfl ⟨_, rfl, ixT 1 (h2'.sm s4) rfl rfl fun z5 h5 => tupL hT4.wf h5 fun p6 H6 s6 h6 => ⟨kd, _, rfl, dget_Dt (hT4.sm s6).kn h6 hlk, ?_⟩⟩⟩⟩
          have hT6 := hT4.sm s6
          have hku : u ∈ qs.map (·.1) := by
            refine Classical.byContradiction fun z => ?_
            rw [lookup_key.mpr z] at hlk; cases hlk
          have hnu : u ∉ g1.ps.map (·.1) := lookup_key.mp hlkA
          have hA6 := hA4.sm s6
          refine ⟨NA1, p1, B, m, Lw, g1, stA4, u, (by rw [hy]; rfl), hV4.wf.ev s6, hA6, HP.p, hai1, hstA4.sm s6, hlkA, hcov, fun NA' p' H7 g' gr e7 W7 hp hok nx => ?_⟩
          have hT7 := hT6.ask e7 gr W7
          have e17 : Ev NT1 H1 H7 := (Ev.of ((s2.trans s4).trans s6)).trans (e7.mono hT1.sub)
          have gr17 : Grow NT1 (fun b => NT1 b ∨ NA' b) H1 := ⟨fun b z => .inl z, fun b z => z.elim .inl fun z => (gr.new b z).elim (fun z => .inl (hT1.sub b z)) fun w => .inr (((s2.trans s4).trans s6).th b w)⟩
          rw [← hp] at hT7
          obtain ⟨x', hL', hai', hx'⟩ := hok.live W7
          have hinv : TInv B Lw g' qs := (hI1'.ask hku (fB B u)).nxt nx
          have hpsi := psi_ask hI1' hai1 HP hku hnu nx
          exact ⟨psi B g' qs + 2, by omega, (fun b => NT1 b ∨ NA' b), NA', p', g', st1, gr1.trans gr17 ev1, ev1.grow e17 gr1, hp.trans hp1, .run x' tests1 i1 hst hT7 hL' hai' hx' hinv (.inl hi0), _, rfl⟩
      · refine ⟨_, rfl, fldR hI1 T.cl_TestedAsker T.n_TestedAsker__asker rfl ⟨p1.s, dA, _, rfl, hHA, rfl, NA1, p1, B.k, B.o, m, g1, stA, _, rfl, hV1.wf, hA, hstA, .inr (.inl ⟨L, rfl⟩), fun r H2 s2 h2 => ?_⟩⟩
        have hT2 := hT1.sm s2
        have hV2 := hV1.sm s2
        have h2' := hT2.wid h2
        refine ⟨_, rfl, ixT 0 h2' rfl rfl fun z hz => ?_⟩
        rw [hz.isS]
        refine ⟨rfl, _, rfl, ifF (decide_eq_false fun z => by injection z with z; exact absurd z (by decide)) (ifF rfl ?_)⟩
        refine ⟨_, rfl, ixT 0 h2' rfl rfl fun z hz => ?_⟩
        rw [hz.isS]
        refine ⟨rfl, _, rfl, ifT (decide_eq_true rfl) ?_⟩
        obtain ⟨tv2, ⟨dT2, hHT2⟩, htv2⟩ := hT2.ins
        have hrun' : i1 = 0 ∨ TestOk B m L tests1 i1 qs := hrun1.elim .inl fun ⟨L', e, h⟩ => by cases e; exact .inr h
        have g12 : Grow NT1 NT1 H1 := .refl
        refine ⟨_, rfl, t, dT2, _, rfl, hHT2, rfl, _, rfl, ixT 1 h2' rfl rfl fun z3 h3 => ?_⟩
        refine ⟨NT1, NA1, t, kd, p1, B, m, Lw, g1, qs, asked, lets, i1, tests1, st1, z3, L, rfl, hT2, HP, hV2, hI1', h3, hrun', fun H3 tests3 i3 st3 u e3 hT3 hV3 hto3 hst3 hu3 hlk3 => ?_, fun NT3 NA3 p3 H3 g3 tests3 gr3 e3 hp3 hT3 hok3 W3 hinv3 hpsi3 => ?_, fun H3 g3 tests3 e3 hT3 hV3 => ?_⟩
        · obtain ⟨_, hIsL, rdy, hid⟩ : LvOk B Lw g1 (.pro L) := hV1.ok
          have hMok := rdy.ok hai1.ti HP.p.ok
          have LP := hIsL.p hMok
          have hLn : L.n ≤ B.n := Nat.le_trans LP.le (by rw [Rdy.nS]; exact hai1.ti.sn HP.p.ok)
          have hw := hto3.word (Nat.le_trans hLn HP.p.m1) hu3
          have hcov : Cov B Lw g1 u := ⟨by rw [← show L.k = B.k from LP.k]; exact hw.1, by have := hw.2; have := HP.lwm; omega, .inl (by have := hw.2; have := HP.lwm; omega)⟩
          exact ⟨0, by omega, NT1, NA1, p1, g1, st3, gr1, ev1.grow ((Ev.of s2).trans e3) gr1, hp1, .out (.ask (.pro L) tests3 i3 u hT3 hV3 hI1' hst3 hlk3 hcov (.inr ⟨L, rfl, hto3⟩)), _, rfl⟩
        · have gr13 : Grow NT1 NT3 H1 := ⟨gr3.up, fun b z => (gr3.new b z).elim .inl fun w => .inr (s2.th b w)⟩
          obtain ⟨x', hL', hai', hx'⟩ := hok3.live W3
          exact ⟨psi B g3 qs + 2, by omega, NT3, NA3, p3, g3, st1, gr1.trans gr13 ev1, ev1.grow ((Ev.of s2).trans e3) gr1, hp3.trans hp1, .run x' tests3 0 hst hT3 hL' hai' hx' hinv3 (.inl rfl), _, rfl⟩
        · exact ⟨1, by omega, NT1, NA1, p1, g3, st1, gr1, ev1.grow ((Ev.of s2).trans e3) gr1, hp1, .fin L tests3 0 hst hT3 hV3, _, rfl⟩
end
end Tk
/-! text D25 -/
set_option maxHeartbeats 4000000
namespace Tk
open PySem L2
def sp_TestedAsker_answer (a : Ads) : Sp := fun vs H Q _ => ∃ (NT NA : Fp) (t kd : Addr) (p : AP) (B : Mach) (m Lw : Nat) (g : AG) (qs : List (List Nat × Nat)) (asked lets i : Nat) (tests : List (List Nat)) (st : V) (x : Lv) (u : List Nat), vs = [.ref t, nV (fB B u)] ∧
  TAt a NT NA H t kd p.s B.o m qs asked lets tests i st ∧ ParT B m Lw ∧ Live a B m Lw NA H p g x ∧ TInv B Lw g qs ∧ At NT H st (askD u) ∧ qs.lookup u = none ∧ Cov B Lw g u ∧ ((x = .ask u ∧ i = 0) ∨ ∃ L, x = .pro L ∧ TestOk B m L tests i qs) ∧
  GoPost a B m Lw NT H t kd p.s (qs ++ [(u, fB B u)]) (asked + 1) (lets + u.length) Q
def sp_TestedAsker___init__ (a : Ads) : Sp := fun vs H Q _ => ∃ (N : Fp) (t : Addr) (B : Mach) (m Lw : Nat), vs = [.ref t, nV B.k, nV B.o, nV m] ∧ Wf N H ∧ N t ∧ N a.P_in_order ∧ (∀ b, N b → b = t ∨ b = a.P_in_order) ∧ t ≠ a.P_in_order ∧ Tab N H a.P_in_order ∧ Ins H t a.C_TestedAsker [] ∧ ParT B m Lw ∧
  ∀ (NT NA : Fp) (p : AP) (kd : Addr) (H' : Hp) (g : AG) (st : V), Grow N NT H → Ev N H H' → TOut a B m Lw NT NA H' t kd p g [] 0 0 st → Q .non H'
theorem Live.ai {a : Ads} {B : Mach} {m Lw : Nat} {N : Fp} {H : Hp} {p : AP} {g : AG} {x : Lv} (h : Live a B m Lw N H p g x) (hx : (∃ u, x = .ask u) ∨ ∃ L, x = .pro L) : AI B Lw g := by
  have := h.ok
  rcases hx with ⟨u, rfl⟩ | ⟨L, rfl⟩
  · exact this.1
  · exact this.1
section
variable {P : Program} {w : World} {K : PySem.W.Frag} {mg : Str → Option Value} {base : Heap} {a : Ads} {d : Fds}
theorem ok_TestedAsker_answer (T : TX K mg base a d) : FnOk P w K mg base CX0 10 a.f_TestedAsker_answer d.d_TestedAsker_answer ["self", "output"] (sp_TestedAsker_answer a) := by
  refine T.F_TestedAsker_answer.ok sc_TestedAsker_answer (fun vs H Q E h => ?_) (fun cdv A outer s H vs Q E hr h => ?_)
  · obtain ⟨_, _, _, _, _, _, _, _, _, _, _, _, _, _, _, _, _, rfl, _⟩ := h
    rfl
  · obtain ⟨NT, NA, t, kd, p, B, m, Lw, g, qs, asked, lets, i, tests, st, x, u, rfl, hT, HP, hV, hI0, hst, hlk, hcov, hx, post⟩ := h
    have hu := hu_of hr
    refine ⟨_, (pss_cons (ps_if (pt_cmpR op_ne (pe_ix (ix_tupk K) (pe_fldk K (pv 0) rfl) pe_int (fun _ _ => rfl)) pe_str (nomark _)) (pss_one ps_never) pss_nil)
    (pss_cons (ps_if (PW.pt (pw_or (pt_cmpR op_lt (pv 1) pe_int (nomark _)) (pw_or1 (pt_cmpR op_ge (pv 1) (pe_fldk K (pv 0) rfl) (nomark _))))) (pss_cons (ps_fldk K (pv 0) (pe_tupm (pa_cons pe_str (pa_cons pe_str pa_nil))) rfl)
      (pss_one ps_retN)) pss_nil)
    (pss_cons (ps_set (i := 2) sc_TestedAsker_answer.nd rfl (Or.inl rfl) (pe_ix (ix_tupk K) (pe_fldk K (pv 0) rfl) pe_int (fun _ _ => rfl)))
    (pss_cons (ps_fldaug (pv 0) pe_int in_add)
    (pss_cons (ps_fldaug (pv 0) (pe_callB (cr_lenk K) (by rfl) T.b_len (by decide +kernel) (pa_cons (pv 2) pa_nil)) in_add)
    (pss_cons (ps_dput hu (pe_fldk K (pv 0) rfl) (pe_callTy (cr_tupk K) (by rfl) T.b_tuple (by decide +kernel) (pa_cons (pv 2) pa_nil)) (pv 1) rfl)
    (pss_cons (ps_if (pt_cmpR op_eq (pe_ix (ix_tupk K) (pe_meth0 (pe_fldk K (pv 0) rfl) T.cl_Asker T.M_Asker_step (ok_Asker_step T) (hr.mono (by decide)) T.B_Asker_step .nil pass0) pe_int (fun _ _ => rfl)) pe_str (nomark _)) (pss_one (ps_expr (pe_meth (pe_fldk K (pv 0) rfl) T.cl_Asker T.M_Asker_answer (ok_Asker_answer T) (hr.mono (by decide)) T.B_Asker_answer .nil pass0 (pa_cons (pv 1) pa_nil)))) pss_nil)
    (pss_one (ps_expr (pe_meth0 (pv 0) T.cl_TestedAsker T.M_TestedAsker__go_on (ok_TestedAsker__go_on T) (hr.mono (by decide)) T.B_TestedAsker__go_on .nil pass0)))))))))), ?_⟩
    have hx' : (∃ u, x = .ask u) ∨ ∃ L, x = .pro L := hx.elim (fun h => .inl ⟨u, h.1⟩) fun ⟨L, h, _⟩ => .inr ⟨L, h⟩
    have hai := hV.ai hx'
    have hfo : fB B u < B.o := HP.p.ok.outp_lt u HP.p.ok.pos
    have ot : ∀ b, on t b → NT b := onN hT.nt
    have okd : ∀ b, on kd b → NT b := onN hT.nk
    obtain ⟨tv, ⟨dx, hHt⟩, htv⟩ := hT.ins
    have hI : Ins H t a.C_TestedAsker (ttF p.s B.o m kd asked lets tv i st) := ⟨dx, hHt⟩
    refine ⟨_, rfl, fldR hI T.cl_TestedAsker T.n_TestedAsker__step rfl (ixT 0 hst rfl rfl fun z hz => ?_)⟩
    rw [hz.isS]
    refine ⟨rfl, _, rfl, ifF (by rw [decide_eq_true rfl]; rfl) ?_⟩
    refine ⟨_, rfl, _, _, rfl, rfl, _, rfl, ifF (decide_eq_false (by omega)) ?_⟩
    refine ⟨_, rfl, _, rfl, fldR hI T.cl_TestedAsker T.n_TestedAsker__outs rfl ⟨_, _, rfl, rfl, _, rfl, ifF (decide_eq_false (by omega)) ?_⟩⟩
    refine ⟨_, rfl, fldR hI T.cl_TestedAsker T.n_TestedAsker__step rfl (ixT 1 hst rfl rfl fun wv hw => ?_)⟩
    -- asked, letters
    refine ⟨_, rfl, t, a.C_TestedAsker, dx, _, _, rfl, hHt, T.cl_TestedAsker, T.n_TestedAsker__asked, rfl, _, _, rfl, rfl, dx, _, hHt, Nat.le_of_ble_eq_true rfl, ?_⟩
    have e1 : Ev (on t) H (upd H t (HO.ins a.C_TestedAsker dx (putF (Str.ofString "_asked") (V.int ((asked : Int) + 1)) (ttF p.s B.o m kd asked lets tv i st)))) := .put rfl
    have h1 : upd H t (HO.ins a.C_TestedAsker dx (putF (Str.ofString "_asked") (V.int ((asked : Int) + 1)) (ttF p.s B.o m kd asked lets tv i st))) t = some (HO.ins a.C_TestedAsker dx (ttF p.s B.o m kd (asked + 1) lets tv i st)) := upd_same
    generalize upd H t (HO.ins a.C_TestedAsker dx (putF (Str.ofString "_asked") (V.int ((asked : Int) + 1)) (ttF p.s B.o m kd asked lets tv i st))) = H1 at e1 h1 ⊢
    have hw1 : At NT H1 wv (wL u) := hw.evs e1 ot
    refine ⟨_, rfl, t, a.C_TestedAsker, dx, _, _, rfl, h1, T.cl_TestedAsker, T.n_TestedAsker__letters, rfl, _, rfl, lenL hw1 ⟨_, _, rfl, rfl, dx, _, h1, Nat.le_of_ble_eq_true rfl, ?_⟩⟩
    have hc : V.int ((lets : Int) + ((u.map D.n).length : Int)) = nV (lets + u.length) := by
      rw [List.length_map]
      unfold nV
      push_cast
      rfl
    have e2 : Ev (on t) H1 (upd H1 t (HO.ins a.C_TestedAsker dx (putF (Str.ofString "_letters") (V.int ((lets : Int) + ((u.map D.n).length : Int))) (ttF p.s B.o m kd (asked + 1) lets tv i st)))) := .put rfl
    have h2 : Ins (upd H1 t (HO.ins a.C_TestedAsker dx (putF (Str.ofString "_letters") (V.int ((lets : Int) + ((u.map D.n).length : Int))) (ttF p.s B.o m kd (asked + 1) lets tv i st)))) t a.C_TestedAsker (ttF p.s B.o m kd (asked + 1) (lets + u.length) tv i st) := ⟨dx, by
      rw [upd_same, hc]; rfl⟩
    generalize upd H1 t (HO.ins a.C_TestedAsker dx (putF (Str.ofString "_letters") (V.int ((lets : Int) + ((u.map D.n).length : Int))) (ttF p.s B.o m kd (asked + 1) lets tv i st))) = H2 at e2 h2 ⊢
    have e02 := e1.trans e2
    have hT2 : TAt a NT NA H2 t kd p.s B.o m qs (asked + 1) (lets + u.length) tests i st := hT.fld e02 h2 (htv.evs e02 ot)
    have hV2 := hV.off e02 ⟨fun b z => hT.offs.n b (.inl z), fun b z => hT.offs.d b (.inl z)⟩
    have hw2 := hw.evs e02 ot
    -- known
    refine ⟨_, rfl, _, rfl, fldR h2 T.cl_TestedAsker T.n_TestedAsker__known rfl ⟨_, rfl, tupL hT2.wf hw2 fun p3 H3 s3 h3 => dputN (w := u) (f := nV) (r := fB B u) (hT2.sm s3).kn h3 hlk (by have := hI0.len HP hai; omega) rfl fun H4 e4 k4 => ?_⟩⟩
    have hT3 := hT2.sm s3
    have hT4 := hT3.known e4 k4
    have hV4 := (hV2.sm s3).off e4 ⟨fun b z => hT3.offs.n b (.inr (.inl z)), fun b z => hT3.offs.d b (.inr (.inl z))⟩
    have hku : u ∉ qs.map (·.1) := lookup_key.mp hlk
    have hI4 := hI0.learn hku hcov
    have ev4 : Ev NT H H4 := ((e02.mono ot).trans (.of s3)).trans (e4.mono okd)
    obtain ⟨tv4, hIt4, htv4⟩ := hT4.ins
    obtain ⟨stA, hA, hstA⟩ := hV4.ex
    obtain ⟨vA, ⟨dA, hHA⟩, _⟩ := hA.ins
    rcases hx with ⟨rfl, hi0⟩ | ⟨L, rfl, hto⟩
    · refine ⟨_, rfl, fldR hIt4 T.cl_TestedAsker T.n_TestedAsker__asker rfl ⟨p.s, dA, _, rfl, hHA, rfl, NA, p, B.k, B.o, m, g, stA, _, rfl, hV4.wf, hA, hstA, .inl ⟨u, rfl⟩, fun r H5 s5 h5 => ixT 0 (hT4.sm s5 |>.wid h5) rfl rfl fun z hz => ?_⟩⟩
      rw [hz.isS]
      refine ⟨rfl, _, rfl, ifT (decide_eq_true rfl) ?_⟩
      have hT5 := hT4.sm s5
      have hV5 := hV4.sm s5
      obtain ⟨tv5, hIt5, htv5⟩ := hT5.ins
      obtain ⟨stA5, hA5, hstA5⟩ := hV5.ex
      obtain ⟨vA5, ⟨dA5, hHA5⟩, _⟩ := hA5.ins
      obtain ⟨_, hlkA, _⟩ : LvOk B Lw g (.ask u) := hV5.ok
      refine ⟨_, rfl, fldR hIt5 T.cl_TestedAsker T.n_TestedAsker__asker rfl ⟨p.s, dA5, _, rfl, hHA5, rfl, _, rfl, ?_⟩⟩
      refine ⟨NA, p, B, m, Lw, g, stA5, u, rfl, hV5.wf, hA5, HP.p, hai, hstA5, hlkA, hcov, fun NA' p' H6 g' gr e6 W6 hp hok nx => ?_⟩
      have hT6 := hT5.ask e6 gr W6
      have ev5 : Ev NT H H5 := ev4.trans (.of s5)
      have gr6 : Grow NT (fun b => NT b ∨ NA' b) H := ⟨fun b z => .inl z, fun b z => z.elim .inl fun z => (gr.new b z).elim (fun z => .inl (hT.sub b z)) fun w => .inr (ev5.th b w)⟩
      have ev6 : Ev NT H H6 := ev5.trans (e6.mono hT.sub)
      rw [← hp] at hT6
      obtain ⟨x', hL', hai', hx''⟩ := hok.live W6
      have hinv : TInv B Lw g' (qs ++ [(u, fB B u)]) := (hI4.ask (by rw [List.map_append]; exact List.mem_append_right _ (List.mem_singleton.mpr rfl)) (fB B u)).nxt nx
      obtain ⟨tv6, ⟨dx6, hHt6⟩, htv6⟩ := hT6.ins
      refine ⟨_, rfl, t, dx6, _, rfl, hHt6, rfl, (fun b => NT b ∨ NA' b), NA', t, kd, p', B, m, Lw, g', _, _, _, i, tests, st, x', rfl, hT6, HP, hL', hai', hx'', hinv, .inl hi0, fun NT' NA'' p'' H7 g'' st' gr7 ev7 hp7 ho => ?_⟩
      exact post NT' NA'' p'' H7 g'' st' (gr6.trans gr7 ev6) (ev6.grow ev7 gr6) (hp7.trans hp) ho
    · refine ⟨_, rfl, fldR hIt4 T.cl_TestedAsker T.n_TestedAsker__asker rfl ⟨p.s, dA, _, rfl, hHA, rfl, NA, p, B.k, B.o, m, g, stA, _, rfl, hV4.wf, hA, hstA, .inr (.inl ⟨L, rfl⟩), fun r H5 s5 h5 => ixT 0 (hT4.sm s5 |>.wid h5) rfl rfl fun z hz => ?_⟩⟩
      rw [hz.isS]
      refine ⟨rfl, _, rfl, ifF (decide_eq_false fun z => by injection z with z; exact absurd z (by decide)) ?_⟩
      have hT5 := hT4.sm s5
      have hV5 := hV4.sm s5
      obtain ⟨tv6, ⟨dx6, hHt6⟩, htv6⟩ := hT5.ins
      refine ⟨_, rfl, t, dx6, _, rfl, hHt6, rfl, NT, NA, t, kd, p, B, m, Lw, g, _, _, _, i, tests, st, .pro L, rfl, hT5, HP, hV5, hai, .inr ⟨L, rfl⟩, hI4, .inr ⟨L, rfl, ⟨hto.su, hto.le, hto.ok⟩⟩, fun NT' NA'' p'' H7 g'' st' gr7 ev7 hp7 ho => ?_⟩
      have ev5 : Ev NT H H5 := ev4.trans (.of s5)
      exact post NT' NA'' p'' H7 g'' st' ⟨gr7.up, fun b z => (gr7.new b z).elim .inl fun w => .inr (ev5.th b w)⟩ (ev5.trans ev7) hp7 ho
end
end Tk
/-! text D26 -/
set_option maxHeartbeats 4000000
namespace Tk
open PySem L2
section
variable {P : Program} {w : World} {K : PySem.W.Frag} {mg : Str → Option Value} {base : Heap} {a : Ads} {d : Fds}
theorem ok_TestedAsker___init__ (T : TX K mg base a d) : FnOk P w K mg base CX0 10 a.f_TestedAsker___init__ d.d_TestedAsker___init__ ["self", "letters", "outs", "most"] (sp_TestedAsker___init__ a) := by
  refine T.F_TestedAsker___init__.ok sc_TestedAsker___init__ (fun vs H Q E h => ?_) (fun cdv A outer s H vs Q E hr h => ?_)
  · obtain ⟨_, _, _, _, _, rfl, _⟩ := h
    rfl
  · obtain ⟨N, t, B, m, Lw, rfl, W, nt, nP, hN, ntP, hTab, hI, HP, post⟩ := h
    have hu := hu_of hr
    refine ⟨_, (pss_cons (ps_fldk K (pv 0) (pe_make T.mk_Asker (ok_Asker___init__ T) (hr.mono (by decide)) rfl T.g_Asker T.B_Asker___init__ .nil pass0 (pa_cons (pv 1) (pa_cons (pv 2) (pa_cons (pv 3) (pa_cons (pe_lstm pa_nil) pa_nil))))) rfl)
    (pss_cons (ps_forR2 PassesOwn.never rfl rfl T.b_range (pa_cons pe_int (pa_cons (pe_op op_add (pv 3) pe_int) pa_nil)) (pg_name (i := 4) sc_TestedAsker___init__.nd rfl (Or.inl rfl)) (pss_one (ps_if (pt_cmpR op_gt (pe_call (ok_list_bound T) (hr.mono (by decide)) rfl T.g_list_bound T.F_list_bound.kp T.B_list_bound .nil pass0 (pa_cons (pv 4) (pa_cons (pv 1) (pa_cons (pe_op op_sub (pv 3) (pv 4)) pa_nil)))) (pe_glob (v := .int 4000) rfl T.c_MAX_LIST ⟨_, rfl⟩) (nomark _)) (pss_one ps_never) pss_nil)))
    (pss_cons (ps_fldk K (pv 0) (pv 2) rfl)
    (pss_cons (ps_fldk K (pv 0) (pv 3) rfl)
    (pss_cons (ps_fldk K (pv 0) pe_dnewT rfl)
    (pss_cons (ps_fldk K (pv 0) pe_int rfl)
    (pss_cons (ps_fldk K (pv 0) pe_int rfl)
    (pss_cons (ps_fldk K (pv 0) (pe_lstm pa_nil) rfl)
    (pss_cons (ps_fldk K (pv 0) pe_int rfl)
    (pss_cons (ps_fldk K (pv 0) pe_non rfl)
    (pss_one (ps_expr (pe_meth0 (pv 0) T.cl_TestedAsker T.M_TestedAsker__go_on (ok_TestedAsker__go_on T) (hr.mono (by decide)) T.B_TestedAsker__go_on .nil pass0))))))))))))), ?_⟩
    have hm30 := HP.p.m
    have hk2 := HP.k2
    have hm1 : 1 ≤ m := Nat.le_trans HP.p.ok.pos HP.p.m1
    refine ⟨_, rfl, _, rfl, _, rfl, mkL (N := F0) (Wf.f0) (by simp) .nil fun p1 H1 s1 h1 => ?_⟩
    intro s0 ds hs0 hds hne
    have f1 : Sm H1 (upd H1 ds (.own s0)) := .new hds
    have f2 : Sm (upd H1 ds (.own s0)) (upd (upd H1 ds (.own s0)) s0 (.ins a.C_Asker ds [])) := .new (by rw [upd_ne (Ne.symm hne)]; exact hs0)
    have i2 : Ins (upd (upd H1 ds (.own s0)) s0 (.ins a.C_Asker ds [])) s0 a.C_Asker [] := ⟨ds, upd_same⟩
    have s2 := f1.trans f2
    generalize upd (upd H1 ds (.own s0)) s0 (.ins a.C_Asker ds []) = H2 at s2 i2
    clear f1 f2
    have W2 : Wf (ad s0 F0) H2 := by
      obtain ⟨dz, hz⟩ := i2
      exact Wf.f0.ad hz
    have hk2' : At (ad s0 F0) H2 (.ref p1) (.l []) := h1.ad hs0 s2
    refine ⟨ad s0 F0, s0, B, m, Lw, .ref p1, rfl, W2, .inl rfl, (fun b z => z.elim id fun z => z.elim), i2, HP.p, HP.k1, hk2', fun NA p H3 g gr e3 W3 hp hok nx => ⟨rfl, ?_⟩⟩
    have hs00 : H s0 = none := s1.free hs0
    have nts : t ≠ s0 := fun e => hI.tr (e ▸ hs00)
    have I2 := hI.sm (s1.trans s2)
    have nAt : ¬ NA t := fun z => (gr.new _ z).elim (fun z => z.elim (fun e => nts e) fun z => z) fun w => I2.tr w
    have s13 : Sm H1 H3 := s2.then e3 fun b z => .inr ((show b = s0 from z) ▸ hs0)
    have s03 := s1.trans s13
    have I3 := hI.sm s03
    refine ⟨_, rfl, fldS I3 T.cl_TestedAsker T.n_TestedAsker__asker (Nat.le_of_ble_eq_true rfl) fun H4 e4 I4 => ?_⟩
    -- the bounds
    refine ⟨_, rfl, _, _, rfl, rfl, ?_⟩
    refine forR2 1 (m + 1) rfl rfl (by omega) (by omega) (fun i σ H' => Sm H4 H' ∧ ∃ z, σ = [some (.ref t), some (nV B.k), some (nV B.o), some (nV m), z]) ⟨.refl _ _, none, rfl⟩ ?_ ?_
    · rintro i σ' H' hi ⟨s', z, rfl⟩
      refine ⟨_, rfl, _, rfl, _, rfl, _, rfl, _, _, rfl, rfl, ?_⟩
      have ec : V.int ((m : Int) - ((1 + i : Nat) : Int)) = nV (m - (1 + i)) := by
        unfold nV
        congr 1
        omega
      refine ⟨1 + i, B.k, m - (1 + i), by rw [← ec]; rfl, by omega, by omega, by omega, by omega, fun H'' s'' => ?_⟩
      refine ⟨_, _, rfl, rfl, _, rfl, ifF (decide_eq_false ?_) ⟨s'.trans s'', _, rfl⟩⟩
      have := HP.lb (1 + i) (by omega) (by omega)
      omega
    · rintro σ' H5 ⟨s5, z, rfl⟩
      have I5 := I4.sm s5
      refine ⟨_, rfl, _, rfl, fldS I5 T.cl_TestedAsker T.n_TestedAsker__outs (Nat.le_of_ble_eq_true rfl) fun H6 e6 I6 => ?_⟩
      refine ⟨_, rfl, _, rfl, fldS I6 T.cl_TestedAsker T.n_TestedAsker__most (Nat.le_of_ble_eq_true rfl) fun H7 e7 I7 => ?_⟩
      have e37 : Ev (on t) H3 H7 := ((e4.trans (.of s5)).trans e6).trans e7
      intro kd hkd
      have s8 : Sm H7 (upd H7 kd (.dT [])) := .new hkd
      have k8 : KnAt (upd H7 kd (.dT [])) kd [] := upd_same
      have nkt : kd ≠ t := fun e => I7.tr (e ▸ hkd)
      generalize upd H7 kd (.dT []) = H8 at s8 k8
      refine ⟨_, rfl, fldS (I7.sm s8) T.cl_TestedAsker T.n_TestedAsker__known (Nat.le_of_ble_eq_true rfl) fun H9 e9 I9 => ?_⟩
      refine ⟨_, rfl, fldS I9 T.cl_TestedAsker T.n_TestedAsker__asked (Nat.le_of_ble_eq_true rfl) fun H10 e10 I10 => ?_⟩
      refine ⟨_, rfl, fldS I10 T.cl_TestedAsker T.n_TestedAsker__letters (Nat.le_of_ble_eq_true rfl) fun H11 e11 I11 => ?_⟩
      have e39 : Ev (on t) H3 H11 := ((((e37.trans (.of s8)).trans e9).trans e10).trans e11)
      have hP3 : H3 a.P_in_order ≠ none := fun z => by
        obtain ⟨ps, h', _⟩ := (hTab.sm s03).ex
        rw [z] at h'; cases h'
      have hkd3 : H3 kd = none := e37.th kd hkd
      have nAk : ¬ NA kd := fun z => (W3 kd z).1 hkd3
      have nsP : a.P_in_order ≠ s0 := fun e => by
        obtain ⟨ps, h', _⟩ := hTab.ex
        rw [e, hs00] at h'; cases h'
      have nAP : ¬ NA a.P_in_order := fun z => (gr.new _ z).elim (fun z => z.elim (fun e => nsP e) fun z => z) fun w => by
        obtain ⟨ps, h', _⟩ := (hTab.sm (s1.trans s2)).ex
        rw [w] at h'; cases h'
      have nkP : kd ≠ a.P_in_order := fun e => hP3 (e ▸ hkd3)
      -- the places
      have W11 : Wf (fun b => NA b ∨ b = t ∨ b = kd ∨ b = a.P_in_order) H11 := fun b z => by
        rcases z with z | rfl | rfl | rfl
        · exact (W3.ev e39) b z
        · obtain ⟨dz, hz⟩ := I11
          rw [hz]
          exact ⟨(fun q => nomatch q), fun xs q => nomatch q⟩
        · have k11 : H11 b = some (DtO nV []) := ((e9.trans e10).trans e11).kp _ _ k8 nkt
          rw [k11]
          exact ⟨(fun q => nomatch q), fun xs q => DtO.noT xs (Option.some.inj q)⟩
        · obtain ⟨ps, h', _⟩ := (hTab.sm s03).ex
          rw [e39.kp _ _ h' (Ne.symm ntP)]
          exact ⟨(fun q => nomatch q), fun xs q => nomatch q⟩
      refine mkL W11 (by simp) .nil fun p12 H12 s12 h12 => ?_
      refine ⟨_, rfl, fldS (I11.sm s12) T.cl_TestedAsker T.n_TestedAsker__tests (Nat.le_of_ble_eq_true rfl) fun H13 e13 I13 => ?_⟩
      refine ⟨_, rfl, fldS I13 T.cl_TestedAsker T.n_TestedAsker__at (Nat.le_of_ble_eq_true rfl) fun H14 e14 I14 => ?_⟩
      refine ⟨_, rfl, fldS I14 T.cl_TestedAsker T.n_TestedAsker__step (Nat.le_of_ble_eq_true rfl) fun H15 e15 I15 => ?_⟩
      have e1215 := (e13.trans e14).trans e15
      have e315 : Ev (on t) H3 H15 := (e39.trans (.of s12)).trans e1215
      have ot : ∀ b, on t b → (NA b ∨ b = t ∨ b = kd ∨ b = a.P_in_order) := fun b z => .inr (.inl z)
      have gr0 : Grow N (fun b => NA b ∨ b = t ∨ b = kd ∨ b = a.P_in_order) H := ⟨fun b z => (hN b z).elim (fun e => .inr (.inl e)) fun e => .inr (.inr (.inr e)), fun b z => by
        rcases z with z | rfl | rfl | rfl
        · exact (gr.new b z).elim (fun z => z.elim (fun e => .inr (by rw [e]; exact hs00)) fun z => z.elim) fun w => .inr ((s1.trans s2).th b w)
        · exact .inl nt
        · exact .inr (s03.th b hkd3)
        · exact .inl nP⟩
      have e015 : Ev N H H15 := (Ev.of s03).trans (e315.mono (onN nt))
      have hps : p.s = s0 := hp
      have hT : TAt a (fun b => NA b ∨ b = t ∨ b = kd ∨ b = a.P_in_order) NA H15 t kd p.s B.o m [] 0 0 [] 0 .non := by
        refine ⟨.inr (.inl rfl), .inr (.inr (.inl rfl)), .inr (.inr (.inr rfl)), fun b z => .inl z, nAt, nAk, nAP, Ne.symm nkt, ntP, nkP, fun b z => z, ⟨.ref p12, ?_, h12.evs e1215 ot⟩, ((e9.trans e10).trans e11 |>.trans (.of s12) |>.trans e1215).kp _ _ k8 nkt, ?_, (W11.ev s12).ev e1215⟩
        · rw [hps]; exact I15
        · obtain ⟨ps, h', h2', h3'⟩ := (hTab.sm s03).ex
          refine ⟨ps, e315.kp _ _ h' (Ne.symm ntP), h2', fun pos cv hc => ?_⟩
          obtain ⟨c, q1, q2, q3⟩ := h3' pos cv hc
          have hct : c ≠ t := fun e => q2 (e ▸ nt)
          refine ⟨c, q1, ?_, e315.kp _ _ q3 hct⟩
          rintro (z | z | z | z)
          · obtain ⟨c', r1, r2, r3⟩ := hTab.ex.choose_spec.2.2 pos cv (by
              have : hTab.ex.choose = ps := by
                have a1 := hTab.ex.choose_spec.1
                have a2 := s03.at a1
                rw [h'] at a2
                cases a2; rfl
              rw [this]; exact hc)
            have : c' = c := by rw [r1] at q1; cases q1; rfl
            subst this
            rcases gr.new _ z with z | z
            · exact z.elim (fun e => by rw [e, hs00] at r3; cases r3) fun z => z
            · rw [(s1.trans s2).at r3] at z; cases z
          · exact hct z
          · rw [z, hkd3] at q3; cases q3
          · rw [z, h'] at q3; cases q3
      have hok3 := hok
      obtain ⟨x, hL, hai, hx⟩ := hok3.live W3
      have hND : ND H3 t := by
        obtain ⟨dz, hz⟩ := I3
        exact ⟨(fun vs z => by rw [hz] at z; cases z), (fun vs z => by rw [hz] at z; cases z), (fun o vs z => by rw [hz] at z; cases z)⟩
      have hL15 := hL.off e315 ⟨fun b z => by rw [show b = t from z]; exact nAt, fun b z => by rw [show b = t from z]; exact hND⟩
      have hps0 : g.ps = [] := nx.ps
      have hinv : TInv B Lw g [] := ⟨(fun _ z => nomatch z), List.nodup_nil, (fun _ z => nomatch z), by rw [hps0]; exact fun _ z => nomatch z⟩
      obtain ⟨dx, hHt⟩ := I15
      refine ⟨_, rfl, t, dx, _, rfl, hHt, rfl, _, NA, t, kd, p, B, m, Lw, g, [], 0, 0, 0, [], .non, x, rfl, hT, HP, hL15, hai, hx, hinv, .inl rfl, fun NT' NA' p' H' g' st' gr' ev' hp' ho => ?_⟩
      exact post NT' NA' p' kd H' g' st' (gr0.trans gr' e015) (e015.grow ev' gr0) ho
end
end Tk
/-! text D27 -/
set_option maxHeartbeats 4000000
namespace Tk
open PySem L2
/-! ### the law's functions -/
/-- a machine whose outputs are a plain tuple -/
def mDt (M : Mach) : D := .t [.n M.k, .n M.o, .t (M.mv.map wT), wT M.out]
def rowAt (xs : List Nat) (i : Nat) : Nat := xs.getD i 0
def sp__law_at : Sp := fun vs H Q _ => ∃ (N : Fp) (v : V) (xs : List Nat) (i : Nat), vs = [v, nV i] ∧ Wf N H ∧ At N H v (.l (xs.map D.n)) ∧ ∀ H', Sm H H' → Q (nV (rowAt xs i)) H'
def sp__law_state : Sp := fun vs H Q _ => ∃ (N : Fp) (m v : V) (M : Mach) (w : List Nat), vs = [m, v] ∧ Wf N H ∧ At N H m (mDt M) ∧ M.Ok ∧ At N H v (wL w) ∧ Wd M.k w ∧ w.length ≤ 400 ∧ ∀ H', Sm H H' → Q (nV (M.run 0 w)) H'
def sp__law_output : Sp := fun vs H Q _ => ∃ (N : Fp) (m v : V) (M : Mach) (w : List Nat), vs = [m, v] ∧ Wf N H ∧ At N H m (mDt M) ∧ M.Ok ∧ At N H v (wL w) ∧ Wd M.k w ∧ w.length ≤ 400 ∧ ∀ H', Sm H H' → Q (nV (M.outp 0 w)) H'
section
variable {P : Program} {w : World} {K : PySem.W.Frag} {mg : Str → Option Value} {base : Heap} {a : Ads} {d : Fds}
theorem ok__law_at (T : TX K mg base a d) : FnOk P w K mg base CX0 1 a.f__law_at d.d__law_at ["_law_row_here", "_law_at_here"] (sp__law_at) := by
  refine T.F__law_at.ok sc__law_at (fun vs H Q E h => ?_) (fun cdv A outer s H vs Q E hr h => ?_)
  · obtain ⟨_, _, _, _, rfl, _⟩ := h
    rfl
  · obtain ⟨N, v, xs, i, rfl, W, hv, q⟩ := h
    have hu := hu_of hr
    refine ⟨_, (pss_cons (ps_if (pt_chain op_le op_lt pe_int (pv 1) (pe_callB (cr_lenk K) (by rfl) T.b_len (by decide +kernel) (pa_cons (pv 0) pa_nil))) (pss_one (ps_ret (pe_ix (ix_listk K) (pv 0) (pv 1) (fun _ _ => rfl)))) pss_nil)
    (pss_one (ps_ret pe_int))), ?_⟩
    refine ⟨_, rfl, _, _, rfl, rfl, _, rfl, ifT (decide_eq_true (by omega)) ⟨_, rfl, lenL hv ⟨_, _, rfl, rfl, ?_⟩⟩⟩
    rw [List.length_map]
    have q0 := q H (.refl _ _)
    by_cases hi : i < xs.length
    · refine ⟨_, rfl, ifT (decide_eq_true (by omega)) ?_⟩
      refine ⟨_, rfl, _, rfl, ixL i hv (d := .n (rowAt xs i)) (by unfold rowAt; rw [get_map hi, getD_lt hi]) rfl fun z hz => ?_⟩
      rw [hz.isN]
      exact q0
    · refine ⟨_, rfl, ifF (decide_eq_false (by omega)) ?_⟩
      unfold rowAt at q0
      rw [getD_of_le (by omega)] at q0
      exact q0
theorem ok__law_state (T : TX K mg base a d) : FnOk P w K mg base CX0 1 a.f__law_state d.d__law_state ["_law_machine_here", "_law_word"] (sp__law_state) := by
  refine T.F__law_state.ok sc__law_state (fun vs H Q E h => ?_) (fun cdv A outer s H vs Q E hr h => ?_)
  · obtain ⟨_, _, _, _, _, rfl, _⟩ := h
    rfl
  · obtain ⟨N, m, v, M, wd, rfl, W, hm, hM, hv, hw, hl, q⟩ := h
    have hu := hu_of hr
    refine ⟨_, (pss_cons (ps_set (i := 2) sc__law_state.nd rfl (Or.inl rfl) pe_int)
    (pss_cons (ps_forL PassesOwn.never rfl (pv 1) (pg_name (i := 3) sc__law_state.nd rfl (Or.inl rfl)) (pss_one (ps_set (i := 2) sc__law_state.nd rfl (Or.inl rfl) (pe_ix (ix_tupk K) (pe_ix (ix_tupk K) (pe_ix (ix_tupk K) (pv 0) pe_int (fun _ _ => rfl)) (pv 2) (fun _ _ => rfl)) (pv 3) (fun _ _ => rfl)))))
    (pss_one (ps_ret (pv 2))))), ?_⟩
    refine ⟨_, rfl, ?_⟩
    refine forL (N := N) hv (fun i σ H2 => Sm H H2 ∧ ∃ z, σ = [some m, some v, some (nV (M.run 0 (wd.take i))), z]) ⟨.refl _ _, none, rfl⟩ (fun i σ' H' h => .of h.1) ?_ ?_
    · rintro i e z σ' H' he hz ⟨s2, y, rfl⟩
      obtain ⟨hi, rfl⟩ := word_get he
      rw [hz.isN]
      have hr1 : M.run 0 (wd.take i) < M.n := hM.run_lt _ hM.pos
      have hm2 := hm.sm s2
      refine ⟨_, rfl, ixT 2 hm2 rfl rfl fun z1 h1 => ⟨_, rfl, ixT _ h1 (mv_get hM hr1) rfl fun z2 h2 => ⟨_, rfl, ixT _ h2 (row_get hM hr1 (hw _ (List.getElem_mem hi))) rfl fun z3 h3 => ?_⟩⟩⟩
      rw [h3.isN]
      refine ⟨s2, some (nV wd[i]), ?_⟩
      rw [List.take_succ_eq_append_getElem hi, Mach.run_append]
      rfl
    · rintro σ' H' ⟨s2, y, rfl⟩
      refine ⟨_, rfl, ?_⟩
      rw [List.length_map, List.take_of_length_le (Nat.le_refl _)]
      exact q _ s2
theorem ok__law_output (T : TX K mg base a d) : FnOk P w K mg base CX0 2 a.f__law_output d.d__law_output ["_law_machine_here", "_law_word"] (sp__law_output) := by
  refine T.F__law_output.ok sc__law_output (fun vs H Q E h => ?_) (fun cdv A outer s H vs Q E hr h => ?_)
  · obtain ⟨_, _, _, _, _, rfl, _⟩ := h
    rfl
  · obtain ⟨N, m, v, M, wd, rfl, W, hm, hM, hv, hw, hl, q⟩ := h
    have hu := hu_of hr
    refine ⟨_, (pss_one (ps_ret (pe_ix (ix_tupk K) (pe_ix (ix_tupk K) (pv 0) pe_int (fun _ _ => rfl)) (pe_call (ok__law_state T) (hr.mono (by decide)) rfl T.g__law_state T.F__law_state.kp T.B__law_state .nil pass0 (pa_cons (pv 0) (pa_cons (pv 1) pa_nil))) (fun _ _ => rfl)))), ?_⟩
    refine ⟨_, rfl, ixT 3 hm rfl rfl fun z hz => ⟨_, rfl, _, rfl, N, m, v, M, wd, rfl, W, hm, hM, hv, hw, hl, fun H1 s1 => ?_⟩⟩
    refine ixT (M.run 0 wd) (hz.sm s1) (out_get (hM.run_lt wd hM.pos)) rfl fun y hy => ?_
    rw [hy.isN]
    exact q _ s1
end
end Tk
/-! text MK -/
namespace Tk
/-! ### classes by any marks -/
structure Cl (M : Mach) (i : Nat) (g : List Nat) : Prop where
  len : g.length = M.n
  iff : ∀ s t, s < M.n → t < M.n → (g.getD s 0 = g.getD t 0 ↔ Eqi M i s t)
theorem Cl.init {M : Mach} : Cl M 0 M.out := ⟨rfl, fun s t _ _ => ⟨fun e w _ hl => by
  have : w = [] := List.length_eq_zero_iff.mp (by omega)
  subst this
  exact e, fun e => e [] Wd.nil (Nat.le_refl _)⟩⟩
theorem RepI.cl {M : Mach} {i : Nat} {g : List Nat} (h : RepI M i g) : Cl M i g := ⟨h.len, fun s t hs ht => ⟨fun e w hw hl => by
  have h1 := h.eq s hs w hw hl
  have h2 := h.eq t ht w hw hl
  rw [e] at h1
  exact h1.symm.trans h2, fun e => h.same s t hs ht e⟩⟩
theorem Cl.sgn {M : Mach} (hM : M.Ok) {g : List Nat} {i : Nat} (R : Cl M i g) {s t : Nat} (hs : s < M.n) (ht : t < M.n) : Tk.sgn M g s = Tk.sgn M g t ↔ Eqi M (i + 1) s t := by
  constructor
  · intro h w hw hl
    unfold Tk.sgn at h
    injection h with h1 h2
    cases w with
    | nil => exact ((R.iff s t hs ht).mp h1) [] Wd.nil (Nat.zero_le _)
    | cons a w =>
      have ha : a < M.k := hw.head
      have e : g.getD (M.st s a) 0 = g.getD (M.st t a) 0 := by
        have := congrArg (fun l => l[a]?) h2
        simpa [ha] using this
      exact ((R.iff _ _ (hM.st_lt _ _) (hM.st_lt _ _)).mp e) w hw.tail (by simp at hl; omega)
  · intro h
    unfold Tk.sgn
    have e1 : g.getD s 0 = g.getD t 0 := (R.iff s t hs ht).mpr fun w hw hl => h w hw (by omega)
    rw [e1]
    congr 1
    refine List.map_congr_left fun a ha => ?_
    exact (R.iff _ _ (hM.st_lt _ _) (hM.st_lt _ _)).mpr fun w hw hl => h (a :: w) (Wd.cons (List.mem_range.mp ha) hw) (by simp; omega)
theorem Cl.step {M : Mach} (hM : M.Ok) {g : List Nat} {i : Nat} (R : Cl M i g) : RepI M (i + 1) ((List.range M.n).map (fst1 M g)) := by
  have at_ : ∀ s, s < M.n → ((List.range M.n).map (fst1 M g)).getD s 0 = fst1 M g s := fun s hs => by
    rw [getD_lt (by simp; exact hs), List.getElem_map, List.getElem_range]
  refine ⟨by simp, fun s hs => ?_, fun s hs => ?_, fun s t hs ht e => ?_⟩
  · rw [at_ s hs]
    have := (fst1_spec M g s).1
    omega
  · rw [at_ s hs]
    have h := fst1_spec M g s
    exact (R.sgn hM (by omega) hs).mp h.2.1
  · rw [at_ s hs, at_ t ht]
    exact fst1_same ((R.sgn hM hs ht).mpr e)
theorem row_map {M : Mach} (hM : M.Ok) {s : Nat} (hs : s < M.n) (f : Nat → Nat) : (M.mv.getD s []).map f = (List.range M.k).map fun a => f (M.st s a) := by
  have hl : (M.mv.getD s []).length = M.k := (hM.row _ (getD_mem (by rw [hM.len]; exact hs))).1
  refine List.ext_getElem (by rw [List.length_map, List.length_map, List.length_range]; exact hl) fun i h1 h2 => ?_
  rw [List.getElem_map, List.getElem_map, List.getElem_range]
  unfold Mach.st
  rw [List.length_map] at h1
  rw [getD_lt h1]
end Tk
/-! text D28 -/
set_option maxHeartbeats 4000000
namespace Tk
open PySem L2
theorem py_sg (g : SG) : (sgD g).py = .tuple [iP g.1, (wT g.2).py] := by
  unfold sgD iP
  simp [D.py, D.pys]
theorem eqv_sg (g h : SG) : PyData.eqv (sgD g).py (sgD h).py = decide (g = h) := by
  rw [py_sg, py_sg, PyData.eqv, PyData.eqvAll, PyData.eqvAll, PyData.eqvAll, eqv_wT]
  obtain ⟨g1, g2⟩ := g
  obtain ⟨h1, h2⟩ := h
  unfold iP
  rw [PyData.eqv]
  have ei : ((g1 : Int) == (h1 : Int)) = decide (g1 = h1) := by
    by_cases e : g1 = h1
    · subst e; simp
    · rw [decide_eq_false e]; exact beq_eq_false_iff_ne.mpr (by omega)
  rw [ei]
  by_cases e1 : g1 = h1 <;> by_cases e2 : g2 = h2 <;> simp [e1, e2]
theorem sh_sg (g : SG) : Sh 2 (sgD g).py := by
  rw [py_sg]
  refine .tuple fun x hx => ?_
  simp only [List.mem_cons, List.not_mem_nil, or_false] at hx
  rcases hx with rfl | rfl
  · exact (Sh.int _).mono (by decide)
  · exact sh_wT _
theorem indexG {K : PySem.W.Frag} {N N2 : Fp} {H : Hp} {x y : V} {Q : VK} {S : List SG} {j : Nat} {w : SG} (hl : At N H x (.l (S.map sgD))) (hy : At N2 H y (sgD w)) (hj : S[j]? = some w) (hf : ∀ m, m < j → S[m]? ≠ some w) (q : Q (nV j) H) : rIndexD K x [y] H Q := by
  have e : D.pys (S.map sgD) = S.map fun w => (sgD w).py := by rw [D.pys_map, List.map_map]; rfl
  have dl := hl.dp (K := K)
  rw [D.py, e] at dl
  obtain ⟨a, vs, rfl, _⟩ := At.lst hl
  refine ⟨a, y, _, _, j, (sgD w).py, rfl, rfl, dl, hy.dp, (Sh.list (n := 2) fun z hz => ?_).ok (by decide), (sh_sg w).ok (by decide), ?_, by rw [eqv_sg]; simp, fun m z' hm hz' => ?_, q⟩
  · obtain ⟨u, _, rfl⟩ := List.mem_map.mp hz
    exact sh_sg u
  · rw [List.getElem?_map, hj]; rfl
  · rw [List.getElem?_map] at hz'
    cases hs : S[m]? with
    | none => rw [hs] at hz'; cases hz'
    | some u =>
      rw [hs] at hz'
      cases hz'
      rw [eqv_sg]
      refine decide_eq_false fun e => hf m hm ?_
      rw [hs, e]
def sp__law_classes : Sp := fun vs H Q _ => ∃ (N : Fp) (m : V) (M : Mach), vs = [m] ∧ Wf N H ∧ At N H m (mDt M) ∧ M.Ok ∧ M.n ≤ 1000 ∧ M.k ≤ 1000 ∧
  ∀ (r : V) (H' : Hp) (g : List Nat), Sm H H' → Rep M g → At N H' r (.l (g.map D.n)) → Q r H'
section
variable {P : Program} {w : World} {K : PySem.W.Frag} {mg : Str → Option Value} {base : Heap} {a : Ads} {d : Fds}
theorem ok__law_classes (T : TX K mg base a d) : FnOk P w K mg base CX0 1 a.f__law_classes d.d__law_classes ["_law_machine_here"] (sp__law_classes) := by
  refine T.F__law_classes.ok sc__law_classes (fun vs H Q E h => ?_) (fun cdv A outer s H vs Q E hr h => ?_)
  · obtain ⟨_, _, _, rfl, _⟩ := h
    rfl
  · obtain ⟨N, m, M, rfl, W, hm, hM, hn, hk, q⟩ := h
    have hu := hu_of hr
    refine ⟨_, (pss_cons (ps_set (i := 1) sc__law_classes.nd rfl (Or.inr rfl) (pe_callTy (cr_listk K) (by rfl) T.b_list (by decide +kernel) (pa_cons (pe_ix (ix_tupk K) (pv 0) pe_int (fun _ _ => rfl)) pa_nil)))
    (pss_cons (ps_forR PassesOwn.never rfl rfl T.b_range (pa_cons (pe_callB (cr_lenk K) (by rfl) T.b_len (by decide +kernel) (pa_cons (pv 1) pa_nil)) pa_nil) (pg_name (i := 2) sc__law_classes.nd rfl (Or.inl rfl)) (pss_cons (ps_set (i := 3) sc__law_classes.nd rfl (Or.inr rfl) (peR (pe_lc (own := [("_law_s", 4)]) rfl sc__law_classes.nd (pi_range1 rfl T.b_range (pa_cons (pe_callB (cr_lenk K) (by rfl) T.b_len (by decide +kernel) (pa_cons (pv 1) pa_nil)) pa_nil)) (blkOk_by (own := [("_law_s", 4)]) (N := N__law_classes) (sc := defScope s__law_classes) (by decide +kernel)) (fun _ _ _ _ _ => (pg_name (i := 4) sc__law_classes.nd rfl (Or.inl rfl))) (fun _ _ _ _ _ => pts_nil) (fun _ _ _ _ _ => (pe_tupm (pa_cons (pe_ix (ix_listk K) (pv 1) (pv 4) (fun _ _ => rfl)) (pa_cons (pe_callTy (cr_tupk K) (by rfl) T.b_tuple (by decide +kernel) (pa_cons (peTk K (pe_lc (own := [("_law_t", 6)]) rfl sc__law_classes.nd (pi_tupk K (pe_ix (ix_tupk K) (pe_ix (ix_tupk K) (pv 0) pe_int (fun _ _ => rfl)) (pv 4) (fun _ _ => rfl))) (blkOk_by (own := [("_law_t", 6)]) (N := N__law_classes) (sc := relS _ (defScope s__law_classes)) (by decide +kernel)) (fun _ _ _ _ _ => (pg_name (i := 6) sc__law_classes.nd rfl (Or.inl rfl))) (fun _ _ _ _ _ => pts_nil) (fun _ _ _ _ _ => (pe_ix (ix_listk K) (pv 1) (pv 6) (fun _ _ => rfl))))) pa_nil)) pa_nil)))))))
      (pss_one (ps_set (i := 1) sc__law_classes.nd rfl (Or.inr rfl) (peLk K (pe_lc (own := [("_law_mark", 5)]) rfl sc__law_classes.nd (pi_listk K (pv 3)) (blkOk_by (own := [("_law_mark", 5)]) (N := N__law_classes) (sc := defScope s__law_classes) (by decide +kernel)) (fun _ _ _ _ _ => (pg_name (i := 5) sc__law_classes.nd rfl (Or.inl rfl))) (fun _ _ _ _ _ => pts_nil) (fun _ _ _ _ _ => (pe_bmk K PySem.F.plainAttrs_list PySem.F.slot_list_index PySem.F.type_list_index (mt_indexDk K (hu65 hr)) (pv 3) (pa_cons (pv 5) pa_nil)))))))))
    (pss_one (ps_ret (pv 1))))), ?_⟩
    refine ⟨_, rfl, ixT 3 hm rfl rfl fun z hz => listT hz fun p1 vs1 hp1 hvs1 => ?_⟩
    have s1 : Sm H (upd H p1 (.lst vs1)) := .new hp1
    have h1 : At N (upd H p1 (.lst vs1)) (.ref p1) (.l (M.out.map D.n)) := .mkL W hp1 hvs1
    generalize upd H p1 (.lst vs1) = H1 at s1 h1
    refine ⟨_, rfl, lenL h1 ?_⟩
    refine forR M.n (by rw [List.length_map]; rfl) (by omega) (fun i σ H' => Sm H H' ∧ ∃ gv g x2 x3, At N H' gv (.l (g.map D.n)) ∧ Cl M i g ∧ (0 < i → RepI M i g) ∧ σ = [some m, some gv, x2, x3, none, none, none]) ⟨s1, _, _, none, none, h1, .init, (fun h => absurd h (Nat.lt_irrefl _)), rfl⟩ ?_ ?_
    · rintro i σ' H2 hi ⟨s2, gv, g, x2, x3, hg, hC, _, rfl⟩
      have W2 := W.ev s2
      have hm2 := hm.sm s2
      have gl : ∀ x, x < M.n → (g.map D.n)[x]? = some (.n (g.getD x 0)) := fun x hx => by
        have : x < g.length := by rw [hC.len]; exact hx
        rw [get_map this, getD_lt this]
      refine ⟨_, rfl, lenL hg ?_⟩
      rw [List.length_map, hC.len]
      refine lcR M.n (fun s => sgD (sgn M g s)) W2 rfl (by omega) (fun _ => rfl) (fun s hs H' N' s' W' _ hn' R k' => ?_) fun p3 H3 s3 hp3 h3 => ?_
      · refine ⟨_, rfl, _, rfl, ixL s (hg.up s' hn') (gl s hs) rfl fun z5 h5 => ?_⟩
        refine ⟨_, rfl, ixT 2 (hm2.up s' hn') rfl rfl fun z6 h6 => ⟨_, rfl, ixT s h6 (mv_get hM hs) rfl fun z7 h7 => ?_⟩⟩
        refine lcT (M.mv.getD s []) D.n (fun t => D.n (g.getD t 0)) W' h7 ?_ (fun _ => rfl) (fun t ht y2 H'' N'' s'' W'' hs'' hn'' hy2 R'' k'' => ?_) fun p8 H8 s8 hp8 h8 => ?_
        · rw [(hM.row _ (getD_mem (by rw [hM.len]; exact hs))).1]; omega
        · have ht0 := (hM.row _ (getD_mem (by rw [hM.len]; exact hs))).2 t ht
          exact ⟨_, rfl, _, rfl, ixL t ((hg.up s' hn').up s'' hn'') (gl t ht0) hy2.isN fun z9 h9 => k'' _ _ (.refl _ _) h9⟩
        · refine tupL (W'.ev s8) h8 fun p9 H9 s9 h9 => ?_
          refine mkT ((W'.ev s8).ev s9) (by simp) (.cons ((h5.sm s8).sm s9) (.cons h9 .nil)) fun p10 H10 s10 h10 => k' _ _ ((s8.trans s9).trans s10) ?_
          have e : (M.mv.getD s []).map (fun t => D.n (g.getD t 0)) = ((List.range M.k).map fun x => g.getD (M.st s x) 0).map D.n := by
            rw [← row_map hM hs (fun t => g.getD t 0), List.map_map]; rfl
          rw [e] at h10
          exact h10
      · have W3 := W2.ev s3
        have hS : (List.range M.n).map (fun s => sgD (sgn M g s)) = ((List.range M.n).map (sgn M g)).map sgD := by rw [List.map_map]; rfl
        have h3S := h3
        rw [hS] at h3S
        refine ⟨_, rfl, ?_⟩
        have gi : ∀ s, s < M.n → ((List.range M.n).map (sgn M g))[s]? = some (sgn M g s) := fun s hs => by
          rw [List.getElem?_map, List.getElem?_range hs]; rfl
        refine lcL (List.range M.n) (fun s => sgD (sgn M g s)) (fun s => D.n (fst1 M g s)) W3 h3 (by simp; omega) (fun _ => rfl) (fun s hs y H' N' s' W' _ hn' hy R k' => ?_) fun p4 H4 s4 hp4 h4 => ?_
        · have hs := List.mem_range.mp hs
          obtain ⟨f1, f2, f3⟩ := fst1_spec M g s
          refine ⟨_, rfl, tyL (h3S.up s' hn'), _, rfl, ?_⟩
          unfold tNil
          dsimp only
          refine indexG (h3S.up s' hn') hy (j := fst1 M g s) ?_ (fun m' hm' z' => ?_) (k' _ _ (.refl _ _) (.n _))
          · rw [gi _ (by omega), f2]
          · rw [gi _ (by omega)] at z'
            exact f3 m' hm' (Option.some.inj z')
        · have e4 : (List.range M.n).map (fun s => D.n (fst1 M g s)) = ((List.range M.n).map (fst1 M g)).map D.n := by rw [List.map_map]; rfl
          rw [e4] at h4
          have hR := hC.step hM
          exact ⟨(s2.trans s3).trans s4, _, _, _, _, h4, hR.cl, fun _ => hR, rfl⟩
    · rintro σ' H2 ⟨s2, gv, g, x2, x3, hg, hC, hR, rfl⟩
      exact ⟨_, rfl, q _ _ g s2 ((hR hM.pos).rep hM (by omega)) hg⟩
end
end Tk
/-! text D29 -/
set_option maxHeartbeats 4000000
namespace Tk
open PySem L2
def sp__law_least : Sp := fun vs H Q _ => ∃ (N : Fp) (m : V) (M : Mach), vs = [m] ∧ Wf N H ∧ At N H m (mDt M) ∧ M.Ok ∧ M.n ≤ 1000 ∧ M.k ≤ 1000 ∧
  ∀ (r : V) (H' : Hp) (L : Mach), Sm H H' → IsL M L → At N H' r (mDt L) → Q r H'
section
variable {P : Program} {w : World} {K : PySem.W.Frag} {mg : Str → Option Value} {base : Heap} {a : Ads} {d : Fds}
theorem ok__law_least (T : TX K mg base a d) : FnOk P w K mg base CX0 2 a.f__law_least d.d__law_least ["_law_machine_here"] (sp__law_least) := by
  refine T.F__law_least.ok sc__law_least (fun vs H Q E h => ?_) (fun cdv A outer s H vs Q E hr h => ?_)
  · obtain ⟨_, _, _, rfl, _⟩ := h
    rfl
  · obtain ⟨N, m, M, rfl, W, hm, hM, hn, hk, q⟩ := h
    have hu := hu_of hr
    refine ⟨_, (pss_cons (ps_set (i := 1) sc__law_least.nd rfl (Or.inr rfl) (pe_call (ok__law_classes T) (hr.mono (by decide)) rfl T.g__law_classes T.F__law_classes.kp T.B__law_classes .nil pass0 (pa_cons (pv 0) pa_nil)))
    (pss_cons (ps_set (i := 2) sc__law_least.nd rfl (Or.inr rfl) (pe_lstm (pa_cons (pe_ix (ix_listk K) (pv 1) pe_int (fun _ _ => rfl)) pa_nil)))
    (pss_cons (ps_set (i := 3) sc__law_least.nd rfl (Or.inl rfl) pe_int)
    (pss_cons (ps_while PassesOwn.never (pt_cmpR op_lt (pv 3) (pe_callB (cr_lenk K) (by rfl) T.b_len (by decide +kernel) (pa_cons (pv 2) pa_nil)) (nomark _)) (pss_cons (ps_forT PassesOwn.never rfl (pe_ix (ix_tupk K) (pe_ix (ix_tupk K) (pv 0) pe_int (fun _ _ => rfl)) (pe_ix (ix_listk K) (pv 2) (pv 3) (fun _ _ => rfl)) (fun _ _ => rfl)) (pg_name (i := 4) sc__law_least.nd rfl (Or.inl rfl)) (pss_one (ps_if (pt_cmpR (op_notInk K) (pe_ix (ix_listk K) (pv 1) (pv 4) (fun _ _ => rfl)) (pv 2) rfl) (pss_one (ps_expr (pe_bmk K PySem.F.plainAttrs_list PySem.F.slot_list_append PySem.F.type_list_append mt_appendm (pv 2) (pa_cons (pe_ix (ix_listk K) (pv 1) (pv 4) (fun _ _ => rfl)) pa_nil)))) pss_nil)))
      (pss_one (ps_set (i := 3) sc__law_least.nd rfl (Or.inl rfl) (pe_op op_add (pv 3) pe_int)))))
    (pss_cons (psL (ps_setLc (i := 5) (own := [("_law_s", 6)]) rfl sc__law_least.nd rfl rfl (sw_true rfl rfl rfl (by decide +kernel)) (pi_listk K (pv 2)) (blkOk_by (own := [("_law_s", 6)]) (N := N__law_least) (sc := defScope s__law_least) (by decide +kernel)) (fun _ _ _ _ _ => (pg_name (i := 6) sc__law_least.nd rfl (Or.inl rfl))) (fun _ _ _ _ _ => pts_nil) (fun _ _ _ _ _ => (pe_callTy (cr_tupk K) (by rfl) T.b_tuple (by decide +kernel) (pa_cons (peTk K (pe_lc (own := [("_law_t", 7)]) rfl sc__law_least.nd (pi_tupk K (pe_ix (ix_tupk K) (pe_ix (ix_tupk K) (pv 0) pe_int (fun _ _ => rfl)) (pv 6) (fun _ _ => rfl))) (blkOk_by (own := [("_law_t", 7)]) (N := N__law_least) (sc := relS _ (defScope s__law_least)) (by decide +kernel)) (fun _ _ _ _ _ => (pg_name (i := 7) sc__law_least.nd rfl (Or.inl rfl))) (fun _ _ _ _ _ => pts_nil) (fun _ _ _ _ _ => (pe_bmk K PySem.F.plainAttrs_list PySem.F.slot_list_index PySem.F.type_list_index (mt_indexNk K) (pv 2) (pa_cons (pe_ix (ix_listk K) (pv 1) (pv 7) (fun _ _ => rfl)) pa_nil))))) pa_nil)))))
    (pss_one (ps_ret (pe_tupm (pa_cons (pe_ix (ix_tupk K) (pv 0) pe_int (fun _ _ => rfl)) (pa_cons (pe_ix (ix_tupk K) (pv 0) pe_int (fun _ _ => rfl)) (pa_cons (pe_callTy (cr_tupk K) (by rfl) T.b_tuple (by decide +kernel) (pa_cons (pv 5) pa_nil)) (pa_cons (pe_callTy (cr_tupk K) (by rfl) T.b_tuple (by decide +kernel) (pa_cons (peLk K (pe_lc (own := [("_law_s", 6)]) rfl sc__law_least.nd (pi_listk K (pv 2)) (blkOk_by (own := [("_law_s", 6)]) (N := N__law_least) (sc := defScope s__law_least) (by decide +kernel)) (fun _ _ _ _ _ => (pg_name (i := 6) sc__law_least.nd rfl (Or.inl rfl))) (fun _ _ _ _ _ => pts_nil) (fun _ _ _ _ _ => (pe_ix (ix_tupk K) (pe_ix (ix_tupk K) (pv 0) pe_int (fun _ _ => rfl)) (pv 6) (fun _ _ => rfl))))) pa_nil)) pa_nil)))))))))))), ?_⟩
    refine ⟨_, rfl, N, _, M, rfl, W, hm, hM, hn, hk, fun gv H0 g s0 R hg0 => ?_⟩
    have gl : ∀ x, x < M.n → (g.map D.n)[x]? = some (.n (g.getD x 0)) := fun x hx => by
      have : x < g.length := by rw [R.len]; exact hx
      rw [get_map this, getD_lt this]
    have W0 := W.ev s0
    have hm0 := hm.sm s0
    refine ⟨_, rfl, ixL 0 hg0 (gl 0 hM.pos) rfl fun z hz => ?_⟩
    refine newL W0 (ds := (ordA M g 0).map D.n) (by simp [ordA]) (.one hz) fun l H1 hl s1 L1 W1 => ?_
    have hl0 : H l = none := s0.free hl
    have hsub : ∀ b, on l b → ad l N b := fun b z => .inl z
    have hm1 := hm0.ad hl s1
    have hg1 := hg0.ad hl s1
    refine whileI M.n (fun i σ H2 => Ev (on l) H1 H2 ∧ Lst (ad l N) H2 l ((ordA M g i).map D.n) ∧ i ≤ M.n ∧ ∃ x, σ = [some m, some gv, some (.ref l), some (nV i), x, none, none, none]) ⟨.refl _ _, L1, by omega, none, rfl⟩ ?_
    rintro i σ H2 ⟨e2, L2, hi, x, rfl⟩
    refine ⟨_, rfl, _, rfl, lenLs L2 ?_⟩
    refine ⟨_, _, rfl, rfl, _, rfl, ?_⟩
    rw [List.length_map]
    by_cases hlt : i < (ordA M g i).length
    · have hiM : i < M.n := Nat.lt_of_lt_of_le hlt (ordA_len hM R i)
      refine ifT (decide_eq_true (by omega)) (whT hiM ?_)
      have hx0 := (ordA_rep hM R i _ (getD_mem (d := 0) hlt)).1
      refine ⟨_, rfl, ixT 2 (hm1.evs e2 hsub) rfl rfl fun z1 h1 => ⟨_, rfl, _, rfl, ixLs i L2 (by rw [get_map hlt]) rfl fun z2 h2 => ?_⟩⟩
      rw [← getD_lt (d := 0) hlt] at h2
      refine ixT _ h1 (mv_get hM hx0) h2.isN fun z3 h3 => ?_
      have h3g : ∀ y ∈ M.mv.getD ((ordA M g i).getD i 0) [], y < M.n := fun y hy => (hM.row _ (getD_mem (by rw [hM.len]; exact hx0))).2 y hy
      refine forT (N := ad l N) h3 (fun j σ' H3 => Ev (on l) H1 H3 ∧ Ev (on l) H2 H3 ∧ Lst (ad l N) H3 l ((scanRow g (ordA M g i) ((M.mv.getD ((ordA M g i).getD i 0) []).take j)).map D.n) ∧ ∃ x, σ' = [some m, some gv, some (.ref l), some (nV i), x, none, none, none]) ⟨e2, .refl _ _, L2, x, rfl⟩ (fun j σ' H' h => h.2.1.mono hsub) ?_ ?_
      · rintro j e z σ' H3 he hz3 ⟨e3, e23, L3, x', rfl⟩
        obtain ⟨hj, rfl⟩ := map_get he
        have hyn := h3g _ (List.getElem_mem hj)
        have hg3 := hg1.evs e3 hsub
        refine ⟨_, rfl, _, rfl, ixL _ hg3 (gl _ hyn) hz3.isN fun z4 h4 => ⟨_, rfl, ?_⟩⟩
        rw [h4.isN]
        refine notInLs L3 ⟨_, rfl, ?_⟩
        rw [List.take_succ_eq_append_getElem hj, scanRow_append, scanRow_cons, scanRow_nil]
        by_cases hin : g.getD (M.mv.getD ((ordA M g i).getD i 0) [])[j] 0 ∈ scanRow g (ordA M g i) ((M.mv.getD ((ordA M g i).getD i 0) []).take j)
        · rw [if_pos hin]
          exact ifF (by rw [decide_eq_true hin]; rfl) ⟨e3, e23, L3, _, rfl⟩
        · rw [if_neg hin]
          refine ifT (by rw [decide_eq_false hin]; rfl) ?_
          refine ⟨_, rfl, L3.ty, _, rfl, _, rfl, ixL _ hg3 (gl _ hyn) hz3.isN fun z5 h5 => ?_⟩
          rw [h5.isN]
          refine appL (N := ad l N) L3 (.inl rfl) (.n _) ?_ fun H4 e4 L4 => ?_
          · have := List.Nodup.length_le_of_subset (scanRow_nodup g ((M.mv.getD ((ordA M g i).getD i 0) []).take j) _ (ordA_nodup hM R i)) (l₂ := List.range M.n) fun y hy => ?_
            · rw [List.length_range] at this
              rw [List.length_map]; omega
            · rw [List.mem_range]
              rcases scanRow_of _ _ _ _ hy with hy | ⟨y', hy', e'⟩
              · exact (ordA_rep hM R i _ hy).1
              · rw [e']; exact R.lt _ (h3g _ (List.mem_of_mem_take hy'))
          · rw [List.map_append]
            exact ⟨e3.trans e4, e23.trans e4, L4, _, rfl⟩
      · rintro σ' H3 ⟨e3, e23, L3, x', rfl⟩
        rw [List.length_map, List.take_of_length_le (Nat.le_refl _)] at L3
        refine ⟨_, rfl, _, _, rfl, rfl, e3, ?_, by omega, x', rfl⟩
        rw [ordA_go hlt]; exact L3
    · refine ifF (decide_eq_false (by omega)) ?_
      rw [ordA_end hM R hlt] at L2
      have s02 : Sm H H2 := (s0.trans s1).then e2 fun b z => .inr ((show b = l from z) ▸ hl0)
      have W2 := W.ev s02
      have hm2 := hm.sm s02
      have hg2 : At N H2 gv (.l (g.map D.n)) := (hg1.evs e2 hsub).un
      have ho : At N H2 (.ref l) (.l ((ordA M g M.n).map D.n)) := L2.at (fun z => W.no hl0 z) fun b z => .inr z
      have hol : (ordA M g M.n).length ≤ M.n := ordA_len hM R M.n
      have hor := ordA_rep hM R M.n
      refine ⟨_, rfl, ?_⟩
      refine lcL (ordA M g M.n) D.n (fun x => wT ((M.mv.getD x []).map fun t => (ordA M g M.n).idxOf (g.getD t 0))) W2 ho (by omega) (fun _ => rfl) (fun x hx y H' N' s' W' hs' hn' hy R' k' => ?_) fun p H3 s3 hp hr3 => ?_
      · have hx0 := (hor x hx).1
        refine ⟨_, rfl, ixT 2 (hm2.up s' hn') rfl rfl fun z1 h1 => ⟨_, rfl, ixT x h1 (mv_get hM hx0) hy.isN fun z h => ?_⟩⟩
        refine lcT (M.mv.getD x []) D.n (fun t => D.n ((ordA M g M.n).idxOf (g.getD t 0))) W' h ?_ (fun _ => rfl) (fun t ht y2 H'' N'' s'' W'' hs'' hn'' hy2 R'' k'' => ?_) fun p H3 s3 hp hr3 => ?_
        · rw [(hM.row _ (getD_mem (by rw [hM.len]; exact hx0))).1]; omega
        · have ht0 := (hM.row _ (getD_mem (by rw [hM.len]; exact hx0))).2 t ht
          refine ⟨_, rfl, tyL ((ho.up s' hn').up s'' hn''), _, rfl, _, rfl, ixL t ((hg2.up s' hn').up s'' hn'') (gl t ht0) hy2.isN fun z2 h2 => ?_⟩
          refine lidx ((ho.up s' hn').up s'' hn'') h2 ?_ (k'' _ _ (.refl _ _) (.n _))
          obtain ⟨j, hj, rfl⟩ := List.getElem_of_mem hx
          rw [← getD_lt (d := 0) hj] at ht
          exact ordA_full hM R hj ht
        · refine tupL (W'.ev s3) hr3 fun p4 H4 s4 h4 => k' _ _ (s3.trans s4) ?_
          unfold wT
          rw [List.map_map]
          exact h4
      · have W3 := W2.ev s3
        have hm3 := hm2.sm s3
        refine ⟨_, rfl, ixT 0 hm3 rfl rfl fun y0 g0 => ⟨_, rfl, ixT 1 hm3 rfl rfl fun y1 g1 => ?_⟩⟩
        refine ⟨_, rfl, tupL W3 hr3 fun p4 H4 s4 h4 => ?_⟩
        refine ⟨_, rfl, ?_⟩
        refine lcL (ordA M g M.n) D.n (fun x => D.n (M.out.getD x 0)) (W3.ev s4) ((ho.sm s3).sm s4) (by omega) (fun _ => rfl) (fun x hx y H' N' s' W' hs' hn' hy R' k' => ?_) fun p5 H5 s5 hp5 h5 => ?_
        · exact ⟨_, rfl, ixT 3 ((hm3.sm s4).up s' hn') rfl rfl fun z1 h1 => ⟨_, rfl, ixT x h1 (out_get (hor x hx).1) hy.isN fun z h => k' _ _ (.refl _ _) h⟩⟩
        · refine tupL ((W3.ev s4).ev s5) h5 fun p6 H6 s6 h6 => ?_
          have s36 := (s4.trans s5).trans s6
          refine mkT (W3.ev s36) (by simp) (.cons (g0.sm s36) (.cons (g1.sm s36) (.cons ((h4.sm s5).sm s6) (.cons h6 .nil)))) fun p7 H7 s7 h7 => ?_
          refine q _ _ (leastOf M g) (((s02.trans s3).trans s36).trans s7) ⟨g, R, rfl⟩ ?_
          unfold mDt leastOf wT
          simp only [List.map_map]
          exact h7
end
end Tk
/-! text D30 -/
set_option maxHeartbeats 4000000
namespace Tk
open PySem L2
theorem setLast {N : Fp} {H : Hp} {l : Addr} {ds : List D} {d : D} {y : V} {Q : Hp → Prop} (h : Lst N H l ds) (nl : N l) (hp : 0 < ds.length) (hy : At N H y d) (q : ∀ H', Ev (on l) H H' → Lst N H' l (ds.set (ds.length - 1) d) → Q H') : rSetm (.ref l) (.int (-1)) y H Q := by
  unfold rSetm
  obtain ⟨vs, hl, r⟩ := h.ex
  have hn := r.len
  have e : Ev (on l) H (upd H l (.lst (vs.set (ds.length - 1) y))) := .put rfl
  refine ⟨l, vs, -1, ds.length - 1, rfl, rfl, hl, ?_, q _ e ⟨_, upd_same, (Ats.set _ r hy).ev (e.mono fun a z => by rw [show a = l from z]; exact nl)⟩⟩
  unfold ixN
  rw [if_neg (by omega), if_pos (by omega)]
  congr 1
  omega
def sp__law_machine : Sp := fun vs H Q _ => ∃ (N : Fp) (rv : V) (xs : List Nat) (at_ k o n : Nat), vs = [rv, nV at_, nV k, nV o, nV n] ∧ Wf N H ∧ At N H rv (.l (xs.map D.n)) ∧ 1 ≤ k ∧ k ≤ 100 ∧ 1 ≤ o ∧ o ≤ 100 ∧ 1 ≤ n ∧ n ≤ 100 ∧
  ∀ (r : V) (H' : Hp) (M : Mach), Sm H H' → M.Ok → M.k = k → M.o = o → M.n = n → At N H' r (mDt M) → Q r H'
section
variable {P : Program} {w : World} {K : PySem.W.Frag} {mg : Str → Option Value} {base : Heap} {a : Ads} {d : Fds}
theorem ok__law_machine (T : TX K mg base a d) : FnOk P w K mg base CX0 2 a.f__law_machine d.d__law_machine ["_law_row_here", "_law_at_here", "_law_letters", "_law_outs", "_law_states"] (sp__law_machine) := by
  refine T.F__law_machine.ok sc__law_machine (fun vs H Q E h => ?_) (fun cdv A outer s H vs Q E hr h => ?_)
  · obtain ⟨_, _, _, _, _, _, _, rfl, _⟩ := h
    rfl
  · obtain ⟨N, rv, xs, at_, k, o, n, rfl, W, hrow, hk1, hk, ho1, ho, hn1, hn, q⟩ := h
    have hu := hu_of hr
    refine ⟨_, (pss_cons (ps_set (i := 5) sc__law_machine.nd rfl (Or.inl rfl) (pe_lstm pa_nil))
    (pss_cons (ps_set (i := 6) sc__law_machine.nd rfl (Or.inl rfl) (pe_lstm pa_nil))
    (pss_cons (ps_set (i := 7) sc__law_machine.nd rfl (Or.inl rfl) (pe_op op_mod (pe_callTy call_int1 (by rfl) T.b_int (by decide +kernel) (pa_cons (pe_call (ok__law_at T) (hr.mono (by decide)) rfl T.g__law_at T.F__law_at.kp T.B__law_at .nil pass0 (pa_cons (pv 0) (pa_cons (pv 1) pa_nil))) pa_nil)) pe_int))
    (pss_cons (ps_forR PassesOwn.never rfl rfl T.b_range (pa_cons (pv 4) pa_nil) (pg_name (i := 8) sc__law_machine.nd rfl (Or.inl rfl)) (pss_cons (ps_set (i := 9) sc__law_machine.nd rfl (Or.inl rfl) (pe_lstm pa_nil))
      (pss_cons (ps_forR PassesOwn.never rfl rfl T.b_range (pa_cons (pv 2) pa_nil) (pg_name (i := 10) sc__law_machine.nd rfl (Or.inl rfl)) (pss_cons (ps_set (i := 11) sc__law_machine.nd rfl (Or.inl rfl) (pe_callTy call_int1 (by rfl) T.b_int (by decide +kernel) (pa_cons (pe_call (ok__law_at T) (hr.mono (by decide)) rfl T.g__law_at T.F__law_at.kp T.B__law_at .nil pass0 (pa_cons (pv 0) (pa_cons (pe_op op_add (pe_op op_add (pe_op op_add (pv 1) pe_int) (pe_op op_mul pe_int (pv 8))) (pv 10)) pa_nil))) pa_nil)))
        (pss_cons (ps_set (i := 12) sc__law_machine.nd rfl (Or.inl rfl) (pe_op op_mod (pv 11) (pv 4)))
        (pss_cons (ps_if (pt_cmpR op_eq (pv 7) pe_int (nomark _)) (pss_one (ps_set (i := 12) sc__law_machine.nd rfl (Or.inl rfl) (pe_ix (ix_listk K) (pe_lstm (pa_cons pe_int (pa_cons (pe_callB (call_min2 rfl) (by rfl) T.b_min (by decide +kernel) (pa_cons (pe_op op_add (pv 8) pe_int) (pa_cons (pe_op op_sub (pv 4) pe_int) pa_nil))) pa_nil))) (pe_callTy call_int1 (by rfl) T.b_int (by decide +kernel) (pa_cons (pe_cmpR op_eq (pv 10) (pe_op op_mod (pv 11) (pv 2)) (nomark _)) pa_nil)) (fun _ _ => rfl)))) pss_nil)
        (pss_cons (ps_if (pt_cmpR op_eq (pv 7) pe_int (nomark _)) (pss_one (ps_set (i := 12) sc__law_machine.nd rfl (Or.inl rfl) (pe_op op_mod (pe_op op_add (pe_op op_add (pv 8) (pv 10)) (pe_op op_mod (pv 11) pe_int)) (pv 4)))) pss_nil)
        (pss_one (ps_expr (pe_bmk K PySem.F.plainAttrs_list PySem.F.slot_list_append PySem.F.type_list_append mt_appendm (pv 9) (pa_cons (pv 12) pa_nil)))))))))
      (pss_cons (ps_expr (pe_bmk K PySem.F.plainAttrs_list PySem.F.slot_list_append PySem.F.type_list_append mt_appendm (pv 5) (pa_cons (pe_callTy (cr_tupk K) (by rfl) T.b_tuple (by decide +kernel) (pa_cons (pv 9) pa_nil)) pa_nil)))
      (pss_cons (ps_expr (pe_bmk K PySem.F.plainAttrs_list PySem.F.slot_list_append PySem.F.type_list_append mt_appendm (pv 6) (pa_cons (pe_op op_mod (pe_callTy call_int1 (by rfl) T.b_int (by decide +kernel) (pa_cons (pe_call (ok__law_at T) (hr.mono (by decide)) rfl T.g__law_at T.F__law_at.kp T.B__law_at .nil pass0 (pa_cons (pv 0) (pa_cons (pe_op op_add (pe_op op_add (pv 1) pe_int) (pe_op op_mul pe_int (pv 8))) pa_nil))) pa_nil)) (pv 3)) pa_nil)))
      (pss_one (ps_if (pt_cmpR op_eq (pv 7) pe_int (nomark _)) (pss_one (ps_asg (pe_op op_mul (pe_callTy call_int1 (by rfl) T.b_int (by decide +kernel) (pa_cons (pe_cmpR op_eq (pv 8) (pe_op op_sub (pv 4) pe_int) (nomark _)) pa_nil)) (pe_op op_sub (pv 3) pe_int)) (pg_sub (pv 6) (pe_un un_neg pe_int) set_listm))) pss_nil)))))))
    (pss_one (ps_ret (pe_tupm (pa_cons (pv 2) (pa_cons (pv 3) (pa_cons (pe_callTy (cr_tupk K) (by rfl) T.b_tuple (by decide +kernel) (pa_cons (pv 5) pa_nil)) (pa_cons (pe_callTy (cr_tupk K) (by rfl) T.b_tuple (by decide +kernel) (pa_cons (pv 6) pa_nil)) pa_nil))))))))))), ?_⟩
    refine newL W (ds := []) (by simp) .nil fun ml H1 hml s1 L1 W1 => ?_
    refine newL W1 (ds := []) (by simp) .nil fun ol H2 hol s2 L2 W2 => ?_
    have hml0 : H ml = none := hml
    have hol0 : H ol = none := s1.free hol
    have nmo : ml ≠ ol := L1.ne hol
    have LM2 := L1.ad hol s2
    have hrow2 := (hrow.ad hml s1).ad hol s2
    have s02 := s1.trans s2
    refine ⟨_, rfl, _, rfl, ad ol (ad ml N), rv, xs, at_, rfl, W2, hrow2, fun H3 s3 => .inl ⟨_, rfl, ?_⟩⟩
    refine ⟨_, _, rfl, rfl, by omega, ?_⟩
    have hkd : V.int ((rowAt xs at_ : Int) % 4) = nV (rowAt xs at_ % 4) := by unfold nV; congr 1
    generalize rowAt xs at_ % 4 = kd at hkd
    have W3 := W2.ev s3
    have hsM : ∀ b, (b = ml ∨ b = ol) → ad ol (ad ml N) b := fun b z => z.elim (fun e => .inr (.inl e)) .inl
    refine ⟨_, rfl, ?_⟩
    refine forR n rfl (by omega) (fun i σ H' => ∃ (mvs : List (List Nat)) (ys : List Nat), Ev (fun b => b = ml ∨ b = ol) H3 H' ∧ Lst (ad ol (ad ml N)) H' ml (mvs.map wT) ∧ Lst (ad ol (ad ml N)) H' ol (ys.map D.n) ∧ mvs.length = i ∧ ys.length = i ∧ (∀ r ∈ mvs, r.length = k ∧ ∀ x ∈ r, x < n) ∧ (∀ y ∈ ys, y < o) ∧
      ∃ x8 x9 x10 x11 x12, σ = [some rv, some (nV at_), some (nV k), some (nV o), some (nV n), some (.ref ml), some (.ref ol), some (V.int ((rowAt xs at_ : Int) % 4)), x8, x9, x10, x11, x12])
      ⟨[], [], .refl _ _, LM2.sm s3, L2.sm s3, rfl, rfl, (fun _ z => nomatch z), (fun _ z => nomatch z), none, none, none, none, none, rfl⟩ ?_ ?_
    · rintro i σ' H4 hi ⟨mvs, ys, e4, LM4, LO4, hm4, ho4, hmv, hys, x8, x9, x10, x11, x12, rfl⟩
      have W4 := W3.ev e4
      have hrow4 := (hrow2.sm s3).evs e4 hsM
      refine newL W4 (ds := []) (by simp) .nil fun tl H5 htl s5 L5 W5 => ?_
      have nmt : ml ≠ tl := LM4.ne htl
      have not_ : ol ≠ tl := LO4.ne htl
      have hrow5 := hrow4.ad htl s5
      have LM5 := LM4.ad htl s5
      have LO5 := LO4.ad htl s5
      have hst : ∀ b, on tl b → ad tl (ad ol (ad ml N)) b := fun b z => .inl z
      rw [hkd]
      refine ⟨_, rfl, ?_⟩
      refine forR k rfl (by omega) (fun j σ H' => ∃ ts : List Nat, Ev (on tl) H5 H' ∧ Lst (ad tl (ad ol (ad ml N))) H' tl (ts.map D.n) ∧ ts.length = j ∧ (∀ x ∈ ts, x < n) ∧
        ∃ x10 x11 x12, σ = [some rv, some (nV at_), some (nV k), some (nV o), some (nV n), some (.ref ml), some (.ref ol), some (nV kd), some (nV i), some (.ref tl), x10, x11, x12])
        ⟨[], .refl _ _, L5, rfl, (fun _ z => nomatch z), _, _, _, rfl⟩ ?_ ?_
      · rintro j σ' H6 hj ⟨ts, e6, L6, hl6, ht6, x10, x11, x12, rfl⟩
        have W6 := W5.ev e6
        have hrow6 := hrow5.evs e6 hst
        refine ⟨_, rfl, _, rfl, _, _, rfl, rfl, _, rfl, _, _, rfl, rfl, .inl ⟨by omega, by omega⟩, _, _, rfl, rfl, _, rfl, _, _, rfl, rfl, ?_⟩
        have ea : V.int (((at_ : Int) + 1 + 5 * (i : Int)) + (j : Int)) = nV (at_ + 1 + 5 * i + j) := by unfold nV; push_cast; rfl
        refine ⟨ad tl (ad ol (ad ml N)), rv, xs, at_ + 1 + 5 * i + j, by rw [← ea]; rfl, W6, hrow6, fun H7 s7 => .inl ⟨_, rfl, ?_⟩⟩
        generalize rowAt xs (at_ + 1 + 5 * i + j) = dg
        have W7 := W6.ev s7
        refine ⟨_, rfl, _, rfl, _, _, rfl, rfl, by omega, ?_⟩
        have e12 : V.int ((dg : Int) % (n : Int)) = nV (dg % n) := by unfold nV; push_cast; rfl
        dsimp only
        rw [e12]
        have ht1 : dg % n < n := Nat.mod_lt _ (by omega)
        generalize dg % n = t1 at ht1
        refine ⟨_, rfl, rfl, _, rfl, ?_⟩
        by_cases h1 : kd = 1
        focus
          refine ifT (decide_eq_true (by rw [h1]; rfl)) ?_
          refine ⟨_, rfl, _, _, rfl, rfl, _, rfl, _, _, rfl, rfl, _, _, rfl, ?_⟩
          have em : V.int (if (n : Int) - 1 < (i : Int) + 1 then (n : Int) - 1 else (i : Int) + 1) = nV (min (i + 1) (n - 1)) := by
            unfold nV
            congr 1
            split <;> omega
          refine mkL W7 (ds := [.n 0, .n (min (i + 1) (n - 1))]) (by simp) (.cons (.n 0) (.cons (by rw [em]; exact .n _) .nil)) fun p8 H8 s8 h8 => ?_
          refine ⟨_, rfl, _, rfl, _, rfl, _, _, rfl, rfl, by omega, rfl, .inr ⟨_, rfl, ?_⟩⟩
          have hb : ∀ b : Bool, ∃ t2 : Nat, t2 < n ∧ ([D.n 0, D.n (min (i + 1) (n - 1))] : List D)[if b = true then 1 else 0]? = some (.n t2) := fun b => by
            cases b with
            | true => exact ⟨min (i + 1) (n - 1), by omega, rfl⟩
            | false => exact ⟨0, by omega, rfl⟩
          generalize decide (nV j = V.int ((dg : Int) % (k : Int))) = b
          obtain ⟨t2, ht2, hg2⟩ := hb b
          refine ixL (if b = true then 1 else 0) h8 hg2 (by cases b <;> rfl) fun z9 h9 => ?_
          rw [h9.isN]
          have s68 := s7.trans s8
          clear hg2 hb h8 em
        rotate_left 1
        focus
          refine ifF (decide_eq_false fun z => h1 (by unfold nV at z; injection z with z; omega)) ?_
          have s68 := s7
          have ht2 := ht1
          generalize t1 = t2 at ht2
          generalize H7 = H8 at s68
        all_goals
          refine ⟨_, rfl, rfl, _, rfl, ?_⟩
          by_cases h2 : kd = 2
          focus
            refine ifT (decide_eq_true (by rw [h2]; rfl)) ?_
            refine ⟨_, rfl, _, rfl, _, _, rfl, rfl, _, rfl, _, _, rfl, rfl, by omega, _, _, rfl, rfl, _, rfl, _, _, rfl, rfl, by omega, ?_⟩
            have e13 : V.int (((i : Int) + (j : Int) + (dg : Int) % 2) % (n : Int)) = nV ((i + j + dg % 2) % n) := by unfold nV; push_cast; rfl
            dsimp only
            rw [e13]
            have ht3 : (i + j + dg % 2) % n < n := Nat.mod_lt _ (by omega)
            generalize (i + j + dg % 2) % n = t3 at ht3
          rotate_left 1
          focus
            refine ifF (decide_eq_false fun z => h2 (by unfold nV at z; injection z with z; omega)) ?_
            have ht3 := ht2
            generalize t2 = t3 at ht3
          all_goals
            refine ⟨_, rfl, (L6.sm s68).ty, _, rfl, appL (N := ad tl (ad ol (ad ml N))) (L6.sm s68) (.inl rfl) (.n t3) (by rw [List.length_map]; omega) fun H9 e9 L9 => ?_⟩
            refine ⟨ts ++ [t3], (e6.trans (.of s68)).trans e9, by rw [List.map_append]; exact L9, by rw [List.length_append, List.length_singleton, hl6], fun x hx => ?_, _, _, _, rfl⟩
            rcases List.mem_append.mp hx with hx | hx
            · exact ht6 x hx
            · rw [List.mem_singleton.mp hx]; exact ht3
      · rintro σ' H6 ⟨ts, e6, L6, hl6, ht6, x10, x11, x12, rfl⟩
        have e46 : Ev F0 H4 H6 := s5.then e6 fun b z => .inr ((show b = tl from z) ▸ htl)
        have LM6 := LM4.sm e46
        have LO6 := LO4.sm e46
        have W6 := W4.ev e46
        have oM : ∀ b, on ml b → ad ol (ad ml N) b := onN (.inr (.inl rfl))
        have oO : ∀ b, on ol b → ad ol (ad ml N) b := onN (.inl rfl)
        refine ⟨_, rfl, LM6.ty, _, rfl, tupLs W6 (L6.sub fun b z => .inr z) fun p7 H7 s7 h7 => ?_⟩
        refine appL (N := ad ol (ad ml N)) (LM6.sm s7) (.inr (.inl rfl)) (d := wT ts) h7 (by rw [List.length_map]; omega) fun H8 e8 L8 => ?_
        have LO8 := (LO6.sm s7).ev e8 oM (Ne.symm nmo)
        have W8 := (W6.ev s7).ev e8
        have hrow8 := ((hrow4.sm e46).sm s7).evs e8 oM
        have ea : V.int ((at_ : Int) + 5 + 5 * (i : Int)) = nV (at_ + 5 + 5 * i) := by unfold nV; push_cast; rfl
        refine ⟨_, rfl, LO8.ty, _, rfl, _, rfl, _, _, rfl, rfl, _, rfl, _, _, rfl, rfl, .inl ⟨by omega, by omega⟩, _, _, rfl, rfl, ?_⟩
        refine ⟨ad ol (ad ml N), rv, xs, at_ + 5 + 5 * i, by rw [← ea]; rfl, W8, hrow8, fun H9 s9 => .inl ⟨_, rfl, ?_⟩⟩
        generalize rowAt xs (at_ + 5 + 5 * i) = dg
        refine ⟨_, rfl, _, _, rfl, rfl, by omega, ?_⟩
        have ey : V.int ((dg : Int) % (o : Int)) = nV (dg % o) := by unfold nV; push_cast; rfl
        have hy1 : dg % o < o := Nat.mod_lt _ (by omega)
        refine appL (N := ad ol (ad ml N)) (d := .n (dg % o)) (LO8.sm s9) (.inl rfl) (show At (ad ol (ad ml N)) H9 (V.int ((dg : Int) % (o : Int))) (.n (dg % o)) from by rw [ey]; exact .n _) (by rw [List.length_map]; omega) fun H10 e10 L10 => ?_
        have LM10 := (L8.sm s9).ev e10 oO nmo
        have ex : Ev (fun b => b = ml ∨ b = ol) H4 H10 := (((Ev.of (e46.trans s7)).trans (e8.mono fun b z => .inl z)).trans (.of s9)).trans (e10.mono fun b z => .inr z)
        have hmv' : ∀ r ∈ mvs ++ [ts], r.length = k ∧ ∀ x ∈ r, x < n := fun r hr => by
          rcases List.mem_append.mp hr with hr | hr
          · exact hmv r hr
          · rw [List.mem_singleton.mp hr]; exact ⟨hl6, ht6⟩
        refine ⟨_, rfl, rfl, _, rfl, ?_⟩
        by_cases h1 : kd = 1
        · refine ifT (decide_eq_true (by rw [h1]; rfl)) ?_
          refine ⟨_, rfl, _, rfl, _, _, rfl, rfl, rfl, .inr ⟨_, rfl, _, rfl, _, _, rfl, rfl, ?_⟩⟩
          generalize decide (nV i = V.int ((n : Int) - 1)) = b
          refine ⟨_, _, rfl, rfl, .inl (by cases b <;> exact ⟨by decide, by decide⟩), ?_⟩
          have ez : V.int ((if b = true then (1 : Int) else 0) * ((o : Int) - 1)) = nV (if b = true then o - 1 else 0) := by
            unfold nV
            congr 1
            cases b
            · simp
            · simp; omega
          have hz1 : (if b = true then o - 1 else 0) < o := by split <;> omega
          refine ⟨_, rfl, _, rfl, setLast (N := ad ol (ad ml N)) (d := .n (if b = true then o - 1 else 0)) L10 (.inl rfl) (by simp) (show At (ad ol (ad ml N)) H10 (V.int ((if b = true then (1 : Int) else 0) * ((o : Int) - 1))) _ from by rw [ez]; exact .n _) fun H11 e11 L11 => ?_⟩
          refine ⟨mvs ++ [ts], ys ++ [if b = true then o - 1 else 0], (e4.trans ex).trans (e11.mono fun b z => .inr z), by rw [List.map_append]; exact LM10.ev e11 oO nmo, ?_, by rw [List.length_append, List.length_singleton, hm4], by rw [List.length_append, List.length_singleton, ho4], hmv', fun y hy => ?_, _, _, _, _, _, rfl⟩
          · have : (ys.map D.n ++ [D.n (dg % o)]).set ((ys.map D.n ++ [D.n (dg % o)]).length - 1) (D.n (if b = true then o - 1 else 0)) = (ys ++ [if b = true then o - 1 else 0]).map D.n := by
              rw [List.length_append, List.length_singleton, Nat.add_sub_cancel, List.set_append_right _ _ (Nat.le_refl _), Nat.sub_self, List.map_append]; rfl
            rw [this] at L11
            exact L11
          · rcases List.mem_append.mp hy with hy | hy
            · exact hys y hy
            · rw [List.mem_singleton.mp hy]; exact hz1
        · refine ifF (decide_eq_false fun z => h1 (by unfold nV at z; injection z with z; omega)) ?_
          refine ⟨mvs ++ [ts], ys ++ [dg % o], e4.trans ex, by rw [List.map_append]; exact LM10, by rw [List.map_append]; exact L10, by rw [List.length_append, List.length_singleton, hm4], by rw [List.length_append, List.length_singleton, ho4], hmv', fun y hy => ?_, _, _, _, _, _, rfl⟩
          rcases List.mem_append.mp hy with hy | hy
          · exact hys y hy
          · rw [List.mem_singleton.mp hy]; exact hy1
    · rintro σ' H4 ⟨mvs, ys, e4, LM4, LO4, hm4, ho4, hmv, hys, x8, x9, x10, x11, x12, rfl⟩
      have e24 : Ev F0 H H4 := (s02.trans s3).then e4 fun b z => z.elim (fun e => .inr (e ▸ hml0)) fun e => .inr (e ▸ hol0)
      have W4 := W.ev e24
      refine ⟨_, rfl, _, rfl, _, rfl, tupLs W4 (LM4.sub fun b z => .inr (.inr z)) fun p5 H5 s5 h5 => ?_⟩
      refine ⟨_, rfl, tupLs (W4.ev s5) ((LO4.sm s5).sub fun b z => .inr (.inr z)) fun p6 H6 s6 h6 => ?_⟩
      refine mkT ((W4.ev s5).ev s6) (by simp) (.cons (.n k) (.cons (.n o) (.cons (h5.sm s6) (.cons h6 .nil)))) fun p7 H7 s7 h7 => ?_
      refine q _ _ ⟨k, o, mvs, ys⟩ (((e24.trans s5).trans s6).trans s7) ⟨?_, ?_, fun r hr => ?_, hys⟩ rfl rfl ho4 h7
      · show 0 < ys.length; omega
      · show mvs.length = ys.length; omega
      · obtain ⟨a1, a2⟩ := hmv r hr
        exact ⟨a1, fun x hx => by show x < ys.length; rw [ho4]; exact a2 x hx⟩
end
end Tk
/-! text D31 -/
set_option maxHeartbeats 4000000
namespace Tk
open PySem L2
def sp__law_row (K : PySem.W.Frag) : Sp := fun vs H Q _ => ∃ (N : Fp) (p : Addr) (zs : List Int), vs = [.ref p] ∧ Wf N H ∧ SqL K H p (zs.map V.int) ∧ zs.length ≤ 63 ∧
  ∀ (r : V) (H' : Hp) (xs : List Nat), Sm H H' → At N H' r (.l (xs.map D.n)) → Q r H'
/-- a list stands where only what was new is written -/
theorem SqL.far {K : PySem.W.Frag} {H H1 H2 : Hp} {p l : Addr} {vs : List V} (h : SqL K H p vs) (s : Sm H H1) (hl : H l = none) (e : Ev (on l) H1 H2) : SqL K H2 p vs := by
  have go : ∀ o, H p = some o → H2 p = some o := fun o q => e.kp _ _ (s.at q) fun z => by rw [show p = l from z, hl] at q; cases q
  rcases h with (h | ⟨o, h⟩) | h
  · exact .inl (.inl (go _ h))
  · exact .inl (.inr ⟨o, go _ h⟩)
  · exact .inr h
section
variable {P : Program} {w : World} {K : PySem.W.Frag} {mg : Str → Option Value} {base : Heap} {a : Ads} {d : Fds}
theorem ok__law_row (T : TX K mg base a d) : FnOk P w K mg base CX0 1 a.f__law_row d.d__law_row ["_law_script"] (sp__law_row K) := by
  refine T.F__law_row.ok sc__law_row (fun vs H Q E h => ?_) (fun cdv A outer s H vs Q E hr h => ?_)
  · obtain ⟨_, _, _, rfl, _⟩ := h
    rfl
  · obtain ⟨N, p, zs, rfl, W, hp, hz, q⟩ := h
    have hu := hu_of hr
    refine ⟨_, (pss_cons (ps_set (i := 1) sc__law_row.nd rfl (Or.inl rfl) (pe_lstm pa_nil))
    (pss_cons (ps_forR PassesOwn.never rfl rfl T.b_range (pa_cons (pe_callB (cr_lenk K) (by rfl) T.b_len (by decide +kernel) (pa_cons (pv 0) pa_nil)) pa_nil) (pg_name (i := 2) sc__law_row.nd rfl (Or.inl rfl)) (pss_cons (ps_set (i := 3) sc__law_row.nd rfl (Or.inl rfl) (pe_callB call_abs (by rfl) T.b_abs (by decide +kernel) (pa_cons (pe_callTy call_int1 (by rfl) T.b_int (by decide +kernel) (pa_cons (pe_ix (ix_listk K) (pv 0) (pv 2) (fun _ _ => rfl)) pa_nil)) pa_nil)))
      (pss_one (ps_if (pt_cmpR op_ge (pv 3) (pe_op op_pow pe_int pe_int) (nomark _)) (pss_one (ps_forR PassesOwn.never rfl rfl T.b_range (pa_cons pe_int pa_nil) (pg_name (i := 4) sc__law_row.nd rfl (Or.inl rfl)) (pss_one (ps_if (pt_cmpR op_gt (pv 3) pe_int (nomark _)) (pss_cons (ps_expr (pe_bmk K PySem.F.plainAttrs_list PySem.F.slot_list_append PySem.F.type_list_append mt_appendm (pv 1) (pa_cons (pe_op op_mod (pe_callTy call_int1 (by rfl) T.b_int (by decide +kernel) (pa_cons (pv 3) pa_nil)) pe_int) pa_nil)))
            (pss_one (ps_set (i := 3) sc__law_row.nd rfl (Or.inl rfl) (pe_op op_fdiv (pv 3) pe_int)))) pss_nil)))) (pss_cons (ps_set (i := 5) sc__law_row.nd rfl (Or.inl rfl) (pe_op op_mod (pe_callTy call_int1 (by rfl) T.b_int (by decide +kernel) (pa_cons (pe_op op_add (pe_op op_add (pe_op op_mul (pv 3) pe_int) (pe_op op_mul (pv 2) pe_int)) pe_int) pa_nil)) pe_int))
        (pss_one (ps_forR PassesOwn.never rfl rfl T.b_range (pa_cons pe_int pa_nil) (pg_name (i := 4) sc__law_row.nd rfl (Or.inl rfl)) (pss_cons (ps_set (i := 5) sc__law_row.nd rfl (Or.inl rfl) (pe_op op_mod (pe_callTy call_int1 (by rfl) T.b_int (by decide +kernel) (pa_cons (pe_op op_add (pe_op op_add (pe_op op_mul (pv 5) pe_int) (pe_op op_mul pe_int (pv 4))) pe_int) pa_nil)) pe_int))
          (pss_one (ps_expr (pe_bmk K PySem.F.plainAttrs_list PySem.F.slot_list_append PySem.F.type_list_append mt_appendm (pv 1) (pa_cons (pe_op op_mod (pe_callTy call_int1 (by rfl) T.b_int (by decide +kernel) (pa_cons (pe_op op_fdiv (pv 5) pe_int) pa_nil)) pe_int) pa_nil))))))))))))
    (pss_one (ps_ret (pv 1))))), ?_⟩
    refine newL W (ds := []) (by simp) .nil fun l H1 hl s1 L1 W1 => ?_
    have hp1 := SqL.far hp s1 hl (.refl _ _)
    refine ⟨_, rfl, ?_⟩
    have hlen : ∀ Q : VK, ∀ H : Hp, SqL K H p (zs.map V.int) → Q (nV zs.length) H → rLen K [.ref p] H Q := fun Q H h q => by
      unfold rLen
      exact ⟨p, _, rfl, .inl h, by rw [List.length_map]; exact q⟩
    refine hlen _ _ hp1 ?_
    refine forR zs.length rfl (by omega) (fun i σ H' => ∃ xs : List Nat, Ev (on l) H1 H' ∧ Lst (ad l N) H' l (xs.map D.n) ∧ xs.length ≤ i * 40 ∧ ∃ x2 x3 x4 x5, σ = [some (.ref p), some (.ref l), x2, x3, x4, x5]) ⟨[], .refl _ _, L1, Nat.zero_le _, none, none, none, none, rfl⟩ ?_ ?_
    · rintro i σ' H2 hi ⟨xs, e2, L2, hx2, x2, x3, x4, x5, rfl⟩
      have hp2 := SqL.far hp s1 hl e2
      have hge : (zs.map V.int)[i]? = some (V.int zs[i]) := by rw [List.getElem?_map, List.getElem?_eq_getElem hi]; rfl
      generalize zs[i] = z at hge
      have hix : ∀ Q : VK, Q (V.int z) H2 → rIxLm K (.ref p) (nV i) H2 Q := fun Q q => by
        unfold rIxLm
        exact ⟨p, _, i, _, rfl, rfl, hp2, atI_nat hge, q⟩
      refine ⟨_, rfl, _, rfl, hix _ (.inl ⟨_, rfl, _, rfl, ?_⟩)⟩
      have ec : V.int (if z < 0 then -z else z) = nV z.natAbs := by
        unfold nV
        congr 1
        split <;> omega
      rw [ec]
      generalize z.natAbs = c
      refine ⟨_, rfl, _, _, rfl, rfl, ⟨by decide, by decide, by decide⟩, _, _, rfl, rfl, _, rfl, ?_⟩
      have oL : ∀ b, on l b → ad l N b := fun b z => .inl z
      by_cases hbig : (10 : Int) ^ 18 ≤ (c : Int)
      · refine ifT (decide_eq_true hbig) ?_
        refine forR 40 rfl (by omega) (fun j σ H' => ∃ (ys : List Nat) (c' : Nat), Ev (on l) H1 H' ∧ Lst (ad l N) H' l (ys.map D.n) ∧ ys.length ≤ i * 40 + j ∧ ∃ x4, σ = [some (.ref p), some (.ref l), some (nV i), some (nV c'), x4, x5]) ⟨xs, c, e2, L2, by omega, x4, rfl⟩ ?_ ?_
        · rintro j σ' H3 hj ⟨ys, c', e3, L3, hy3, x4, rfl⟩
          refine ⟨_, rfl, _, _, rfl, rfl, _, rfl, ?_⟩
          by_cases hc : (0 : Int) < (c' : Int)
          · refine ifT (decide_eq_true hc) ?_
            refine ⟨_, rfl, L3.ty, _, rfl, .inl ⟨_, rfl, _, _, rfl, rfl, by omega, ?_⟩⟩
            have e1 : V.int ((c' : Int) % 1009) = nV (c' % 1009) := by unfold nV; push_cast; rfl
            refine appL (N := ad l N) (d := .n (c' % 1009)) L3 (.inl rfl) (show At (ad l N) H3 (V.int ((c' : Int) % 1009)) _ from by rw [e1]; exact .n _) (by rw [List.length_map]; omega) fun H4 e4 L4 => ?_
            refine ⟨_, rfl, _, _, rfl, rfl, ⟨by omega, by omega⟩, ys ++ [c' % 1009], c' / 1009, e3.trans e4, by rw [List.map_append]; exact L4, by rw [List.length_append, List.length_singleton]; omega, some (nV j), ?_⟩
            have e5 : V.int ((c' : Int) / 1009) = nV (c' / 1009) := by unfold nV; push_cast; rfl
            rw [← e5]; rfl
          · refine ifF (decide_eq_false hc) ⟨ys, c', e3, L3, by omega, _, rfl⟩
        · rintro σ' H3 ⟨ys, c', e3, L3, hy3, x4, rfl⟩
          exact ⟨ys, e3, L3, by omega, _, _, _, _, rfl⟩
      · refine ifF (decide_eq_false hbig) ?_
        refine ⟨_, rfl, _, _, rfl, rfl, .inr ⟨by decide, by decide⟩, _, rfl, _, _, rfl, rfl, .inr ⟨by decide, by decide⟩, _, _, rfl, rfl, _, _, rfl, rfl, .inl ⟨_, rfl, _, _, rfl, rfl, by omega, ?_⟩⟩
        have em : V.int (((c : Int) * 48271 + (i : Int) * 69621 + 12345) % 2147483647) = nV ((c * 48271 + i * 69621 + 12345) % 2147483647) := by unfold nV; congr 1
        dsimp only
        rw [em]
        generalize (c * 48271 + i * 69621 + 12345) % 2147483647 = mx
        refine forR 6 rfl (by omega) (fun j σ H' => ∃ (ys : List Nat) (mx : Nat), Ev (on l) H1 H' ∧ Lst (ad l N) H' l (ys.map D.n) ∧ ys.length ≤ i * 40 + j ∧ ∃ x4, σ = [some (.ref p), some (.ref l), some (nV i), some (nV c), x4, some (nV mx)]) ⟨xs, mx, e2, L2, by omega, x4, rfl⟩ ?_ ?_
        · rintro j σ' H3 hj ⟨ys, mx, e3, L3, hy3, x4, rfl⟩
          refine ⟨_, rfl, _, _, rfl, rfl, .inr ⟨by decide, by decide⟩, _, rfl, _, _, rfl, rfl, .inl ⟨by decide, by decide⟩, _, _, rfl, rfl, _, _, rfl, rfl, .inl ⟨_, rfl, _, _, rfl, rfl, by omega, ?_⟩⟩
          have em2 : V.int (((mx : Int) * 16807 + 11 * (j : Int) + 1) % 2147483647) = nV ((mx * 16807 + 11 * j + 1) % 2147483647) := by unfold nV; congr 1
          dsimp only
          rw [em2]
          generalize (mx * 16807 + 11 * j + 1) % 2147483647 = my
          refine ⟨_, rfl, L3.ty, _, rfl, _, _, rfl, rfl, ⟨by omega, by omega⟩, .inl ⟨_, rfl, _, _, rfl, rfl, by omega, ?_⟩⟩
          have em3 : V.int ((my : Int) / 7 % 1009) = nV (my / 7 % 1009) := by unfold nV; congr 1
          refine appL (N := ad l N) (d := .n (my / 7 % 1009)) L3 (.inl rfl) (show At (ad l N) H3 (V.int ((my : Int) / 7 % 1009)) _ from by rw [em3]; exact .n _) (by rw [List.length_map]; omega) fun H4 e4 L4 => ?_
          exact ⟨ys ++ [my / 7 % 1009], my, e3.trans e4, by rw [List.map_append]; exact L4, by rw [List.length_append, List.length_singleton]; omega, some (nV j), rfl⟩
        · rintro σ' H3 ⟨ys, mx, e3, L3, hy3, x4, rfl⟩
          exact ⟨ys, e3, L3, by omega, _, _, _, _, rfl⟩
    · rintro σ' H2 ⟨xs, e2, L2, hx2, x2, x3, x4, x5, rfl⟩
      exact ⟨_, rfl, q _ _ xs (s1.then e2 fun b z => .inr ((show b = l from z) ▸ hl)) (L2.at (fun z => W.no hl z) fun b z => .inr z)⟩
end
end Tk
/-! text D32 -/
set_option maxHeartbeats 4000000
namespace Tk
open PySem L2
/-! ### accept and show, which raise; _law_misfit; the law's numbers -/
def sp_TestedAsker_accept (a : Ads) : Sp := fun vs H _ E => (∃ v, vs = [v]) ∧ E (.ref a.C_Wrong) none H
def sp_TestedAsker_show (a : Ads) : Sp := fun vs H _ E => (∃ v u, vs = [v, u]) ∧ E (.ref a.C_Wrong) none H
section
variable {X : Cx} {CX : CXT} {k : Nat} {C f : Addr} {fd : FuncData} {ps : List Str} {sp : Sp} {E : L2.St → XK} {m : Str} {o e : Expr} {es : List Expr} {ta : TE} {t : TA} {apos pos : Pos}
/-- o.m(..) where what is raised is wished for at the caller's slots -/
def tMethW (C : Addr) (m : Str) (sp : Sp) (E : L2.St → XK) (ta : TE) (t : TA) : TE := fun σ H Q => ta σ H fun x H1 => ∃ b fs, x = .ref b ∧ Ins H1 b C fs ∧ fs.lookup m = none ∧ t σ H1 fun vs H2 => sp (x :: vs) H2 Q (E σ)
theorem pe_methW {pl : Sem Bool} (he : PE X o ta) (c : L2.Cls X.K C) (hm : Meth X.K C m f) (F : FnOk X.prog X.w X.K X.mg X.base CX k f fd ps sp) (hr : Room k X.A) (hb : L2.Binds X.K fd ps []) (hx : ∀ σ, PassesAt CX X σ (E σ)) (ha : PA X (e :: es) t)
    (hst : starEach (e :: es) X.env = (false, eval e X.env) :: starEach es X.env := by rfl) (hpl : (backTo pos (starEach es X.env)).any (·.1) = false := by rfl)
    (ht : eval (.Call (.Attribute o m apos) (e :: es) [] pos) X.env = (do
      let ov ← eval o X.env
      standAt apos.atName
      let (f, first) ← holding [ov] (getMethod ov m pl)
      callWith pos f first (backTo pos (starEach (e :: es) X.env)) (backToKw pos (keywordEach [] X.env))) := by rfl) :
    PE X (.Call (.Attribute o m apos) (e :: es) [] pos) (tMethW C m sp E ta t) := by
  refine ⟨fun pins s σ H Q I h => ?_⟩
  refine PySem.W.methodCall_KW (pl := pl) (thn (he.run pins s σ H _ I h) fun u s1 hh => ?_) ht
  obtain ⟨x, H1, I1, rx, b, fs, rfl, ⟨dx, hi⟩, l, q⟩ := hh
  cases rx
  refine getmeth_ok I1 hi c hm l (PySem.W.callWith_K (first := [.ref b]) (h₀ := X.base) I.ok.mod.kin hm.kp (thn (ha.run pos pins s1 σ H1 _ I1 q) fun us s2 ⟨vs, H2, I2, r, q2⟩ => ⟨I2.kIn, ?_⟩) hst hpl)
  exact run_fnS (us := .ref b :: us) (vs := .ref b :: vs) F hr hb (hx σ) I2 (.cons rfl r) q2
theorem pe_methW0 {pl : Sem Bool} (he : PE X o ta) (c : L2.Cls X.K C) (hm : Meth X.K C m f) (F : FnOk X.prog X.w X.K X.mg X.base CX k f fd ps sp) (hr : Room k X.A) (hb : L2.Binds X.K fd ps []) (hx : ∀ σ, PassesAt CX X σ (E σ))
    (ht : eval (.Call (.Attribute o m apos) [] [] pos) X.env = (do
      let ov ← eval o X.env
      standAt apos.atName
      let (f, first) ← holding [ov] (getMethod ov m pl)
      callWith pos f first (backTo pos (starEach [] X.env)) (backToKw pos (keywordEach [] X.env))) := by rfl) :
    PE X (.Call (.Attribute o m apos) [] [] pos) (tMethW C m sp E ta tNil) := by
  refine ⟨fun pins s σ H Q I h => ?_⟩
  refine PySem.W.methodCall_KW (pl := pl) (thn (he.run pins s σ H _ I h) fun u s1 hh => ?_) ht
  obtain ⟨x, H1, I1, rx, b, fs, rfl, ⟨dx, hi⟩, l, q⟩ := hh
  cases rx
  exact getmeth_ok I1 hi c hm l (PySem.W.callWith_K0 (first := [.ref b]) I1.kIn hm.kp (run_fnS (us := [.ref b]) (vs := [.ref b]) F hr hb (hx σ) I1 (.cons rfl .nil) q))
end
section
variable {P : Program} {w : World} {K : PySem.W.Frag} {mg : Str → Option Value} {base : Heap} {a : Ads} {d : Fds}
theorem ok_TestedAsker_accept (T : TX K mg base a d) : FnOk P w K mg base (L2.CX P w) 1 a.f_TestedAsker_accept d.d_TestedAsker_accept ["self"] (sp_TestedAsker_accept a) := by
  refine T.F_TestedAsker_accept.okX sc_TestedAsker_accept (fun vs H Q E h => ?_) (fun cdv A outer s H vs Q E hr h => ?_)
  · obtain ⟨⟨_, rfl⟩, _⟩ := h
    rfl
  · exact ⟨_, pss_one (ps_raise rfl (takes_of rfl rfl rfl rfl) (pmk_own PySem.F.excBase_ValueError T.e_Wrong T.g_Wrong T.k_Wrong (raises_own T.s_Wrong T.t_Wrong) rfl)), h.2⟩
theorem ok_TestedAsker_show (T : TX K mg base a d) : FnOk P w K mg base (L2.CX P w) 1 a.f_TestedAsker_show d.d_TestedAsker_show ["self", "word"] (sp_TestedAsker_show a) := by
  refine T.F_TestedAsker_show.okX sc_TestedAsker_show (fun vs H Q E h => ?_) (fun cdv A outer s H vs Q E hr h => ?_)
  · obtain ⟨⟨_, _, rfl⟩, _⟩ := h
    rfl
  · exact ⟨_, pss_one (ps_raise rfl (takes_of rfl rfl rfl rfl) (pmk_own PySem.F.excBase_ValueError T.e_Wrong T.g_Wrong T.k_Wrong (raises_own T.s_Wrong T.t_Wrong) rfl)), h.2⟩
end
def sp__law_misfit (a : Ads) : Sp := fun vs H Q _ => ∃ (t : Addr) (i : Nat) (fs : List (Str × V)), vs = [.ref t, nV i] ∧ i ≤ 1 ∧ Ins H t a.C_TestedAsker fs ∧ fs.lookup ("accept" : Str) = none ∧ fs.lookup ("show" : Str) = none ∧ ∀ H', Sm H H' → Q (.bl true) H'
theorem parT {B : Mach} {m d : Nat} (hB : B.Ok) (hn : B.n ≤ 4) (hk1 : 1 ≤ B.k) (hk2 : B.k ≤ 2) (ho : B.o ≤ 3) (hm : m = B.n + d) (hd : d ≤ 4) (hd2 : B.k = 2 → d ≤ 2) : ParT B m (B.n + m - 1) := by
  have hp := hB.pos
  have key : ∀ k : Fin 3, ∀ n : Fin 5, ∀ d : Fin 5, 1 ≤ k.val → 1 ≤ n.val → (k.val = 2 → d.val ≤ 2) → szW k.val (n.val + (n.val + d.val) - 1) ≤ 1023 ∧ szW k.val (n.val + (n.val + d.val) - 1 + 1) ≤ 10000 ∧ ∀ x : Fin 9, 1 ≤ x.val → x.val ≤ n.val + d.val → lbd x.val k.val (n.val + d.val - x.val) ≤ 4000 := by decide +kernel
  obtain ⟨k1, k2, k3⟩ := key ⟨B.k, by omega⟩ ⟨B.n, by omega⟩ ⟨d, by omega⟩ hk1 hp hd2
  subst hm
  have k1 : szW B.k (B.n + (B.n + d) - 1) ≤ 1023 := k1
  refine ⟨⟨hB, by omega, by omega, by omega, by omega, by omega, by omega, by omega, by omega⟩, hn, hk1, hk2, by omega, ?_, k1, k2, fun x h1 h2 => k3 ⟨x, by omega⟩ h1 h2⟩
  by_cases h : B.k = 2
  · have := hd2 h; omega
  · omega
theorem mD_py (L : Mach) : (mD L).py = (mDt L).py := by
  unfold mD mDt wT
  simp [D.py, D.pys]
theorem sh_mD (L : Mach) : Sh 3 (mD L).py := by
  unfold mD
  rw [D.py, D.pys_map]
  refine .tuple fun x hx => ?_
  simp only [List.map_cons, List.map_nil, List.mem_cons, List.not_mem_nil, or_false] at hx
  rcases hx with rfl | rfl | rfl | rfl
  · rw [D.py]; exact (Sh.int _).mono (by decide)
  · rw [D.py]; exact (Sh.int _).mono (by decide)
  · rw [D.py, D.pys_map]
    refine .tuple fun x hx => ?_
    simp only [List.map_map, List.mem_map] at hx
    obtain ⟨u, _, rfl⟩ := hx
    exact sh_wT u
  · rw [D.py, py_ints]
    exact (Sh.tuple (sh_ints _)).mono (by decide)
theorem sh_ask (u : List Nat) : Sh 4 (askD u).py := by
  unfold askD
  rw [D.py, D.pys_map]
  refine .tuple fun x hx => ?_
  simp only [List.map_cons, List.map_nil, List.mem_cons, List.not_mem_nil, or_false] at hx
  rcases hx with rfl | rfl
  · rw [D.py]; exact (Sh.str (by decide +kernel)).mono (by decide)
  · exact (sh_wL u).mono (by decide)
theorem sh_don (L : Mach) : Sh 4 (donD L).py := by
  unfold donD
  rw [D.py, D.pys_map]
  refine .tuple fun x hx => ?_
  simp only [List.map_cons, List.map_nil, List.mem_cons, List.not_mem_nil, or_false] at hx
  rcases hx with rfl | rfl
  · rw [D.py]; exact (Sh.str (by decide +kernel)).mono (by decide)
  · exact sh_mD L
section
variable {P : Program} {w : World} {K : PySem.W.Frag} {mg : Str → Option Value} {base : Heap} {a : Ads} {d : Fds}
/-- what is left of a try whose suite returns -/
def tSuite (K : PySem.W.Frag) (C M : Addr) : Addr → Value → Option Addr → TS := fun b cls d D σ H => (cls = .ref C ∧ d = none) ∧ tRet (tCB (rIsE K C b) (tCons (tVar 2) (tCons (tC (.ref M)) tNil))) D σ H
theorem ok__law_misfit (T : TX K mg base a d) : FnOk P w K mg base CX0 2 a.f__law_misfit d.d__law_misfit ["_law_asker", "_law_kind"] (sp__law_misfit a) := by
  refine T.F__law_misfit.ok sc__law_misfit (fun vs H Q E h => ?_) (fun cdv A outer s H vs Q E hr h => ?_)
  · obtain ⟨_, _, _, rfl, _⟩ := h
    rfl
  · obtain ⟨t, i, fs, rfl, hi, ti, l1, l2, q⟩ := h
    refine ⟨_, pss_cons (ps_try_as (i := 2) (c := .ref a.C_Wrong) (Wout := fun _ _ _ _ => False) (ts := tSuite K a.C_Wrong a.C_MaieuticError)
        (tb := fun W => tIfS (tTest (tOp rEq (tVar 1) (tC (.int 0)))) (tDrop (tMethW a.C_TestedAsker "accept" (sp_TestedAsker_accept a) (WE W) (tVar 0) tNil)) (tDrop (tMethW a.C_TestedAsker "show" (sp_TestedAsker_show a) (WE W) (tVar 0) (tCons (tLstm tNil) tNil))))
        rfl rfl sc__law_misfit.nd rfl rfl ⟨rfl, by decide, .inl T.g_Wrong⟩ takes0 (fun W pn xe tk _ => ?_) (fun b oe cls dd pn hz hf => ?_)) (pss_one (ps_ret pe_bl)), ?_⟩
    · exact pss_one (ps_if (pt_cmpR op_eq (pv 1) pe_int (nomark _)) (pss_one (ps_expr (pe_methW0 (pv 0) T.cl_TestedAsker T.M_TestedAsker_accept (ok_TestedAsker_accept T) (hr.mono (by decide)) T.B_TestedAsker_accept fun σ => passAt tk σ)))
        (pss_one (ps_expr (pe_methW (pv 0) T.cl_TestedAsker T.M_TestedAsker_show (ok_TestedAsker_show T) (hr.mono (by decide)) T.B_TestedAsker_show (fun σ => passAt tk σ) (pa_cons (pe_lstm pa_nil) pa_nil)))))
    · refine ⟨fun pins s' σ H' D I h => ?_⟩
      obtain ⟨⟨rfl, rfl⟩, h⟩ := h
      refine PSs.run ?_ pins s' σ H' D I h
      exact pss_one (ps_ret (pe_callB (call_isE T.c_Wrong hz hf) (by rfl) T.b_isinstance (by decide +kernel) (pa_cons (pv 2) (pa_cons (pe_glob rfl T.g_MaieuticError rfl) pa_nil))))
    · have caught : ∀ (H' : Hp) (D : Ends) (σ : L2.St), Sm H H' → D.rt = Q → σ.length = 3 → wAs K (.ref a.C_Wrong) 2 (tSuite K a.C_Wrong a.C_MaieuticError) (fun _ _ _ _ => False) D (.ref a.C_Wrong) none σ H' := fun H' D σ s e hl => by
        refine ⟨true, T.x_Wrong, fun _ b hb => ⟨⟨rfl, rfl⟩, ?_⟩, fun z => nomatch z⟩
        have e2 : (σ.set 2 (some (.ref b)))[2]? = some (some (.ref b)) := by rw [List.getElem?_set_self (by omega)]
        refine ⟨_, e2, .ref a.C_MaieuticError, .ref a.C_MaieuticError, true, rfl, fun u r => r, T.i_Wrong, ?_⟩
        show D.rt (.bl true) H'
        rw [e]
        exact q H' s
      refine ⟨_, rfl, rfl, _, rfl, ?_⟩
      refine ite2 (fun z => ?_) fun z => ?_
      · exact ⟨_, rfl, t, fs, rfl, ti, l1, ⟨_, rfl⟩, caught H _ _ (.refl _ _) rfl rfl⟩
      · refine ⟨_, rfl, t, fs, rfl, ti, l2, ?_⟩
        unfold tLstm rMkL
        refine ⟨by simp, fun p hp => ?_⟩
        exact ⟨⟨_, _, rfl⟩, caught _ _ _ (.new hp) rfl rfl⟩
end
end Tk
/-! text D33 -/
set_option maxHeartbeats 4000000
namespace Tk
open PySem PySem.Spec PyProof.Rows L2
/-! ### a list that a call cannot see -/
def hid (H : Hp) (l : Addr) : Hp := fun b => if b = l then none else H b
section
variable {H H' : Hp} {l b : Addr} {o : HO}
theorem hid_self : hid H l l = none := if_pos rfl
theorem hid_ne (n : b ≠ l) : hid H l b = H b := if_neg n
theorem hid_some (h : hid H l b = some o) : b ≠ l ∧ H b = some o := by
  by_cases c : b = l
  · rw [c, hid_self] at h; cases h
  · exact ⟨c, (hid_ne c).symm.trans h⟩
theorem hid_none (h : hid H l b = none) : b = l ∨ H b = none := by
  by_cases c : b = l
  · exact .inl c
  · exact .inr ((hid_ne c).symm.trans h)
theorem hid_no (h : H b = none) : hid H l b = none := by
  by_cases c : b = l
  · rw [c, hid_self]
  · rw [hid_ne c]; exact h
theorem hid_up : Sm (hid H l) H := ⟨fun b o e _ => (hid_some e).2, fun b e => by
  by_cases c : b = l
  · rw [c, hid_self]
  · rw [hid_ne c]; exact e, fun b xs e => by
  by_cases c : b = l
  · exact .inr (by rw [c, hid_self])
  · exact .inl (by rw [hid_ne c]; exact e)⟩
/-- what writes at l alone, is not seen -/
theorem hid_wr (e : Ev (on l) H H') : Sm (hid H l) (hid H' l) := ⟨fun b o q _ => by
  obtain ⟨n, q⟩ := hid_some q
  rw [hid_ne n]
  exact e.kp _ _ q n, fun b q => by
  rcases hid_none q with c | c
  · rw [c, hid_self]
  · exact hid_no (e.th b c), fun b xs q => by
  obtain ⟨n, q⟩ := hid_some q
  rw [hid_ne n]
  exact e.tp b xs q⟩
theorem hid_sm (e : Sm H H') : Sm (hid H l) (hid H' l) := hid_wr (e.mono fun _ z => z.elim)
theorem hid_upd (n : H l = none) : hid (upd H l o) l = H := by
  funext b
  by_cases c : b = l
  · rw [c, hid_self, n]
  · rw [hid_ne c, upd_ne c]
end
/-- a promise kept where the list at l is not tracked: l is as it was -/
def spFr (sp : Sp) : Sp := fun vs H Q _ => ∃ (l : Addr) (xs : List V), H l = some (.lst xs) ∧ sp vs (hid H l) (fun v H' => H' l = none → Q v (upd H' l (.lst xs))) E0
theorem FnOk.frame {P : Program} {w : World} {K : PySem.W.Frag} {mg : Str → Option Value} {base : Heap} {k : Nat} {f : Addr} {fd : FuncData} {ps : List Str} {sp : Sp} (F : FnOk P w K mg base CX0 k f fd ps sp) : FnOk P w K mg base CX0 k f fd ps (spFr sp) := by
  refine ⟨fun vs H Q E ⟨l, xs, _, h⟩ => F.len _ _ _ _ h, fun A outer s H args us vs Q E hr e0 hb hv ⟨l, xs, hl, h⟩ => ?_⟩
  obtain ⟨zx, its, n, rv, ge⟩ : ObjOk P w H s.heap l (.lst xs) := e0.hok l _ hl
  have nf : l ∉ frs outer := fun z => by
    have q := e0.frf l z
    rw [hl] at q; cases q
  have hok : HOk P w (hid H l) s.heap := fun b o e => by
    obtain ⟨nb, e⟩ := hid_some e
    refine (e0.hok b o e).stay (fun _ _ _ q => q) (fun c q => ?_) fun c ys q => ?_
    · rw [hid_ne (fun z => by rw [z, hl] at q; cases q)]; exact q
    · rw [hid_ne (fun z => by rw [z, hl] at q; cases q)]; exact q
  have e1 : Env0 P w K mg base A outer s (hid H l) := ⟨e0.frames, e0.mod, fun b o e => ⟨(e0.bs b o e).1, by
      by_cases c : b = l
      · rw [c, hid_self]
      · rw [hid_ne c]; exact (e0.bs b o e).2⟩, e0.bsz, e0.funs, fun b z => by
      by_cases c : b = l
      · rw [c, hid_self]
      · rw [hid_ne c]; exact e0.frf b z, hok, e0.bare⟩
  refine codeAny_mono (F.run A outer s (hid H l) args us vs _ E0 hr e1 hb hv h) fun r s' hq => ?_
  cases r with
  | error e => exact False.elim hq
  | ok fl =>
    cases fl with
    | next => exact False.elim hq
    | brk => exact False.elim hq
    | cont => exact False.elim hq
    | ret u =>
      obtain ⟨v, H', os, bare, un, hok', ru, q⟩ := hq
      have ne : ∀ {b : Addr}, H b = none → b ≠ l := fun e z => by rw [z, hl] at e; cases e
      have hn : ∀ {b : Addr}, H b = none → hid H l b = none := fun e => by rw [hid_ne (ne e)]; exact e
      have free := un.free l _ ge hid_self (by simp)
      have ge' := un.keep l _ ge hid_self nf (by simp)
      refine ⟨v, upd H' l (.lst xs), os, bare, ⟨fun b o e n h1 h2 => un.keep b o e (hn n) h1 h2, fun b o e n h1 h2 => un.slot b o e (hn n) h1 h2, fun b o e n h2 => ?_, un.there, fun b ys e => ?_, fun b o ys e => ?_, fun b ps e => ?_⟩, fun b o e => ?_, ru, q free⟩
      · rw [upd_ne (ne n)]; exact un.free b o e (hn n) h2
      · have nb : b ≠ l := fun z => by rw [z, hl] at e; cases e
        rw [upd_ne nb]; exact un.tups b ys (by rw [hid_ne nb]; exact e)
      · have nb : b ≠ l := fun z => by rw [z, hl] at e; cases e
        rw [upd_ne nb]; exact un.frzs b o ys (by rw [hid_ne nb]; exact e)
      · have nb : b ≠ l := fun z => by rw [z, hl] at e; cases e
        rw [upd_ne nb]; exact un.tbls b ps (by rw [hid_ne nb]; exact e)
      · by_cases nb : b = l
        · rw [nb, upd_same] at e
          cases e
          rw [nb]
          exact ⟨zx, its, n, rv, ge'⟩
        · rw [upd_ne nb] at e
          refine (hok' b o e).stay (fun _ _ _ q => q) (fun c q => ?_) fun c ys q => ?_
          · rw [upd_ne (fun z => by rw [z, free] at q; cases q)]; exact q
          · rw [upd_ne (fun z => by rw [z, free] at q; cases q)]; exact q
theorem hu3 {A : Around} {k : Nat} (hr : Room k A) : A.units + 3 < cLine := by have := hr.un; omega
end Tk
/-! text D34 -/
set_option maxHeartbeats 4000000
namespace Tk
open PySem L2
/-- where the law's loop stands: behind the questions qs -/
structure LawW (a : Ads) (B M : Mach) (m Lw : Nat) (NT NA : Fp) (H : Hp) (t kd wl : Addr) (p : AP) (g : AG) (st mv lv : V) (qs : List (List Nat × Nat)) : Prop where
  out : TOut a B m Lw NT NA (hid H wl) t kd p g qs qs.length (lsum qs) st
  mv : At NT (hid H wl) mv (mDt M)
  lv : At NT (hid H wl) lv (mDt B)
  wl : ∃ vs, H wl = some (.lst vs) ∧ Ats NT (hid H wl) vs ((qs.map (·.1)).map wT)
  nd : (qs.map (·.1)).Nodup
  len : qs.length ≤ 1151
def sp_law (a : Ads) (K : PySem.W.Frag) : Sp := fun vs H Q _ => ∃ (p : Addr) (zs : List Int), vs = [.ref p] ∧ SqL K H p (zs.map V.int) ∧ zs.length ≤ 63 ∧ H a.P_in_order = some (.tbl #[]) ∧ ∀ H', Q (.bl true) H'
/-! what stands behind the loop -/
abbrev tStep (a : Ads) : TE := tMeth a.C_TestedAsker (Str.ofString "step") (sp_TestedAsker_step a) [] E0 (tVar 7) tNil
abbrev tMis (a : Ads) (i : Int) : TE := tCall (sp__law_misfit a) [] E0 (tCons (tVar 7) (tCons (tC (V.int i)) tNil))
abbrev tDon (a : Ads) (K : PySem.W.Frag) : TT := tTest (tOp (rNeD K) (tStep a) (tTupm (tCons (tC (V.str (Str.ofString "done"))) (tCons (tVar 5) tNil))))
def tAfter (a : Ads) (K : PySem.W.Frag) : TS :=
  tSeq (tIfS (tOr (tDon a K) (tTest (tOp rNe (tCB (rLen K) (tCons (tVar 8) tNil)) (tLenSetT K (tVar 8))))) (tRet (tC (V.bl false))) tNext)
  (tSeq (tIfS (tOr (tNot (tB (tMis a 0))) (tOr (tNot (tB (tMis a 1))) (tDon a K))) (tRet (tC (V.bl false))) tNext)
  (tRet (tOp (rEqD K) (tMeth a.C_TestedAsker (Str.ofString "report") (sp_TestedAsker_report a) [] E0 (tVar 7) tNil)
    (tTupm (tCons (tCB (rLen K) (tCons (tVar 8) tNil)) (tCons (tCB (rSum K) (tCons (tLcL K (tVar 8) (gName 11) tYes (tCB (rLen K) (tCons (tVar 11) tNil)) (List.map (fun x => x.snd) [(Str.ofString "_law_word", 11)])) tNil)) (tCons (tC (V.int 0)) (tCons (tC (V.int 0)) tNil))))))))
theorem don_py (L : Mach) : (D.t [.s "done", mDt L]).py = (donD L).py := by
  unfold donD
  simp only [D.py, D.pys, mD_py]
section
variable {K : PySem.W.Frag} {a : Ads} {B M : Mach} {m Lw : Nat} {N N2 NT NA : Fp} {H : Hp} {t kd wl : Addr} {p : AP} {g : AG} {st mv lv x y : V} {qs : List (List Nat × Nat)} {Q : VK}
theorem neDone (h : At N H x (donD B)) (g : At N2 H y (.t [.s "done", mDt B])) (q : Q (.bl false) H) : rNeD K x y H Q :=
  ⟨_, _, h.dp, g.dp, (sh_don B).ok (by decide), by rw [don_py]; exact (sh_don B).ok (by decide), by rw [don_py, SeqAt.eqv_refl _ (sh_don B).lay]; exact q⟩
/-- step() != ("done", least) -/
theorem don_false {σ : L2.St} {Q : Bool → Hp → Prop} {s : Addr} {o asked lets i : Nat} {tests : List (List Nat)} (h7 : σ[7]? = some (some (.ref t))) (h5 : σ[5]? = some (some lv)) (hT : TAt a NT NA H t kd s o m qs asked lets tests i st) (hst : At NT H st (donD B)) (hlv : At NT H lv (mDt B))
    (q : ∀ H', Sm H H' → Q false H') : tDon a K σ H Q := by
  obtain ⟨tv, ⟨dx, hHt⟩, _⟩ := hT.ins
  refine ⟨_, h7, t, dx, _, rfl, hHt, rfl, NT, NA, t, kd, s, o, m, qs, asked, lets, i, tests, st, rfl, hT, .inr ⟨B, hst, fun H1 s1 => ?_⟩⟩
  refine ⟨_, h5, mkT (hT.wf.ev s1) (by simp) (.cons (.s _) (.cons (hlv.sm s1) .nil)) fun b H2 s2 h2 => ?_⟩
  exact neDone (hst.sm (s1.trans s2)) h2 ⟨_, rfl, q H2 (s1.trans s2)⟩
theorem mis_true {σ : L2.St} {Q : VK} {s : Addr} {o asked lets i j : Nat} {tests : List (List Nat)} (hj : j ≤ 1) (h7 : σ[7]? = some (some (.ref t))) (hT : TAt a NT NA H t kd s o m qs asked lets tests i st) (q : ∀ H', Sm H H' → Q (.bl true) H') : tMis a (j : Int) σ H Q := by
  obtain ⟨tv, ⟨dx, hHt⟩, _⟩ := hT.ins
  exact ⟨_, h7, t, j, _, rfl, hj, ⟨dx, hHt⟩, rfl, rfl, q⟩
theorem sum_cast : ∀ w : List Nat, (w.map fun (x : Nat) => (x : Int)).sum = (w.sum : Int)
  | [] => rfl
  | x :: w => by
    rw [List.map_cons, List.sum_cons, sum_cast w, List.sum_cons]
    push_cast
    rfl
theorem sh_four (i j k l : Nat) : Sh 1 (D.t [.n i, .n j, .n k, .n l]).py := by
  rw [D.py, D.pys_map]
  refine .tuple fun x hx => ?_
  simp only [List.map_cons, List.map_nil, List.mem_cons, List.not_mem_nil, or_false] at hx
  rcases hx with rfl | rfl | rfl | rfl <;> (rw [D.py]; exact Sh.int _)
theorem after_ok (hM : M.Ok) (hL : IsL M B) (h : LawW a B M m Lw NT NA H t kd wl p g st mv lv qs) (hd : ∃ tests i L, TAt a NT NA (hid H wl) t kd p.s B.o m qs qs.length (lsum qs) tests i st ∧ At NT (hid H wl) st (donD L) ∧ DonOk B L) {Dn : Ends} {x0 x1 x2 x3 x4 x6 x9 x10 x11 : Option V}
    (q : ∀ H', Dn.rt (.bl true) H') : tAfter a K Dn [x0, x1, x2, x3, x4, some lv, x6, some (.ref t), some (.ref wl), x9, x10, x11] H := by
  obtain ⟨tests, i, L, hT0, hst0, M0, hM0, hL0, ek, eo, eqv⟩ := hd
  have hB := hL.p hM
  obtain rfl : L = B := IsL.same hM0 hM (ek.trans hB.k) (eo.trans hB.o) hL0 hL (eqv.trans ek hB.eqv)
  have hT := hT0.sm hid_up
  have hst := hst0.sm hid_up
  have hlv := h.lv.sm hid_up
  obtain ⟨vs, hwl, hws0⟩ := h.wl
  have hws := hws0.sm hid_up
  have Lw0 : Lst NT H wl ((qs.map (·.1)).map wT) := ⟨vs, hwl, hws⟩
  have hlen : (qs.map (·.1)).length = qs.length := List.length_map _
  have hl1 := h.len
  refine don_false rfl rfl hT hst hlv fun H1 s1 => ifF rfl ?_
  refine ⟨_, rfl, lenLs (Lw0.sm s1) ⟨_, rfl, ?_⟩⟩
  unfold rLenSetT
  refine ⟨F0, qs.map (·.1), (Lw0.sm s1).at (fun z => z) (fun _ z => z.elim), h.nd, by omega, rfl, _, rfl, ifF ?_ ?_⟩
  · rw [List.length_map, decide_eq_true rfl]
    rfl
  have hT1 := hT.sm s1
  refine mis_true (j := 0) (by omega) rfl hT1 fun H2 s2 => ⟨true, rfl, ifF rfl ?_⟩
  refine mis_true (j := 1) (by omega) rfl (hT1.sm s2) fun H3 s3 => ⟨true, rfl, ifF rfl ?_⟩
  have s03 := (s1.trans s2).trans s3
  refine don_false rfl rfl (hT.sm s03) (hst.sm s03) (hlv.sm s03) fun H4 s4 => ifF rfl ?_
  have s04 := s03.trans s4
  have hT4 := hT.sm s04
  obtain ⟨tv, ⟨dx, hHt⟩, _⟩ := hT4.ins
  refine ⟨_, rfl, t, dx, _, rfl, hHt, rfl, NT, NA, t, kd, p.s, L.o, m, qs, qs.length, lsum qs, i, tests, st, rfl, hT4, fun r H5 s5 hr5 => ?_⟩
  have s05 := s04.trans s5
  refine ⟨_, rfl, lenLs (Lw0.sm s05) ⟨_, rfl, ?_⟩⟩
  refine lcLs (qs.map (·.1)) wT (fun u => D.n u.length) (hT4.wf.ev s5) (Lw0.sm s05) (by omega) (fun _ => rfl) (fun u hu z H' N' s' W' _ hn' hz' R k' => ⟨_, rfl, lenT hz' (k' _ _ (.refl _ _) (by rw [List.length_map]; exact .n _))⟩) fun b H6 s6 hb h6 => ?_
  have e0 : (qs.map (·.1)).map (fun u => D.n u.length) = ((qs.map (·.1)).map List.length).map D.n := by
    simp only [List.map_map]
    rfl
  rw [e0] at h6
  obtain ⟨b', vs', e, nb, hb', rz⟩ := h6.lst
  cases e
  have ev := rz.isInts
  have el : lsum qs = ((qs.map (·.1)).map List.length).sum := by
    unfold lsum
    rw [List.map_map]
    rfl
  generalize (qs.map (·.1)).map List.length = w at ev el
  refine ⟨b, w.map fun (x : Nat) => (x : Int), rfl, SqL.of (by rw [hb', ev, List.map_map]; rfl), ?_⟩
  have eV : V.int ((w.map fun (x : Nat) => (x : Int)).sum) = nV (lsum qs) := by rw [sum_cast, el]; rfl
  rw [eV]
  have four : At NT H6 r (.t [.n qs.length, .n (lsum qs), .n 0, .n 0]) := hr5.sm s6
  refine mkT (N := F0) (ds := [.n ((qs.map (·.1)).map wT).length, .n (lsum qs), .n 0, .n 0]) Wf.f0 (by simp) (.cons (.n _) (.cons (.n _) (.cons (.n 0) (.cons (.n 0) .nil)))) fun b2 H7 s7 h7 => ?_
  have e4 : ((qs.map (·.1)).map wT).length = qs.length := by rw [List.length_map, hlen]
  rw [e4] at h7
  exact eqSame (four.sm s7) h7 (sh_four _ _ _ _) (by decide) (q H7)
end
/-! one turn -/
abbrev tAns (a : Ads) : TS := tDrop (tMeth a.C_TestedAsker (Str.ofString "answer") (spFr (sp_TestedAsker_answer a)) [] E0 (tVar 7) (tCons (tCall sp__law_output [] E0 (tCons (tVar 4) (tCons (tVar 11) tNil))) tNil))
def tBody (a : Ads) (K : PySem.W.Frag) : TS :=
  tSeq (tAsg (tStep a) (gName 10))
  (tSeq (tIfS (tTest (tOp (rNeD K) (tStep a) (tVar 10))) (tRet (tC (V.bl false))) tNext)
  (tSeq (tIfS (tTest (tOp rNe (tOp (rIxTm K) (tVar 10) (tC (V.int 0))) (tC (V.str (Str.ofString "ask"))))) tBreak tNext)
  (tSeq (tAsg (tCB (rListOf K) (tCons (tOp (rIxTm K) (tVar 10) (tC (V.int 1))) tNil)) (gName 11))
  (tSeq (tIfS (tTest (tOp (rI0 fun i j => V.bl (decide (j < i))) (tCB (rLen K) (tCons (tVar 11) tNil)) (tOp (rI CMul fun i j => V.int (i * j)) (tC (V.int 3)) (tVar 6)))) (tRet (tC (V.bl false))) tNext)
  (tSeq (tDrop (tBM K "list" rAppm (tVar 8) (tCons (tCB (rTupOf K) (tCons (tVar 11) tNil)) tNil)))
  (tSeq (tDrop (tBM K "list" rAppm (tOp (rIxTm K) (tVar 10) (tC (V.int 1))) (tCons (tC (V.int 5)) tNil)))
  (tSeq (tIfS (tAnd (tTest (tOp (rI0 fun i j => V.bl (decide (i < j))) (tVar 9) (tC (V.int 3)))) (tOr (tNot (tB (tMis a 0))) (tOr (tNot (tB (tMis a 1)))
      (tTest (tOp (rNeD K) (tStep a) (tTupm (tCons (tC (V.str (Str.ofString "ask"))) (tCons (tVar 11) tNil)))))))) (tRet (tC (V.bl false))) tNext)
  (tAns a))))))))
section
variable {K : PySem.W.Frag} {a : Ads} {B M : Mach} {m Lw : Nat} {N N2 NT NA : Fp} {H H' : Hp} {t kd wl : Addr} {p : AP} {g : AG} {st mv lv x y : V} {qs : List (List Nat × Nat)} {Q : VK} {asked lets : Nat}
theorem TOut.sm (h : TOut a B m Lw NT NA H t kd p g qs asked lets st) (e : Sm H H') : TOut a B m Lw NT NA H' t kd p g qs asked lets st := by
  cases h with
  | ask x tests i u hT hV hI hst hlk hc hx => exact .ask x tests i u (hT.sm e) (hV.sm e) hI (hst.sm e) hlk hc hx
  | don tests i L hT hst hd => exact .don tests i L (hT.sm e) (hst.sm e) hd
theorem LawW.sm (h : LawW a B M m Lw NT NA H t kd wl p g st mv lv qs) (e : Sm H H') : LawW a B M m Lw NT NA H' t kd wl p g st mv lv qs := by
  have e' := hid_sm (l := wl) e
  obtain ⟨vs, h1, h2⟩ := h.wl
  exact ⟨h.out.sm e', h.mv.sm e', h.lv.sm e', ⟨vs, e.at h1, h2.sm e'⟩, h.nd, h.len⟩
theorem ask_raw {r l : Addr} {u : List Nat} (hl : H l = some (.lst (u.map nV))) (hr : H r = some (.tup [.str "ask", .ref l])) : At F0 H (.ref r) (askD u) :=
  .t (fun z => z) hr (.cons (.s _) (.cons (.l (fun z => z) hl (.ints u)) .nil))
theorem words_nt (W : Wf NT (hid H wl)) : ∀ {S : List (List Nat)} {vs : List V}, Ats (on wl) H vs (S.map wT) → Ats NT (hid H wl) vs (S.map wT)
  | [], _, .nil => .nil
  | u :: S, _, .cons h r => by
    obtain ⟨b, rfl, nb, hb⟩ := h.word
    have hb' : hid H wl b = some (.tup (u.map nV)) := (hid_ne nb).trans hb
    exact .cons (.t (W.noT hb') hb' (.ints u)) (words_nt W r)
/-- words stand where a list that is none of them is written -/
theorem words_off {l : Addr} {vs0 : List V} {H1 H2 : Hp} (e : Ev (on l) H1 H2) (hl : ∃ vs, H1 l = some (.lst vs)) : ∀ {S : List (List Nat)} {vs : List V}, Ats N H1 vs (S.map wT) → Ats N H2 vs (S.map wT)
  | [], _, .nil => .nil
  | u :: S, _, .cons h r => by
    obtain ⟨b, rfl, nb, hb⟩ := h.word
    obtain ⟨ws, hl'⟩ := id hl
    exact .cons (.t nb (e.kp _ _ hb fun z => by rw [show b = l from z, hl'] at hb; cases hb) (.ints u)) (words_off (vs0 := []) e hl r)
theorem body_ok (hM : M.Ok) (hL : IsL M B) (HP : ParT B m Lw) (h : LawW a B M m Lw NT NA H t kd wl p g st mv lv qs) {Dn : Ends} {i : Nat} {x0 x1 x2 x3 x10 x11 : Option V}
    (hnx : ∀ (NT' NA' : Fp) (p' : AP) (g' : AG) (st' : V) (qs' : List (List Nat × Nat)) (H' : Hp) (x10 x11 : Option V), LawW a B M m Lw NT' NA' H' t kd wl p' g' st' mv lv qs' → qs'.length = qs.length + 1 →
      Dn.nx [x0, x1, x2, x3, some mv, some lv, some (nV m), some (.ref t), some (.ref wl), some (nV i), x10, x11] H')
    (hbk : ∀ (H' : Hp) (x10 x11 : Option V), LawW a B M m Lw NT NA H' t kd wl p g st mv lv qs → (∃ tests i L, TAt a NT NA (hid H' wl) t kd p.s B.o m qs qs.length (lsum qs) tests i st ∧ At NT (hid H' wl) st (donD L) ∧ DonOk B L) →
      Dn.bk [x0, x1, x2, x3, some mv, some lv, some (nV m), some (.ref t), some (.ref wl), some (nV i), x10, x11] H') :
    tBody a K Dn [x0, x1, x2, x3, some mv, some lv, some (nV m), some (.ref t), some (.ref wl), some (nV i), x10, x11] H := by
  have hB := hL.p hM
  have hout := h.out
  cases hout with
  | don tests j L hT0 hst0 hd =>
    have hT := hT0.sm hid_up
    have hst := hst0.sm hid_up
    obtain ⟨tv, ⟨dx, hHt⟩, _⟩ := hT.ins
    refine ⟨_, rfl, t, dx, _, rfl, hHt, rfl, NT, NA, t, kd, p.s, B.o, m, qs, qs.length, lsum qs, j, tests, st, rfl, hT, .inr ⟨L, hst, fun H1 s1 => ?_⟩⟩
    have hT1 := hT.sm s1
    obtain ⟨tv1, ⟨dx1, hHt1⟩, _⟩ := hT1.ins
    refine ⟨_, rfl, t, dx1, _, rfl, hHt1, rfl, NT, NA, t, kd, p.s, B.o, m, qs, qs.length, lsum qs, j, tests, st, rfl, hT1, .inr ⟨L, hst.sm s1, fun H2 s2 => ?_⟩⟩
    have hst2 := hst.sm (s1.trans s2)
    refine ⟨_, rfl, neSame hst2 hst2 (sh_don L) (by decide) ⟨_, rfl, ifF rfl ?_⟩⟩
    refine ⟨_, rfl, ixT 0 hst2 rfl rfl fun z hz => ?_⟩
    rw [hz.isS]
    refine ⟨rfl, _, rfl, ifT (by decide +kernel) ?_⟩
    have s02 := s1.trans s2
    exact hbk _ _ _ (h.sm s02) ⟨tests, j, L, hT0.sm (hid_sm s02), hst0.sm (hid_sm s02), hd⟩
  | ask x tests j u hT0 hV0 hI hst0 hlk hcov hx =>
    have hT := hT0.sm hid_up
    have hst := hst0.sm hid_up
    obtain ⟨tv, ⟨dx, hHt⟩, _⟩ := hT.ins
    obtain ⟨vs, hwl, hws⟩ := h.wl
    have neW : ∀ {b : Addr}, H b = none → b ≠ wl := fun e z => by rw [z, hwl] at e; cases e
    refine ⟨_, rfl, t, dx, _, rfl, hHt, rfl, NT, NA, t, kd, p.s, B.o, m, qs, qs.length, lsum qs, j, tests, st, rfl, hT, .inl ⟨u, hst, fun r l H1 s1 hl hr nlr hl1 hr1 => ?_⟩⟩
    have hT1 := hT.sm s1
    obtain ⟨tv1, ⟨dx1, hHt1⟩, _⟩ := hT1.ins
    refine ⟨_, rfl, t, dx1, _, rfl, hHt1, rfl, NT, NA, t, kd, p.s, B.o, m, qs, qs.length, lsum qs, j, tests, st, rfl, hT1, .inl ⟨u, hst.sm s1, fun r2 l2 H2 s2 _ _ _ hl2 hr2 => ?_⟩⟩
    have hask := ask_raw (s2.at hl1) (s2.at hr1)
    refine ⟨_, rfl, neSame (ask_raw hl2 hr2) hask (sh_ask u) (by decide) ⟨_, rfl, ifF rfl ?_⟩⟩
    refine ⟨_, rfl, ixT 0 hask rfl rfl fun z hz => ?_⟩
    rw [hz.isS]
    refine ⟨rfl, _, rfl, ifF (by decide +kernel) ?_⟩
    refine ⟨_, rfl, ixT 1 hask rfl rfl fun z hz => listL hz fun q us hq hus => ?_⟩
    have s12 := s1.trans s2
    have s3 : Sm H2 (upd H2 q (.lst us)) := .new hq
    have hq3 : (upd H2 q (.lst us)) q = some (.lst (u.map nV)) := by rw [upd_same, hus.isInts]
    generalize upd H2 q (.lst us) = H3 at s3 hq3
    have s03 := s12.trans s3
    have nq : q ≠ wl := neW (s12.free hq)
    have hcl := hcov.2.1
    have lwm := HP.lwm
    have m1 := HP.p.m1
    have n4 := HP.n4
    have lw12 := HP.lw
    -- its length
    have hw3 : ∀ {N : Fp} {H' : Hp}, ¬ N q → Ev (on wl) H3 H' → At N H' (.ref q) (wL u) := fun n e => .l n (e.kp _ _ hq3 nq) (.ints u)
    refine ⟨_, rfl, lenL (hw3 (N := F0) (fun z => z) (.refl _ _)) ⟨_, rfl, _, _, rfl, rfl, .inl ⟨by decide, by decide⟩, _, _, rfl, rfl, _, rfl, ifF (decide_eq_false ?_) ?_⟩⟩
    · rw [List.length_map]
      omega
    -- noted
    have hws1 : Ats (on wl) H vs ((qs.map (·.1)).map wT) := hws.go fun b o q _ => ⟨(hid_some q).2, (hid_some q).1⟩
    have L3 : Lst (on wl) H3 wl ((qs.map (·.1)).map wT) := Lst.sm ⟨vs, hwl, hws1⟩ s03
    have W3 : Wf (on wl) H3 := fun b z => by
      obtain ⟨vs', e, _⟩ := L3.ex
      rw [show b = wl from z, e]
      exact ⟨(fun z => nomatch z), fun xs z => (by cases z)⟩
    have hlen : (qs.map (·.1)).length = qs.length := List.length_map _
    have hq1 := h.len
    refine ⟨_, rfl, L3.ty, _, rfl, tupL W3 (hw3 (N := on wl) nq (.refl _ _)) fun p4 H4 s4 h4 => ?_⟩
    refine appL (N := on wl) (L3.sm s4) rfl h4 (by rw [List.length_map]; omega) fun H5 e5 L5 => ?_
    have e35 : Ev (on wl) H3 H5 := (Ev.of s4).trans e5
    have e15 : Ev (on wl) H1 H5 := (Ev.of (s2.trans s3)).trans e35
    have e05 : Ev (on wl) H H5 := (Ev.of s1).trans e15
    have hl5 : H5 l = some (.lst (u.map nV)) := e15.kp _ _ hl1 (neW hl)
    have hr5 : H5 r = some (.tup [.str "ask", .ref l]) := e15.kp _ _ hr1 (neW hr)
    -- the step's own word is written
    have ixr : ∀ Q : VK, Q (.ref l) H5 → rIxTm K (.ref r) (.int 1) H5 Q := fun Q q => by
      unfold rIxTm
      exact ⟨r, _, 1, .ref l, rfl, rfl, SqT.of hr5, rfl, q⟩
    have Ll : Lst (on l) H5 l (u.map D.n) := ⟨_, hl5, .ints u⟩
    refine ⟨_, rfl, ixr _ ⟨Ll.ty, ?_⟩⟩
    refine appL (N := on l) (d := .n 5) Ll rfl (show At (on l) H5 (V.int 5) (.n 5) from .n 5) (by rw [List.length_map]; omega) fun H6 e6 L6 => ?_
    have e06 : Ev (on wl) H H6 := e05.then e6 fun b z => .inr (by rw [show b = l from z]; exact hl)
    have s06 : Sm (hid H wl) (hid H6 wl) := hid_wr e06
    have nlw : l ≠ wl := neW hl
    have W6 : Wf NT (hid H6 wl) := hT0.wf.ev s06
    obtain ⟨vs6, hwl6, hws6⟩ : ∃ vs6, H6 wl = some (.lst vs6) ∧ Ats NT (hid H6 wl) vs6 (((qs.map (·.1)) ++ [u]).map wT) := by
      obtain ⟨vs6, a1, a2⟩ := L5.ex
      refine ⟨vs6, e6.kp _ _ a1 (Ne.symm nlw), words_nt W6 ?_⟩
      have a3 : Ats (on wl) H5 vs6 (((qs.map (·.1)) ++ [u]).map wT) := by rw [List.map_append]; exact a2
      have a4 := words_off (vs0 := []) e6 ⟨_, hl5⟩ a3
      exact a4
    have hw6 : ∀ {N : Fp} {H' : Hp}, ¬ N q → Sm H6 H' → At N H' (.ref q) (wL u) := fun n e => .l n (e.at (e6.kp _ _ (e35.kp _ _ hq3 nq) fun z => by
      have z : q = l := z
      rw [z, s2.at hl1] at hq
      cases hq)) (.ints u)
    have hT6 := hT0.sm s06
    -- the answer
    have ans : ∀ (H7 : Hp) (x10 : Option V), Sm H6 H7 → tAns a Dn [x0, x1, x2, x3, some mv, some lv, some (nV m), some (.ref t), some (.ref wl), some (nV i), x10, some (.ref q)] H7 := fun H7 x10 s7 => by
      have s67 := hid_sm (l := wl) s7
      have hT7 := (hT6.sm s67).sm hid_up
      obtain ⟨tv7, ⟨dx7, hHt7⟩, _⟩ := hT7.ins
      have hmv7 : At F0 H7 mv (mDt M) := (((h.mv.sm s06).sm s67).sm hid_up).sub fun _ z => z.elim
      refine ⟨_, rfl, t, dx7, _, rfl, hHt7, rfl, _, rfl, _, rfl, F0, mv, _, M, u, rfl, Wf.f0, hmv7, hM, hw6 (fun z => z) s7, (fun c hc => hB.k ▸ hcov.1 c hc), by omega, fun H8 s8 => ?_⟩
      have s78 := s67.trans (hid_sm (l := wl) s8)
      have s08 := s06.trans s78
      have ef : M.outp 0 u = fB B u := (hB.eqv u hcov.1).symm
      have hx' : (∃ u, x = .ask u) ∨ ∃ L, x = .pro L := hx.elim (fun h => .inl ⟨u, h.1⟩) fun ⟨L, h, _⟩ => .inr ⟨L, h⟩
      refine ⟨wl, vs6, s8.at (s7.at hwl6), NT, NA, t, kd, p, B, m, Lw, g, qs, qs.length, lsum qs, j, tests, st, x, u, by rw [ef]; rfl, hT0.sm s08, HP, hV0.sm s08, hI, hst0.sm s08, hlk, hcov, hx, ?_⟩
      intro NT' NA' p' H' g' st' gr ev hp' out' hn
      have hku : u ∉ qs.map (·.1) := lookup_key.mp hlk
      have hlq := hI.len HP (hV0.ai hx')
      have upd' : hid (upd H' wl (.lst vs6)) wl = H' := hid_upd hn
      have up : ∀ {v : V} {d : D}, At NT (hid H wl) v d → At NT' H' v d := fun hv => (hv.sm s08).upE ev (fun _ z => z) gr.new
      refine hnx NT' NA' p' g' st' (qs ++ [(u, fB B u)]) _ _ _ ⟨?_, ?_, ?_, ⟨vs6, upd_same, ?_⟩, ?_, ?_⟩ (by simp)
      · rw [upd', lsum_snoc, List.length_append]
        exact out'
      · rw [upd']; exact up h.mv
      · rw [upd']; exact up h.lv
      · rw [upd', List.map_append]
        exact (hws6.sm s78).go fun b o e n => ⟨ev.kp _ _ e n, fun z => (gr.new b z).elim n fun z => by rw [z] at e; cases e⟩
      · rw [List.map_append, List.nodup_append]
        refine ⟨h.nd, by simp, fun c hc y hy e => ?_⟩
        rw [List.map_singleton, List.mem_singleton] at hy
        have hy' : y = u := hy
        rw [← hy', ← e] at hku
        exact hku hc
      · rw [List.length_append, List.length_singleton]
        omega
    refine ⟨_, rfl, _, _, rfl, rfl, _, rfl, ?_⟩
    by_cases hi3 : (i : Int) < 3
    · refine ifT (decide_eq_true hi3) ?_
      have hT6' := hT6.sm hid_up
      refine mis_true (j := 0) (by omega) rfl hT6' fun H7 s7 => ⟨true, rfl, ifF rfl ?_⟩
      refine mis_true (j := 1) (by omega) rfl (hT6'.sm s7) fun H8 s8 => ⟨true, rfl, ifF rfl ?_⟩
      have s68 := s7.trans s8
      have hT8 := hT6'.sm s68
      obtain ⟨tv8, ⟨dx8, hHt8⟩, _⟩ := hT8.ins
      have hst8 : At NT H8 st (askD u) := ((hst0.sm s06).sm hid_up).sm s68
      refine ⟨_, rfl, t, dx8, _, rfl, hHt8, rfl, NT, NA, t, kd, p.s, B.o, m, qs, qs.length, lsum qs, j, tests, st, rfl, hT8, .inl ⟨u, hst8, fun r9 l9 H9 s9 _ _ _ hl9 hr9 => ?_⟩⟩
      refine ⟨_, rfl, mkT (N := F0) (ds := [.s "ask", wL u]) Wf.f0 (by simp) (.cons (.s _) (.cons (hw6 (fun z => z) (s68.trans s9)) .nil)) fun b H10 s10 h10 => ?_⟩
      refine neSame (d := askD u) ((ask_raw hl9 hr9).sm s10) h10 (sh_ask u) (by decide) ⟨_, rfl, ifF rfl ?_⟩
      exact ans _ _ ((s68.trans s9).trans s10)
    · exact ifF (decide_eq_false hi3) (ans _ _ (.refl _ _))
end
/-! the asker made, the loop, what stands behind it -/
def tTail (a : Ads) (K : PySem.W.Frag) : TS :=
  tSeq (tAsg (tMake a.C_TestedAsker (sp_TestedAsker___init__ a) [] E0 (tCons (tVar 2) (tCons (tVar 3) (tCons (tVar 6) tNil)))) (gName 7))
  (tSeq (tAsg (tLstm tNil) (gName 8))
  (tSeq (tForR (tCons (tC (V.int 6000)) tNil) (gName 9) (tBody a K)) (tAfter a K)))
theorem tail_ok {K : PySem.W.Frag} {a : Ads} {B M : Mach} {m Lw : Nat} {H : Hp} {mv lv : V} (hM : M.Ok) (hL : IsL M B) (HP : ParT B m Lw) (W : Wf (Ft a.P_in_order) H) (hP : H a.P_in_order = some (.tbl #[])) (hmv : At (Ft a.P_in_order) H mv (mDt M)) (hlv : At (Ft a.P_in_order) H lv (mDt B))
    {Dn : Ends} {x0 x1 x7 x8 x9 x10 x11 : Option V} (q : ∀ H', Dn.rt (.bl true) H') : tTail a K Dn [x0, x1, some (nV B.k), some (nV B.o), some mv, some lv, some (nV m), x7, x8, x9, x10, x11] H := by
  refine ⟨_, rfl, _, rfl, _, rfl, ?_⟩
  intro t ds ht hds hne
  have f1 : Sm H (upd H ds (.own t)) := .new hds
  have f2 : Sm (upd H ds (.own t)) (upd (upd H ds (.own t)) t (.ins a.C_TestedAsker ds [])) := .new (by rw [upd_ne (Ne.symm hne)]; exact ht)
  have i2 : Ins (upd (upd H ds (.own t)) t (.ins a.C_TestedAsker ds [])) t a.C_TestedAsker [] := ⟨ds, upd_same⟩
  have s2 := f1.trans f2
  generalize upd (upd H ds (.own t)) t (.ins a.C_TestedAsker ds []) = H2 at s2 i2
  clear f1 f2
  have hP2 := s2.at hP
  have ntP : t ≠ a.P_in_order := fun e => by rw [e, hP] at ht; cases ht
  have W2 : Wf (ad t (Ft a.P_in_order)) H2 := by
    obtain ⟨dz, hz⟩ := i2
    exact (W.ev s2).ad hz
  have T2 : Tab (ad t (Ft a.P_in_order)) H2 a.P_in_order := ⟨_, hP2, True.intro, fun pos cv hc => by
    have z : codeAmong pos [] = some cv := hc
    simp [codeAmong] at z⟩
  refine ⟨ad t (Ft a.P_in_order), t, B, m, Lw, rfl, W2, .inl rfl, .inr rfl, fun b z => z, ntP, T2, i2, HP, fun NT NA p kd H3 g st gr ev out => ⟨rfl, ?_⟩⟩
  have up : ∀ {v : V} {d : D}, At (Ft a.P_in_order) H v d → At NT H3 v d := fun hv => (hv.ad ht s2).upE ev (fun _ z => z) gr.new
  unfold tLstm rMkL
  refine ⟨by simp, fun wl hwl => ?_⟩
  have ehid : hid (upd H3 wl (.lst [])) wl = H3 := hid_upd hwl
  refine forR 6000 rfl (by omega) (fun i σ' H' => ∃ (NT NA : Fp) (p : AP) (g : AG) (st : V) (qs : List (List Nat × Nat)) (x9 x10 x11 : Option V), LawW a B M m Lw NT NA H' t kd wl p g st mv lv qs ∧ qs.length = i ∧
      σ' = [x0, x1, some (nV B.k), some (nV B.o), some mv, some lv, some (nV m), some (.ref t), some (.ref wl), x9, x10, x11])
    ⟨NT, NA, p, g, st, [], x9, x10, x11, ⟨by rw [ehid]; exact out, by rw [ehid]; exact up hmv, by rw [ehid]; exact up hlv, ⟨[], upd_same, .nil⟩, .nil, Nat.zero_le _⟩, rfl, rfl⟩ ?_ ?_
  · rintro i σ' H4 hi ⟨NT, NA, p, g, st, qs, x9, x10, x11, hW, hlen, rfl⟩
    refine body_ok hM hL HP hW (fun NT' NA' p' g' st' qs' H' x10 x11 hW' hl' => ⟨NT', NA', p', g', st', qs', _, x10, x11, hW', by omega, rfl⟩) fun H' x10 x11 hW' hd => ?_
    exact after_ok hM hL hW' hd q
  · rintro σ' H4 ⟨NT, NA, p, g, st, qs, x9, x10, x11, hW, hlen, rfl⟩
    have := hW.len
    omega
theorem one_mod (x k : Nat) : V.int (1 + (x : Int) % (k : Int)) = nV (1 + x % k) := by unfold nV; push_cast; rfl
section
variable {P : Program} {w : World} {K : PySem.W.Frag} {mg : Str → Option Value} {base : Heap} {a : Ads} {d : Fds}
theorem ok_law (T : TX K mg base a d) : FnOk P w K mg base CX0 12 a.f_law d.d_law ["_law_script"] (sp_law a K) := by
  refine T.F_law.ok sc_law (fun vs H Q E h => ?_) (fun cdv A outer s H vs Q E hr h => ?_)
  · obtain ⟨_, _, rfl, _⟩ := h
    rfl
  · obtain ⟨p, zs, rfl, hp, hz, hP, q⟩ := h
    have hu := hu_of hr
    refine ⟨_, (pss_cons (ps_set (i := 1) sc_law.nd rfl (Or.inl rfl) (pe_call (ok__law_row T) (hr.mono (by decide)) rfl T.g__law_row T.F__law_row.kp T.B__law_row .nil pass0 (pa_cons (pv 0) pa_nil)))
    (pss_cons (ps_set (i := 2) sc_law.nd rfl (Or.inl rfl) (pe_op op_add pe_int (pe_op op_mod (pe_callTy call_int1 (by rfl) T.b_int (by decide +kernel) (pa_cons (pe_call (ok__law_at T) (hr.mono (by decide)) rfl T.g__law_at T.F__law_at.kp T.B__law_at .nil pass0 (pa_cons (pv 1) (pa_cons pe_int pa_nil))) pa_nil)) pe_int)))
    (pss_cons (ps_set (i := 3) sc_law.nd rfl (Or.inl rfl) (pe_op op_add pe_int (pe_op op_mod (pe_callTy call_int1 (by rfl) T.b_int (by decide +kernel) (pa_cons (pe_call (ok__law_at T) (hr.mono (by decide)) rfl T.g__law_at T.F__law_at.kp T.B__law_at .nil pass0 (pa_cons (pv 1) (pa_cons pe_int pa_nil))) pa_nil)) pe_int)))
    (pss_cons (ps_set (i := 4) sc_law.nd rfl (Or.inl rfl) (pe_call (ok__law_machine T) (hr.mono (by decide)) rfl T.g__law_machine T.F__law_machine.kp T.B__law_machine .nil pass0 (pa_cons (pv 1) (pa_cons pe_int (pa_cons (pv 2) (pa_cons (pv 3) (pa_cons (pe_op op_add pe_int (pe_op op_mod (pe_callTy call_int1 (by rfl) T.b_int (by decide +kernel) (pa_cons (pe_call (ok__law_at T) (hr.mono (by decide)) rfl T.g__law_at T.F__law_at.kp T.B__law_at .nil pass0 (pa_cons (pv 1) (pa_cons pe_int pa_nil))) pa_nil)) pe_int)) pa_nil)))))))
    (pss_cons (ps_set (i := 5) sc_law.nd rfl (Or.inl rfl) (pe_call (ok__law_least T) (hr.mono (by decide)) rfl T.g__law_least T.F__law_least.kp T.B__law_least .nil pass0 (pa_cons (pv 4) pa_nil)))
    (pss_cons (ps_set (i := 6) sc_law.nd rfl (Or.inl rfl) (pe_op op_add (pe_callB (cr_lenk K) (by rfl) T.b_len (by decide +kernel) (pa_cons (pe_ix (ix_tupk K) (pv 5) pe_int (fun _ _ => rfl)) pa_nil)) (pe_op op_mod (pe_callTy call_int1 (by rfl) T.b_int (by decide +kernel) (pa_cons (pe_call (ok__law_at T) (hr.mono (by decide)) rfl T.g__law_at T.F__law_at.kp T.B__law_at .nil pass0 (pa_cons (pv 1) (pa_cons pe_int pa_nil))) pa_nil)) pe_int)))
    (pss_cons (ps_if (pt_cmpR op_eq (pv 2) pe_int (nomark _)) (pss_one (ps_set (i := 6) sc_law.nd rfl (Or.inl rfl) (pe_op op_add (pv 6) (pe_op op_mod (pe_callTy call_int1 (by rfl) T.b_int (by decide +kernel) (pa_cons (pe_call (ok__law_at T) (hr.mono (by decide)) rfl T.g__law_at T.F__law_at.kp T.B__law_at .nil pass0 (pa_cons (pv 1) (pa_cons pe_int pa_nil))) pa_nil)) pe_int)))) pss_nil)
    (pss_cons (ps_set (i := 7) sc_law.nd rfl (Or.inl rfl) (pe_make T.mk_TestedAsker (ok_TestedAsker___init__ T) (hr.mono (by decide)) rfl T.g_TestedAsker T.B_TestedAsker___init__ .nil pass0 (pa_cons (pv 2) (pa_cons (pv 3) (pa_cons (pv 6) pa_nil)))))
    (pss_cons (ps_set (i := 8) sc_law.nd rfl (Or.inl rfl) (pe_lstm pa_nil))
    (pss_cons (ps_forR PassesOwn.never rfl rfl T.b_range (pa_cons pe_int pa_nil) (pg_name (i := 9) sc_law.nd rfl (Or.inl rfl)) (pss_cons (ps_set (i := 10) sc_law.nd rfl (Or.inl rfl) (pe_meth0 (pv 7) T.cl_TestedAsker T.M_TestedAsker_step (ok_TestedAsker_step T) (hr.mono (by decide)) T.B_TestedAsker_step .nil pass0))
      (pss_cons (ps_if (pt_cmpR (op_neDk K (hu64 hr)) (pe_meth0 (pv 7) T.cl_TestedAsker T.M_TestedAsker_step (ok_TestedAsker_step T) (hr.mono (by decide)) T.B_TestedAsker_step .nil pass0) (pv 10) (nomark _)) (pss_one (ps_ret pe_bl)) pss_nil)
      (pss_cons (ps_if (pt_cmpR op_ne (pe_ix (ix_tupk K) (pv 10) pe_int (fun _ _ => rfl)) pe_str (nomark _)) (pss_one ps_break) pss_nil)
      (pss_cons (ps_set (i := 11) sc_law.nd rfl (Or.inl rfl) (pe_callTy (cr_listk K) (by rfl) T.b_list (by decide +kernel) (pa_cons (pe_ix (ix_tupk K) (pv 10) pe_int (fun _ _ => rfl)) pa_nil)))
      (pss_cons (ps_if (pt_cmpR op_gt (pe_callB (cr_lenk K) (by rfl) T.b_len (by decide +kernel) (pa_cons (pv 11) pa_nil)) (pe_op op_mul pe_int (pv 6)) (nomark _)) (pss_one (ps_ret pe_bl)) pss_nil)
      (pss_cons (ps_expr (pe_bmk K PySem.F.plainAttrs_list PySem.F.slot_list_append PySem.F.type_list_append mt_appendm (pv 8) (pa_cons (pe_callTy (cr_tupk K) (by rfl) T.b_tuple (by decide +kernel) (pa_cons (pv 11) pa_nil)) pa_nil)))
      (pss_cons (ps_expr (pe_bmk K PySem.F.plainAttrs_list PySem.F.slot_list_append PySem.F.type_list_append mt_appendm (pe_ix (ix_tupk K) (pv 10) pe_int (fun _ _ => rfl)) (pa_cons pe_int pa_nil)))
      (pss_cons (ps_if (PW.pt (pw_and (pt_cmpR op_lt (pv 9) pe_int (nomark _)) (pw_and1 (PW.pt (pw_or (pt_not (pt_val (pe_call (ok__law_misfit T) (hr.mono (by decide)) rfl T.g__law_misfit T.F__law_misfit.kp T.B__law_misfit .nil pass0 (pa_cons (pv 7) (pa_cons pe_int pa_nil))))) (pw_or (pt_not (pt_val (pe_call (ok__law_misfit T) (hr.mono (by decide)) rfl T.g__law_misfit T.F__law_misfit.kp T.B__law_misfit .nil pass0 (pa_cons (pv 7) (pa_cons pe_int pa_nil))))) (pw_or1 (pt_cmpR (op_neDk K (hu64 hr)) (pe_meth0 (pv 7) T.cl_TestedAsker T.M_TestedAsker_step (ok_TestedAsker_step T) (hr.mono (by decide)) T.B_TestedAsker_step .nil pass0) (pe_tupm (pa_cons pe_str (pa_cons (pv 11) pa_nil))) (nomark _))))))))) (pss_one (ps_ret pe_bl)) pss_nil)
      (pss_one (ps_expr (pe_meth (pv 7) T.cl_TestedAsker T.M_TestedAsker_answer (FnOk.frame (ok_TestedAsker_answer T)) (hr.mono (by decide)) T.B_TestedAsker_answer .nil pass0 (pa_cons (pe_call (ok__law_output T) (hr.mono (by decide)) rfl T.g__law_output T.F__law_output.kp T.B__law_output .nil pass0 (pa_cons (pv 4) (pa_cons (pv 11) pa_nil))) pa_nil)))))))))))))
    (pss_cons (ps_if (PW.pt (pw_or (pt_cmpR (op_neDk K (hu64 hr)) (pe_meth0 (pv 7) T.cl_TestedAsker T.M_TestedAsker_step (ok_TestedAsker_step T) (hr.mono (by decide)) T.B_TestedAsker_step .nil pass0) (pe_tupm (pa_cons pe_str (pa_cons (pv 5) pa_nil))) (nomark _)) (pw_or1 (pt_cmpR op_ne (pe_callB (cr_lenk K) (by rfl) T.b_len (by decide +kernel) (pa_cons (pv 8) pa_nil)) (pe_lenSetTT rfl (hu3 hr) rfl T.b_len rfl T.b_set (pv 8)) (nomark _))))) (pss_one (ps_ret pe_bl)) pss_nil)
    (pss_cons (ps_if (PW.pt (pw_or (pt_not (pt_val (pe_call (ok__law_misfit T) (hr.mono (by decide)) rfl T.g__law_misfit T.F__law_misfit.kp T.B__law_misfit .nil pass0 (pa_cons (pv 7) (pa_cons pe_int pa_nil))))) (pw_or (pt_not (pt_val (pe_call (ok__law_misfit T) (hr.mono (by decide)) rfl T.g__law_misfit T.F__law_misfit.kp T.B__law_misfit .nil pass0 (pa_cons (pv 7) (pa_cons pe_int pa_nil))))) (pw_or1 (pt_cmpR (op_neDk K (hu64 hr)) (pe_meth0 (pv 7) T.cl_TestedAsker T.M_TestedAsker_step (ok_TestedAsker_step T) (hr.mono (by decide)) T.B_TestedAsker_step .nil pass0) (pe_tupm (pa_cons pe_str (pa_cons (pv 5) pa_nil))) (nomark _)))))) (pss_one (ps_ret pe_bl)) pss_nil)
    (pss_one (ps_ret (pe_cmpR (op_eqDk K (hu64 hr)) (pe_meth0 (pv 7) T.cl_TestedAsker T.M_TestedAsker_report (ok_TestedAsker_report T) (hr.mono (by decide)) T.B_TestedAsker_report .nil pass0) (pe_tupm (pa_cons (pe_callB (cr_lenk K) (by rfl) T.b_len (by decide +kernel) (pa_cons (pv 8) pa_nil)) (pa_cons (pe_callB (cr_sum rfl) (by rfl) T.b_sum (by decide +kernel) (pa_cons (peLk K (pe_lc (own := [("_law_word", 11)]) rfl sc_law.nd (pi_listk K (pv 8)) (blkOk_by (own := [("_law_word", 11)]) (N := N_law) (sc := defScope s_law) (by decide +kernel)) (fun _ _ _ _ _ => (pg_name (i := 11) sc_law.nd rfl (Or.inl rfl))) (fun _ _ _ _ _ => pts_nil) (fun _ _ _ _ _ => (pe_callB (cr_lenk K) (by rfl) T.b_len (by decide +kernel) (pa_cons (pv 11) pa_nil))))) pa_nil)) (pa_cons pe_int (pa_cons pe_int pa_nil))))) (nomark _)))))))))))))))), ?_⟩
    have W0 : Wf (Ft a.P_in_order) H := fun b z => by
      rw [show b = a.P_in_order from z, hP]
      exact ⟨(fun z => nomatch z), fun xs z => (by cases z)⟩
    refine ⟨_, rfl, Ft a.P_in_order, p, zs, rfl, W0, hp, hz, fun rv H1 xs s1 hrv => ?_⟩
    have W1 := W0.ev s1
    refine ⟨_, rfl, Ft a.P_in_order, rv, xs, 0, rfl, W1, hrv, fun H2 s2 => .inl ⟨_, rfl, ?_⟩⟩
    have hrv2 := hrv.sm s2
    refine ⟨_, _, rfl, rfl, by omega, _, _, rfl, rfl, ?_⟩
    have e1 : V.int (1 + (rowAt xs 0 : Int) % 2) = nV (1 + rowAt xs 0 % 2) := one_mod _ 2
    refine ⟨_, rfl, Ft a.P_in_order, rv, xs, 1, rfl, W1.ev s2, hrv2, fun H3 s3 => .inl ⟨_, rfl, ?_⟩⟩
    have hrv3 := hrv2.sm s3
    refine ⟨_, _, rfl, rfl, by omega, _, _, rfl, rfl, ?_⟩
    have e2 : V.int (1 + (rowAt xs 1 : Int) % 3) = nV (1 + rowAt xs 1 % 3) := one_mod _ 3
    have W3 := (W1.ev s2).ev s3
    dsimp only
    rw [e1, e2]
    refine ⟨_, rfl, _, rfl, _, rfl, _, rfl, Ft a.P_in_order, rv, xs, 2, rfl, W3, hrv3, fun H4 s4 => .inl ⟨_, rfl, ?_⟩⟩
    have hrv4 := hrv3.sm s4
    have W4 := W3.ev s4
    refine ⟨_, _, rfl, rfl, by omega, _, _, rfl, rfl, ?_⟩
    have e3 : V.int (1 + (rowAt xs 2 : Int) % 4) = nV (1 + rowAt xs 2 % 4) := one_mod _ 4
    obtain ⟨k, ek⟩ : ∃ k, k = 1 + rowAt xs 0 % 2 := ⟨_, rfl⟩
    obtain ⟨o, eo⟩ : ∃ o, o = 1 + rowAt xs 1 % 3 := ⟨_, rfl⟩
    obtain ⟨n, en⟩ : ∃ n, n = 1 + rowAt xs 2 % 4 := ⟨_, rfl⟩
    rw [← ek, ← eo]
    rw [← en] at e3
    refine ⟨Ft a.P_in_order, rv, xs, 10, k, o, n, by rw [← e3]; rfl, W4, hrv4, by omega, by omega, by omega, by omega, by omega, by omega, fun mv H5 M s5 hM hMk hMo hMn hmv => ?_⟩
    have hrv5 := hrv4.sm s5
    refine ⟨_, rfl, Ft a.P_in_order, mv, M, rfl, W4.ev s5, hmv, hM, by omega, by omega, fun lv H6 L s6 hL hlv => ?_⟩
    have hB := hL.p hM
    have hLn := hB.le
    have W6 := (W4.ev s5).ev s6
    have hrv6 := hrv5.sm s6
    have hmv6 := hmv.sm s6
    have s06 := ((((s1.trans s2).trans s3).trans s4).trans s5).trans s6
    refine ⟨_, rfl, ixT 3 hlv rfl rfl fun z hz => lenT hz ⟨_, rfl, Ft a.P_in_order, rv, xs, 3, rfl, W6, hrv6, fun H7 s7 => .inl ⟨_, rfl, ?_⟩⟩⟩
    have hrv7 := hrv6.sm s7
    have W7 := W6.ev s7
    have s07 := s06.trans s7
    refine ⟨_, _, rfl, rfl, by omega, _, _, rfl, rfl, ?_⟩
    have e4 : V.int (((L.out.map D.n).length : Int) + (rowAt xs 3 : Int) % 3) = nV (L.n + rowAt xs 3 % 3) := by
      rw [List.length_map]
      unfold nV Mach.n
      push_cast
      rfl
    dsimp only
    rw [e4]
    obtain ⟨d3, ed3⟩ : ∃ d3, d3 = rowAt xs 3 % 3 := ⟨_, rfl⟩
    rw [← ed3]
    have hk := hB.k
    have ho := hB.o
    refine ⟨_, rfl, rfl, _, rfl, ?_⟩
    by_cases hk1 : k = 1
    · refine ifT (by rw [hk1]; rfl) ?_
      refine ⟨_, rfl, _, rfl, Ft a.P_in_order, rv, xs, 4, rfl, W7, hrv7, fun H8 s8 => .inl ⟨_, rfl, ?_⟩⟩
      refine ⟨_, _, rfl, rfl, by omega, _, _, rfl, rfl, ?_⟩
      have e5 : V.int (((L.n + d3 : Nat) : Int) + (rowAt xs 4 : Int) % 3) = nV (L.n + (d3 + rowAt xs 4 % 3)) := by
        unfold nV
        push_cast
        congr 1
        omega
      dsimp only
      rw [e5]
      have HP := parT (B := L) (m := L.n + (d3 + rowAt xs 4 % 3)) (d := d3 + rowAt xs 4 % 3) hB.ok (by omega) (by omega) (by omega) (by omega) rfl (by omega) (by omega)
      have e6 : nV k = nV L.k := by rw [hk, hMk]
      have e7 : nV o = nV L.o := by rw [ho, hMo]
      rw [e6, e7]
      exact tail_ok hM hL HP (W7.ev s8) ((s07.trans s8).at hP) (hmv6.sm (s7.trans s8)) (hlv.sm (s7.trans s8)) q
    · refine ifF (decide_eq_false fun z => hk1 ?_) ?_
      · have z : (k : Int) = 1 := by injection z
        omega
      have HP := parT (B := L) (m := L.n + d3) (d := d3) hB.ok (by omega) (by omega) (by omega) (by omega) rfl (by omega) (by omega)
      have e6 : nV k = nV L.k := by rw [hk, hMk]
      have e7 : nV o = nV L.o := by rw [ho, hMo]
      rw [e6, e7]
      exact tail_ok hM hL HP W7 (s07.at hP) (hmv6.sm s7) (hlv.sm s7) q
end
end Tk
/-! text E3 -/
set_option maxHeartbeats 0
namespace Tk
open PySem PyProof.Rows L2
theorem bind_law {K : PySem.W.Frag} {o : Obj} (c : SaysK K o) (s : Shared) (u : Value) : BindsTo s (fdOf K ("law", none)) ⟨[u], []⟩ [("_law_script", u)] := by
  obtain ⟨oc, od, kV, doc, pm, an, cdv, ct, osl, e, l, hc⟩ := (fE_law c).ex
  rw [e]
  exact BindsTo.of_eq rfl
theorem endE {w : World} {mg : Str → Option Value} {fa : Addr} {h : Heap} (Y : SaysE h) (G : h.Ns mainGlobals mg) (hmg : mg ("law" : Str) = some (.ref fa)) :
    ∃ K : PySem.W.Frag, K.In h ∧ LamX.LawAtS PySem.Challenge.rw_maieutic_k74_whole_tested_finds w K CX0 12 63 "_law_script" mg fa h := by
  obtain ⟨K, o, X, ho, e⟩ := Y
  have c := SaysK.of e
  have ef := hmg.symm.trans (He.glo_ok X G (c.fact 61 (f := .glo "law") rfl))
  cases ef
  refine ⟨K, X, fdOf K ("law", none), [(cAd K, pAd K)], sp_law (aE K mg) K, fun p hp => ?_, fun p hp => ?_, fun p hp => ?_, bind_law c, fun H a ns hl _ hT hS => ?_, fun base hb hG hTB => ?_⟩
  · rw [List.mem_singleton.mp hp, ← c.tab]
    exact ho
  · rw [List.mem_singleton.mp hp]
    exact c.out
  · rw [List.mem_singleton.mp hp]
    exact code_ok X c.co
  · exact ⟨a, ns, rfl, hS, hl, hT _ (List.mem_singleton.mpr rfl), fun _ => rfl⟩
  · exact ok_law (txE X G c (hTB _ (List.mem_singleton.mpr rfl)))
end Tk
open PySem PySem.W PySem.Calls PyProof.Rows
theorem PySem.Challenge.cw_maieutic_k74_whole_tested_finds_holds : PySem.Challenge.rw_maieutic_k74_whole_tested_finds.Holds := by
  w_on; o_law
  refine HandSHeadRun.head_any (r := OpenLaw.row PySem.Challenge.rw_maieutic_k74_whole_tested_finds) (q := view (OpenLaw.row PySem.Challenge.rw_maieutic_k74_whole_tested_finds).prog [66]) (H := Tk.hkE) (ob := Tk.obE) (M := 20000) (loose := Tk.looseE) (d := HandSHeadRun.topDef (OpenLaw.row PySem.Challenge.rw_maieutic_k74_whole_tested_finds).prog 66) (kwd := []) Tk.obE_eq
    (by kernel_rfl) (fun s => by kernel_rfl) Tk.runE (by kernel_rfl) (by kernel_rfl) (by kernel_rfl) (by rfl) (by first | assumption | decide +kernel) (by decide +kernel) ⟨rfl, rfl, rfl, rfl, rfl, by decide +kernel⟩ ?hw ?hc
  case hw => w_witness2
  case hc =>
    refine LamX.walk_ofTsE (l := PySem.Challenge.rw_maieutic_k74_whole_tested_finds) (n := 63) (k := 12) (x := "_law_script") (CX := fun _ => L2.CX0) rfl (by decide) (by kernel_rfl) ⟨rfl, by decide, by decide⟩ ?F (fun _ _ _ _ _ z => z)
    intro w mg fa h Y G hmg0
    have hmg : mg ("law" : PySem.Str) = some (.ref fa) := by
      have e : (HandSHeadRun.topDef (OpenLaw.row PySem.Challenge.rw_maieutic_k74_whole_tested_finds).prog 66).name = ("law" : PySem.Str) := by kernel_rfl
      rw [← e]
      exact hmg0
    exact Tk.endE Y G hmg
