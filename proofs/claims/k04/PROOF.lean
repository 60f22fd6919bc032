import PyProof.Rows.All
import Wide.All
import OpenK.AllK
import Wide.FinOn
import HandS.ForMost
import HandS.ForExc
import HandS.Wide
import HandS.TupAny
import HandS.Deep
import HandS.Style
import HandS.Walk
import HandS.IsInst
import HandS.Lambda
import HandS.Text
import HandS.TryOnly
import HandS.Conv
import HandS.RaiseFrom
import HandS.ExcCtx
import HandS.SuiteRaise
import HandS.ExcInit
import HandS.ExcInitHot
import HandS.ExcField
import HandS.HotCalls
import KE.KTryMore
import HandS.TupSets
import HandS.SortInts
import HandS.ExcIs
import KE.KExcIs
import HandS.EndOwn
import KE.KNestM
import HandS.More
import HandS.DictEq
import HandS.ListEq
import HandS.DeepEq
import PyProof.NeKinds
import PyProof.P3Eq
import HandS.HeadHook3
import KE.DataFind
import HandS.Zip
import KE.KDflt
import KE.KeyNested
import HandS.TupMul
import HandS.Finally
import HandS.Codes
import PySem.Challenge.RW_sixtyfold_k04_turned_and_turnables
set_option Elab.async false
set_option linter.all false
set_option maxRecDepth 100000
set_option maxHeartbeats 4000000
/-! Y: pure values over the abstract heap -/
namespace Y
open PySem L2

/-! ### data -/
inductive D where
  | non | bl (b : Bool) | int (i : Int) | str (x : Str) | tup (xs : List D) | lst (xs : List D) | dct (kvs : List (Str × D)) | ref (a : Addr) | ty (n : String) | ro (xs : List D) | exn (a : Addr) (d : Option Addr) (fs : List (Str × D))
mutual
inductive Rp (K : PySem.W.Frag) (F : Hp) : V → D → Prop
  | non : Rp K F .non .non
  | bl (b : Bool) : Rp K F (.bl b) (.bl b)
  | int (i : Int) : Rp K F (.int i) (.int i)
  | str (x : Str) : Rp K F (.str x) (.str x)
  | ref (a : Addr) : Rp K F (.ref a) (.ref a)
  | ty (n : String) : Rp K F (.ty n) (.ty n)
  | tup {a : Addr} {vs : List V} {xs : List D} : SqT K F a vs → RpL K F vs xs → Rp K F (.ref a) (.tup xs)
  | lst {a : Addr} {vs : List V} {xs : List D} : F a = some (.lst vs) → RpL K F vs xs → Rp K F (.ref a) (.lst xs)
  | dct {a : Addr} {ks : List (Key × V)} {kvs : List (Str × D)} : Rd F a (.dK ks) → RpD K F ks kvs → Rp K F (.ref a) (.dct kvs)
  | ro {a : Addr} {vs : List V} {xs : List D} : SqL K F a vs → RpL K F vs xs → Rp K F (.ref a) (.ro xs)
  | exn0 (a : Addr) : Rp K F (.ref a) (.exn a none [])
  | exn {a dd : Addr} {vs : List (Str × V)} {fs : List (Str × D)} : F dd = some (.xd vs) → RpF K F vs fs → Rp K F (.ref a) (.exn a (some dd) fs)
inductive RpL (K : PySem.W.Frag) (F : Hp) : List V → List D → Prop
  | nil : RpL K F [] []
  | cons {v : V} {vs : List V} {x : D} {xs : List D} : Rp K F v x → RpL K F vs xs → RpL K F (v :: vs) (x :: xs)
inductive RpD (K : PySem.W.Frag) (F : Hp) : List (Key × V) → List (Str × D) → Prop
  | nil : RpD K F [] []
  | cons {s : Str} {v : V} {ks : List (Key × V)} {x : D} {kvs : List (Str × D)} : Rp K F v x → RpD K F ks kvs → RpD K F ((.inr s, v) :: ks) ((s, x) :: kvs)
inductive RpF (K : PySem.W.Frag) (F : Hp) : List (Str × V) → List (Str × D) → Prop
  | nil : RpF K F [] []
  | cons {s : Str} {v : V} {ks : List (Str × V)} {x : D} {kvs : List (Str × D)} : Rp K F v x → RpF K F ks kvs → RpF K F ((s, v) :: ks) ((s, x) :: kvs)
end

theorem rd_mono {F F' : Hp} {a : Addr} {u : HO} (e : Same F F') (h : Rd F a u) : Rd F' a u := h.imp (e _ _) fun ⟨o, q⟩ => ⟨o, e _ _ q⟩
theorem sqt_mono {K : PySem.W.Frag} {F F' : Hp} {a : Addr} {vs : List V} (e : Same F F') (h : SqT K F a vs) : SqT K F' a vs := by
  rcases h with (h | ⟨o, h⟩) | h
  · exact .inl (.inl (e _ _ h))
  · exact .inl (.inr ⟨o, e _ _ h⟩)
  · exact .inr h

section
variable {K : PySem.W.Frag} {F F' : Hp}
mutual
theorem Rp.mono (e : Same F F') : ∀ {v : V} {x : D}, Rp K F v x → Rp K F' v x
  | _, _, .non => .non
  | _, _, .bl b => .bl b
  | _, _, .int i => .int i
  | _, _, .str x => .str x
  | _, _, .ref a => .ref a
  | _, _, .ty n => .ty n
  | _, _, .tup h t => .tup (sqt_mono e h) (RpL.mono e t)
  | _, _, .lst h t => .lst (e _ _ h) (RpL.mono e t)
  | _, _, .dct h t => .dct (rd_mono e h) (RpD.mono e t)
  | _, _, .ro h t => .ro (e.seq h) (RpL.mono e t)
  | _, _, .exn0 a => .exn0 a
  | _, _, .exn h t => .exn (e _ _ h) (RpF.mono e t)
theorem RpL.mono (e : Same F F') : ∀ {vs : List V} {xs : List D}, RpL K F vs xs → RpL K F' vs xs
  | _, _, .nil => .nil
  | _, _, .cons h t => .cons (Rp.mono e h) (RpL.mono e t)
theorem RpD.mono (e : Same F F') : ∀ {ks : List (Key × V)} {kvs : List (Str × D)}, RpD K F ks kvs → RpD K F' ks kvs
  | _, _, .nil => .nil
  | _, _, .cons h t => .cons (Rp.mono e h) (RpD.mono e t)
theorem RpF.mono (e : Same F F') : ∀ {ks : List (Str × V)} {kvs : List (Str × D)}, RpF K F ks kvs → RpF K F' ks kvs
  | _, _, .nil => .nil
  | _, _, .cons h t => .cons (Rp.mono e h) (RpF.mono e t)
end
theorem RpL.len : ∀ {vs : List V} {xs : List D}, RpL K F vs xs → vs.length = xs.length
  | _, _, .nil => rfl
  | _, _, .cons _ t => by rw [List.length_cons, List.length_cons, RpL.len t]
theorem RpL.get : ∀ {vs : List V} {xs : List D} {i : Nat} {x : D}, RpL K F vs xs → xs[i]? = some x → ∃ v, vs[i]? = some v ∧ Rp K F v x
  | _, _, _, _, .nil, e => by simp at e
  | _, _, 0, _, .cons h _, e => by simp at e; subst e; exact ⟨_, rfl, h⟩
  | _, _, i + 1, x, .cons _ t, e => by
    obtain ⟨v, h1, h2⟩ := RpL.get (i := i) (x := x) t (by simpa using e)
    exact ⟨v, by simpa using h1, h2⟩
theorem RpL.got : ∀ {vs : List V} {xs : List D} {i : Nat} {v : V}, RpL K F vs xs → vs[i]? = some v → ∃ x, xs[i]? = some x ∧ Rp K F v x
  | _, _, _, _, .nil, e => by simp at e
  | _, _, 0, _, .cons h _, e => by simp at e; subst e; exact ⟨_, rfl, h⟩
  | _, _, i + 1, v, .cons _ t, e => by
    obtain ⟨x, h1, h2⟩ := RpL.got (i := i) (v := v) t (by simpa using e)
    exact ⟨x, by simpa using h1, h2⟩
theorem RpL.app : ∀ {vs : List V} {xs : List D} {ws : List V} {ys : List D}, RpL K F vs xs → RpL K F ws ys → RpL K F (vs ++ ws) (xs ++ ys)
  | _, _, _, _, .nil, s => s
  | _, _, _, _, .cons h t, s => .cons h (RpL.app t s)
theorem RpL.drp : ∀ {vs : List V} {xs : List D} (n : Nat), RpL K F vs xs → RpL K F (vs.drop n) (xs.drop n)
  | _, _, 0, r => r
  | _, _, _ + 1, .nil => .nil
  | _, _, n + 1, .cons _ t => RpL.drp n t
theorem RpL.tak : ∀ {vs : List V} {xs : List D} (n : Nat), RpL K F vs xs → RpL K F (vs.take n) (xs.take n)
  | _, _, 0, _ => .nil
  | _, _, _ + 1, .nil => .nil
  | _, _, n + 1, .cons h t => .cons h (RpL.tak n t)
theorem RpL.setAt {v : V} {x : D} (h : Rp K F v x) : ∀ {vs : List V} {xs : List D} (i : Nat), RpL K F vs xs → RpL K F (vs.set i v) (xs.set i x)
  | _, _, _, .nil => .nil
  | _, _, 0, .cons _ t => .cons h t
  | _, _, i + 1, .cons q t => .cons q (RpL.setAt h i t)
theorem RpL.rev : ∀ {vs : List V} {xs : List D}, RpL K F vs xs → RpL K F vs.reverse xs.reverse
  | _, _, .nil => .nil
  | _, _, .cons h t => by rw [List.reverse_cons, List.reverse_cons]; exact RpL.app (RpL.rev t) (.cons h .nil)
theorem RpL.ints : ∀ {vs : List V} {ns : List Int}, RpL K F vs (ns.map D.int) → vs = ns.map V.int
  | _, [], .nil => rfl
  | _, n :: ns, .cons h t => by
    cases h
    rw [RpL.ints t]
    rfl
theorem RpL.strs : ∀ {vs : List V} {ns : List Str}, RpL K F vs (ns.map D.str) → vs = ns.map V.str
  | _, [], .nil => rfl
  | _, n :: ns, .cons h t => by
    cases h
    rw [RpL.strs t]
    rfl
theorem RpL.of_ints : ∀ (ns : List Int), RpL K F (ns.map V.int) (ns.map D.int)
  | [] => .nil
  | n :: ns => .cons (.int n) (RpL.of_ints ns)
theorem RpL.of_strs : ∀ (ns : List Str), RpL K F (ns.map V.str) (ns.map D.str)
  | [] => .nil
  | n :: ns => .cons (.str n) (RpL.of_strs ns)
theorem RpL.erase : ∀ {vs : List V} {xs : List D} (i : Nat), RpL K F vs xs → RpL K F (vs.eraseIdx i) (xs.eraseIdx i)
  | _, _, _, .nil => .nil
  | _, _, 0, .cons _ t => t
  | _, _, i + 1, .cons q t => .cons q (RpL.erase i t)
end

/-! ### values of expressions, stores -/
inductive O where
  | lst (xs : List D) | dct (kvs : List (Str × D))
inductive U where
  | d (x : D) | own (o : O) | bor (o : O)
abbrev Env := List (Option U)
inductive Cell where
  | lst (xs : List D) | ins (C : Addr) (fs : List (Str × D)) | tbl | dct (kvs : List (Str × D)) | ext (ψ : List V → HO) (xs : List D) (cs : List Addr)
abbrev G := Addr → Option Cell
@[simp] def O.fz : O → D
  | .lst xs => .lst xs
  | .dct kvs => .dct kvs
/-- what is read: an object of the store by what it holds -/
def look (g : G) : D → D
  | .ref a => match g a with
    | some (.lst xs) => .lst xs
    | some (.dct xs) => .dct xs
    | _ => .ref a
  | x => x
section
variable (g : G)
@[simp] theorem look_non : look g .non = .non := rfl
@[simp] theorem look_bl (b : Bool) : look g (.bl b) = .bl b := rfl
@[simp] theorem look_int (i : Int) : look g (.int i) = .int i := rfl
@[simp] theorem look_str (z : Str) : look g (.str z) = .str z := rfl
@[simp] theorem look_tup (xs : List D) : look g (.tup xs) = .tup xs := rfl
@[simp] theorem look_lst (xs : List D) : look g (.lst xs) = .lst xs := rfl
@[simp] theorem look_dct (xs : List (Str × D)) : look g (.dct xs) = .dct xs := rfl
@[simp] theorem look_ty (n : String) : look g (.ty n) = .ty n := rfl
@[simp] theorem look_ro (xs : List D) : look g (.ro xs) = .ro xs := rfl
@[simp] theorem look_exn (a : Addr) (d : Option Addr) (fs : List (Str × D)) : look g (.exn a d fs) = .exn a d fs := rfl
@[simp] theorem look_ref {g : G} {a : Addr} {xs : List D} (h : g a = some (.lst xs)) : look g (.ref a) = .lst xs := by
  unfold look
  dsimp only
  rw [h]
end
@[simp] theorem look_refd {g : G} {a : Addr} {xs : List (Str × D)} (h : g a = some (.dct xs)) : look g (.ref a) = .dct xs := by
  unfold look
  dsimp only
  rw [h]
@[simp] def view (g : G) : U → D
  | .d x => look g x
  | .own o => o.fz
  | .bor o => o.fz
def OOk (K : PySem.W.Frag) (F H : Hp) (a : Addr) : O → Prop
  | .lst xs => ∃ vs, H a = some (.lst vs) ∧ RpL K F vs xs
  | .dct kvs => ∃ ks, H a = some (.dK ks) ∧ RpD K F ks kvs
/-- the lambdas of the law's own def -/
abbrev lamQ : Str := "law.<locals>.<lambda>"
def CellOk (K : PySem.W.Frag) (F H : Hp) (a : Addr) : Cell → Prop
  | .lst xs => ∃ vs, H a = some (.lst vs) ∧ RpL K F vs xs
  | .ins C fs => ∃ dx vs, H a = some (.ins C dx vs) ∧ H dx = some (.own a) ∧ F dx = none ∧ RpF K F vs fs
  | .dct kvs => ∃ ks, H a = some (.dK ks) ∧ RpD K F ks kvs
  | .ext ψ xs cs => ∃ vs, H a = some (ψ vs) ∧ RpL K F vs xs ∧ ∀ c ∈ cs, F c = some (LamX.CodeO c lamQ)
  | .tbl => ∃ ps : Array Value, H a = some (.tbl ps) ∧ TriplesOk ps.toList ∧ ∀ (pos : Pos) (cv : Value), codeAmong pos ps.toList = some cv → ∃ c, cv = .ref c ∧ F c = some (LamX.CodeO c lamQ)
/-- the entry of a def: what was frozen, the heap, the store -/
structure Ent where
  F : Hp
  H : Hp
  g : G
def SlotOk (K : PySem.W.Frag) (E : Ent) (F H : Hp) (g : G) (v : V) : U → Prop
  | .d x => Rp K F v x
  | .own o => ∃ a, v = .ref a ∧ OOk K F H a o ∧ F a = none ∧ g a = none ∧ E.H a = none
  | .bor _ => False
def UOk (K : PySem.W.Frag) (E : Ent) (F H : Hp) (g : G) (v : V) : U → Prop
  | .d x => Rp K F v x
  | .own o => ∃ a, v = .ref a ∧ OOk K F H a o ∧ F a = none ∧ g a = none ∧ E.H a = none
  | .bor o => ∃ a, v = .ref a ∧ OOk K F H a o ∧ F a = none ∧ g a = none ∧ E.H a = none
def Fresh (H : Hp) (v : V) : U → Prop
  | .own _ => ∀ a, v = .ref a → H a = none
  | _ => True
structure Stt (K : PySem.W.Frag) (E : Ent) (F H : Hp) (σ : L2.St) (ρ : Env) (g : G) : Prop where
  ext : Same F H
  ext0 : Same E.F F
  len : ρ.length = σ.length
  slot : ∀ (i : Nat) (u : U), ρ[i]? = some (some u) → ∃ v, σ[i]? = some (some v) ∧ SlotOk K E F H g v u
  sep : ∀ (i j : Nat) (o p : O), ρ[i]? = some (some (.own o)) → ρ[j]? = some (some (.own p)) → i ≠ j → σ[i]? ≠ σ[j]?
  cell : ∀ a c, g a = some c → CellOk K F H a c ∧ F a = none
  keep : ∀ a o, E.H a = some o → E.F a = none → E.g a = none → H a = some o ∧ F a = none ∧ g a = none
  trk : ∀ a, H a = none → E.H a = none
structure Stp (g : G) (F H : Hp) (g' : G) (F' H' : Hp) : Prop where
  ext : Same F F'
  keep : ∀ a o, H a = some o → F a = none → g a = none → H' a = some o ∧ F' a = none ∧ g' a = none
  trk : ∀ a, H' a = none → H a = none
theorem Stp.refl (g : G) (F H : Hp) : Stp g F H g F H := ⟨Same.refl F, fun _ _ h1 h2 h3 => ⟨h1, h2, h3⟩, fun _ h => h⟩
theorem Stp.trans {g g1 g2 : G} {F F1 F2 H H1 H2 : Hp} (a : Stp g F H g1 F1 H1) (b : Stp g1 F1 H1 g2 F2 H2) : Stp g F H g2 F2 H2 :=
  ⟨a.ext.trans b.ext, fun x o h1 h2 h3 => let ⟨k1, k2, k3⟩ := a.keep x o h1 h2 h3; b.keep x o k1 k2 k3, fun x h => a.trk x (b.trk x h)⟩
theorem Fresh.back {g g' : G} {F F' H H' : Hp} (s : Stp g F H g' F' H') {v : V} {u : U} (h : Fresh H' v u) : Fresh H v u := by
  cases u with
  | d x => trivial
  | own o => exact fun a e => s.trk a (h a e)
  | bor o => trivial
theorem upd_free {H : Hp} {p b : Addr} {o : HO} (h : upd H p o b = none) : H b = none := by
  by_cases e : b = p
  · subst e; rw [upd_same] at h; cases h
  · rw [upd_ne e] at h; exact h
section
variable {K : PySem.W.Frag} {E : Ent} {F H F' H' : Hp} {σ : L2.St} {ρ : Env} {g g' : G} {v : V}
theorem OOk.there {a : Addr} {o : O} (h : OOk K F H a o) : ∃ u, H a = some u := by
  cases o with
  | lst xs => obtain ⟨vs, h1, _⟩ := h; exact ⟨_, h1⟩
  | dct xs => obtain ⟨vs, h1, _⟩ := h; exact ⟨_, h1⟩
theorem CellOk.there {a : Addr} {c : Cell} (h : CellOk K F H a c) : ∃ u, H a = some u := by
  cases c with
  | lst xs => obtain ⟨vs, h1, _⟩ := h; exact ⟨_, h1⟩
  | ins C fs => obtain ⟨dx, vs, h1, _⟩ := h; exact ⟨_, h1⟩
  | ext ψ xs cs => obtain ⟨vs, h1, _⟩ := h; exact ⟨_, h1⟩
  | tbl => obtain ⟨ps, h1, _⟩ := h; exact ⟨_, h1⟩
  | dct xs => obtain ⟨vs, h1, _⟩ := h; exact ⟨_, h1⟩
/-- the object at a stands, what it holds is told over a greater frozen part -/
theorem OOk.at {a : Addr} {o : O} (e : Same F F') (h : OOk K F H a o) (k : ∀ u, H a = some u → H' a = some u) : OOk K F' H' a o := by
  cases o with
  | lst xs => obtain ⟨vs, h1, h2⟩ := h; exact ⟨vs, k _ h1, h2.mono e⟩
  | dct xs => obtain ⟨vs, h1, h2⟩ := h; exact ⟨vs, k _ h1, h2.mono e⟩
theorem UOk.step {u : U} (s : Stp g F H g' F' H') (h : UOk K E F H g v u) : UOk K E F' H' g' v u := by
  cases u with
  | d x => exact h.mono s.ext
  | own o =>
    obtain ⟨a, e, h1, h2, h3, h4⟩ := h
    obtain ⟨q, hq⟩ := h1.there
    obtain ⟨_, k2, k3⟩ := s.keep a q hq h2 h3
    exact ⟨a, e, h1.at s.ext fun w hw => (s.keep a w hw h2 h3).1, k2, k3, h4⟩
  | bor o =>
    obtain ⟨a, e, h1, h2, h3, h4⟩ := h
    obtain ⟨q, hq⟩ := h1.there
    obtain ⟨_, k2, k3⟩ := s.keep a q hq h2 h3
    exact ⟨a, e, h1.at s.ext fun w hw => (s.keep a w hw h2 h3).1, k2, k3, h4⟩
/-! what is free in H is free everywhere -/
theorem Stt.freeF (S : Stt K E F H σ ρ g) {p : Addr} (h : H p = none) : F p = none := by
  cases q : F p with
  | none => rfl
  | some o => rw [S.ext p o q] at h; cases h
theorem Stt.freeG (S : Stt K E F H σ ρ g) {p : Addr} (h : H p = none) : g p = none := by
  cases q : g p with
  | none => rfl
  | some c =>
    obtain ⟨u, e⟩ := (S.cell p c q).1.there
    rw [e] at h
    cases h
theorem same_upd {p : Addr} {o : HO} (h : F p = none) : Same F (upd F p o) := fun b u e => by rw [upd_ne (ne_of_none e h)]; exact e
theorem same_both (e : Same F H) {p : Addr} {o : HO} : Same (upd F p o) (upd H p o) := fun b u q => by
  by_cases hb : b = p
  · subst hb
    rw [upd_same] at q ⊢
    exact q
  · rw [upd_ne hb] at q ⊢
    exact e b u q
/-- the state behind a step that leaves the slots -/
theorem Stt.stp (S : Stt K E F H σ ρ g) (s : Stp g F H g' F' H') (x : Same F' H') (c : ∀ a c, g' a = some c → CellOk K F' H' a c ∧ F' a = none) : Stt K E F' H' σ ρ g' where
  ext := x
  ext0 := S.ext0.trans s.ext
  len := S.len
  slot := fun i u h => by
    obtain ⟨v, h1, h2⟩ := S.slot i u h
    refine ⟨v, h1, ?_⟩
    cases u with
    | d y => exact h2.mono s.ext
    | own o =>
      obtain ⟨a, ea, q1, q2, q3, q4⟩ := h2
      obtain ⟨w, hw⟩ := q1.there
      exact ⟨a, ea, q1.at s.ext fun w hw => (s.keep a w hw q2 q3).1, (s.keep a w hw q2 q3).2.1, (s.keep a w hw q2 q3).2.2, q4⟩
    | bor o => exact h2
  sep := S.sep
  cell := c
  keep := fun a o h1 h2 h3 => by
    obtain ⟨k1, k2, k3⟩ := S.keep a o h1 h2 h3
    exact s.keep a o k1 k2 k3
  trk := fun a h => S.trk a (s.trk a h)
theorem CellOk.at {a : Addr} {c : Cell} (e : Same F F') (h : CellOk K F H a c) (k : ∀ b o, H b = some o → F b = none → H' b = some o ∧ F' b = none) (f : F a = none) : CellOk K F' H' a c := by
  cases c with
  | lst xs => obtain ⟨vs, h1, h2⟩ := h; exact ⟨vs, (k a _ h1 f).1, h2.mono e⟩
  | ins C fs =>
    obtain ⟨dx, vs, h1, h2, h3, h4⟩ := h
    exact ⟨dx, vs, (k a _ h1 f).1, (k dx _ h2 h3).1, (k dx _ h2 h3).2, h4.mono e⟩
  | dct xs => obtain ⟨vs, h1, h2⟩ := h; exact ⟨vs, (k a _ h1 f).1, h2.mono e⟩
  | ext ψ xs cs => obtain ⟨vs, h1, h2, h3⟩ := h; exact ⟨vs, (k a _ h1 f).1, h2.mono e, fun c hc => e c _ (h3 c hc)⟩
  | tbl =>
    obtain ⟨ps, h1, h2, h3⟩ := h
    exact ⟨ps, (k a _ h1 f).1, h2, fun pos cv hc => (h3 pos cv hc).imp fun c q => ⟨q.1, e c _ q.2⟩⟩
theorem keep_new {p : Addr} {o : HO} (hp : H p = none) (b : Addr) (u : HO) (h : H b = some u) (f : F b = none) : (upd H p o) b = some u ∧ F b = none := ⟨by rw [upd_ne (ne_of_none h hp)]; exact h, f⟩
theorem keep_newF {p : Addr} {o : HO} (hp : H p = none) (b : Addr) (u : HO) (h : H b = some u) (f : F b = none) : (upd H p o) b = some u ∧ (upd F p o) b = none :=
  ⟨by rw [upd_ne (ne_of_none h hp)]; exact h, by rw [upd_ne (ne_of_none h hp)]; exact f⟩
theorem Stp.newO {p : Addr} {o : HO} (hp : H p = none) : Stp g F H g F (upd H p o) := ⟨Same.refl F, fun a u h1 h2 h3 => ⟨(keep_new hp a u h1 h2).1, h2, h3⟩, fun _ h => upd_free h⟩
theorem Stp.newF {p : Addr} {o : HO} (S : Stt K E F H σ ρ g) (hp : H p = none) : Stp g F H g (upd F p o) (upd H p o) :=
  ⟨same_upd (S.freeF hp), fun a u h1 h2 h3 => ⟨(keep_newF hp a u h1 h2).1, (keep_newF hp a u h1 h2).2, h3⟩, fun _ h => upd_free h⟩
/-- a new object, not frozen; a new object, frozen -/
theorem Stt.newO (S : Stt K E F H σ ρ g) {p : Addr} {o : HO} (hp : H p = none) : Stt K E F (upd H p o) σ ρ g :=
  S.stp (Stp.newO hp) (fun b u e => by rw [upd_ne (ne_of_none (S.ext b u e) hp)]; exact S.ext b u e) fun a c h => ⟨(S.cell a c h).1.at (Same.refl F) (keep_new hp) (S.cell a c h).2, (S.cell a c h).2⟩
theorem Stt.newF (S : Stt K E F H σ ρ g) {p : Addr} {o : HO} (hp : H p = none) : Stt K E (upd F p o) (upd H p o) σ ρ g :=
  S.stp (Stp.newF S hp) (same_both S.ext) fun a c h => by
    obtain ⟨w, hw⟩ := (S.cell a c h).1.there
    exact ⟨(S.cell a c h).1.at (same_upd (S.freeF hp)) (keep_newF hp) (S.cell a c h).2, (keep_newF hp a w hw (S.cell a c h).2).2⟩
/-- a list that is nobody's is frozen -/
theorem OOk.rp {a : Addr} {o : O} {u : HO} (e : Same F F') (h : OOk K F H a o) (hu : H a = some u) (hF : F' a = some u) : Rp K F' (.ref a) o.fz := by
  cases o with
  | lst xs =>
    obtain ⟨vs, h1, h2⟩ := h
    rw [hu] at h1
    cases h1
    exact .lst hF (h2.mono e)
  | dct xs =>
    obtain ⟨vs, h1, h2⟩ := h
    rw [hu] at h1
    cases h1
    exact .dct (.inl hF) (h2.mono e)
/-- an unfrozen list or dict that no slot owns is frozen -/
theorem Stt.frz {a : Addr} {o : O} (S : Stt K E F H σ ρ g) (h : OOk K F H a o) (f : F a = none) (z : g a = none) (fe : E.H a = none)
    (ns : ∀ (i : Nat) (p : O), ρ[i]? = some (some (.own p)) → σ[i]? ≠ some (some (.ref a))) :
    ∃ u, H a = some u ∧ Stt K E (upd F a u) H σ ρ g ∧ Rp K (upd F a u) (.ref a) o.fz ∧ Same F (upd F a u) := by
  obtain ⟨u, hu⟩ := h.there
  have e2 : Same F (upd F a u) := same_upd f
  have ne : ∀ b, b ≠ a → upd F a u b = F b := fun b hb => upd_ne hb
  refine ⟨u, hu, ⟨fun b w q => ?_, S.ext0.trans e2, S.len, fun i x hx => ?_, S.sep, fun b c hc => ?_, fun b w h1 h2 h3 => ?_, S.trk⟩, h.rp e2 hu upd_same, e2⟩
  · by_cases hb : b = a
    · subst hb; rw [upd_same] at q; cases q; exact hu
    · rw [ne b hb] at q; exact S.ext b w q
  · obtain ⟨v, h1, h2⟩ := S.slot i x hx
    refine ⟨v, h1, ?_⟩
    cases x with
    | d y => exact h2.mono e2
    | own p =>
      obtain ⟨b, eb, q1, q2, q3, q4⟩ := h2
      have hba : b ≠ a := fun y => ns i p hx (by rw [h1, eb, y])
      exact ⟨b, eb, q1.at e2 fun w hw => hw, by rw [ne b hba]; exact q2, q3, q4⟩
    | bor p => exact h2
  · obtain ⟨h1, h2⟩ := S.cell b c hc
    have hba : b ≠ a := fun y => by rw [y, z] at hc; cases hc
    refine ⟨?_, by rw [ne b hba]; exact h2⟩
    cases c with
    | lst xs => obtain ⟨vs, t1, t2⟩ := h1; exact ⟨vs, t1, t2.mono e2⟩
    | ins C fs =>
      obtain ⟨dx, vs, t1, t2, t3, t4⟩ := h1
      refine ⟨dx, vs, t1, t2, ?_, t4.mono e2⟩
      have hd : dx ≠ a := fun y => by
        rw [y] at t2
        cases o with
        | lst xs => obtain ⟨_, t5, _⟩ := h; rw [t2] at t5; cases t5
        | dct xs => obtain ⟨_, t5, _⟩ := h; rw [t2] at t5; cases t5
      rw [ne dx hd]; exact t3
    | dct xs => obtain ⟨vs, t1, t2⟩ := h1; exact ⟨vs, t1, t2.mono e2⟩
    | ext ψ xs cs => obtain ⟨vs, t1, t2, t3⟩ := h1; exact ⟨vs, t1, t2.mono e2, fun c hc => e2 c _ (t3 c hc)⟩
    | tbl =>
      obtain ⟨ps, t1, t2, t3⟩ := h1
      exact ⟨ps, t1, t2, fun pos cv hc => (t3 pos cv hc).imp fun c q => ⟨q.1, e2 c _ q.2⟩⟩
  · obtain ⟨k1, k2, k3⟩ := S.keep b w h1 h2 h3
    have hba : b ≠ a := fun y => by rw [y, fe] at h1; cases h1
    exact ⟨k1, by rw [ne b hba]; exact k2, k3⟩
/-- .. behind an expression that made it -/
theorem Stt.freeze {a : Addr} {o : O} (S0 : Stt K E F H σ ρ g) (S : Stt K E F' H' σ ρ g') (sp : Stp g F H g' F' H') (h : OOk K F' H' a o) (f : F' a = none) (z : g' a = none) (fe : E.H a = none) (n : H a = none) :
    ∃ F2, Stt K E F2 H' σ ρ g' ∧ Stp g F H g' F2 H' ∧ Rp K F2 (.ref a) o.fz ∧ Same F' F2 := by
  obtain ⟨u, hu, S2, r, e2⟩ := S.frz h f z fe fun i p hx hs => by
    obtain ⟨v0, k1, b0, eb0, r1, _⟩ := S0.slot i _ hx
    obtain ⟨w0, hw0⟩ := r1.there
    rw [k1] at hs
    cases hs
    cases eb0
    rw [n] at hw0
    cases hw0
  refine ⟨_, S2, ⟨sp.ext.trans e2, fun b w h1 h2 h3 => ?_, sp.trk⟩, r, e2⟩
  obtain ⟨k1, k2, k3⟩ := sp.keep b w h1 h2 h3
  have hba : b ≠ a := fun y => by rw [y, n] at h1; cases h1
  exact ⟨k1, by rw [upd_ne hba]; exact k2, k3⟩
end
open PySem L2

/-! ### what is read -/
def Vw (K : PySem.W.Frag) (F H : Hp) (v : V) (x : D) : Prop :=
  Rp K F v x ∨ (∃ a vs xs, v = .ref a ∧ x = .lst xs ∧ H a = some (.lst vs) ∧ RpL K F vs xs) ∨ (∃ a ks kvs, v = .ref a ∧ x = .dct kvs ∧ H a = some (.dK ks) ∧ RpD K F ks kvs)
section
variable {K : PySem.W.Frag} {E : Ent} {F H : Hp} {σ : L2.St} {ρ : Env} {g : G} {v : V}
theorem Vw.int {i : Int} (h : Vw K F H v (.int i)) : v = .int i := by
  rcases h with h | ⟨_, _, _, _, e, _⟩ | ⟨_, _, _, _, e, _⟩
  · cases h; rfl
  all_goals cases e
theorem Vw.str {i : Str} (h : Vw K F H v (.str i)) : v = .str i := by
  rcases h with h | ⟨_, _, _, _, e, _⟩ | ⟨_, _, _, _, e, _⟩
  · cases h; rfl
  all_goals cases e
theorem Vw.bl {i : Bool} (h : Vw K F H v (.bl i)) : v = .bl i := by
  rcases h with h | ⟨_, _, _, _, e, _⟩ | ⟨_, _, _, _, e, _⟩
  · cases h; rfl
  all_goals cases e
theorem Vw.non (h : Vw K F H v .non) : v = .non := by
  rcases h with h | ⟨_, _, _, _, e, _⟩ | ⟨_, _, _, _, e, _⟩
  · cases h; rfl
  all_goals cases e
theorem Vw.ty {n : String} (h : Vw K F H v (.ty n)) : v = .ty n := by
  rcases h with h | ⟨_, _, _, _, e, _⟩ | ⟨_, _, _, _, e, _⟩
  · cases h; rfl
  all_goals cases e
theorem Vw.ref {a : Addr} (h : Vw K F H v (.ref a)) : v = .ref a := by
  rcases h with h | ⟨_, _, _, _, e, _⟩ | ⟨_, _, _, _, e, _⟩
  · cases h; rfl
  all_goals cases e
theorem Vw.tup {xs : List D} (h : Vw K F H v (.tup xs)) : ∃ a vs, v = .ref a ∧ SqT K F a vs ∧ RpL K F vs xs := by
  rcases h with h | ⟨_, _, _, _, e, _⟩ | ⟨_, _, _, _, e, _⟩
  · cases h with
    | tup h t => exact ⟨_, _, rfl, h, t⟩
  all_goals cases e
theorem Vw.lst {xs : List D} (x : Same F H) (h : Vw K F H v (.lst xs)) : ∃ a vs, v = .ref a ∧ H a = some (.lst vs) ∧ RpL K F vs xs := by
  rcases h with h | ⟨a, vs, ys, e1, e, h1, h2⟩ | ⟨_, _, _, _, e, _⟩
  · cases h with
    | lst h t => exact ⟨_, _, rfl, x _ _ h, t⟩
  · cases e
    exact ⟨a, vs, e1, h1, h2⟩
  all_goals cases e
theorem Vw.dct {xs : List (Str × D)} (x : Same F H) (h : Vw K F H v (.dct xs)) : ∃ a vs, v = .ref a ∧ Rd H a (.dK vs) ∧ RpD K F vs xs := by
  rcases h with h | ⟨_, _, _, _, e, _⟩ | ⟨a, vs, ys, e1, e, h1, h2⟩
  · cases h with
    | dct h t => exact ⟨_, _, rfl, rd_mono x h, t⟩
  · cases e
  · cases e
    exact ⟨a, vs, e1, .inl h1, h2⟩
theorem Vw.ro {xs : List D} (h : Vw K F H v (.ro xs)) : ∃ a vs, v = .ref a ∧ SqL K F a vs ∧ RpL K F vs xs := by
  rcases h with h | ⟨_, _, _, _, e, _⟩ | ⟨_, _, _, _, e, _⟩
  · cases h with
    | ro h t => exact ⟨_, _, rfl, h, t⟩
  all_goals cases e
theorem Stt.vw (S : Stt K E F H σ ρ g) {u : U} (h : UOk K E F H g v u) : Vw K F H v (view g u) := by
  cases u with
  | d x =>
    cases x with
    | ref a =>
      have h' : Rp K F v (.ref a) := h
      cases h'
      show Vw K F H (.ref a) (match g a with | some (.lst xs) => .lst xs | some (.dct xs) => .dct xs | _ => .ref a)
      cases q : g a with
      | none => exact .inl (.ref a)
      | some c =>
        cases c with
        | lst xs =>
          obtain ⟨⟨vs, h1, h2⟩, _⟩ := S.cell a _ q
          exact .inr (.inl ⟨a, vs, xs, rfl, rfl, h1, h2⟩)
        | ins C fs => exact .inl (.ref a)
        | ext ψ xs cs => exact .inl (.ref a)
        | tbl => exact .inl (.ref a)
        | dct xs =>
          obtain ⟨⟨vs, h1, h2⟩, _⟩ := S.cell a _ q
          exact .inr (.inr ⟨a, vs, xs, rfl, rfl, h1, h2⟩)
    | _ => exact .inl h
  | own o =>
    obtain ⟨a, e, h1, _⟩ := h
    cases o with
    | lst xs => obtain ⟨vs, h2, h3⟩ := h1; exact .inr (.inl ⟨a, vs, xs, e, rfl, h2, h3⟩)
    | dct xs => obtain ⟨vs, h2, h3⟩ := h1; exact .inr (.inr ⟨a, vs, xs, e, rfl, h2, h3⟩)
  | bor o =>
    obtain ⟨a, e, h1, _⟩ := h
    cases o with
    | lst xs => obtain ⟨vs, h2, h3⟩ := h1; exact .inr (.inl ⟨a, vs, xs, e, rfl, h2, h3⟩)
    | dct xs => obtain ⟨vs, h2, h3⟩ := h1; exact .inr (.inr ⟨a, vs, xs, e, rfl, h2, h3⟩)
end

/-! ### exceptions, mirrors, canonical readings -/
structure Exn where
  nm : Str
  fs : List (Str × D)
def ExOk (K : PySem.W.Frag) (cn : Str → Option Addr) (F : Hp) (cls : Value) (d : Option Addr) (x : Exn) : Prop :=
  ∀ C, cn x.nm = some C → cls = .ref C ∧ ((x.fs = [] ∧ d = none) ∨ x.fs ≠ [] ∧ ∃ dd vs, d = some dd ∧ F dd = some (.xd vs) ∧ RpF K F vs x.fs)
abbrev KU := U → G → Prop
abbrev KX := Exn → G → Prop
abbrev ME := Env → G → KU → KX → Prop
abbrev MT := Env → G → (Bool → G → Prop) → KX → Prop
abbrev MA := Env → G → (List D → G → Prop) → KX → Prop
abbrev WX := Value → Option Addr → L2.St → Hp → Prop
/-- what an exception that comes at σ must meet -/
def XC (K : PySem.W.Frag) (cn : Str → Option Addr) (W : WX) (E : Ent) (σ : L2.St) (ρ : Env) (Qx : KX) : Prop :=
  ∀ F' H' cls d x g', Stt K E F' H' σ ρ g' → ExOk K cn F' cls d x → Qx x g' → W cls d σ H'
def UC (K : PySem.W.Frag) (E : Ent) (F H : Hp) (σ : L2.St) (ρ : Env) (g : G) (Qu : KU) (Qv : VK) : Prop :=
  ∀ F' H' v u g', Stt K E F' H' σ ρ g' → Stp g F H g' F' H' → UOk K E F' H' g' v u → Fresh H v u → Qu u g' → Qv v H'
def BC (K : PySem.W.Frag) (E : Ent) (F H : Hp) (σ : L2.St) (ρ : Env) (g : G) (Qb : Bool → G → Prop) (Qv : Bool → Hp → Prop) : Prop :=
  ∀ F' H' b g', Stt K E F' H' σ ρ g' → Stp g F H g' F' H' → Qb b g' → Qv b H'
def AC (K : PySem.W.Frag) (E : Ent) (F H : Hp) (σ : L2.St) (ρ : Env) (g : G) (Qa : List D → G → Prop) (Qv : List V → Hp → Prop) : Prop :=
  ∀ F' H' vs xs g', Stt K E F' H' σ ρ g' → Stp g F H g' F' H' → RpL K F' vs xs → Qa xs g' → Qv vs H'
def cE (K : PySem.W.Frag) (cn : Str → Option Addr) (W : WX) (m : ME) : TE := fun σ H Qv => ∃ (E : Ent) (F : Hp) (ρ : Env) (g : G) (Qu : KU) (Qx : KX), Stt K E F H σ ρ g ∧ m ρ g Qu Qx ∧ UC K E F H σ ρ g Qu Qv ∧ XC K cn W E σ ρ Qx
def cT (K : PySem.W.Frag) (cn : Str → Option Addr) (W : WX) (m : MT) : TT := fun σ H Qv => ∃ (E : Ent) (F : Hp) (ρ : Env) (g : G) (Qu : Bool → G → Prop) (Qx : KX), Stt K E F H σ ρ g ∧ m ρ g Qu Qx ∧ BC K E F H σ ρ g Qu Qv ∧ XC K cn W E σ ρ Qx
def cA (K : PySem.W.Frag) (cn : Str → Option Addr) (W : WX) (m : MA) : TA := fun σ H Qv => ∃ (E : Ent) (F : Hp) (ρ : Env) (g : G) (Qu : List D → G → Prop) (Qx : KX), Stt K E F H σ ρ g ∧ m ρ g Qu Qx ∧ AC K E F H σ ρ g Qu Qv ∧ XC K cn W E σ ρ Qx
section
variable {X : Cx} {e : Expr} {es : List Expr}
theorem pe_wk {t t' : TE} (h : PE X e t) (i : ∀ σ H Q, t' σ H Q → t σ H Q) : PE X e t' := ⟨fun pins s σ H Q I q => h.run pins s σ H Q I (i σ H Q q)⟩
theorem pt_wk {t t' : TT} (h : PT X e t) (i : ∀ σ H Q, t' σ H Q → t σ H Q) : PT X e t' := ⟨fun pins s σ H Q I q => h.run pins s σ H Q I (i σ H Q q)⟩
theorem pw_wk {t t' : TT} (h : PW X e t) (i : ∀ σ H Q, t' σ H Q → t σ H Q) : PW X e t' := ⟨fun wh pins s σ H Q I q => h.run wh pins s σ H Q I (i σ H Q q)⟩
theorem pa_wk {t t' : TA} (h : PA X es t) (i : ∀ σ H Q, t' σ H Q → t σ H Q) : PA X es t' := ⟨fun pos pins s σ H Q I q => h.run pos pins s σ H Q I (i σ H Q q)⟩
theorem ps_wk {st : Stmt} {t t' : TS} (h : PS X st t) (i : ∀ D σ H, t' D σ H → t D σ H) : PS X st t' := ⟨fun pins s σ H D I q => h.run pins s σ H D I (i D σ H q)⟩
theorem pss_wk {st : List Stmt} {t t' : TS} (h : PSs X st t) (i : ∀ D σ H, t' D σ H → t D σ H) : PSs X st t' := ⟨fun pins s σ H D I q => h.run pins s σ H D I (i D σ H q)⟩
end

/-! ### names, constants -/
@[simp] def rdU : U → U
  | .own o => .bor o
  | u => u
@[simp] def wVar (i : Nat) : ME := fun ρ g Q _ => match ρ[i]? with
  | some (some u) => Q (rdU u) g
  | _ => False
@[simp] def wC (x : D) : ME := fun _ g Q _ => Q (.d x) g
/-- an own list that nobody holds is frozen -/
@[simp] def fzU : U → (D → Prop) → Prop
  | .d x, k => k x
  | .own o, k => k o.fz
  | .bor _, _ => False
@[simp] def wNil : MA := fun _ g Q _ => Q [] g
@[simp] def wCons (a : ME) (r : MA) : MA := fun ρ g Q X => a ρ g (fun u g1 => fzU u fun x => r ρ g1 (fun xs g2 => Q (x :: xs) g2) X) X
section
variable {X : Cx} {cn : Str → Option Addr} {W : WX} {e a b c : Expr} {es : List Expr} {pos : Pos} {m ma mb mc : ME}
theorem re_var (i : Nat) {x : Str} {pos : Pos} (hN : X.N[i]? = some x := by rfl) (hv : Vis X.env.scope x := by first | exact Or.inl rfl | exact Or.inr (Or.inl rfl) | exact Or.inr (Or.inr rfl)) (hd : (x == ("__debug__" : Str)) = false := by decide)
    (hcd : (x == ("__classdict__" : Str)) = false := by decide) : PE X (.Name x pos) (cE X.K cn W (wVar i)) := pe_wk (pe_var hN hv hd hcd) fun σ H Q h => by
  obtain ⟨E, F, ρ, g, Qu, Qx, S, hm, hk, _⟩ := h
  unfold wVar at hm
  cases q : ρ[i]? with
  | none => rw [q] at hm; exact hm.elim
  | some o =>
    rw [q] at hm
    cases o with
    | none => exact hm.elim
    | some u =>
      obtain ⟨v, h1, h2⟩ := S.slot i u q
      refine ⟨v, h1, hk F H v (rdU u) g S (Stp.refl g F H) ?_ ?_ hm⟩
      · cases u with
        | d x => exact h2
        | own o => exact h2
        | bor o => exact h2.elim
      · cases u <;> trivial
theorem re_c {v : V} {x : D} (h : PE X e (tC v)) (r : ∀ F, Rp X.K F v x) : PE X e (cE X.K cn W (wC x)) := pe_wk h fun σ H Q h => by
  obtain ⟨E, F, ρ, g, Qu, Qx, S, hm, hk, _⟩ := h
  exact hk F H v (.d x) g S (Stp.refl g F H) (r F) trivial hm
theorem re_int {i j pos} : PE X (.Constant (.int i) j pos) (cE X.K cn W (wC (.int i))) := re_c pe_int fun _ => .int i
theorem re_bl {b j pos} : PE X (.Constant (.bool b) j pos) (cE X.K cn W (wC (.bl b))) := re_c pe_bl fun _ => .bl b
theorem re_non {j pos} : PE X (.Constant .none j pos) (cE X.K cn W (wC .non)) := re_c pe_non fun _ => .non
theorem re_str {x j pos} : PE X (.Constant (.str x) j pos) (cE X.K cn W (wC (.str x))) := re_c pe_str fun _ => .str x
/-- a global of the module: a constant -/
theorem re_glob {x : Str} {v : V} {d : D} {u : Value} {pos : Pos} (hg : Gl X x) (hm : X.mg x = some u) (r : RelV v u) (rd : ∀ F, Rp X.K F v d) (hd : (x == ("__debug__" : Str)) = false := by decide) : PE X (.Name x pos) (cE X.K cn W (wC d)) :=
  re_c (pe_glob hg hm r hd) rd
theorem re_bltn {x : Str} {v : V} {d : D} {u : Value} {pos : Pos} (hg : Gl X x) (hm : X.mg x = none) (hv : bootBuiltins x = some u) (r : RelV v u) (rd : ∀ F, Rp X.K F v d) (hn : x ≠ "__name__" := by decide) (hd : (x == ("__debug__" : Str)) = false := by decide) :
    PE X (.Name x pos) (cE X.K cn W (wC d)) := re_c (pe_bltn hg hm hv r hn hd) rd

/-! ### arguments -/
theorem fz_ok {K : PySem.W.Frag} {E : Ent} {F H F' H' : Hp} {σ : L2.St} {ρ : Env} {g g' : G} {v : V} {u : U} {k : D → Prop} (S0 : Stt K E F H σ ρ g) (S : Stt K E F' H' σ ρ g') (sp : Stp g F H g' F' H') (h : UOk K E F' H' g' v u) (fr : Fresh H v u) (q : fzU u k) :
    ∃ F2 x, Stt K E F2 H' σ ρ g' ∧ Stp g F H g' F2 H' ∧ Rp K F2 v x ∧ k x ∧ Same F' F2 := by
  cases u with
  | d x => exact ⟨F', x, S, sp, h, q, Same.refl _⟩
  | own o =>
    obtain ⟨a, e, h1, h2, h3, h4⟩ := h
    obtain ⟨F2, S2, p2, r2, e2⟩ := S0.freeze S sp h1 h2 h3 h4 (fr a e)
    exact ⟨F2, _, S2, p2, by rw [e]; exact r2, q, e2⟩
  | bor o => exact q.elim
theorem ra_nil : PA X [] (cA X.K cn W wNil) := pa_wk pa_nil fun σ H Q h => by
  obtain ⟨E, F, ρ, g, Qu, Qx, S, hm, hk, _⟩ := h
  exact hk F H [] [] g S (Stp.refl g F H) .nil hm
theorem ra_cons {mr : MA} (ha : PE X e (cE X.K cn W m)) (hr : PA X es (cA X.K cn W mr)) (hs : starEach (e :: es) X.env = (false, eval e X.env) :: starEach es X.env := by rfl) : PA X (e :: es) (cA X.K cn W (wCons m mr)) :=
  pa_wk (pa_cons ha hr hs) fun σ H Q h => by
    obtain ⟨E, F, ρ, g, Qu, Qx, S, hm, hk, hx⟩ := h
    refine ⟨E, F, ρ, g, _, Qx, S, hm, fun F1 H1 v u g1 S1 p1 o1 f1 q1 => ?_, hx⟩
    obtain ⟨F2, x, S2, p2, r2, q2, _⟩ := fz_ok S S1 p1 o1 f1 q1
    exact ⟨E, F2, ρ, g1, _, Qx, S2, q2, fun F3 H3 vs xs g3 S3 p3 r3 q3 => hk F3 H3 (v :: vs) (x :: xs) g3 S3 (p2.trans p3) (.cons (r2.mono p3.ext) r3) q3, hx⟩

/-! ### displays -/
@[simp] def wTup (r : MA) : ME := fun ρ g Q X => r ρ g (fun xs g1 => xs.length ≤ sizeLine ∧ Q (.d (.tup xs)) g1) X
@[simp] def wLst (r : MA) : ME := fun ρ g Q X => r ρ g (fun xs g1 => xs.length ≤ sizeLine ∧ Q (.own (.lst xs)) g1) X
theorem re_tup {x1} {mr : MA} (h : PA X es (cA X.K cn W mr)) : PE X (.Tuple es x1 pos) (cE X.K cn W (wTup mr)) := pe_wk (pe_tup h) fun σ H Q h => by
  obtain ⟨E, F, ρ, g, Qu, Qx, S, hm, hk, hx⟩ := h
  refine ⟨E, F, ρ, g, _, Qx, S, hm, fun F1 H1 vs xs g1 S1 p1 r1 q1 => ⟨by rw [r1.len]; exact q1.1, fun p hp => ?_⟩, hx⟩
  have fF := S1.freeF hp
  exact hk _ _ (.ref p) (.d (.tup xs)) g1 (S1.newF hp) (p1.trans (Stp.newF S1 hp)) (Rp.tup (.inl (.inl upd_same)) (r1.mono (same_upd fF))) trivial q1.2
theorem re_lst {mr : MA} (h : PA X es (cA X.K cn W mr)) : PE X (.List es pos) (cE X.K cn W (wLst mr)) := pe_wk (pe_lst h) fun σ H Q h => by
  obtain ⟨E, F, ρ, g, Qu, Qx, S, hm, hk, hx⟩ := h
  refine ⟨E, F, ρ, g, _, Qx, S, hm, fun F1 H1 vs xs g1 S1 p1 r1 q1 => ⟨by rw [r1.len]; exact q1.1, fun p hp => ?_⟩, hx⟩
  exact hk _ _ (.ref p) (.own (.lst xs)) g1 (S1.newO hp) (p1.trans (Stp.newO hp)) ⟨p, rfl, ⟨vs, upd_same, r1⟩, S1.freeF hp, S1.freeG hp, S1.trk p hp⟩ (fun a e => by cases e; exact p1.trk _ hp) q1.2

/-! ### operators by values -/
/-- the state after an operation on values -/
def RC (K : PySem.W.Frag) (E : Ent) (F H : Hp) (σ : L2.St) (ρ : Env) (g : G) (k : U → Prop) (Q : VK) : Prop :=
  ∀ F' H' v u, Stt K E F' H' σ ρ g → Stp g F H g F' H' → UOk K E F' H' g v u → Fresh H v u → k u → Q v H'
def OpS (K : PySem.W.Frag) (r : R2) (op : D → D → (U → Prop) → Prop) : Prop :=
  ∀ (E : Ent) (F H : Hp) (σ : L2.St) (ρ : Env) (g : G) (v1 v2 : V) (x1 x2 : D) (k : U → Prop) (Q : VK), Stt K E F H σ ρ g → Vw K F H v1 x1 → Vw K F H v2 x2 → op x1 x2 k → RC K E F H σ ρ g k Q → r v1 v2 H Q
def UnS (K : PySem.W.Frag) (r : V → Hp → VK → Prop) (op : D → (U → Prop) → Prop) : Prop :=
  ∀ (E : Ent) (F H : Hp) (σ : L2.St) (ρ : Env) (g : G) (v1 : V) (x1 : D) (k : U → Prop) (Q : VK), Stt K E F H σ ρ g → Vw K F H v1 x1 → op x1 k → RC K E F H σ ρ g k Q → r v1 H Q
@[simp] def wBin (op : D → D → (U → Prop) → Prop) (a b : ME) : ME := fun ρ g Q X => a ρ g (fun u g1 => b ρ g1 (fun w g2 => op (view g2 u) (view g2 w) fun z => Q z g2) X) X
@[simp] def wUn (op : D → (U → Prop) → Prop) (a : ME) : ME := fun ρ g Q X => a ρ g (fun u g1 => op (view g1 u) fun z => Q z g1) X
theorem bin_ok {r : R2} {op : D → D → (U → Prop) → Prop} (hu : OpS X.K r op) (σ : L2.St) (H : Hp) (Q : VK) (h : cE X.K cn W (wBin op ma mb) σ H Q) : tOp r (cE X.K cn W ma) (cE X.K cn W mb) σ H Q := by
  obtain ⟨E, F, ρ, g, Qu, Qx, S, hm, hk, hx⟩ := h
  refine ⟨E, F, ρ, g, _, Qx, S, hm, fun F1 H1 v u g1 S1 p1 o1 f1 q1 => ⟨E, F1, ρ, g1, _, Qx, S1, q1, fun F2 H2 w z g2 S2 p2 o2 f2 q2 => ?_, hx⟩, hx⟩
  exact hu E F2 H2 σ ρ g2 v w _ _ _ Q S2 (S2.vw (o1.step p2)) (S2.vw o2) q2 fun F3 H3 y t S3 p3 o3 f3 q3 => hk F3 H3 y t g2 S3 ((p1.trans p2).trans p3) o3 (f3.back (p1.trans p2)) q3
theorem un_ok {r : V → Hp → VK → Prop} {op : D → (U → Prop) → Prop} (hu : UnS X.K r op) (σ : L2.St) (H : Hp) (Q : VK) (h : cE X.K cn W (wUn op ma) σ H Q) : tUn r (cE X.K cn W ma) σ H Q := by
  obtain ⟨E, F, ρ, g, Qu, Qx, S, hm, hk, hx⟩ := h
  refine ⟨E, F, ρ, g, _, Qx, S, hm, fun F1 H1 v u g1 S1 p1 o1 f1 q1 => ?_, hx⟩
  exact hu E F1 H1 σ ρ g1 v _ _ Q S1 (S1.vw o1) q1 fun F3 H3 y t S3 p3 o3 f3 q3 => hk F3 H3 y t g1 S3 (p1.trans p3) o3 (f3.back p1) q3
theorem re_bin {op : Operator} {r : R2} {f : D → D → (U → Prop) → Prop} (ho : OpR X (binaryOp op) r) (hu : OpS X.K r f) (ha : PE X a (cE X.K cn W ma)) (hb : PE X b (cE X.K cn W mb)) : PE X (.BinOp a op b pos) (cE X.K cn W (wBin f ma mb)) :=
  pe_wk (pe_op ho ha hb) (bin_ok hu)
theorem re_un {op : UnaryOp} {r : V → Hp → VK → Prop} {f : D → (U → Prop) → Prop} (ho : UnR X (unaryOp op) r) (hu : UnS X.K r f) (ha : PE X a (cE X.K cn W ma)) : PE X (.UnaryOp op a pos) (cE X.K cn W (wUn f ma)) :=
  pe_wk (pe_un ho ha) (un_ok hu)
theorem re_cmp {op : CmpOp} {r : R2} {f : D → D → (U → Prop) → Prop} (ho : OpR X (compareOp op) r) (hu : OpS X.K r f) (hm : behindInMarks op b = false) (ha : PE X a (cE X.K cn W ma)) (hb : PE X b (cE X.K cn W mb)) : PE X (.Compare a [op] [b] pos) (cE X.K cn W (wBin f ma mb)) :=
  pe_wk (pe_cmpR ho ha hb hm) (bin_ok hu)
/-- a value that is a truth value, as a test -/
@[simp] def wT (m : ME) : MT := fun ρ g Q X => m ρ g (fun u g1 => match u with
  | .d (.bl b) => Q b g1
  | _ => False) X
theorem t_ok {te : TE} {m : ME} (h : ∀ σ H Q, cE X.K cn W m σ H Q → te σ H Q) (σ : L2.St) (H : Hp) (Q : Bool → Hp → Prop) (hh : cT X.K cn W (wT m) σ H Q) : te σ H fun x H' => ∃ k, x = .bl k ∧ Q k H' := by
  obtain ⟨E, F, ρ, g, Qu, Qx, S, hm, hk, hx⟩ := hh
  refine h σ H _ ⟨E, F, ρ, g, _, Qx, S, hm, fun F1 H1 v u g1 S1 p1 o1 f1 q1 => ?_, hx⟩
  cases u with
  | d x =>
    cases x with
    | bl b =>
      have o1' : Rp X.K F1 v (.bl b) := o1
      cases o1'
      exact ⟨b, rfl, hk F1 H1 b g1 S1 p1 q1⟩
    | _ => exact q1.elim
  | own o => exact q1.elim
  | bor o => exact q1.elim
theorem rt_cmp {op : CmpOp} {r : R2} {f : D → D → (U → Prop) → Prop} (ho : OpR X (compareOp op) r) (hu : OpS X.K r f) (hm : behindInMarks op b = false) (ha : PE X a (cE X.K cn W ma)) (hb : PE X b (cE X.K cn W mb)) : PT X (.Compare a [op] [b] pos) (cT X.K cn W (wT (wBin f ma mb))) :=
  pt_wk (pt_cmpR ho ha hb hm) (t_ok (bin_ok hu))
theorem rt_val (ha : PE X e (cE X.K cn W m)) (he : ∀ whole, isTrue e X.env whole = (do let v ← whole; standAt e.pos; holding [v] (truthy v)) := by intro _; rfl) : PT X e (cT X.K cn W (wT m)) :=
  pt_wk (pt_val ha he) (t_ok fun _ _ _ h => h)
@[simp] def wChain (op op' : D → D → (U → Prop) → Prop) (a b c : ME) : ME := fun ρ g Q X => a ρ g (fun u g1 => b ρ g1 (fun w g2 => op (view g2 u) (view g2 w) fun z => match z with
  | .d (.bl k) => (k = true → c ρ g2 (fun y g3 => op' (view g3 w) (view g3 y) fun t => Q t g3) X) ∧ (k = false → Q (.d (.bl false)) g2)
  | _ => False) X) X
theorem chain_ok {r r' : R2} {f f' : D → D → (U → Prop) → Prop} (hu : OpS X.K r f) (hu' : OpS X.K r' f') (σ : L2.St) (H : Hp) (Q : VK) (h : cE X.K cn W (wChain f f' ma mb mc) σ H Q) : tChain r r' (cE X.K cn W ma) (cE X.K cn W mb) (cE X.K cn W mc) σ H Q := by
  obtain ⟨E, F, ρ, g, Qu, Qx, S, hm, hk, hx⟩ := h
  refine ⟨E, F, ρ, g, _, Qx, S, hm, fun F1 H1 v u g1 S1 p1 o1 f1 q1 => ⟨E, F1, ρ, g1, _, Qx, S1, q1, fun F2 H2 w z g2 S2 p2 o2 f2 q2 => ?_, hx⟩, hx⟩
  refine hu E F2 H2 σ ρ g2 v w _ _ _ _ S2 (S2.vw (o1.step p2)) (S2.vw o2) q2 fun F3 H3 y t S3 p3 o3 f3 q3 => ?_
  cases t with
  | d x =>
    cases x with
    | bl k =>
      have o3' : Rp X.K F3 y (.bl k) := o3
      cases o3'
      refine ⟨k, rfl, ?_⟩
      cases k with
      | true =>
        rw [if_pos rfl]
        refine ⟨E, F3, ρ, g2, _, Qx, S3, q3.1 rfl, fun F4 H4 y4 t4 g4 S4 p4 o4 f4 q4 => ?_, hx⟩
        exact hu' E F4 H4 σ ρ g4 w y4 _ _ _ Q S4 (S4.vw ((o2.step p3).step p4)) (S4.vw o4) q4 fun F5 H5 y5 t5 S5 p5 o5 f5 q5 => hk F5 H5 y5 t5 g4 S5 (((p1.trans p2).trans p3).trans (p4.trans p5)) o5 (f5.back (((p1.trans p2).trans p3).trans p4)) q5
      | false =>
        rw [if_neg Bool.false_ne_true]
        exact hk F3 H3 _ (.d (.bl false)) g2 S3 ((p1.trans p2).trans p3) (Rp.bl false) trivial (q3.2 rfl)
    | _ => exact q3.elim
  | own o => exact q3.elim
  | bor o => exact q3.elim
theorem re_chain {op op' : CmpOp} {r r' : R2} {f f' : D → D → (U → Prop) → Prop} (ho : OpR X (compareOp op) r) (hu : OpS X.K r f) (ho' : OpR X (compareOp op') r') (hu' : OpS X.K r' f') 
    (ha : PE X a (cE X.K cn W ma)) (hb : PE X b (cE X.K cn W mb)) (hc : PE X c (cE X.K cn W mc)) (hm : lastMarks [op, op'] [b, c] = false := by with_unfolding_all rfl) : PE X (.Compare a [op, op'] [b, c] pos) (cE X.K cn W (wChain f f' ma mb mc)) := pe_wk (pe_chain ho ho' ha hb hc hm) (chain_ok hu hu')
theorem rt_chain {op op' : CmpOp} {r r' : R2} {f f' : D → D → (U → Prop) → Prop} (ho : OpR X (compareOp op) r) (hu : OpS X.K r f) (ho' : OpR X (compareOp op') r') (hu' : OpS X.K r' f')
    (ha : PE X a (cE X.K cn W ma)) (hb : PE X b (cE X.K cn W mb)) (hc : PE X c (cE X.K cn W mc)) (hm : lastMarks [op, op'] [b, c] = false := by with_unfolding_all rfl) : PT X (.Compare a [op, op'] [b, c] pos) (cT X.K cn W (wT (wChain f f' ma mb mc))) := pt_wk (pt_chain ho ho' ha hb hc hm) (t_ok (chain_ok hu hu'))

/-! ### and, or, not, a if t else b -/
variable {t u : MT} {rest : List Expr}
@[simp] def wtAnd (t u : MT) : MT := fun ρ g Q X => t ρ g (fun c g1 => (c = true → u ρ g1 Q X) ∧ (c = false → Q false g1)) X
@[simp] def wtOr (t u : MT) : MT := fun ρ g Q X => t ρ g (fun c g1 => (c = true → Q true g1) ∧ (c = false → u ρ g1 Q X)) X
@[simp] def wtNot (t : MT) : MT := fun ρ g Q X => t ρ g (fun c g1 => Q (!c) g1) X
theorem bc_back {K : PySem.W.Frag} {E : Ent} {F H F1 H1 : Hp} {σ : L2.St} {ρ : Env} {g g1 : G} {Qb : Bool → G → Prop} {Qv : Bool → Hp → Prop} (h : BC K E F H σ ρ g Qb Qv) (p : Stp g F H g1 F1 H1) : BC K E F1 H1 σ ρ g1 Qb Qv :=
  fun F2 H2 b g2 S2 p2 q => h F2 H2 b g2 S2 (p.trans p2) q
theorem uc_back {K : PySem.W.Frag} {E : Ent} {F H F1 H1 : Hp} {σ : L2.St} {ρ : Env} {g g1 : G} {Qb : KU} {Qv : VK} (h : UC K E F H σ ρ g Qb Qv) (p : Stp g F H g1 F1 H1) : UC K E F1 H1 σ ρ g1 Qb Qv :=
  fun F2 H2 v u g2 S2 p2 o f q => h F2 H2 v u g2 S2 (p.trans p2) o (f.back p) q
theorem rw_and1 (ha : PT X a (cT X.K cn W t)) : PW X (.BoolOp .And [a] pos) (cT X.K cn W t) := pw_and1 ha
theorem rw_or1 (ha : PT X a (cT X.K cn W t)) : PW X (.BoolOp .Or [a] pos) (cT X.K cn W t) := pw_or1 ha
theorem rw_and (ha : PT X a (cT X.K cn W t)) (hb : PW X (.BoolOp .And (b :: rest) pos) (cT X.K cn W u)) : PW X (.BoolOp .And (a :: b :: rest) pos) (cT X.K cn W (wtAnd t u)) := pw_wk (pw_and ha hb) fun σ H Q h => by
  obtain ⟨E, F, ρ, g, Qu, Qx, S, hm, hk, hx⟩ := h
  refine ⟨E, F, ρ, g, _, Qx, S, hm, fun F1 H1 b g1 S1 p1 q1 => ?_, hx⟩
  cases b with
  | true => rw [if_pos rfl]; exact ⟨E, F1, ρ, g1, _, Qx, S1, q1.1 rfl, bc_back hk p1, hx⟩
  | false => rw [if_neg Bool.false_ne_true]; exact hk F1 H1 false g1 S1 p1 (q1.2 rfl)
theorem rw_or (ha : PT X a (cT X.K cn W t)) (hb : PW X (.BoolOp .Or (b :: rest) pos) (cT X.K cn W u)) : PW X (.BoolOp .Or (a :: b :: rest) pos) (cT X.K cn W (wtOr t u)) := pw_wk (pw_or ha hb) fun σ H Q h => by
  obtain ⟨E, F, ρ, g, Qu, Qx, S, hm, hk, hx⟩ := h
  refine ⟨E, F, ρ, g, _, Qx, S, hm, fun F1 H1 b g1 S1 p1 q1 => ?_, hx⟩
  cases b with
  | true => rw [if_pos rfl]; exact hk F1 H1 true g1 S1 p1 (q1.1 rfl)
  | false => rw [if_neg Bool.false_ne_true]; exact ⟨E, F1, ρ, g1, _, Qx, S1, q1.2 rfl, bc_back hk p1, hx⟩
theorem rt_w {e : Expr} (h : PW X e (cT X.K cn W t)) : PT X e (cT X.K cn W t) := h.pt
theorem rt_not (ha : PT X a (cT X.K cn W t)) : PT X (.UnaryOp .Not a pos) (cT X.K cn W (wtNot t)) := pt_wk (pt_not ha) fun σ H Q h => by
  obtain ⟨E, F, ρ, g, Qu, Qx, S, hm, hk, hx⟩ := h
  exact ⟨E, F, ρ, g, _, Qx, S, hm, fun F1 H1 b g1 S1 p1 q1 => hk F1 H1 (!b) g1 S1 p1 q1, hx⟩
/-- as values -/
@[simp] def bU (k : Bool → Prop) : U → Prop
  | .d (.bl b) => k b
  | _ => False
@[simp] def wAnd (a b : ME) : ME := fun ρ g Q X => a ρ g (fun u g1 => bU (fun c => (c = true → b ρ g1 Q X) ∧ (c = false → Q (.d (.bl false)) g1)) u) X
@[simp] def wOr (a b : ME) : ME := fun ρ g Q X => a ρ g (fun u g1 => bU (fun c => (c = true → Q (.d (.bl true)) g1) ∧ (c = false → b ρ g1 Q X)) u) X
@[simp] def wNot (a : ME) : ME := fun ρ g Q X => a ρ g (fun u g1 => bU (fun c => Q (.d (.bl (!c))) g1) u) X
theorem bU_ok {K : PySem.W.Frag} {E : Ent} {F H : Hp} {g : G} {v : V} {u : U} {k : Bool → Prop} (o : UOk K E F H g v u) (h : bU k u) : ∃ c, v = .bl c ∧ k c := by
  cases u with
  | d x =>
    cases x with
    | bl b =>
      have o' : Rp K F v (.bl b) := o
      cases o'
      exact ⟨b, rfl, h⟩
    | _ => exact h.elim
  | own o => exact h.elim
  | bor o => exact h.elim
theorem re_one {op} (h : PE X a (cE X.K cn W m)) : PE X (.BoolOp op [a] pos) (cE X.K cn W m) := pe_one h
theorem re_and (ha : PE X a (cE X.K cn W ma)) (hb : PE X (.BoolOp .And (b :: rest) pos) (cE X.K cn W mb)) : PE X (.BoolOp .And (a :: b :: rest) pos) (cE X.K cn W (wAnd ma mb)) := pe_wk (pe_and ha hb) fun σ H Q h => by
  obtain ⟨E, F, ρ, g, Qu, Qx, S, hm, hk, hx⟩ := h
  refine ⟨E, F, ρ, g, _, Qx, S, hm, fun F1 H1 v u g1 S1 p1 o1 f1 q1 => ?_, hx⟩
  obtain ⟨c, e, q⟩ := bU_ok o1 q1
  refine ⟨c, e, ?_⟩
  cases c with
  | true => rw [if_pos rfl]; exact ⟨E, F1, ρ, g1, _, Qx, S1, q.1 rfl, uc_back hk p1, hx⟩
  | false => rw [if_neg Bool.false_ne_true]; exact hk F1 H1 _ (.d (.bl false)) g1 S1 p1 (Rp.bl false) trivial (q.2 rfl)
theorem re_or (ha : PE X a (cE X.K cn W ma)) (hb : PE X (.BoolOp .Or (b :: rest) pos) (cE X.K cn W mb)) : PE X (.BoolOp .Or (a :: b :: rest) pos) (cE X.K cn W (wOr ma mb)) := pe_wk (pe_or ha hb) fun σ H Q h => by
  obtain ⟨E, F, ρ, g, Qu, Qx, S, hm, hk, hx⟩ := h
  refine ⟨E, F, ρ, g, _, Qx, S, hm, fun F1 H1 v u g1 S1 p1 o1 f1 q1 => ?_, hx⟩
  obtain ⟨c, e, q⟩ := bU_ok o1 q1
  refine ⟨c, e, ?_⟩
  cases c with
  | true => rw [if_pos rfl]; exact hk F1 H1 _ (.d (.bl true)) g1 S1 p1 (Rp.bl true) trivial (q.1 rfl)
  | false => rw [if_neg Bool.false_ne_true]; exact ⟨E, F1, ρ, g1, _, Qx, S1, q.2 rfl, uc_back hk p1, hx⟩
theorem re_not (ha : PE X a (cE X.K cn W ma)) : PE X (.UnaryOp .Not a pos) (cE X.K cn W (wNot ma)) := pe_wk (pe_not ha) fun σ H Q h => by
  obtain ⟨E, F, ρ, g, Qu, Qx, S, hm, hk, hx⟩ := h
  refine ⟨E, F, ρ, g, _, Qx, S, hm, fun F1 H1 v u g1 S1 p1 o1 f1 q1 => ?_, hx⟩
  obtain ⟨c, e, q⟩ := bU_ok o1 q1
  exact ⟨c, e, hk F1 H1 _ (.d (.bl (!c))) g1 S1 p1 (Rp.bl _) trivial q⟩
@[simp] def wIfE (t : MT) (a b : ME) : ME := fun ρ g Q X => t ρ g (fun c g1 => (c = true → a ρ g1 Q X) ∧ (c = false → b ρ g1 Q X)) X
theorem re_if (hc : PT X c (cT X.K cn W t)) (ha : PE X a (cE X.K cn W ma)) (hb : PE X b (cE X.K cn W mb)) : PE X (.IfExp c a b pos) (cE X.K cn W (wIfE t ma mb)) := pe_wk (pe_ifExp hc ha hb) fun σ H Q h => by
  obtain ⟨E, F, ρ, g, Qu, Qx, S, hm, hk, hx⟩ := h
  refine ⟨E, F, ρ, g, _, Qx, S, hm, fun F1 H1 b g1 S1 p1 q1 => ?_, hx⟩
  cases b with
  | true => rw [if_pos rfl]; exact ⟨E, F1, ρ, g1, _, Qx, S1, q1.1 rfl, uc_back hk p1, hx⟩
  | false => rw [if_neg Bool.false_ne_true]; exact ⟨E, F1, ρ, g1, _, Qx, S1, q1.2 rfl, uc_back hk p1, hx⟩
end
open PySem L2

/-! ### data as the model's plain data, for == -/
mutual
def toPy : D → PyData
  | .non => .none
  | .bl b => .bool b
  | .int i => .int i
  | .str x => .str x
  | .tup xs => .tuple (toPyL xs)
  | .lst xs => .list (toPyL xs)
  | .dct _ => .dict []
  | .ref _ => .dict []
  | .ty _ => .dict []
  | .ro _ => .dict []
  | .exn _ _ _ => .dict []
def toPyL : List D → List PyData
  | [] => []
  | x :: xs => toPy x :: toPyL xs
end
def okD (x : D) : Bool := SeqAt.shaped (toPy x)
def eqD (x y : D) : Bool := PyData.eqv (toPy x) (toPy y)
section
variable {K : PySem.W.Frag} {F H : Hp}
mutual
theorem Rp.dp (e : Same F H) : ∀ {v : V} {x : D}, Rp K F v x → (toPy x).canLay0 = true → Dp K H v (toPy x)
  | _, _, .non, _ => .non
  | _, _, .bl b, _ => .bl b
  | _, _, .int i, _ => .int i
  | _, _, .str x, _ => .str x
  | _, _, .tup h t, c => .tup (sqt_mono e h) (RpL.dp e t (by simpa [toPy, PyData.canLay0] using c))
  | _, _, .lst h t, c => .lst (.inl (.inl (e _ _ h))) (RpL.dp e t (by simpa [toPy, PyData.canLay0] using c))
  | _, _, .dct _ _, c => by simp [toPy, PyData.canLay0] at c
  | _, _, .ref a, c => by simp [toPy, PyData.canLay0] at c
  | _, _, .ty n, c => by simp [toPy, PyData.canLay0] at c
  | _, _, .ro _ _, c => by simp [toPy, PyData.canLay0] at c
  | _, _, .exn0 _, c => by simp [toPy, PyData.canLay0] at c
  | _, _, .exn _ _, c => by simp [toPy, PyData.canLay0] at c
theorem RpL.dp (e : Same F H) : ∀ {vs : List V} {xs : List D}, RpL K F vs xs → PyData.canLayAll0 (toPyL xs) = true → DpAll K H vs (toPyL xs)
  | _, _, .nil, _ => .nil
  | _, x :: xs, .cons h t, c => by
    have c' : (toPy x).canLay0 = true ∧ PyData.canLayAll0 (toPyL xs) = true := by simpa [toPyL, PyData.canLayAll0] using c
    exact .cons (Rp.dp e h c'.1) (RpL.dp e t c'.2)
end
theorem Vw.dp {v : V} {x : D} (e : Same F H) (h : Vw K F H v x) (c : okD x = true) : Dp K H v (toPy x) := by
  have c' := SeqAt.canLay_of_shaped c
  rcases h with h | ⟨a, vs, xs, rfl, rfl, h1, h2⟩ | ⟨a, vs, xs, rfl, rfl, h1, h2⟩
  · exact h.dp e c'
  · exact .lst (.inl (.inl h1)) (h2.dp e (by simpa [toPy, PyData.canLay0] using c'))
  · simp [toPy, PyData.canLay0] at c'
end

/-! ### what operators make of values -/
@[simp] def addU : D → D → (U → Prop) → Prop
  | .int i, .int j, k => k (.d (.int (i + j)))
  | .str s, .str t, k => s.length + t.length ≤ sizeLine ∧ k (.d (.str (s ++ t)))
  | .tup xs, .tup ys, k => xs.length + ys.length ≤ sizeLine ∧ k (.d (.tup (xs ++ ys)))
  | .lst xs, .lst ys, k => xs.length + ys.length ≤ sizeLine ∧ k (.own (.lst (xs ++ ys)))
  | _, _, _ => False
@[simp] def subU : D → D → (U → Prop) → Prop
  | .int i, .int j, k => k (.d (.int (i - j)))
  | _, _, _ => False
@[simp] def mulU : D → D → (U → Prop) → Prop
  | .int i, .int j, k => CMulW i j ∧ k (.d (.int (i * j)))
  | .lst xs, .int j, k => (-(2 ^ 63) ≤ j ∧ j < 2 ^ 63 ∧ xs.length * j.toNat ≤ sizeLine) ∧ k (.own (.lst (List.replicate j.toNat xs).flatten))
  | _, _, _ => False
@[simp] def divU : D → D → (U → Prop) → Prop
  | .int i, .int j, k => CDivW i j ∧ k (.d (.int (i / j)))
  | _, _, _ => False
@[simp] def modU : D → D → (U → Prop) → Prop
  | .int i, .int j, k => 0 < j ∧ k (.d (.int (i % j)))
  | _, _, _ => False
@[simp] def powU : D → D → (U → Prop) → Prop
  | .int i, .int j, k => CPow i j ∧ k (.d (.int (i ^ j.toNat)))
  | _, _, _ => False
@[simp] def eqU (x y : D) (k : U → Prop) : Prop := (okD x = true ∧ okD y = true) ∧ k (.d (.bl (eqD x y)))
@[simp] def neU (x y : D) (k : U → Prop) : Prop := (okD x = true ∧ okD y = true) ∧ k (.d (.bl (!eqD x y)))
@[simp] def cmpU (f : Int → Int → Bool) : D → D → (U → Prop) → Prop
  | .int i, .int j, k => k (.d (.bl (f i j)))
  | _, _, _ => False
abbrev ltU := cmpU fun i j => decide (i < j)
abbrev leU := cmpU fun i j => decide (i ≤ j)
abbrev gtU := cmpU fun i j => decide (j < i)
abbrev geU := cmpU fun i j => decide (j ≤ i)
@[simp] def isNon : D → Bool
  | .non => true
  | _ => false
/-- x is None -/
@[simp] def isU : D → D → (U → Prop) → Prop
  | x, .non, k => k (.d (.bl (isNon x)))
  | _, _, _ => False
@[simp] def isnU : D → D → (U → Prop) → Prop
  | x, .non, k => k (.d (.bl (!isNon x)))
  | _, _, _ => False
def flatD : D → Bool
  | .non => true
  | .bl _ => true
  | .int _ => true
  | .str _ => true
  | _ => false
/-- x in ..: in a list data of any kind, in a tuple flat data, in a text one sign -/
@[simp] def inU (neg : Bool) : D → D → (U → Prop) → Prop
  | x, .lst ys, k => (okD x = true ∧ okD (.lst ys) = true) ∧ k (.d (.bl (neg != ys.any fun z => eqD z x)))
  | x, .tup ys, k => (flatD x = true ∧ ys.all flatD = true) ∧ k (.d (.bl (neg != ys.any fun z => eqD z x)))
  | .str s, .str t, k => ∃ c, s = ⟨#[c]⟩ ∧ k (.d (.bl (neg != decide (c ∈ t.cps.toList))))
  | _, _, _ => False
/-! ### .. are what the rules ask -/
theorem rc_same {K : PySem.W.Frag} {E : Ent} {F H : Hp} {σ : L2.St} {ρ : Env} {g : G} {k : U → Prop} {Q : VK} {v : V} {x : D} (h : RC K E F H σ ρ g k Q) (S : Stt K E F H σ ρ g) (r : Rp K F v x) (q : k (.d x)) : Q v H :=
  h F H v (.d x) S (Stp.refl g F H) r trivial q
theorem rc_newF {K : PySem.W.Frag} {E : Ent} {F H : Hp} {σ : L2.St} {ρ : Env} {g : G} {k : U → Prop} {Q : VK} {vs : List V} {xs : List D} {p : Addr} (h : RC K E F H σ ρ g k Q) (S : Stt K E F H σ ρ g) (hp : H p = none) (r : RpL K F vs xs) (q : k (.d (.tup xs))) : Q (.ref p) (upd H p (.tup vs)) :=
  h _ _ (.ref p) (.d (.tup xs)) (S.newF hp) (Stp.newF S hp) (Rp.tup (.inl (.inl upd_same)) (r.mono (same_upd (S.freeF hp)))) trivial q
theorem rc_newO {K : PySem.W.Frag} {E : Ent} {F H : Hp} {σ : L2.St} {ρ : Env} {g : G} {k : U → Prop} {Q : VK} {vs : List V} {xs : List D} {p : Addr} (h : RC K E F H σ ρ g k Q) (S : Stt K E F H σ ρ g) (hp : H p = none) (r : RpL K F vs xs) (q : k (.own (.lst xs))) : Q (.ref p) (upd H p (.lst vs)) :=
  h _ _ (.ref p) (.own (.lst xs)) (S.newO hp) (Stp.newO hp) ⟨p, rfl, ⟨vs, upd_same, r⟩, S.freeF hp, S.freeG hp, S.trk p hp⟩ (fun a e => by cases e; exact hp) q
section
variable {X : Cx} {K : PySem.W.Frag}
def rAddU (K : PySem.W.Frag) : R2 := fun x y H Q => rI0 (fun i j => .int (i + j)) x y H Q ∨ (∃ i j, x = .str i ∧ y = .str j ∧ i.length + j.length ≤ sizeLine ∧ Q (.str (i ++ j)) H) ∨ rCatA K x y H Q ∨ rCat x y H Q
theorem op_addU : OpR X (binaryOp .Add) (rAddU X.K) := op_add.or (op_add_str.or (op_catA.or op_cat))
theorem sqt_same {F H : Hp} {a : Addr} {vs : List V} (e : Same F H) (h : SqT K F a vs) : SqT K H a vs := sqt_mono e h
theorem os_add : OpS K (rAddU K) addU := by
  intro E F H σ ρ g v1 v2 x1 x2 k Q S h1 h2 hk rc
  unfold addU at hk
  split at hk
  · rw [h1.int, h2.int]
    exact .inl ⟨_, _, rfl, rfl, rc_same rc S (.int _) hk⟩
  · rw [h1.str, h2.str]
    exact .inr (.inl ⟨_, _, rfl, rfl, hk.1, rc_same rc S (.str _) hk.2⟩)
  · rename_i xs ys k
    obtain ⟨a, vs, rfl, ha, ra⟩ := h1.tup
    obtain ⟨b, ws, rfl, hb, rb⟩ := h2.tup
    refine .inr (.inr (.inl ⟨a, b, vs, ws, rfl, rfl, sqt_same S.ext ha, sqt_same S.ext hb, by rw [ra.len, rb.len]; exact hk.1, fun e => ?_, fun _ e => ?_, fun _ _ p hp => rc_newF rc S hp (ra.app rb) hk.2⟩))
    · subst e
      cases ra
      exact rc_same rc S (.tup hb rb) hk.2
    · subst e
      cases rb
      exact rc_same rc S (.tup ha ra) (by have := hk.2; rwa [List.append_nil] at this)
  · obtain ⟨a, vs, rfl, ha, ra⟩ := h1.lst S.ext
    obtain ⟨b, ws, rfl, hb, rb⟩ := h2.lst S.ext
    exact .inr (.inr (.inr ⟨a, b, vs, ws, rfl, rfl, ha, hb, by rw [ra.len, rb.len]; exact hk.1, fun p hp => rc_newO rc S hp (ra.app rb) hk.2⟩))
  · exact hk.elim
theorem os_sub : OpS K (rI0 fun i j => .int (i - j)) subU := by
  intro E F H σ ρ g v1 v2 x1 x2 k Q S h1 h2 hk rc
  unfold subU at hk
  split at hk
  · rw [h1.int, h2.int]
    exact ⟨_, _, rfl, rfl, rc_same rc S (.int _) hk⟩
  · exact hk.elim
def rMulU : R2 := fun x y H Q => rI CMulW (fun i j => .int (i * j)) x y H Q ∨ rRep x y H Q
theorem op_mulU : OpR X (binaryOp .Mult) rMulU := op_mulW.or op_rep
theorem flat_rp {F : Hp} {vs : List V} {xs : List D} (r : RpL K F vs xs) : ∀ n : Nat, RpL K F (List.replicate n vs).flatten (List.replicate n xs).flatten
  | 0 => .nil
  | n + 1 => by
    rw [List.replicate_succ, List.replicate_succ, List.flatten_cons, List.flatten_cons]
    exact r.app (flat_rp r n)
theorem os_mul : OpS K rMulU mulU := by
  intro E F H σ ρ g v1 v2 x1 x2 k Q S h1 h2 hk rc
  unfold mulU at hk
  split at hk
  · rw [h1.int, h2.int]
    exact .inl ⟨_, _, rfl, rfl, hk.1, rc_same rc S (.int _) hk.2⟩
  · obtain ⟨a, vs, rfl, ha, ra⟩ := h1.lst S.ext
    rw [h2.int]
    exact .inr ⟨a, _, vs, rfl, rfl, ha, hk.1.1, hk.1.2.1, by rw [ra.len]; exact hk.1.2.2, fun p hp => rc_newO rc S hp (flat_rp ra _) hk.2⟩
  · exact hk.elim
theorem os_I {C : Int → Int → Prop} {f : Int → Int → Int} {op : D → D → (U → Prop) → Prop} (h : ∀ x y k, op x y k → ∃ i j, x = .int i ∧ y = .int j ∧ C i j ∧ k (.d (.int (f i j)))) : OpS K (rI C fun i j => .int (f i j)) op := by
  intro E F H σ ρ g v1 v2 x1 x2 k Q S h1 h2 hk rc
  obtain ⟨i, j, rfl, rfl, c, q⟩ := h _ _ _ hk
  rw [h1.int, h2.int]
  exact ⟨_, _, rfl, rfl, c, rc_same rc S (.int _) q⟩
theorem os_div : OpS K (rI CDivW fun i j => .int (i / j)) divU := os_I fun x y k h => by
  unfold divU at h
  split at h
  · exact ⟨_, _, rfl, rfl, h.1, h.2⟩
  · exact h.elim
theorem os_mod : OpS K (rI (fun _ j => 0 < j) fun i j => .int (i % j)) modU := os_I fun x y k h => by
  unfold modU at h
  split at h
  · exact ⟨_, _, rfl, rfl, h.1, h.2⟩
  · exact h.elim
theorem os_pow : OpS K (rI CPow fun i j => .int (i ^ j.toNat)) powU := os_I fun x y k h => by
  unfold powU at h
  split at h
  · exact ⟨_, _, rfl, rfl, h.1, h.2⟩
  · exact h.elim
theorem os_eq : OpS K (rEqD K) eqU := fun E F H σ ρ g v1 v2 x1 x2 k Q S h1 h2 hk rc =>
  ⟨_, _, h1.dp S.ext hk.1.1, h2.dp S.ext hk.1.2, hk.1.1, hk.1.2, rc_same rc S (.bl _) hk.2⟩
theorem os_ne : OpS K (rNeD K) neU := fun E F H σ ρ g v1 v2 x1 x2 k Q S h1 h2 hk rc =>
  ⟨_, _, h1.dp S.ext hk.1.1, h2.dp S.ext hk.1.2, hk.1.1, hk.1.2, rc_same rc S (.bl _) hk.2⟩
theorem os_cmp {f : Int → Int → Bool} : OpS K (rI0 fun i j => .bl (f i j)) (cmpU f) := by
  intro E F H σ ρ g v1 v2 x1 x2 k Q S h1 h2 hk rc
  unfold cmpU at hk
  split at hk
  · rw [h1.int, h2.int]
    exact ⟨_, _, rfl, rfl, rc_same rc S (.bl _) hk⟩
  · exact hk.elim
theorem Vw.isNon {F H : Hp} {v : V} {x : D} (h : Vw K F H v x) : decide (v = .non) = isNon x := by
  rcases h with h | ⟨a, vs, xs, rfl, rfl, h1, h2⟩ | ⟨a, vs, xs, rfl, rfl, h1, h2⟩
  · cases h <;> simp [Y.isNon]
  all_goals simp [Y.isNon]
theorem os_is : OpS K (fun x y H Q => y = .non ∧ Q (.bl (decide (x = .non))) H) isU := by
  intro E F H σ ρ g v1 v2 x1 x2 k Q S h1 h2 hk rc
  unfold isU at hk
  split at hk
  · rw [h1.isNon]
    exact ⟨h2.non, rc_same rc S (.bl _) hk⟩
  · exact hk.elim
theorem os_isn : OpS K (fun x y H Q => y = .non ∧ Q (.bl (!decide (x = .non))) H) isnU := by
  intro E F H σ ρ g v1 v2 x1 x2 k Q S h1 h2 hk rc
  unfold isnU at hk
  split at hk
  · rw [h1.isNon]
    exact ⟨h2.non, rc_same rc S (.bl _) hk⟩
  · exact hk.elim
/-! in -/
theorem any_map {α β : Type} (f : α → β) (p : β → Bool) : ∀ xs : List α, (xs.map f).any p = xs.any fun x => p (f x)
  | [] => rfl
  | x :: xs => by rw [List.map_cons, List.any_cons, List.any_cons, any_map f p xs]
theorem toPyL_map : ∀ xs : List D, toPyL xs = xs.map toPy
  | [] => rfl
  | x :: xs => by rw [toPyL, toPyL_map xs, List.map_cons]
theorem flat_v {F : Hp} {v : V} {x : D} (h : Rp K F v x) (f : flatD x = true) : flatV v = true := by
  cases h <;> first | rfl | exact absurd f (by decide) | (exact absurd (show false = true from f) Bool.false_ne_true)
theorem flat_eq {F : Hp} {v w : V} {x y : D} (h : Rp K F v x) (h' : Rp K F w y) (f : flatD x = true) (f' : flatD y = true) : eqV v w = eqD x y := by
  cases h <;> first | (exact absurd (show false = true from f) Bool.false_ne_true) | skip
  all_goals cases h' <;> first | (exact absurd (show false = true from f') Bool.false_ne_true) | skip
  all_goals simp [eqV, eqD, toPy, PyData.eqv]
theorem flat_vs {F : Hp} : ∀ {vs : List V} {xs : List D}, RpL K F vs xs → xs.all flatD = true → vs.all flatV = true
  | _, _, .nil, _ => rfl
  | _, _, .cons h t, f => by
    rw [List.all_cons, Bool.and_eq_true] at f
    rw [List.all_cons, flat_v h f.1, flat_vs t f.2]
    rfl
theorem flat_any {F : Hp} {v : V} {x : D} (h : Rp K F v x) (f : flatD x = true) : ∀ {vs : List V} {xs : List D}, RpL K F vs xs → xs.all flatD = true → inV v vs = xs.any fun z => eqD z x
  | _, _, .nil, _ => rfl
  | _, _, .cons h' t, f' => by
    rw [List.all_cons, Bool.and_eq_true] at f'
    unfold inV
    rw [List.any_cons, List.any_cons, flat_eq h' h f'.1 f]
    have e := flat_any h f t f'.2
    unfold inV at e
    rw [e]
theorem Vw.flat {F H : Hp} {v : V} {x : D} (h : Vw K F H v x) (f : flatD x = true) : Rp K F v x := by
  rcases h with h | ⟨a, vs, xs, rfl, rfl, h1, h2⟩ | ⟨a, vs, xs, rfl, rfl, h1, h2⟩
  · exact h
  all_goals exact absurd (show false = true from f) Bool.false_ne_true
def rInU (K : PySem.W.Frag) (neg : Bool) : R2 := fun x y H Q => (∃ d ds, Dp K H x d ∧ Dp K H y (.list ds) ∧ SeqAt.shaped d = true ∧ SeqAt.shaped (.list ds) = true ∧ Q (.bl (neg != ds.any fun z => PyData.eqv z d)) H) ∨ rIn K neg x y H Q ∨
  (∃ (c : Nat) (z : Str), x = .str ⟨#[c]⟩ ∧ y = .str z ∧ Q (.bl (neg != decide (c ∈ z.cps.toList))) H)
theorem op_inU (hu : X.A.units + 65 < cLine) : OpR X (compareOp .In) (rInU X.K false) := by
  have h1 : OpR X (compareOp .In) (fun x y H Q => ∃ d ds, Dp X.K H x d ∧ Dp X.K H y (.list ds) ∧ SeqAt.shaped d = true ∧ SeqAt.shaped (.list ds) = true ∧ Q (.bl (false != ds.any fun z => PyData.eqv z d)) H) := fun pins s σ H x y v u Q I rx ry h => by
    obtain ⟨d, ds, a, b, c, e, q⟩ := h
    exact op_inD hu pins s σ H x y v u Q I rx ry ⟨d, ds, a, b, c, e, by rwa [Bool.false_bne] at q⟩
  have h3 : OpR X (compareOp .In) (fun x y H Q => ∃ (c : Nat) (z : Str), x = .str ⟨#[c]⟩ ∧ y = .str z ∧ Q (.bl (false != decide (c ∈ z.cps.toList))) H) := fun pins s σ H x y v u Q I rx ry h => by
    obtain ⟨c, z, a, b, q⟩ := h
    exact op_in_sign pins s σ H x y v u Q I rx ry ⟨c, z, a, b, by rwa [Bool.false_bne] at q⟩
  exact h1.or (op_in_seq.or h3)
theorem op_ninU (hu : X.A.units + 65 < cLine) : OpR X (compareOp .NotIn) (rInU X.K true) := by
  have h1 : OpR X (compareOp .NotIn) (fun x y H Q => ∃ d ds, Dp X.K H x d ∧ Dp X.K H y (.list ds) ∧ SeqAt.shaped d = true ∧ SeqAt.shaped (.list ds) = true ∧ Q (.bl (true != ds.any fun z => PyData.eqv z d)) H) := fun pins s σ H x y v u Q I rx ry h => by
    obtain ⟨d, ds, a, b, c, e, q⟩ := h
    exact op_notInD hu pins s σ H x y v u Q I rx ry ⟨d, ds, a, b, c, e, by rwa [Bool.true_bne] at q⟩
  have h3 : OpR X (compareOp .NotIn) (fun x y H Q => ∃ (c : Nat) (z : Str), x = .str ⟨#[c]⟩ ∧ y = .str z ∧ Q (.bl (true != decide (c ∈ z.cps.toList))) H) := fun pins s σ H x y v u Q I rx ry h => by
    obtain ⟨c, z, a, b, q⟩ := h
    exact op_notIn_sign pins s σ H x y v u Q I rx ry ⟨c, z, a, b, by rwa [Bool.true_bne] at q⟩
  exact h1.or (op_notIn_seq.or h3)
theorem os_in {neg : Bool} : OpS K (rInU K neg) (inU neg) := by
  intro E F H σ ρ g v1 v2 x1 x2 k Q S h1 h2 hk rc
  unfold inU at hk
  split at hk
  · rename_i ys k'
    have q := hk.2
    refine .inl ⟨toPy x1, toPyL _, h1.dp S.ext hk.1.1, by simpa [toPy] using h2.dp S.ext hk.1.2, hk.1.1, by simpa [toPy, okD] using hk.1.2, ?_⟩
    rw [toPyL_map, any_map]
    exact rc_same rc S (.bl _) q
  · obtain ⟨a, vs, rfl, ha, ra⟩ := h2.tup
    refine .inr (.inl ⟨a, vs, rfl, .inr (sqt_same S.ext ha), flat_v (h1.flat hk.1.1) hk.1.1, flat_vs ra hk.1.2, ?_⟩)
    rw [flat_any (h1.flat hk.1.1) hk.1.1 ra hk.1.2]
    cases neg with
    | true => exact rc_same rc S (.bl _) (by have := hk.2; rwa [Bool.true_bne] at this)
    | false => exact rc_same rc S (.bl _) (by have := hk.2; rwa [Bool.false_bne] at this)
  · obtain ⟨c, rfl, q⟩ := hk
    rw [h1.str, h2.str]
    exact .inr (.inr ⟨c, _, rfl, rfl, rc_same rc S (.bl _) q⟩)
  · exact hk.elim
/-! ### subscripts -/
@[simp] def ixU : D → D → (U → Prop) → Prop
  | .tup xs, .int i, k => ∃ x, atI xs i = some x ∧ k (.d x)
  | .lst xs, .int i, k => ∃ x, atI xs i = some x ∧ k (.d x)
  | .ro xs, .int i, k => ∃ x, atI xs i = some x ∧ k (.d x)
  | .str z, .int i, k => z.length ≤ sizeLine ∧ ∃ c, atI z.cps.toList i = some c ∧ k (.d (.str ⟨#[c]⟩))
  | _, _, _ => False
theorem RpL.at {F : Hp} {vs : List V} {xs : List D} {i : Int} {x : D} (r : RpL K F vs xs) (h : atI xs i = some x) : ∃ v, atI vs i = some v ∧ Rp K F v x := by
  unfold atI at h ⊢
  rw [r.len]
  cases e : ixN xs.length i with
  | none => rw [e] at h; cases h
  | some j =>
    rw [e] at h
    exact r.get h
theorem os_ix : OpS K (rIx K) ixU := by
  intro E F H σ ρ g v1 v2 x1 x2 k Q S h1 h2 hk rc
  unfold ixU at hk
  split at hk
  · obtain ⟨x, hx, q⟩ := hk
    obtain ⟨a, vs, rfl, ha, ra⟩ := h1.tup
    obtain ⟨v, hv, rv⟩ := ra.at hx
    rw [h2.int]
    exact .inr (.inl ⟨a, vs, _, v, rfl, rfl, sqt_same S.ext ha, hv, rc_same rc S rv q⟩)
  · obtain ⟨x, hx, q⟩ := hk
    obtain ⟨a, vs, rfl, ha, ra⟩ := h1.lst S.ext
    obtain ⟨v, hv, rv⟩ := ra.at hx
    rw [h2.int]
    exact .inl ⟨a, vs, _, v, rfl, rfl, .inl (.inl ha), hv, rc_same rc S rv q⟩
  · obtain ⟨x, hx, q⟩ := hk
    obtain ⟨a, vs, rfl, ha, ra⟩ := h1.ro
    obtain ⟨v, hv, rv⟩ := ra.at hx
    rw [h2.int]
    exact .inl ⟨a, vs, _, v, rfl, rfl, S.ext.seq ha, hv, rc_same rc S rv q⟩
  · obtain ⟨z, c, hc, q⟩ := hk
    rw [h1.str, h2.int]
    exact .inr (.inr ⟨_, _, c, rfl, rfl, z, hc, rc_same rc S (.str _) q⟩)
  · exact hk.elim
variable {cn : Str → Option Addr} {W : WX} {e a b c : Expr} {es : List Expr} {pos : Pos} {m ma mb mc : ME}
theorem re_ix (ha : PE X a (cE X.K cn W ma)) (hb : PE X b (cE X.K cn W mb)) (hs : PlainIx b := by exact fun _ _ => rfl) : PE X (.Subscript a b pos) (cE X.K cn W (wBin ixU ma mb)) :=
  pe_wk (pe_ix ix_seq ha hb hs) (bin_ok os_ix)
/-! slices -/
def cutD {α : Type} (xs : List α) (lo hi : Option Int) : List α := (xs.drop (HT.sIx xs.length 0 lo)).take (HT.sIx xs.length xs.length hi - HT.sIx xs.length 0 lo)
@[simp] def slU : D → Option Int → Option Int → (U → Prop) → Prop
  | .tup xs, lo, hi, k => k (.d (.tup (cutD xs lo hi)))
  | .lst xs, lo, hi, k => k (.own (.lst (cutD xs lo hi)))
  | .str z, lo, hi, k => z.length ≤ sizeLine ∧ k (.d (.str (cutS z lo hi)))
  | _, _, _, _ => False
theorem cut_rp {F : Hp} {vs : List V} {xs : List D} {lo hi : Option Int} (r : RpL K F vs xs) : RpL K F (cutV vs lo hi) (cutD xs lo hi) := by
  unfold cutV cutD
  rw [r.len]
  exact (r.drp _).tak _
end
open PySem L2 PyProof.Rows

/-! ### t[::-1] -/
theorem adjust_rev (n : Nat) : Builtin.Slice.sliceAdjust none none (-1) (n : Int) = ((n : Int) - 1, -1) := by
  unfold Builtin.Slice.sliceAdjust
  simp
theorem places_rev (n : Nat) : Builtin.Slice.slicePlaces ((n : Int) - 1) (-1) (-1) = n := by
  unfold Builtin.Slice.slicePlaces
  have h1 : ¬ ((-1 : Int) > 0) := by omega
  simp only [h1, if_false]
  have e : -(-1 : Int) = 1 := rfl
  rw [e, Int.ediv_one]
  split <;> omega
theorem fm_congr {α β : Type} {f g : α → Option β} : ∀ l : List α, (∀ a ∈ l, f a = g a) → l.filterMap f = l.filterMap g
  | [], _ => rfl
  | a :: l, h => by
    rw [List.filterMap_cons, List.filterMap_cons, h a List.mem_cons_self, fm_congr l fun b hb => h b (List.mem_cons_of_mem _ hb)]
theorem pick_rev (xs : Array Value) : ((List.range xs.size).filterMap fun (m : Nat) => xs[(((xs.size : Int) - 1) + (m : Int) * -1).toNat]?).toArray = xs.toList.reverse.toArray := by
  have e : (List.range xs.size).filterMap (fun (m : Nat) => xs[(((xs.size : Int) - 1) + (m : Int) * -1).toNat]?) = ((List.range xs.size).map fun k => xs.size - 1 - k).filterMap (xs[·]?) := by
    rw [List.filterMap_map]
    apply fm_congr
    intro m hm
    have := List.mem_range.mp hm
    show _ = xs[xs.size - 1 - m]?
    congr 1
    omega
  rw [e, PySem.W.krv_range, List.filterMap_reverse, PySem.W.krv_all]
section
variable {prog : Program} {w : World} {A : Around} {E : Value → Shared → Prop} {s : Shared}
open HT in
theorem getItem_tuple_rev {t sl : Addr} {items : Array Value} {vs : Value} {Q : Value → Shared → Prop} (ht : IsTup s.heap t items) (hs : s.heap.IsSliceOf sl .none .none vs) (pu : IsPart vs (some (-1)))
    (h : Q (.ref s.heap.objs.size) { s with heap := s.heap.push { cls := .type "tuple", data := .seq items.toList.reverse.toArray } })
    (hsz : items.size ≤ sizeLine) : wpAny (model prog w) A (getItem (.ref t) (.ref sl)) Q E s := by
  have htake : sizeOk (.seq items.toList.reverse.toArray) := by
    show items.toList.reverse.toArray.size ≤ sizeLine
    rw [List.size_toArray, List.length_reverse, Array.length_toList]
    exact hsz
  obtain ⟨os, hos, hcs, hds⟩ := id hs
  have hTs : s.TypeIs (.ref sl) "slice" := ⟨os, hos, hcs⟩
  have happ : ∀ {B : Around} {R : Int × Int × Nat → Shared → Prop}, R ((items.size : Int) - 1, -1, items.size) s → wpAny (model prog w) B (Builtin.Slice.sliceApplied (.ref sl) (pure (items.size : Int))) R E s := by
    intro B R hR
    unfold Builtin.Slice.sliceApplied Builtin.Slice.sliceFields
    refine wpAny_bind (wpAny_bind (wpAny_field hos hds (x := .none) rfl (wpAny_bind (wpAny_field hos hds (x := .none) rfl (wpAny_bind (wpAny_field hos hds (x := vs) rfl (wpAny_pure ?_)))))))
    refine wpAny_bind (slicePart_ pu ?_)
    show wpAny _ _ (if ((-1 : Int) == 0) = true then _ else _) _ _ s
    rw [if_neg (by decide)]
    refine wpAny_bind (slicePart_none (wpAny_bind (slicePart_none (wpAny_bind (wpAny_pure ?_)))))
    show wpAny _ _ (match Builtin.Slice.sliceAdjust none none (-1) (items.size : Int) with | (lo, hi) => pure (lo, (-1 : Int), Builtin.Slice.slicePlaces lo hi (-1))) _ _ s
    rw [adjust_rev]
    show wpAny _ _ (pure ((items.size : Int) - 1, (-1 : Int), Builtin.Slice.slicePlaces ((items.size : Int) - 1) (-1) (-1))) _ _ s
    rw [places_rev]
    exact wpAny_pure hR
  unfold getItem
  try with_reducible refine wpAny_holding ?_
  first | refine wpAny_bind (wpAny_pure ?_) | skip
  refine wpAny_bind (wpAny_sequenceKey ht.typeIs (by decide) ?_)
  refine wpAny_bind (wpAny_callSpecial?_slot (name := Str.ofString "__getitem__") ht.typeIs PyProof.Rows.slot_tuple_getitem
    (wpAny_call_entry PyProof.Rows.slot_tuple_getitem ht.typeIs entry_tuple_getitem ?_ (args_tuple_getitem _ _)))
  show wpAny _ _ (Builtin.Tuple.tupleItemsOf (.ref t) >>= _) _ _ s
  refine wpAny_bind (tupleItemsOf_ ht ?_)
  refine wpAny_bind (wpAny_typeOf hTs ?_)
  rw [if_pos (by decide)]
  refine wpAny_bind (happ ?_)
  have hno : ¬ ((((items.size : Int) - 1) == 0 && (-1 : Int) == 1 && items.size == items.size) = true) := by
    intro q
    rw [Bool.and_eq_true, Bool.and_eq_true] at q
    exact absurd (eq_of_beq q.1.2) (by decide)
  show wpAny _ _ (if (((items.size : Int) - 1) == 0 && (-1 : Int) == 1 && items.size == items.size) = true then _ else _) _ _ s
  rw [if_neg hno, pick_rev]
  first
    | exact wpAny_bind (m := Builtin.Tuple.tupleExact _) (wpAny_newObj_type (wpAny_pure ⟨_, rfl, wpAny_pure h⟩) htake)
    | exact wpAny_bind (m := Builtin.Tuple.tupleExact _) (wpAny_newObj_type (wpAny_bind (wpAny_pure (wpAny_pure ⟨_, rfl, wpAny_pure h⟩))) htake)
    | exact wpAny_bind (wpAny_bind (m := Builtin.Tuple.tupleExact _) (wpAny_newObj_type (wpAny_pure (wpAny_pure ⟨_, rfl, wpAny_pure h⟩)) htake))
    | exact wpAny_bind (wpAny_bind (m := Builtin.Tuple.tupleExact _) (wpAny_newObj_type (wpAny_pure ⟨_, rfl, wpAny_pure h⟩) htake))
end
section
variable {X : Cx}
def tRevU (K : PySem.W.Frag) (te : TE) : TE := fun σ H Q => te σ H fun x H1 => (∃ a xs, x = .ref a ∧ SqL K H1 a xs ∧ ∀ p, H1 p = none → Q (.ref p) (upd H1 p (.lst xs.reverse))) ∨ ∃ a xs, x = .ref a ∧ SqT K H1 a xs ∧ ∀ p, H1 p = none → Q (.ref p) (upd H1 p (.tup xs.reverse))
theorem pe_revU {e : Expr} {te : TE} {k : Nat} {p1 p2 p3 pos : Pos} (he : PE X e te) : PE X (.Subscript e (.Slice none none (some (.UnaryOp .USub (.Constant (.int 1) k p1) p2)) p3) pos) (tRevU X.K te) := by
  refine ⟨fun pins s σ H Q I h => ?_⟩
  refine Subscript_ (thn (he.run pins s σ H _ I h) fun v s1 ⟨x, H1, I1, r1, q1⟩ => ?_)
  have hst : PO X (some (.UnaryOp .USub (.Constant (.int 1) k p1) p2)) (tPart (tUn (rU fun i => .int (-i)) (tC (.int 1)))) := po_some (pe_un un_neg pe_int)
  refine wpAny_Slice (thn (po_none.run pins s1 σ H1 (fun o H2 => o = none ∧ H2 = H1) I1 ⟨rfl, rfl⟩) fun vl s2 ⟨l, H2, I2, pl, el, e2⟩ => ?_)
  subst el e2
  refine thn (po_none.run pins s2 σ H2 (fun o H3 => o = none ∧ H3 = H2) I2 ⟨rfl, rfl⟩) fun vu s3 ⟨u, H3, I3, pu, eu, e3⟩ => ?_
  subst eu e3
  refine thn (hst.run pins s3 σ H3 (fun o H4 => o = some (-1) ∧ H4 = H3) I3 ⟨1, rfl, -1, rfl, rfl, rfl⟩) fun vs s4 ⟨o, H4, I4, ps, eo, e4⟩ => ?_
  subst eo e4
  have I5 : Inv X pins σ H4 { s4 with heap := s4.heap.push { cls := .type "slice", data := .fields #[vl, vu, vs] } } := I4.kept (t' := s4.toks) fun b ob q => Heap.get?_push_of_some _ q
  rcases q1 with ⟨a, xs, ex, hx, q⟩ | ⟨a, xs, ex, hx, q⟩
  · subst ex
    cases r1
    obtain ⟨its, r, ht, hz⟩ := I5.list hx
    show wpAny (model X.prog X.w) X.A (subscriptTail e (.Slice none none (some (.UnaryOp .USub (.Constant (.int 1) k p1) p2)) p3) (.ref a) (.ref s4.heap.objs.size)) (EP X pins σ Q) X.xe { s4 with heap := s4.heap.push { cls := .type "slice", data := .fields #[vl, vu, vs] } }
    refine tail_any (ops := [.ref a, .ref s4.heap.objs.size]) ht.isList.typeIs (PySem.slot_list_getitem.lookup) ?_ (by with_unfolding_all rfl)
    refine wpAny_getItem_list_slice ht.isList (Heap.IsSliceOf.new _ vl vu vs) pl pu ps (by decide) ?_ (by rw [List.size_toArray]; have := r.length; omega)
    rw [PySem.W.krv_pick]
    refine ⟨.ref _, _, I5.laid (t' := s4.toks) (o := .lst xs.reverse) (fun b ob q => Heap.get?_push_of_some _ q) (Nat.le_refl _) ?_, rfl, q _ (I5.hok.fresh (Nat.le_refl _))⟩
    exact ⟨by rw [List.length_reverse]; exact hz, _, 0, r.reverse, Heap.get?_push_size _ rfl⟩
  · subst ex
    cases r1
    obtain ⟨its, r, ht, hz⟩ := I5.tuple hx
    have pl' : vl = .none := by cases pl; rfl
    have pu' : vu = .none := by cases pu; rfl
    subst pl' pu'
    show wpAny (model X.prog X.w) X.A (subscriptTail e (.Slice none none (some (.UnaryOp .USub (.Constant (.int 1) k p1) p2)) p3) (.ref a) (.ref s4.heap.objs.size)) (EP X pins σ Q) X.xe { s4 with heap := s4.heap.push { cls := .type "slice", data := .fields #[.none, .none, vs] } }
    refine tail_any (ops := [.ref a, .ref s4.heap.objs.size]) ht.typeIs (PyProof.Rows.slot_tuple_getitem.lookup) ?_ (by with_unfolding_all rfl)
    refine getItem_tuple_rev ht (Heap.IsSliceOf.new _ .none .none vs) ps ?_ (by rw [List.size_toArray]; have := r.length; omega)
    refine ⟨.ref _, _, I5.laid (t' := s4.toks) (o := .tup xs.reverse) (fun b ob q => Heap.get?_push_of_some _ q) (Nat.le_refl _) ?_, rfl, q _ (I5.hok.fresh (Nat.le_refl _))⟩
    exact ⟨by rw [List.length_reverse]; exact hz, _, r.reverse, IsTup.new _ _⟩
end
open PySem L2 PyProof.Rows

section
variable {X : Cx} {K : PySem.W.Frag} {cn : Str → Option Addr} {W : WX} {e a b c : Expr} {es : List Expr} {pos : Pos} {m ma mb mc : ME}
/-! ### slices -/
def rSlU (K : PySem.W.Frag) : V → Option Int → Option Int → Hp → VK → Prop := fun x lo hi H Q => rSlA K x lo hi H Q ∨ rSlL K x lo hi H Q ∨ rSlS x lo hi H Q
theorem sl_U : SlR X (rSlU X.K) := sl_tupA.or (sl_list.or sl_str)
abbrev MO := Env → G → (Option Int → G → Prop) → KX → Prop
@[simp] def wO0 : MO := fun _ g Q _ => Q none g
@[simp] def intU (u : U) (k : Int → Prop) : Prop := match u with
  | .d (.int i) => k i
  | _ => False
@[simp] def wO (m : ME) : MO := fun ρ g Q X => m ρ g (fun u g1 => intU u fun i => Q (some i) g1) X
theorem intU_ok {E : Ent} {F H : Hp} {g : G} {v : V} {u : U} {k : Int → Prop} (o : UOk K E F H g v u) (h : intU u k) : ∃ i, v = .int i ∧ k i := by
  unfold intU at h
  split at h
  · have o' : Rp K F v (.int _) := o
    cases o'
    exact ⟨_, rfl, h⟩
  · exact h.elim
def cO (K : PySem.W.Frag) (cn : Str → Option Addr) (W : WX) (m : MO) : TO := fun σ H Qv => ∃ (E : Ent) (F : Hp) (ρ : Env) (g : G) (Qu : Option Int → G → Prop) (Qx : KX), Stt K E F H σ ρ g ∧ m ρ g Qu Qx ∧
  (∀ F' H' o g', Stt K E F' H' σ ρ g' → Stp g F H g' F' H' → Qu o g' → Qv o H') ∧ XC K cn W E σ ρ Qx
theorem po_wk {oe : Option Expr} {t t' : TO} (h : PO X oe t) (i : ∀ σ H Q, t' σ H Q → t σ H Q) : PO X oe t' := ⟨fun pins s σ H Q I q => h.run pins s σ H Q I (i σ H Q q)⟩
theorem ro_none : PO X none (cO X.K cn W wO0) := po_wk po_none fun σ H Q h => by
  obtain ⟨E, F, ρ, g, Qu, Qx, S, hm, hk, _⟩ := h
  exact hk F H none g S (Stp.refl g F H) hm
theorem ro_some (h : PE X e (cE X.K cn W m)) : PO X (some e) (cO X.K cn W (wO m)) := po_wk (po_some h) fun σ H Q h => by
  obtain ⟨E, F, ρ, g, Qu, Qx, S, hm, hk, hx⟩ := h
  refine ⟨E, F, ρ, g, _, Qx, S, hm, fun F1 H1 v u g1 S1 p1 o1 f1 q1 => ?_, hx⟩
  obtain ⟨i, e1, q⟩ := intU_ok o1 q1
  exact ⟨i, e1, hk F1 H1 (some i) g1 S1 p1 q⟩
@[simp] def wSl (m : ME) (lo hi : MO) : ME := fun ρ g Q X => m ρ g (fun u g1 => lo ρ g1 (fun l g2 => hi ρ g2 (fun h g3 => slU (view g3 u) l h fun z => Q z g3) X) X) X
theorem os_sl {E : Ent} {F H : Hp} {σ : L2.St} {ρ : Env} {g : G} {v : V} {x : D} {lo hi : Option Int} {k : U → Prop} {Q : VK} (S : Stt K E F H σ ρ g) (h : Vw K F H v x) (hk : slU x lo hi k) (rc : RC K E F H σ ρ g k Q) : rSlU K v lo hi H Q := by
  unfold slU at hk
  split at hk
  · obtain ⟨a, vs, rfl, ha, ra⟩ := h.tup
    refine .inl ⟨a, vs, rfl, sqt_same S.ext ha, fun w => ?_, fun _ p hp => rc_newF rc S hp (cut_rp ra) hk⟩
    have ec : ∀ xs, RpL K F vs xs → cutD xs lo hi = xs := fun xs r => by
      unfold cutD
      rw [← r.len, w.1, w.2, List.drop_zero, Nat.sub_zero, List.take_of_length_le (by rw [r.len]; exact Nat.le_refl _)]
    rw [ec _ ra] at hk
    exact rc_same rc S (.tup ha ra) hk
  · obtain ⟨a, vs, rfl, ha, ra⟩ := h.lst S.ext
    exact .inr (.inl ⟨a, vs, rfl, .inl (.inl ha), fun p hp => rc_newO rc S hp (cut_rp ra) hk⟩)
  · rw [h.str]
    exact .inr (.inr ⟨_, rfl, hk.1, rc_same rc S (.str _) hk.2⟩)
  · exact hk.elim
theorem re_sl {lo hi : Option Expr} {ml mh : MO} {p2 : Pos} (he : PE X e (cE X.K cn W m)) (hl : PO X lo (cO X.K cn W ml)) (hh : PO X hi (cO X.K cn W mh)) : PE X (.Subscript e (.Slice lo hi none p2) pos) (cE X.K cn W (wSl m ml mh)) :=
  pe_wk (pe_slice sl_U he hl hh) fun σ H Q h => by
    obtain ⟨E, F, ρ, g, Qu, Qx, S, hm, hk, hx⟩ := h
    refine ⟨E, F, ρ, g, _, Qx, S, hm, fun F1 H1 v u g1 S1 p1 o1 f1 q1 => ⟨E, F1, ρ, g1, _, Qx, S1, q1, fun F2 H2 l g2 S2 p2 q2 => ⟨E, F2, ρ, g2, _, Qx, S2, q2, fun F3 H3 h g3 S3 p3 q3 => ?_, hx⟩, hx⟩, hx⟩
    exact os_sl S3 (S3.vw ((o1.step p2).step p3)) q3 fun F4 H4 y t S4 p4 o4 f4 q4 => hk F4 H4 y t g3 S4 ((p1.trans p2).trans (p3.trans p4)) o4 (f4.back ((p1.trans p2).trans p3)) q4
@[simp] def revU : D → (U → Prop) → Prop
  | .lst xs, k => k (.own (.lst xs.reverse))
  | .tup xs, k => k (.d (.tup xs.reverse))
  | _, _ => False
theorem re_rev {k : Nat} {p1 p2 p3 : Pos} (he : PE X e (cE X.K cn W m)) : PE X (.Subscript e (.Slice none none (some (.UnaryOp .USub (.Constant (.int 1) k p1) p2)) p3) pos) (cE X.K cn W (wUn revU m)) :=
  pe_wk (pe_revU he) fun σ H Q h => un_ok (r := fun x H1 Q => (∃ a xs, x = .ref a ∧ SqL X.K H1 a xs ∧ ∀ p, H1 p = none → Q (.ref p) (upd H1 p (.lst xs.reverse))) ∨ ∃ a xs, x = .ref a ∧ SqT X.K H1 a xs ∧ ∀ p, H1 p = none → Q (.ref p) (upd H1 p (.tup xs.reverse)))
    (fun E F H σ ρ g v x k Q S hv hk rc => by
      unfold revU at hk
      split at hk
      · obtain ⟨a, vs, rfl, ha, ra⟩ := hv.lst S.ext
        exact .inl ⟨a, vs, rfl, .inl (.inl ha), fun p hp => rc_newO rc S hp ra.rev hk⟩
      · obtain ⟨a, vs, rfl, ha, ra⟩ := hv.tup
        exact .inr ⟨a, vs, rfl, sqt_same S.ext ha, fun p hp => rc_newF rc S hp ra.rev hk⟩
      · exact hk.elim) σ H Q h

/-! ### - x -/
@[simp] def negU : D → (U → Prop) → Prop
  | .int i, k => k (.d (.int (-i)))
  | _, _ => False
theorem os_neg : UnS K (rU fun i => .int (-i)) negU := fun E F H σ ρ g v x k Q S hv hk rc => by
  unfold negU at hk
  split at hk
  · rw [hv.int]
    exact ⟨_, rfl, rc_same rc S (.int _) hk⟩
  · exact hk.elim
theorem re_neg (he : PE X e (cE X.K cn W m)) : PE X (.UnaryOp .USub e pos) (cE X.K cn W (wUn negU m)) := re_un un_neg os_neg he

/-! ### built-ins of one argument -/
def CallS (K : PySem.W.Frag) (r : List V → Hp → VK → Prop) (op : D → (U → Prop) → Prop) : Prop := UnS K (fun v H Q => r [v] H Q) op
theorem re_b1 {x : Str} {p : Pos} {id : String} {r : List V → Hp → VK → Prop} {op : D → (U → Prop) → Prop} (hc : CallR X (.builtin id) r) (hs : CallS X.K r op) (hg : Gl X x) (hm : X.mg x = none) (hv : bootBuiltins x = some (.builtin id)) (ha : PE X a (cE X.K cn W m))
    (hn : x ≠ "__name__" := by decide) (hd : (x == ("__debug__" : Str)) = false := by decide) (hse : starEach [a] X.env = (false, eval a X.env) :: starEach [] X.env := by rfl) (hpl : (backTo pos (starEach [] X.env)).any (·.1) = false := by rfl) :
    PE X (.Call (.Name x p) [a] [] pos) (cE X.K cn W (wUn op m)) := pe_wk (pe_callB hc hg hm hv (pa_cons ha pa_nil (hs := hse)) (hn := hn) (hdb := hd) (he := hse) (hpl := hpl)) (un_ok hs)
theorem re_t1 {x : Str} {p : Pos} {T : String} {r : List V → Hp → VK → Prop} {op : D → (U → Prop) → Prop} (hc : CallR X (.type T) r) (hs : CallS X.K r op) (hg : Gl X x) (hm : X.mg x = none) (hv : bootBuiltins x = some (.type T)) (ha : PE X a (cE X.K cn W m))
    (hn : x ≠ "__name__" := by decide) (hd : (x == ("__debug__" : Str)) = false := by decide) (hse : starEach [a] X.env = (false, eval a X.env) :: starEach [] X.env := by rfl) (hpl : (backTo pos (starEach [] X.env)).any (·.1) = false := by rfl) :
    PE X (.Call (.Name x p) [a] [] pos) (cE X.K cn W (wUn op m)) := pe_wk (pe_callTy hc hg hm hv (pa_cons ha pa_nil (hs := hse)) (hn := hn) (hdb := hd) (he := hse) (hpl := hpl)) (un_ok hs)
@[simp] def lenU : D → (U → Prop) → Prop
  | .str z, k => z.length ≤ sizeLine ∧ k (.d (.int (z.length : Nat)))
  | .tup xs, k => k (.d (.int (xs.length : Nat)))
  | .lst xs, k => k (.d (.int (xs.length : Nat)))
  | .ro xs, k => k (.d (.int (xs.length : Nat)))
  | _, _ => False
theorem cs_len : CallS X.K (fun xs H Q => ∃ x n, xs = [x] ∧ LenV X.K x H n ∧ Q (.int n) H) lenU := fun E F H σ ρ g v x k Q S hv hk rc => by
  unfold lenU at hk
  split at hk
  · rw [hv.str]
    exact ⟨_, _, rfl, ⟨hk.1, rfl⟩, rc_same rc S (.int _) hk.2⟩
  · obtain ⟨a, vs, rfl, ha, ra⟩ := hv.tup
    exact ⟨_, _, rfl, .inr ⟨vs, sqt_same S.ext ha, rfl⟩, by rw [ra.len]; exact rc_same rc S (.int _) hk⟩
  · obtain ⟨a, vs, rfl, ha, ra⟩ := hv.lst S.ext
    exact ⟨_, _, rfl, .inl ⟨vs, .inl (.inl ha), rfl⟩, by rw [ra.len]; exact rc_same rc S (.int _) hk⟩
  · obtain ⟨a, vs, rfl, ha, ra⟩ := hv.ro
    exact ⟨_, _, rfl, .inl ⟨vs, S.ext.seq ha, rfl⟩, by rw [ra.len]; exact rc_same rc S (.int _) hk⟩
  · exact hk.elim
@[simp] def tupleU : D → (U → Prop) → Prop
  | .tup xs, k => k (.d (.tup xs))
  | .lst xs, k => k (.d (.tup xs))
  | _, _ => False
theorem cs_tuple : CallS X.K (fun xs H Q => ∃ p ys, xs = [.ref p] ∧ ((SqL X.K H p ys ∧ ∀ l, H l = none → Q (.ref l) (upd H l (.tup ys))) ∨ (SqT X.K H p ys ∧ Q (.ref p) H))) tupleU := fun E F H σ ρ g v x k Q S hv hk rc => by
  unfold tupleU at hk
  split at hk
  · obtain ⟨a, vs, rfl, ha, ra⟩ := hv.tup
    exact ⟨a, vs, rfl, .inr ⟨sqt_same S.ext ha, rc_same rc S (.tup ha ra) hk⟩⟩
  · obtain ⟨a, vs, rfl, ha, ra⟩ := hv.lst S.ext
    exact ⟨a, vs, rfl, .inl ⟨.inl (.inl ha), fun p hp => rc_newF rc S hp ra hk⟩⟩
  · exact hk.elim
@[simp] def listU : D → (U → Prop) → Prop
  | .tup xs, k => k (.own (.lst xs))
  | .lst xs, k => k (.own (.lst xs))
  | _, _ => False
theorem cs_list : CallS X.K (fun xs H Q => ∃ p ys, xs = [.ref p] ∧ (SqL X.K H p ys ∨ SqT X.K H p ys) ∧ ∀ l, H l = none → Q (.ref l) (upd H l (.lst ys))) listU := fun E F H σ ρ g v x k Q S hv hk rc => by
  unfold listU at hk
  split at hk
  · obtain ⟨a, vs, rfl, ha, ra⟩ := hv.tup
    exact ⟨a, vs, rfl, .inr (sqt_same S.ext ha), fun p hp => rc_newO rc S hp ra hk⟩
  · obtain ⟨a, vs, rfl, ha, ra⟩ := hv.lst S.ext
    exact ⟨a, vs, rfl, .inl (.inl (.inl ha)), fun p hp => rc_newO rc S hp ra hk⟩
  · exact hk.elim
@[simp] def intcU : D → (U → Prop) → Prop
  | .int i, k => k (.d (.int i))
  | .bl b, k => k (.d (.int (if b then 1 else 0)))
  | .str z, k => ∃ n, PySem.intText? z = some n ∧ z.length ≤ 640 ∧ k (.d (.int n))
  | _, _ => False
def rIntU : List V → Hp → VK → Prop := fun xs H Q => ((∃ i, xs = [.int i] ∧ Q (.int i) H) ∨ ∃ k, xs = [.bl k] ∧ Q (.int (if k then 1 else 0)) H) ∨ (∃ a n, xs = [.str a] ∧ PySem.intText? a = some n ∧ a.length ≤ 640 ∧ Q (.int n) H)
theorem call_intU : CallR X (.type "int") rIntU := call_int1.or call_int_str
theorem cs_int : CallS X.K rIntU intcU := fun E F H σ ρ g v x k Q S hv hk rc => by
  unfold intcU at hk
  split at hk
  · rw [hv.int]
    exact .inl (.inl ⟨_, rfl, rc_same rc S (.int _) hk⟩)
  · rw [hv.bl]
    exact .inl (.inr ⟨_, rfl, rc_same rc S (.int _) hk⟩)
  · obtain ⟨n, hn, hl, q⟩ := hk
    rw [hv.str]
    exact .inr ⟨_, n, rfl, hn, hl, rc_same rc S (.int _) q⟩
  · exact hk.elim
@[simp] def strU : D → (U → Prop) → Prop
  | .int i, k => i.natAbs.log2 < 1920 ∧ k (.d (.str (toString i)))
  | _, _ => False
theorem cs_str : CallS X.K (fun xs H Q => ∃ i, xs = [.int i] ∧ i.natAbs.log2 < 1920 ∧ Q (.str (toString i)) H) strU := fun E F H σ ρ g v x k Q S hv hk rc => by
  unfold strU at hk
  split at hk
  · rw [hv.int]
    exact ⟨_, rfl, hk.1, rc_same rc S (.str _) hk.2⟩
  · exact hk.elim
@[simp] def absU : D → (U → Prop) → Prop
  | .int i, k => k (.d (.int (if i < 0 then -i else i)))
  | _, _ => False
theorem cs_abs : CallS X.K (fun xs H Q => ∃ i, xs = [.int i] ∧ Q (.int (if i < 0 then -i else i)) H) absU := fun E F H σ ρ g v x k Q S hv hk rc => by
  unfold absU at hk
  split at hk
  · rw [hv.int]
    exact ⟨_, rfl, rc_same rc S (.int _) hk⟩
  · exact hk.elim
/-- the sum of ints -/
def intsD : List D → Option (List Int)
  | [] => some []
  | .int i :: xs => (intsD xs).map (i :: ·)
  | _ :: _ => none
theorem intsD_map : ∀ {xs : List D} {ns : List Int}, intsD xs = some ns → xs = ns.map D.int
  | [], ns, h => by cases h; rfl
  | .int i :: xs, ns, h => by
    unfold intsD at h
    cases e : intsD xs with
    | none => rw [e] at h; cases h
    | some ms =>
      rw [e] at h
      cases h
      rw [intsD_map e]
      rfl
  | .non :: _, _, h => by cases h
  | .bl _ :: _, _, h => by cases h
  | .str _ :: _, _, h => by cases h
  | .tup _ :: _, _, h => by cases h
  | .lst _ :: _, _, h => by cases h
  | .dct _ :: _, _, h => by cases h
  | .ref _ :: _, _, h => by cases h
  | .ty _ :: _, _, h => by cases h
  | .ro _ :: _, _, h => by cases h
  | .exn _ _ _ :: _, _, h => by cases h
theorem intsD_of : ∀ ns : List Int, intsD (ns.map D.int) = some ns
  | [] => rfl
  | n :: ns => by
    show (intsD (ns.map D.int)).map (n :: ·) = some (n :: ns)
    rw [intsD_of ns]
    rfl
@[simp] def sumU : D → (U → Prop) → Prop
  | .tup xs, k => ∃ ns, intsD xs = some ns ∧ k (.d (.int ns.sum))
  | .lst xs, k => ∃ ns, intsD xs = some ns ∧ k (.d (.int ns.sum))
  | _, _ => False
def rSumU (K : PySem.W.Frag) : List V → Hp → VK → Prop := fun vs H Q => ∃ (a : Addr) (ns : List Int), vs = [V.ref a] ∧ (SqL K H a (ns.map V.int) ∨ SqT K H a (ns.map V.int)) ∧ Q (.int ns.sum) H
theorem cr_sumU (hc : X.calm = true) : CallR X (.builtin "sum") (rSumU X.K) := by
  intro pins s σ H vs us Q I r h
  obtain ⟨a, ns, rfl, hs | hs, q⟩ := h
  · exact cr_sum hc pins s σ H _ us Q I r ⟨a, ns, rfl, hs, q⟩
  · obtain ⟨its, rv, hl, _⟩ := I.tuple hs
    rw [Vals.ref1 r]
    have hi : IntsAre its ns := rv.ints
    obtain ⟨zs, hz⟩ := hi.allInts.items
    have hn : numsOf its.toArray.toList = ns := by rw [show its.toArray.toList = its from rfl, hi.numsOf]
    rw [hz] at hl hn
    rw [nums_intItems] at hn
    refine PySem.W.ktm_sumG (I.ok.hd hc) hl fun h' tk t' hk => ?_
    rw [preSum_eq, List.take_of_length_le (by simp), hn]
    exact ⟨.int _, H, I.kept hk, ⟨_, rfl⟩, q⟩
theorem cs_sum : CallS X.K (rSumU X.K) sumU := fun E F H σ ρ g v x k Q S hv hk rc => by
  unfold sumU at hk
  split at hk
  · obtain ⟨ns, hn, q⟩ := hk
    obtain ⟨a, vs, rfl, ha, ra⟩ := hv.tup
    rw [intsD_map hn] at ra
    rw [ra.ints] at ha
    exact ⟨a, ns, rfl, .inr (sqt_same S.ext ha), rc_same rc S (.int _) q⟩
  · obtain ⟨ns, hn, q⟩ := hk
    obtain ⟨a, vs, rfl, ha, ra⟩ := hv.lst S.ext
    rw [intsD_map hn] at ra
    rw [ra.ints] at ha
    exact ⟨a, ns, rfl, .inl (.inl (.inl ha)), rc_same rc S (.int _) q⟩
  · exact hk.elim
/-! ### built-ins of several arguments -/
inductive VwL (K : PySem.W.Frag) (F H : Hp) : List V → List D → Prop
  | nil : VwL K F H [] []
  | cons {v : V} {vs : List V} {x : D} {xs : List D} : Vw K F H v x → VwL K F H vs xs → VwL K F H (v :: vs) (x :: xs)
def CallA (K : PySem.W.Frag) (r : List V → Hp → VK → Prop) (op : List D → (U → Prop) → Prop) : Prop :=
  ∀ (E : Ent) (F H : Hp) (σ : L2.St) (ρ : Env) (g : G) (vs : List V) (xs : List D) (k : U → Prop) (Q : VK), Stt K E F H σ ρ g → VwL K F H vs xs → op xs k → RC K E F H σ ρ g k Q → r vs H Q
theorem vws {E : Ent} {F H : Hp} {σ : L2.St} {ρ : Env} {g : G} (S : Stt K E F H σ ρ g) : ∀ {vs : List V} {xs : List D}, RpL K F vs xs → VwL K F H vs (xs.map (look g))
  | _, _, .nil => .nil
  | _, _, .cons h t => .cons (S.vw (u := .d _) h) (vws S t)
@[simp] def wCb (op : List D → (U → Prop) → Prop) (ma : MA) : ME := fun ρ g Q X => ma ρ g (fun xs g1 => op (xs.map (look g1)) fun z => Q z g1) X
theorem cb_ok {r : List V → Hp → VK → Prop} {op : List D → (U → Prop) → Prop} {ma : MA} (hu : CallA X.K r op) (σ : L2.St) (H : Hp) (Q : VK) (h : cE X.K cn W (wCb op ma) σ H Q) : tCB r (cA X.K cn W ma) σ H Q := by
  obtain ⟨E, F, ρ, g, Qu, Qx, S, hm, hk, hx⟩ := h
  refine ⟨E, F, ρ, g, _, Qx, S, hm, fun F1 H1 vs xs g1 S1 p1 r1 q1 => ?_, hx⟩
  exact hu E F1 H1 σ ρ g1 vs _ _ Q S1 (vws S1 r1) q1 fun F3 H3 y t S3 p3 o3 f3 q3 => hk F3 H3 y t g1 S3 (p1.trans p3) o3 (f3.back p1) q3
theorem re_bn {x : Str} {p : Pos} {id : String} {r : List V → Hp → VK → Prop} {op : List D → (U → Prop) → Prop} {ma : MA} (hc : CallR X (.builtin id) r) (hs : CallA X.K r op) (hg : Gl X x) (hm : X.mg x = none) (hv : bootBuiltins x = some (.builtin id)) (ha : PA X (a :: es) (cA X.K cn W ma))
    (hn : x ≠ "__name__" := by decide) (hd : (x == ("__debug__" : Str)) = false := by decide) (hse : starEach (a :: es) X.env = (false, eval a X.env) :: starEach es X.env := by rfl) (hpl : (backTo pos (starEach es X.env)).any (·.1) = false := by rfl) :
    PE X (.Call (.Name x p) (a :: es) [] pos) (cE X.K cn W (wCb op ma)) := pe_wk (pe_callB hc hg hm hv ha (hn := hn) (hdb := hd) (he := hse) (hpl := hpl)) (cb_ok hs)
@[simp] def min2U : List D → (U → Prop) → Prop
  | [.int i, .int j], k => k (.d (.int (if j < i then j else i)))
  | _, _ => False
@[simp] def max2U : List D → (U → Prop) → Prop
  | [.int i, .int j], k => k (.d (.int (if j > i then j else i)))
  | _, _ => False
theorem rp_int {F : Hp} {v : V} {i : Int} (h : Rp K F v (.int i)) : v = .int i := by cases h; rfl
theorem ca_min2 : CallA K (fun xs H Q => ∃ i j, xs = [.int i, .int j] ∧ Q (.int (if j < i then j else i)) H) min2U := fun E F H σ ρ g vs xs k Q S r hk rc => by
  unfold min2U at hk
  split at hk
  · cases r with
    | cons h1 t =>
      cases t with
      | cons h2 t =>
        cases t
        rw [h1.int, h2.int]
        exact ⟨_, _, rfl, rc_same rc S (.int _) hk⟩
  · exact hk.elim
theorem ca_max2 : CallA K (fun xs H Q => ∃ i j, xs = [.int i, .int j] ∧ Q (.int (if j > i then j else i)) H) max2U := fun E F H σ ρ g vs xs k Q S r hk rc => by
  unfold max2U at hk
  split at hk
  · cases r with
    | cons h1 t =>
      cases t with
      | cons h2 t =>
        cases t
        rw [h1.int, h2.int]
        exact ⟨_, _, rfl, rc_same rc S (.int _) hk⟩
  · exact hk.elim
end
open PySem L2 PyProof.Rows

section
variable {X : Cx} {K : PySem.W.Frag} {cn : Str → Option Addr} {W : WX} {e a b c : Expr} {es : List Expr} {pos : Pos} {m ma mb mc : ME}
/-! ### isinstance with a built-in class -/
def tyN : D → Option String
  | .non => some "NoneType"
  | .bl _ => some "bool"
  | .int _ => some "int"
  | .str _ => some "str"
  | .tup _ => some "tuple"
  | .lst _ => some "list"
  | .dct _ => some "dict"
  | _ => none
def isTy (t n : String) : Bool := t == n || (t == "bool" && n == "int")
@[simp] def isiU : List D → (U → Prop) → Prop
  | [x, .ty n], k => ∃ t, tyN x = some t ∧ n ∈ ["str", "int", "bool", "tuple", "list", "dict"] ∧ k (.d (.bl (isTy t n)))
  | _, _ => False
theorem tyx_of {F H : Hp} {v : V} {x : D} {t : String} (e : Same F H) (h : Rp K F v x) (q : tyN x = some t) : TyX K H v (.type t) := by
  cases h with
  | non => cases q; exact .base .non
  | bl b => cases q; exact .base (.bl b)
  | int i => cases q; exact .base (.int i)
  | str z => cases q; exact .base (.str z)
  | ref a => cases q
  | ty n => cases q
  | tup h t =>
    cases q
    rcases h with (h | ⟨o, h⟩) | ⟨o, its, n, h, hc, _⟩
    · exact .base (.tup (e _ _ h))
    · exact .fTuple (e _ _ h)
    · exact .kTuple h hc
  | lst h t => cases q; exact .base (.lst (e _ _ h))
  | dct h t =>
    cases q
    rcases h with h | ⟨o, h⟩
    · exact .base (.dK (e _ _ h))
    · exact .fDict (e _ _ h)
  | ro h t => cases q
  | exn0 a => cases q
  | exn h t => cases q
theorem tyx_vw {F H : Hp} {v : V} {x : D} {t : String} (e : Same F H) (h : Vw K F H v x) (q : tyN x = some t) : TyX K H v (.type t) := by
  rcases h with h | ⟨a, vs, xs, rfl, rfl, h1, h2⟩ | ⟨a, vs, xs, rfl, rfl, h1, h2⟩
  · exact tyx_of e h q
  · cases q; exact .base (.lst h1)
  · cases q; exact .base (.dK h1)
theorem kit_tab {t n : String} (ht : t ∈ ["NoneType", "bool", "int", "str", "tuple", "list", "dict"]) (hn : n ∈ ["str", "int", "bool", "tuple", "list", "dict"]) : kitB t n = some (isTy t n) := by
  have all : (["NoneType", "bool", "int", "str", "tuple", "list", "dict"] : List String).all (fun t => (["str", "int", "bool", "tuple", "list", "dict"] : List String).all fun n => kitB t n == some (isTy t n)) = true := by decide +kernel
  rw [List.all_eq_true] at all
  have h1 := all t ht
  rw [List.all_eq_true] at h1
  exact eq_of_beq (h1 n hn)
theorem tyN_mem {x : D} {t : String} (q : tyN x = some t) : t ∈ ["NoneType", "bool", "int", "str", "tuple", "list", "dict"] := by
  cases x <;> cases q <;> simp
theorem ca_isi : CallA K (rIsi K) isiU := fun E F H σ ρ g vs xs k Q S r hk rc => by
  unfold isiU at hk
  split at hk
  · obtain ⟨t, ht, hn, q⟩ := hk
    cases r with
    | cons h1 r2 =>
      cases r2 with
      | cons h2 r3 =>
        cases r3
        rw [h2.ty]
        exact ⟨_, _, .type t, .type _, isTy t _, rfl, .ty _, tyx_vw S.ext h1 ht, kit_ty (kit_tab (tyN_mem ht) hn), rc_same rc S (.bl _) q⟩
  · exact hk.elim

/-! ### calls of defs -/
def Cells (K : PySem.W.Frag) (F H : Hp) (g : G) : Prop := ∀ a c, g a = some c → CellOk K F H a c ∧ F a = none
def NoBor : U → Prop
  | .bor _ => False
  | _ => True
abbrev SpU := List D → G → KU → KX → Prop
def LSp (K : PySem.W.Frag) (cn : Str → Option Addr) (sp : SpU) : Sp := fun vs H Qv Ev => ∃ (F : Hp) (g : G) (xs : List D) (Qu : KU) (Qx : KX), Same F H ∧ Cells K F H g ∧ RpL K F vs xs ∧ sp xs g Qu Qx ∧
  (∀ F' H' v u g', Same F' H' → Cells K F' H' g' → Stp g F H g' F' H' → UOk K ⟨F, H, g⟩ F' H' g' v u → NoBor u → Qu u g' → Qv v H') ∧
  (∀ F' H' cls d x g', Same F' H' → Cells K F' H' g' → Stp g F H g' F' H' → ExOk K cn F' cls d x → Qx x g' → Ev cls d H')
@[simp] def wCall (sp : SpU) (ma : MA) : ME := fun ρ g Q X => ma ρ g (fun xs g1 => sp xs g1 Q X) X
theorem uok_from {E E1 : Ent} {F H : Hp} {g : G} {v : V} {u : U} (h : UOk K E1 F H g v u) (t : ∀ a, E1.H a = none → E.H a = none) : UOk K E F H g v u := by
  cases u with
  | d x => exact h
  | own o => obtain ⟨a, e, h1, h2, h3, h4⟩ := h; exact ⟨a, e, h1, h2, h3, t a h4⟩
  | bor o => obtain ⟨a, e, h1, h2, h3, h4⟩ := h; exact ⟨a, e, h1, h2, h3, t a h4⟩
theorem fresh_from {E : Ent} {F H : Hp} {g : G} {v : V} {u : U} (h : UOk K E F H g v u) : Fresh E.H v u := by
  cases u with
  | d x => trivial
  | own o => obtain ⟨a, e, _, _, _, h4⟩ := h; exact fun b eb => by rw [e] at eb; cases eb; exact h4
  | bor o => trivial
theorem call_ok {sp : SpU} {ma : MA} (σ : L2.St) (H : Hp) (Q : VK) (h : cE K cn W (wCall sp ma) σ H Q) : tCallS (LSp K cn sp) (WE W) (cA K cn W ma) σ H Q := by
  obtain ⟨E, F, ρ, g, Qu, Qx, S, hm, hk, hx⟩ := h
  refine ⟨E, F, ρ, g, _, Qx, S, hm, fun F1 H1 vs xs g1 S1 p1 r1 q1 => ?_, hx⟩
  refine ⟨F1, g1, xs, Qu, Qx, S1.ext, S1.cell, r1, q1, fun F2 H2 v u g2 e2 c2 p2 o2 _ q2 => ?_, fun F2 H2 cls d x g2 e2 c2 p2 o2 q2 => ?_⟩
  · exact hk F2 H2 v u g2 (S1.stp p2 e2 c2) (p1.trans p2) (uok_from o2 S1.trk) ((fresh_from o2).back p1) q2
  · exact hx F2 H2 cls d x g2 (S1.stp p2 e2 c2) o2 q2
theorem re_call {CXg : CXT} {k : Nat} {f : Addr} {fd : FuncData} {ps : List Str} {sp : SpU} {x : Str} {p : Pos} {ma : MA} (F : FnOk X.prog X.w X.K X.mg X.base CXg k f fd ps (LSp X.K cn sp)) (hr : Room k X.A) (hg : Gl X x) (hm : X.mg x = some (.ref f)) (hk : PySem.W.keepIn X.K (.ref f) = true) (hb : Binds X.K fd ps [])
    (hx : ∀ σ, PassesAt CXg X σ (WE W σ)) (ha : PA X (e :: es) (cA X.K cn W ma)) (hdb : (x == ("__debug__" : Str)) = false := by decide) (he : starEach (e :: es) X.env = (false, eval e X.env) :: starEach es X.env := by rfl) (hpl : (backTo pos (starEach es X.env)).any (·.1) = false := by rfl) :
    PE X (.Call (.Name x p) (e :: es) [] pos) (cE X.K cn W (wCall sp ma)) := pe_wk (pe_callS F hr hg hm hk hb hx ha hdb he hpl) call_ok

/-! ### what is walked -/
abbrev MI := Env → G → (List D → G → Prop) → KX → Prop
def ItOk (K : PySem.W.Frag) (F1 : Hp) (J : It) (xs : List D) : Prop := ∃ (Gd : Hp → Prop) (Y : Nat → Hp → V → Hp → Prop), Walk J xs.length Gd Y ∧ (∀ F2 H2, Same F1 F2 → Same F2 H2 → Gd H2) ∧
  ∀ (i : Nat) F2 H2 v H3, i < xs.length → Same F1 F2 → Same F2 H2 → Y i H2 v H3 → ∃ x, xs[i]? = some x ∧ ((H3 = H2 ∧ Rp K F2 v x) ∨ ∃ T o, v = .ref T ∧ H2 T = none ∧ H3 = upd H2 T o ∧ Rp K (upd F2 T o) v x)
def cI (K : PySem.W.Frag) (cn : Str → Option Addr) (W : WX) (m : MI) : TI := fun σ H R => ∃ (E : Ent) (F : Hp) (ρ : Env) (g : G) (Qu : List D → G → Prop) (Qx : KX), Stt K E F H σ ρ g ∧ m ρ g Qu Qx ∧
  (∀ F' H' J xs g', Stt K E F' H' σ ρ g' → Stp g F H g' F' H' → ItOk K F' J xs → Qu xs g' → R J H') ∧ XC K cn W E σ ρ Qx
def signs (z : Str) : List D := z.cps.toList.map fun c => .str ⟨#[c]⟩
@[simp] def itU : D → (List D → Prop) → Prop
  | .tup xs, k => k xs
  | .lst xs, k => k xs
  | .ro xs, k => k xs
  | .str z, k => k (signs z)
  | _, _ => False
@[simp] def wIt (m : ME) : MI := fun ρ g Q X => m ρ g (fun u g1 => fzU u fun x => itU x fun xs => Q xs g1) X
/-- a list, a tuple, a text: by values -/
def rSeq (K : PySem.W.Frag) : V → Hp → (It → Hp → Prop) → Prop := fun x H R => (∃ a, x = .ref a ∧ (∃ xs, SqL K H a xs) ∧ R (Itl K a) H) ∨ (∃ a, x = .ref a ∧ (∃ xs, SqT K H a xs) ∧ R (Itt K a) H) ∨ ∃ z, x = .str z ∧ R (Its z) H
theorem pi_seq {tg l : Expr} {tl : TE} (hl : PE X l tl) : PI X tg l (fun σ H R => tl σ H fun x H1 => rSeq X.K x H1 R) := by
  refine ⟨fun pins s σ H R I h => thn (hl.run pins s σ H _ I h) fun v s1 ⟨x, H1, I1, r1, q1⟩ => ?_⟩
  rcases q1 with ⟨a, rfl, ⟨xs, hq⟩, q⟩ | ⟨a, rfl, ⟨xs, hq⟩, q⟩ | ⟨z, rfl, q⟩
  · cases r1
    obtain ⟨its, _, p, _⟩ := I1.list hq
    exact wpAny_pyIter_list p.isList (pi_one (tk := s1.toks) I1 _ (turn_list a _) ⟨_, Heap.get?_push_size _ rfl, rfl, rfl⟩ q)
  · cases r1
    obtain ⟨its, _, p, _⟩ := I1.tuple hq
    exact wpAny_pyIter_tuple (show s1.heap.IsTuple a its.toArray from p) (pi_one (tk := s1.toks) I1 _ (turn_tuple a _) ⟨_, Heap.get?_push_size _ rfl, rfl, rfl⟩ q)
  · obtain ⟨t, rfl⟩ := r1
    cases hz : z.cps.all (· < 128)
    · exact wpAny_pyIter_wide hz (pi_one (tk := s1.toks) I1 _ (turn_str _ z t "str_iterator" (.inr rfl)) ⟨_, Heap.get?_push_size _ rfl, rfl, rfl⟩ q)
    · exact wpAny_pyIter_ascii hz (pi_one (tk := s1.toks) I1 _ (turn_str _ z t "str_ascii_iterator" (.inl rfl)) ⟨_, Heap.get?_push_size _ rfl, rfl, rfl⟩ q)
theorem pi_wk {tg l : Expr} {t t' : TI} (h : PI X tg l t) (i : ∀ σ H Q, t' σ H Q → t σ H Q) : PI X tg l t' := ⟨fun pins s σ H R I q => h.run pins s σ H R I (i σ H R q)⟩
theorem rp_get {F : Hp} {vs : List V} {xs : List D} {i : Nat} (r : RpL K F vs xs) (hi : i < xs.length) {v : V} (h : vs[i]? = some v) : ∃ x, xs[i]? = some x ∧ Rp K F v x := r.got h
theorem itok_l {F : Hp} {a : Addr} {vs : List V} {xs : List D} (h : SqL K F a vs) (r : RpL K F vs xs) : ItOk K F (Itl K a) xs := by
  refine ⟨fun H => SqL K H a vs, YAt vs, by rw [← r.len]; exact walk_list, fun F2 H2 e1 e2 => e2.seq (e1.seq h), fun i F2 H2 v H3 hi e1 e2 y => ?_⟩
  obtain ⟨x, hx, rx⟩ := r.got y.2
  exact ⟨x, hx, .inl ⟨y.1, rx.mono e1⟩⟩
theorem itok_t {F : Hp} {a : Addr} {vs : List V} {xs : List D} (h : SqT K F a vs) (r : RpL K F vs xs) : ItOk K F (Itt K a) xs := by
  refine ⟨fun H => SqT K H a vs, YAt vs, by rw [← r.len]; exact walk_tup, fun F2 H2 e1 e2 => sqt_mono e2 (sqt_mono e1 h), fun i F2 H2 v H3 hi e1 e2 y => ?_⟩
  obtain ⟨x, hx, rx⟩ := r.got y.2
  exact ⟨x, hx, .inl ⟨y.1, rx.mono e1⟩⟩
theorem itok_s {F : Hp} {z : Str} : ItOk K F (Its z) (signs z) := by
  have hl : (signs z).length = z.cps.size := by unfold signs; rw [List.length_map, Array.length_toList]
  refine ⟨fun _ => True, _, by rw [hl]; exact walk_str, fun _ _ _ _ => trivial, fun i F2 H2 v H3 hi e1 e2 y => ?_⟩
  obtain ⟨e3, c, hc, rfl⟩ := y
  refine ⟨.str ⟨#[c]⟩, ?_, .inl ⟨e3, .str _⟩⟩
  unfold signs
  rw [List.getElem?_map, Array.getElem?_toList, hc]
  rfl
theorem ri_seq {tg l : Expr} (hl : PE X l (cE X.K cn W m)) : PI X tg l (cI X.K cn W (wIt m)) := pi_wk (pi_seq hl) fun σ H R h => by
  obtain ⟨E, F, ρ, g, Qu, Qx, S, hm, hk, hx⟩ := h
  refine ⟨E, F, ρ, g, _, Qx, S, hm, fun F1 H1 v u g1 S1 p1 o1 f1 q1 => ?_, hx⟩
  obtain ⟨F2, x, S2, p2, r2, q2, _⟩ := fz_ok S S1 p1 o1 f1 q1
  unfold itU at q2
  split at q2
  · cases r2 with
    | tup h t => exact .inr (.inl ⟨_, rfl, ⟨_, sqt_mono S2.ext h⟩, hk F2 H1 _ _ g1 S2 p2 (itok_t h t) q2⟩)
  · cases r2 with
    | lst h t => exact .inl ⟨_, rfl, ⟨_, .inl (.inl (S2.ext _ _ h))⟩, hk F2 H1 _ _ g1 S2 p2 (itok_l (.inl (.inl h)) t) q2⟩
  · cases r2 with
    | ro h t => exact .inl ⟨_, rfl, ⟨_, S2.ext.seq h⟩, hk F2 H1 _ _ g1 S2 p2 (itok_l h t) q2⟩
  · cases r2
    exact .inr (.inr ⟨_, rfl, hk F2 H1 _ _ g1 S2 p2 itok_s q2⟩)
  · exact q2.elim
/-- range -/
def rng (lo : Int) (n : Nat) : List D := (List.range n).map fun (i : Nat) => .int (lo + (i : Int))
@[simp] def wR1 (ma : MA) : MI := fun ρ g Q X => ma ρ g (fun xs g1 => match xs with
  | [.int n] => (-(2 ^ 62) ≤ n ∧ n < 2 ^ 62) ∧ Q (rng 0 n.toNat) g1
  | _ => False) X
@[simp] def wR2 (ma : MA) : MI := fun ρ g Q X => ma ρ g (fun xs g1 => match xs with
  | [.int l, .int n] => (-(2 ^ 62) ≤ l ∧ l < 2 ^ 62 ∧ -(2 ^ 62) ≤ n ∧ n < 2 ^ 62) ∧ Q (rng l (n - l).toNat) g1
  | _ => False) X
theorem itok_r {F : Hp} {lo : Int} {n : Nat} : ItOk K F (Itr lo n) (rng lo n) := by
  have hl : (rng lo n).length = n := by unfold rng; rw [List.length_map, List.length_range]
  refine ⟨fun _ => True, _, by rw [hl]; exact walk_range, fun _ _ _ _ => trivial, fun i F2 H2 v H3 hi e1 e2 y => ?_⟩
  obtain ⟨e3, rfl⟩ := y
  refine ⟨.int (lo + i), ?_, .inl ⟨e3, .int _⟩⟩
  unfold rng
  rw [List.getElem?_map, List.getElem?_range (by rw [hl] at hi; exact hi)]
  rfl
theorem ri_r1 {tg : Expr} {p : Pos} {mr : MA} (hg : Gl X "range") (hm : X.mg "range" = none) (ha : PA X [a] (cA X.K cn W mr)) (hs : starEach [a] X.env = [(false, eval a X.env)] := by rfl) : PI X tg (.Call (.Name "range" p) [a] [] pos) (cI X.K cn W (wR1 mr)) :=
  pi_wk (pi_range1 hg hm ha hs) fun σ H R h => by
    obtain ⟨E, F, ρ, g, Qu, Qx, S, hm, hk, hx⟩ := h
    refine ⟨E, F, ρ, g, _, Qx, S, hm, fun F1 H1 vs xs g1 S1 p1 r1 q1 => ?_, hx⟩
    dsimp only at q1
    split at q1
    · cases r1 with
      | cons h1 t =>
        cases t
        rw [rp_int h1]
        exact ⟨_, rfl, q1.1.1, q1.1.2, hk F1 H1 _ _ g1 S1 p1 itok_r q1.2⟩
    · exact q1.elim
theorem ri_r2 {tg : Expr} {p : Pos} {mr : MA} (hg : Gl X "range") (hm : X.mg "range" = none) (ha : PA X [a, b] (cA X.K cn W mr)) (hs : starEach [a, b] X.env = [(false, eval a X.env), (false, eval b X.env)] := by rfl) (hs2 : starEach [b] X.env = [(false, eval b X.env)] := by rfl) :
    PI X tg (.Call (.Name "range" p) [a, b] [] pos) (cI X.K cn W (wR2 mr)) :=
  pi_wk (pi_range2 hg hm ha hs hs2) fun σ H R h => by
    obtain ⟨E, F, ρ, g, Qu, Qx, S, hm, hk, hx⟩ := h
    refine ⟨E, F, ρ, g, _, Qx, S, hm, fun F1 H1 vs xs g1 S1 p1 r1 q1 => ?_, hx⟩
    dsimp only at q1
    split at q1
    · cases r1 with
      | cons h1 t =>
        cases t with
        | cons h2 t =>
          cases t
          rw [rp_int h1, rp_int h2]
          exact ⟨_, _, rfl, q1.1, hk F1 H1 _ _ g1 S1 p1 itok_r q1.2⟩
    · exact q1.elim

/-! ### slots stored -/
theorem Stt.set {E : Ent} {F H : Hp} {σ : L2.St} {ρ : Env} {g : G} {v : V} {u : U} {i : Nat} (S : Stt K E F H σ ρ g) (h : SlotOk K E F H g v u) (ap : ∀ o, u = .own o → ∀ (j : Nat) (p : O), ρ[j]? = some (some (.own p)) → j ≠ i → σ[j]? ≠ some (some v)) : Stt K E F H (σ.set i (some v)) (ρ.set i (some u)) g := by
  have gs : ∀ (τ : List (Option U)) (j : Nat) (x : Option U), (ρ.set i x)[j]? = (if i = j then (if i < ρ.length then some x else none) else ρ[j]?) := fun τ j x => List.getElem?_set
  refine ⟨S.ext, S.ext0, by rw [List.length_set, List.length_set]; exact S.len, fun j w hw => ?_, fun j k o p hj hk hne => ?_, S.cell, S.keep, S.trk⟩
  · rw [List.getElem?_set] at hw ⊢
    by_cases e : i = j
    · rw [if_pos e] at hw ⊢
      by_cases l : i < ρ.length
      · rw [if_pos l] at hw
        cases hw
        rw [if_pos (by rw [← S.len]; exact l)]
        exact ⟨v, rfl, h⟩
      · rw [if_neg l] at hw; cases hw
    · rw [if_neg e] at hw ⊢
      exact S.slot j w hw
  · rw [List.getElem?_set] at hj hk
    rw [List.getElem?_set, List.getElem?_set]
    by_cases ej : i = j
    · rw [if_pos ej] at hj ⊢
      have ek : ¬ i = k := fun z => hne (ej.symm.trans z)
      rw [if_neg ek] at hk ⊢
      by_cases l : i < ρ.length
      · rw [if_pos l] at hj
        rw [if_pos (by rw [← S.len]; exact l)]
        have hu : u = .own o := Option.some.inj (Option.some.inj hj)
        exact fun z => ap o hu k p hk (fun z => ek z.symm) z.symm
      · rw [if_neg l] at hj; cases hj
    · rw [if_neg ej] at hj ⊢
      by_cases ek : i = k
      · rw [if_pos ek] at hk ⊢
        by_cases l : i < ρ.length
        · rw [if_pos l] at hk
          rw [if_pos (by rw [← S.len]; exact l)]
          have hu : u = .own p := Option.some.inj (Option.some.inj hk)
          exact fun z => ap p hu j o hj (fun z => ej z.symm) z
        · rw [if_neg l] at hk; cases hk
      · rw [if_neg ek] at hk ⊢
        exact S.sep j k o p hj hk hne
theorem Stt.setD {E : Ent} {F H : Hp} {σ : L2.St} {ρ : Env} {g : G} {v : V} {x : D} (i : Nat) (S : Stt K E F H σ ρ g) (h : Rp K F v x) : Stt K E F H (σ.set i (some v)) (ρ.set i (some (.d x))) g :=
  S.set h fun o e => by cases e
/-- an owned list that comes from an expression -/
theorem Stt.setOwn {E : Ent} {F H F' H' : Hp} {σ : L2.St} {ρ : Env} {g g' : G} {v : V} {o : O} (i : Nat) (S0 : Stt K E F H σ ρ g) (S : Stt K E F' H' σ ρ g') (h : UOk K E F' H' g' v (.own o)) (fr : Fresh H v (.own o)) : Stt K E F' H' (σ.set i (some v)) (ρ.set i (some (.own o))) g' :=
  S.set h fun o' _ j p hj _ hs => by
    obtain ⟨v0, k1, b0, eb0, r1, _⟩ := S0.slot j _ hj
    obtain ⟨w0, hw0⟩ := r1.there
    obtain ⟨a, ea, _⟩ := h
    rw [k1] at hs
    have e1 : v0 = v := Option.some.inj (Option.some.inj hs)
    have e2 : H a = none := fr a ea
    rw [e1, ea] at eb0
    cases eb0
    rw [e2] at hw0
    cases hw0
@[simp] def wipeU (ρ : Env) : List Nat → Env
  | [] => ρ
  | v :: vs => (wipeU ρ vs).set v none
theorem Stt.unset {E : Ent} {F H : Hp} {σ : L2.St} {ρ : Env} {g : G} (i : Nat) (S : Stt K E F H σ ρ g) : Stt K E F H (σ.set i none) (ρ.set i none) g := by
  have back : ∀ (j : Nat) (u : U), (ρ.set i none)[j]? = some (some u) → ρ[j]? = some (some u) ∧ i ≠ j := fun j u h => by
    rw [List.getElem?_set] at h
    by_cases e : i = j
    · rw [if_pos e] at h
      by_cases l : i < ρ.length
      · rw [if_pos l] at h; cases h
      · rw [if_neg l] at h; cases h
    · rw [if_neg e] at h
      exact ⟨h, e⟩
  refine ⟨S.ext, S.ext0, by rw [List.length_set, List.length_set]; exact S.len, fun j w hw => ?_, fun j k o p hj hk hne => ?_, S.cell, S.keep, S.trk⟩
  · obtain ⟨h1, h2⟩ := back j w hw
    rw [List.getElem?_set_ne h2]
    exact S.slot j w h1
  · obtain ⟨h1, h2⟩ := back j _ hj
    obtain ⟨h3, h4⟩ := back k _ hk
    rw [List.getElem?_set_ne h2, List.getElem?_set_ne h4]
    exact S.sep j k o p h1 h3 hne
theorem Stt.wipe {E : Ent} {F H : Hp} {σ : L2.St} {ρ : Env} {g : G} (S : Stt K E F H σ ρ g) : ∀ vs : List Nat, Stt K E F H (L2.wipe σ vs) (wipeU ρ vs) g
  | [] => S
  | v :: vs => (S.wipe vs).unset v
end
open PySem L2 PyProof.Rows

/-! ### targets -/
abbrev MG := D → Env → (Env → Prop) → Prop
@[simp] def gN (i : Nat) : MG := fun x ρ k => k (ρ.set i (some (.d x)))
def TgOk (K : PySem.W.Frag) (is : List Nat) (t : TG) (m : MG) : Prop := ∀ (E : Ent) (F H : Hp) (σ : L2.St) (ρ : Env) (g : G) (v : V) (x : D) (k : Env → Prop) (Q : L2.St → Hp → Prop), Stt K E F H σ ρ g → Rp K F v x → m x ρ k →
  (∀ σ' ρ', Stt K E F H σ' ρ' g → (∀ j : Nat, j ∉ is → σ'[j]? = σ[j]?) → σ'.length = σ.length → k ρ' → Q σ' H) → t v σ H Q
@[simp] def gNs : List Nat → List D → Env → (Env → Prop) → Prop
  | [], [], ρ, k => k ρ
  | i :: is, x :: xs, ρ, k => gNs is xs (ρ.set i (some (.d x))) k
  | _, _, _, _ => False
/-- a, b = (x, y) -/
@[simp] def gT (is : List Nat) : MG := fun x ρ k => match x with
  | .tup xs => gNs is xs ρ k
  | .lst xs => gNs is xs ρ k
  | _ => False
def gAny (K : PySem.W.Frag) (n : Nat) (t : TGs) : TG := fun v σ H Q => gTup K n t v σ H Q ∨ L2.gLst K n t v σ H Q
theorem pg_any {X : Cx} {pos : Pos} {es : List Expr} {k : Nat} {t : TGs} {n : Nat} (hc : X.calm = true) (h : PGs X es t) (hn : (assignEach es X.env).length = n := by rfl) (hst : (assignEach es X.env).findIdx? (·.1) = none := by rfl) : PG X (.Tuple es k pos) (gAny X.K n t) :=
  ⟨fun pins s σ H v u Q I r hw => by
    rcases hw with hw | hw
    · exact (pg_tup hc h hn hst).run pins s σ H v u Q I r hw
    · exact (L2.pg_lst hc h hn hst).run pins s σ H v u Q I r hw⟩
def tgNs : List Nat → TGs
  | [] => gNil
  | i :: is => gCons (gName i) (tgNs is)
section
variable {K : PySem.W.Frag}
theorem tg_n (i : Nat) : TgOk K [i] (gName i) (gN i) := fun E F H σ ρ g v x k Q S r h q =>
  q _ _ (S.setD i r) (fun j hj => List.getElem?_set_ne (fun e => hj (by simp [e]))) (List.length_set ..) h
theorem tg_ns : ∀ (is : List Nat) (E : Ent) (F H : Hp) (σ : L2.St) (ρ : Env) (g : G) (vs : List V) (xs : List D) (k : Env → Prop) (Q : L2.St → Hp → Prop), Stt K E F H σ ρ g → RpL K F vs xs → gNs is xs ρ k →
    (∀ σ' ρ', Stt K E F H σ' ρ' g → (∀ j : Nat, j ∉ is → σ'[j]? = σ[j]?) → σ'.length = σ.length → k ρ' → Q σ' H) → vs.length = is.length ∧ tgNs is vs σ H Q
  | [], E, F, H, σ, ρ, g, vs, [], k, Q, S, r, h, q => by
    cases r
    exact ⟨rfl, rfl, q σ ρ S (fun _ _ => rfl) rfl h⟩
  | [], E, F, H, σ, ρ, g, vs, x :: xs, k, Q, S, r, h, q => h.elim
  | i :: is, E, F, H, σ, ρ, g, vs, [], k, Q, S, r, h, q => h.elim
  | i :: is, E, F, H, σ, ρ, g, vs, x :: xs, k, Q, S, r, h, q => by
    cases r with
    | cons r1 r2 =>
      rename_i v vs
      obtain ⟨e, t⟩ := tg_ns is E F H (σ.set i (some v)) (ρ.set i (some (.d x))) g vs xs k Q (S.setD i r1) r2 h fun σ' ρ' S' hj hl hk => q σ' ρ' S' (fun j hj' => by
        rw [hj j (fun z => hj' (List.mem_cons_of_mem _ z)), List.getElem?_set_ne (fun e => hj' (by simp [e]))]) (by rw [hl, List.length_set]) hk
      exact ⟨by rw [List.length_cons, List.length_cons, e], v, vs, rfl, t⟩
theorem tg_t (is : List Nat) : TgOk K is (gAny K is.length (tgNs is)) (gT is) := fun E F H σ ρ g v x k Q S r h q => by
  unfold gT at h
  split at h
  · cases r with
    | tup ha ra =>
      obtain ⟨e, t⟩ := tg_ns is E F H σ ρ g _ _ k Q S ra h q
      exact .inl ⟨_, _, rfl, sqt_mono S.ext ha, e, t⟩
  · cases r with
    | lst ha ra =>
      obtain ⟨e, t⟩ := tg_ns is E F H σ ρ g _ _ k Q S ra h q
      exact .inr ⟨_, _, rfl, .inl (.inl (S.ext _ _ ha)), e, t⟩
  · exact h.elim
end

/-! ### wiping the comprehension's own slots -/
theorem wipe_get (σ : L2.St) (j : Nat) : ∀ vs : List Nat, (L2.wipe σ vs)[j]? = if j ∈ vs then (if j < σ.length then some none else none) else σ[j]?
  | [] => by rw [if_neg (by simp)]; rfl
  | v :: vs => by
    unfold L2.wipe
    rw [List.getElem?_set, L2.wipe_length, wipe_get σ j vs]
    by_cases e : v = j
    · subst e
      have m : v ∈ v :: vs := List.mem_cons_self
      rw [if_pos rfl, if_pos m]
    · rw [if_neg e]
      by_cases h : j ∈ vs
      · rw [if_pos h, if_pos (List.mem_cons_of_mem _ h)]
      · rw [if_neg h, if_neg (by
          intro z
          rcases List.mem_cons.mp z with z | z
          · exact e z.symm
          · exact h z)]
theorem wipe_same {σ σ' : L2.St} {vs : List Nat} (hl : σ'.length = σ.length) (h : ∀ j : Nat, j ∉ vs → σ'[j]? = σ[j]?) : L2.wipe σ' vs = L2.wipe σ vs := by
  apply List.ext_getElem?
  intro j
  rw [wipe_get, wipe_get, hl]
  by_cases m : j ∈ vs
  · rw [if_pos m, if_pos m]
  · rw [if_neg m, if_neg m, h j m]
theorem wipe_wipe (σ : L2.St) (vs : List Nat) : L2.wipe (L2.wipe σ vs) vs = L2.wipe σ vs := wipe_same (L2.wipe_length _ _) fun j h => by rw [wipe_get, if_neg h]

section
variable {X : Cx} {K : PySem.W.Frag} {cn : Str → Option Addr} {W : WX} {e a b c : Expr} {es : List Expr} {pos : Pos} {m ma mb mc : ME}
/-! ### comprehensions -/
abbrev W0 : WX := fun _ _ _ _ => False
def noX : KX := fun _ _ => False
@[simp] def lcLoop (tg : MG) (mt : MT) (me : ME) (ρ : Env) : List D → List D → G → (List D → G → Prop) → Prop
  | [], acc, g, k => k acc g
  | x :: xs, acc, g, k => tg x ρ fun ρ1 => mt ρ1 g (fun b g1 => (b = true → me ρ1 g1 (fun u g2 => fzU u fun y => lcLoop tg mt me ρ xs (acc ++ [y]) g2 k) noX) ∧ (b = false → lcLoop tg mt me ρ xs acc g1 k)) noX
@[simp] def wLc (mi : MI) (tg : MG) (mt : MT) (me : ME) (vs : List Nat) : ME := fun ρ g Q X => mi ρ g (fun xs g1 => xs.length ≤ sizeLine ∧ lcLoop tg mt me (wipeU ρ vs) xs [] g1 fun acc g2 => Q (.own (.lst acc)) g2) X
@[simp] def wYes : MT := fun _ g Q _ => Q true g
/-- an unfrozen object that no slot and no cell holds is changed -/
theorem Stt.poke {E : Ent} {F H : Hp} {σ : L2.St} {ρ : Env} {g : G} {p : Addr} {o : HO} (S : Stt K E F H σ ρ g) (f : F p = none) (z : g p = none) (fe : E.H p = none) (no : ∀ y, H p ≠ some (.own y)) (ns : ∀ (i : Nat) (q : O), ρ[i]? = some (some (.own q)) → σ[i]? ≠ some (some (.ref p))) : Stt K E F (upd H p o) σ ρ g := by
  have at_ : ∀ b, b ≠ p → upd H p o b = H b := fun b hb => upd_ne hb
  refine ⟨fun b u h => ?_, S.ext0, S.len, fun i u h => ?_, S.sep, fun b c h => ?_, fun b u h1 h2 h3 => ?_, fun b h => S.trk b (upd_free h)⟩
  · rw [at_ b (fun e => by rw [e, f] at h; cases h)]; exact S.ext b u h
  · obtain ⟨v, h1, h2⟩ := S.slot i u h
    refine ⟨v, h1, ?_⟩
    cases u with
    | d x => exact h2
    | own q =>
      obtain ⟨b, eb, q1, q2, q3, q4⟩ := h2
      have hb : b ≠ p := fun y => ns i q h (by rw [h1, eb, y])
      exact ⟨b, eb, q1.at (Same.refl F) fun w hw => by rw [at_ b hb]; exact hw, q2, q3, q4⟩
    | bor q => exact h2
  · obtain ⟨h1, h2⟩ := S.cell b c h
    have hb : b ≠ p := fun e => by rw [e, z] at h; cases h
    refine ⟨?_, h2⟩
    cases c with
    | lst xs => obtain ⟨vs, t1, t2⟩ := h1; exact ⟨vs, by rw [at_ b hb]; exact t1, t2⟩
    | ins C fs =>
      obtain ⟨dx, vs, t1, t2, t3, t4⟩ := h1
      have hd : dx ≠ p := fun e => no b (by rw [← e]; exact t2)
      exact ⟨dx, vs, by rw [at_ b hb]; exact t1, by rw [at_ dx hd]; exact t2, t3, t4⟩
    | dct xs => obtain ⟨vs, t1, t2⟩ := h1; exact ⟨vs, by rw [at_ b hb]; exact t1, t2⟩
    | ext ψ xs cs => obtain ⟨vs, t1, t2⟩ := h1; exact ⟨vs, by rw [at_ b hb]; exact t1, t2⟩
    | tbl =>
      obtain ⟨ps, t1, t2, t3⟩ := h1
      exact ⟨ps, by rw [at_ b hb]; exact t1, t2, t3⟩
  · have hb : b ≠ p := fun e => by rw [e, fe] at h1; cases h1
    rw [at_ b hb]
    exact S.keep b u h1 h2 h3
theorem lc_ok {mi : MI} {tg : MG} {t : TG} {is : List Nat} {mt : MT} {me : ME} {vs : List Nat} (ht : TgOk K is t tg) (hv : ∀ i ∈ is, i ∈ vs) (σ : L2.St) (H : Hp) (Q : VK) (h : cE K cn W (wLc mi tg mt me vs) σ H Q) :
    tLc (cI K cn W mi) t (cT K cn W0 mt) (cE K cn W0 me) vs σ H Q := by
  obtain ⟨E, F, ρ, g, Qu, Qx, S, hm, hk, hx⟩ := h
  refine ⟨E, F, ρ, g, _, Qx, S, hm, fun F1 H1 J xs g1 S1 p1 io q1 => fun Dl hD => ?_, hx⟩
  obtain ⟨hz, hq⟩ := q1
  obtain ⟨Gd, Y, wk, gd, yl⟩ := io
  have xno : ∀ (E : Ent) (σ : L2.St) (ρ : Env), XC K cn W0 E σ ρ noX := fun _ _ _ _ _ _ _ _ _ _ _ q => q
  refine lc_it wk (fun i H' => ∃ (F' : Hp) (g' : G) (acc : List D) (va : List V), Stt K E F' H' σ ρ g' ∧ Stp g1 F1 H1 g' F' H' ∧ H' Dl = some (.lst va) ∧ F' Dl = none ∧ g' Dl = none ∧ RpL K F' va acc ∧ acc.length ≤ i ∧
      lcLoop tg mt me (wipeU ρ vs) (xs.drop i) acc g' fun acc g2 => Qu (.own (.lst acc)) g2) ?_ ?_ ?_ ?_
  · exact ⟨F1, g1, [], [], S1.newO hD, Stp.newO hD, upd_same, S1.freeF hD, S1.freeG hD, .nil, Nat.le_refl _, hq⟩
  · rintro i H' _ ⟨F', g', acc, va, S', p', _⟩
    exact gd F' H' p'.ext S'.ext
  · rintro i x H2 H3 hi ⟨F', g', acc, va, S', p', hDl, hFD, hgD, ra, hl, hlp⟩ y
    have hne : ∀ p : Addr, H2 p = none → p ≠ Dl := fun p hp e => by rw [e, hDl] at hp; cases hp
    obtain ⟨d, hd, hy⟩ := yl i F' H2 x H3 hi p'.ext S'.ext y
    have drop_i : xs.drop i = d :: xs.drop (i + 1) := by
      obtain ⟨hi', e'⟩ := List.getElem?_eq_some_iff.mp hd
      rw [List.drop_eq_getElem_cons hi', e']
    rw [drop_i] at hlp
    -- the item's tuple, if it is a new one, is frozen
    obtain ⟨F3, S3, p3, r3, hD3, hF3⟩ : ∃ F3, Stt K E F3 H3 σ ρ g' ∧ Stp g' F' H2 g' F3 H3 ∧ Rp K F3 x d ∧ H3 Dl = some (.lst va) ∧ F3 Dl = none := by
      rcases hy with ⟨e, r⟩ | ⟨T, o, e1, hT, e2, r⟩
      · rw [e]
        exact ⟨F', S', Stp.refl _ _ _, r, hDl, hFD⟩
      · rw [e2]
        exact ⟨upd F' T o, S'.newF hT, Stp.newF S' hT, r, by rw [upd_ne (hne T hT).symm]; exact hDl, by rw [upd_ne (hne T hT).symm]; exact hFD⟩
    refine ht E F3 H3 (L2.wipe σ vs) (wipeU ρ vs) g' x d _ _ (S3.wipe vs) r3 hlp fun σ2 ρ2 S4 keepj hlen q2 => ⟨?_, ?_⟩
    · rw [wipe_same hlen fun j hj => keepj j fun z => hj (hv j z)]
      exact wipe_wipe σ vs
    refine ⟨E, F3, ρ2, g', _, noX, S4, q2, fun F5 H5 bb g5 S5 p5 q5 => ?_, xno _ _ _⟩
    have hD5 := p5.keep Dl _ hD3 hF3 hgD
    have S5' : Stt K E F5 H5 σ ρ g5 := S3.stp p5 S5.ext S5.cell
    cases bb with
    | false =>
      refine iteF ?_
      exact ⟨F5, g5, acc, va, S5', (p'.trans p3).trans p5, hD5.1, hD5.2.1, hD5.2.2, (ra.mono p3.ext).mono p5.ext, by omega, q5.2 rfl⟩
    | true =>
      refine iteT ?_
      refine ⟨E, F5, ρ2, g5, _, noX, S5, q5.1 rfl, fun F6 H6 v u g6 S6 p6 o6 f6 q6 => ?_, xno _ _ _⟩
      obtain ⟨F7, z, S7, p7, r7, q7, _⟩ := fz_ok S5 S6 p6 o6 f6 q6
      have hD7 := p7.keep Dl _ hD5.1 hD5.2.1 hD5.2.2
      have S7' : Stt K E F7 H6 σ ρ g6 := S5'.stp p7 S7.ext S7.cell
      have pAll := (((p'.trans p3).trans p5).trans p7)
      refine ⟨va, hD7.1, by have := ra.len; omega, F7, g6, acc ++ [z], va ++ [v], ?_, ⟨pAll.ext, fun b o h1 h2 h3 => ?_, fun b hb => pAll.trk b (upd_free hb)⟩, upd_same, hD7.2.1, hD7.2.2, (((ra.mono p3.ext).mono p5.ext).mono p7.ext).app (.cons r7 .nil), by rw [List.length_append, List.length_singleton]; omega, q7⟩
      · refine S7'.poke hD7.2.1 hD7.2.2 (S1.trk Dl hD) (fun y e => by rw [hD7.1] at e; cases e) fun j q hj hs => ?_
        obtain ⟨v0, k1, b0, eb0, r1, _⟩ := S1.slot j _ hj
        obtain ⟨w0, hw0⟩ := r1.there
        rw [k1] at hs
        cases hs
        cases eb0
        rw [hD] at hw0
        cases hw0
      · obtain ⟨k1, k2, k3⟩ := pAll.keep b o h1 h2 h3
        have hb : b ≠ Dl := fun e => by rw [e, hD] at h1; cases h1
        exact ⟨by rw [upd_ne hb]; exact k1, k2, k3⟩
  · rintro H' ⟨F', g', acc, va, S', p', hDl, hFD, hgD, ra, hl, hlp⟩
    rw [List.drop_length] at hlp
    exact hk F' H' (.ref Dl) (.own (.lst acc)) g' S' (p1.trans p') ⟨Dl, rfl, ⟨va, hDl, ra⟩, hFD, hgD, S1.trk Dl hD⟩ (fun a ea => by cases ea; exact p1.trk _ hD) hlp
theorem rts_nil : PTs X [] (cT X.K cn W wYes) := ⟨fun pins s σ H Q I h => pts_nil.run pins s σ H Q I (by
  obtain ⟨E, F, ρ, g, Qu, Qx, S, hm, hk, hx⟩ := h
  exact hk F H true g S (Stp.refl g F H) hm)⟩
theorem rts_one {t : MT} (h : PT X c (cT X.K cn W t)) : PTs X [c] (cT X.K cn W t) := pts_one h
theorem re_lc {elt tg iter : Expr} {ifs : List Expr} {scope : Scope} {own : List (Str × Nat)} {mi : MI} {g : MG} {t : TG} {is : List Nat} {mt : MT} {me : ME} (hc : X.calm = true) (hN : X.N.Nodup) (hi : PI X tg iter (cI X.K cn W mi)) (ok : BlkOk X.N X.env.scope scope own) (to : TgOk X.K is t g) (hv : ∀ i ∈ is, i ∈ own.map (·.2))
    (hg : ∀ (s : Shared) (H : Hp) (C : Addr) (cl : List (Str × Addr)) (fp : List Addr), PG (X.blk s H scope (compEnvC scope cl C X.env) fp) tg t) (ht : ∀ (s : Shared) (H : Hp) (C : Addr) (cl : List (Str × Addr)) (fp : List Addr), PTs (X.blk s H scope (compEnvC scope cl C X.env) fp) ifs (cT X.K cn W0 mt))
    (he : ∀ (s : Shared) (H : Hp) (C : Addr) (cl : List (Str × Addr)) (fp : List Addr), PE (X.blk s H scope (compEnvC scope cl C X.env) fp) elt (cE X.K cn W0 me)) (hs : ∀ x, foldedSetIterable iter X.env x = pure x := by intro _; rfl) :
    PE X (.ListComp elt [⟨tg, iter, ifs, 0⟩] scope pos) (cE X.K cn W (wLc mi g mt me (own.map (·.2)))) := pe_wk (pe_lc hc hN hi ok hg ht he hs) (lc_ok to hv)

/-! ### statements -/
structure Post where
  nx : Env → G → Prop
  rt : U → G → Prop
  bk : Env → G → Prop
  ct : Env → G → Prop
  ex : Exn → Env → G → Prop
abbrev MS := Env → G → Post → Prop
@[simp] def outU : U → U
  | .bor o => .own o
  | u => u
structure Conn (K : PySem.W.Frag) (cn : Str → Option Addr) (W : WX) (E : Ent) (P : Post) (D : Ends) : Prop where
  nx : ∀ F H σ ρ g, Stt K E F H σ ρ g → P.nx ρ g → D.nx σ H
  bk : ∀ F H σ ρ g, Stt K E F H σ ρ g → P.bk ρ g → D.bk σ H
  ct : ∀ F H σ ρ g, Stt K E F H σ ρ g → P.ct ρ g → D.ct σ H
  rt : ∀ F H σ ρ g v u, Stt K E F H σ ρ g → UOk K E F H g v u → NoBor u → P.rt u g → D.rt v H
  ex : ∀ F H σ ρ g cls d x, Stt K E F H σ ρ g → ExOk K cn F cls d x → P.ex x ρ g → W cls d σ H
def cS (K : PySem.W.Frag) (cn : Str → Option Addr) (W : WX) (m : MS) : TS := fun D σ H => ∃ (E : Ent) (F : Hp) (ρ : Env) (g : G) (P : Post), Stt K E F H σ ρ g ∧ m ρ g P ∧ Conn K cn W E P D
@[simp] def xOf (P : Post) (ρ : Env) : KX := fun x g => P.ex x ρ g
theorem Conn.xc {E : Ent} {P : Post} {D : Ends} (C : Conn K cn W E P D) (σ : L2.St) (ρ : Env) : XC K cn W E σ ρ (xOf P ρ) := fun F' H' cls d x g' S o q => C.ex F' H' σ ρ g' cls d x S o q
variable {st : Stmt} {rest : List Stmt} {ms mr : MS} {mt : MT}
@[simp] def wNext : MS := fun ρ g P => P.nx ρ g
@[simp] def wSeq (a b : MS) : MS := fun ρ g P => a ρ g { P with nx := fun ρ' g' => b ρ' g' P }
@[simp] def wBreak : MS := fun ρ g P => P.bk ρ g
@[simp] def wCont : MS := fun ρ g P => P.ct ρ g
@[simp] def wDrop (m : ME) : MS := fun ρ g P => m ρ g (fun _ g1 => P.nx ρ g1) (xOf P ρ)
@[simp] def wRet (m : ME) : MS := fun ρ g P => m ρ g (fun u g1 => P.rt (outU u) g1) (xOf P ρ)
@[simp] def wRetN : MS := fun _ g P => P.rt (.d .non) g
@[simp] def wIf (t : MT) (a b : MS) : MS := fun ρ g P => t ρ g (fun c g1 => (c = true → a ρ g1 P) ∧ (c = false → b ρ g1 P)) (xOf P ρ)
@[simp] def wSet (i : Nat) (m : ME) : MS := fun ρ g P => m ρ g (fun u g1 => fzU u fun x => P.nx (ρ.set i (some (.d x))) g1) (xOf P ρ)
@[simp] def noBU (u : U) (k : Prop) : Prop := match u with
  | .bor _ => False
  | _ => k
/-- a list that stays the name's own -/
@[simp] def wSetO (i : Nat) (m : ME) : MS := fun ρ g P => m ρ g (fun u g1 => noBU u (P.nx (ρ.set i (some u)) g1)) (xOf P ρ)
/-- nothing happens: the list in a slot is frozen -/
@[simp] def wFrz (i : Nat) (m : MS) : MS := fun ρ g P => match ρ[i]? with
  | some (some (.own o)) => m (ρ.set i (some (.d o.fz))) g P
  | _ => m ρ g P
theorem rs_nil : PSs X [] (cS X.K cn W wNext) := pss_wk pss_nil fun D σ H h => by
  obtain ⟨E, F, ρ, g, P, S, hm, C⟩ := h
  exact C.nx F H σ ρ g S hm
theorem rs_cons (h1 : PS X st (cS X.K cn W ms)) (h2 : PSs X rest (cS X.K cn W mr)) : PSs X (st :: rest) (cS X.K cn W (wSeq ms mr)) := pss_wk (pss_cons h1 h2) fun D σ H h => by
  obtain ⟨E, F, ρ, g, P, S, hm, C⟩ := h
  exact ⟨E, F, ρ, g, _, S, hm, ⟨fun F' H' σ' ρ' g' S' q => ⟨E, F', ρ', g', P, S', q, C⟩, C.bk, C.ct, C.rt, C.ex⟩⟩
theorem rs_one (h1 : PS X st (cS X.K cn W ms)) : PSs X [st] (cS X.K cn W ms) := pss_one h1
theorem rs_pass : PS X (.Pass pos) (cS X.K cn W wNext) := ps_wk ps_pass fun D σ H h => by
  obtain ⟨E, F, ρ, g, P, S, hm, C⟩ := h
  exact C.nx F H σ ρ g S hm
theorem rs_break : PS X (.Break pos) (cS X.K cn W wBreak) := ps_wk ps_break fun D σ H h => by
  obtain ⟨E, F, ρ, g, P, S, hm, C⟩ := h
  exact C.bk F H σ ρ g S hm
theorem rs_cont : PS X (.Continue pos) (cS X.K cn W wCont) := ps_wk ps_continue fun D σ H h => by
  obtain ⟨E, F, ρ, g, P, S, hm, C⟩ := h
  exact C.ct F H σ ρ g S hm
theorem rs_expr (he : PE X e (cE X.K cn W m)) (hs : swapsWith e none pos.line X.env = pure false := by rfl) : PS X (.Expr e pos) (cS X.K cn W (wDrop m)) := ps_wk (ps_expr he hs) fun D σ H h => by
  obtain ⟨E, F, ρ, g, P, S, hm, C⟩ := h
  exact ⟨E, F, ρ, g, _, _, S, hm, fun F1 H1 v u g1 S1 p1 o1 f1 q1 => C.nx F1 H1 σ ρ g1 S1 q1, C.xc σ ρ⟩
theorem out_ok {E : Ent} {F H : Hp} {g : G} {v : V} {u : U} (o : UOk K E F H g v u) : UOk K E F H g v (outU u) := by
  cases u <;> exact o
theorem out_nb (u : U) : NoBor (outU u) := by cases u <;> trivial
theorem rs_ret (he : PE X e (cE X.K cn W m)) : PS X (.Return (some e) pos) (cS X.K cn W (wRet m)) := ps_wk (ps_ret he) fun D σ H h => by
  obtain ⟨E, F, ρ, g, P, S, hm, C⟩ := h
  exact ⟨E, F, ρ, g, _, _, S, hm, fun F1 H1 v u g1 S1 p1 o1 f1 q1 => C.rt F1 H1 σ ρ g1 v _ S1 (out_ok o1) (out_nb u) q1, C.xc σ ρ⟩
theorem rs_retN : PS X (.Return none pos) (cS X.K cn W wRetN) := ps_wk ps_retN fun D σ H h => by
  obtain ⟨E, F, ρ, g, P, S, hm, C⟩ := h
  exact C.rt F H σ ρ g .non (.d .non) S Rp.non trivial hm
theorem rs_if {p q : List Stmt} {mp mq : MS} (hc : PT X c (cT X.K cn W mt)) (ha : PSs X p (cS X.K cn W mp)) (hb : PSs X q (cS X.K cn W mq)) : PS X (.If c p q pos) (cS X.K cn W (wIf mt mp mq)) := ps_wk (ps_if hc ha hb) fun D σ H h => by
  obtain ⟨E, F, ρ, g, P, S, hm, C⟩ := h
  refine ⟨E, F, ρ, g, _, _, S, hm, fun F1 H1 b g1 S1 p1 q1 => ?_, C.xc σ ρ⟩
  cases b with
  | true => rw [if_pos rfl]; exact ⟨E, F1, ρ, g1, P, S1, q1.1 rfl, C⟩
  | false => rw [if_neg Bool.false_ne_true]; exact ⟨E, F1, ρ, g1, P, S1, q1.2 rfl, C⟩
theorem set_ok {i : Nat} {te : TE} (ht : ∀ σ H Q, cE K cn W m σ H Q → te σ H Q) (D : Ends) (σ : L2.St) (H : Hp) (h : cS K cn W (wSet i m) D σ H) : tAsg te (gName i) D σ H := by
  obtain ⟨E, F, ρ, g, P, S, hm, C⟩ := h
  refine ht σ H _ ⟨E, F, ρ, g, _, _, S, hm, fun F1 H1 v u g1 S1 p1 o1 f1 q1 => ?_, C.xc σ ρ⟩
  obtain ⟨F2, x, S2, p2, r2, q2, _⟩ := fz_ok S S1 p1 o1 f1 q1
  exact C.nx F2 H1 _ _ g1 (S2.setD i r2) q2
theorem setO_ok {i : Nat} {te : TE} (ht : ∀ σ H Q, cE K cn W m σ H Q → te σ H Q) (D : Ends) (σ : L2.St) (H : Hp) (h : cS K cn W (wSetO i m) D σ H) : tAsg te (gName i) D σ H := by
  obtain ⟨E, F, ρ, g, P, S, hm, C⟩ := h
  refine ht σ H _ ⟨E, F, ρ, g, _, _, S, hm, fun F1 H1 v u g1 S1 p1 o1 f1 q1 => ?_, C.xc σ ρ⟩
  cases u with
  | d x => exact C.nx F1 H1 _ _ g1 (S1.setD i o1) q1
  | own o => exact C.nx F1 H1 _ _ g1 (Stt.setOwn i S S1 o1 f1) q1
  | bor o => exact q1.elim
theorem rs_set (i : Nat) {x : Str} {pos' : Pos} (hN : X.N.Nodup) (he : PE X e (cE X.K cn W m)) (hi : X.N[i]? = some x := by rfl) (hx : Loc X.env.scope x := by first | exact Or.inl rfl | exact Or.inr rfl) (hs : swapsWith e (some (.Name x pos')) pos.line X.env = pure false := by rfl) (hf : X.fn x = true ∨ X.env.scope.names.lookup x = some .local := by first | exact .inl rfl | exact .inr rfl | assumption) :
    PS X (.Assign [.Name x pos'] e pos) (cS X.K cn W (wSet i m)) := ps_wk (ps_set hN hi hx he hs hf) (set_ok fun _ _ _ h => h)
theorem rs_setO (i : Nat) {x : Str} {pos' : Pos} (hN : X.N.Nodup) (he : PE X e (cE X.K cn W m)) (hi : X.N[i]? = some x := by rfl) (hx : Loc X.env.scope x := by first | exact Or.inl rfl | exact Or.inr rfl) (hs : swapsWith e (some (.Name x pos')) pos.line X.env = pure false := by rfl) (hf : X.fn x = true ∨ X.env.scope.names.lookup x = some .local := by first | exact .inl rfl | exact .inr rfl | assumption) :
    PS X (.Assign [.Name x pos'] e pos) (cS X.K cn W (wSetO i m)) := ps_wk (ps_set hN hi hx he hs hf) (setO_ok fun _ _ _ h => h)
theorem rs_frz (i : Nat) {sts : List Stmt} (h : PSs X sts (cS X.K cn W ms)) : PSs X sts (cS X.K cn W (wFrz i ms)) := pss_wk h fun D σ H hh => by
  obtain ⟨E, F, ρ, g, P, S, hm, C⟩ := hh
  unfold wFrz at hm
  split at hm
  · rename_i o hi
    obtain ⟨v, h1, a, ev, q1, q2, q3, q4⟩ := S.slot i _ hi
    have S' := S.unset i
    have ns : ∀ (j : Nat) (p : O), (ρ.set i none)[j]? = some (some (.own p)) → (σ.set i none)[j]? ≠ some (some (.ref a)) := fun j p hj hs => by
      rw [List.getElem?_set] at hj hs
      by_cases e : i = j
      · rw [if_pos e] at hj
        by_cases l : i < ρ.length
        · rw [if_pos l] at hj; cases hj
        · rw [if_neg l] at hj; cases hj
      · rw [if_neg e] at hj hs
        exact S.sep i j o p hi hj e (by rw [h1, hs, ev])
    obtain ⟨u, hu, S2, r2, e2⟩ := S'.frz q1 q2 q3 q4 ns
    have S3 := S2.setD i (v := .ref a) r2
    rw [List.set_set, List.set_set] at S3
    have back : σ.set i (some (.ref a)) = σ := by
      apply List.ext_getElem?
      intro j
      rw [List.getElem?_set]
      by_cases e : i = j
      · rw [if_pos e, if_pos (by
          have := (List.getElem?_eq_some_iff.mp h1).1
          exact this), ← e, h1, ev]
      · rw [if_neg e]
    rw [back] at S3
    exact ⟨E, _, _, g, P, S3, hm, C⟩
  · exact ⟨E, F, ρ, g, P, S, hm, C⟩
end
open PySem L2 PyProof.Rows

section
variable {X : Cx} {K : PySem.W.Frag} {cn : Str → Option Addr} {W : WX} {e a b c : Expr} {es : List Expr} {pos : Pos} {m ma mb mc : ME} {st : Stmt} {rest : List Stmt} {ms mr : MS} {mt : MT}
/-! ### a name given a comprehension -/
theorem rs_setLc (i : Nat) {y : Str} {py : Pos} {elt tg iter : Expr} {ifs : List Expr} {scope : Scope} {own : List (Str × Nat)} {spos : Pos} {mi : MI} {g : MG} {t : TG} {is : List Nat} {mt : MT} {me : ME} (hc : X.calm = true) (hN : X.N.Nodup) (hi : PI X tg iter (cI X.K cn W mi)) (ok : BlkOk X.N X.env.scope scope own) (to : TgOk X.K is t g) (hv : ∀ i ∈ is, i ∈ own.map (·.2))
    (hg : ∀ (s : Shared) (H : Hp) (C : Addr) (cl : List (Str × Addr)) (fp : List Addr), PG (X.blk s H scope (compEnvC scope cl C X.env) fp) tg t) (ht : ∀ (s : Shared) (H : Hp) (C : Addr) (cl : List (Str × Addr)) (fp : List Addr), PTs (X.blk s H scope (compEnvC scope cl C X.env) fp) ifs (cT X.K cn W0 mt))
    (he : ∀ (s : Shared) (H : Hp) (C : Addr) (cl : List (Str × Addr)) (fp : List Addr), PE (X.blk s H scope (compEnvC scope cl C X.env) fp) elt (cE X.K cn W0 me)) (hy : X.N[i]? = some y := by rfl) (hyl : X.env.scope.names.lookup y = some .local := by rfl)
    (hsw : swapsWith (.ListComp elt [⟨tg, iter, ifs, 0⟩] scope pos) (some (.Name y py)) spos.line X.env = pure true := by exact L2.sw_true rfl rfl rfl (by decide +kernel)) (hs : ∀ x, foldedSetIterable iter X.env x = pure x := by intro _; rfl) :
    PS X (.Assign [.Name y py] (.ListComp elt [⟨tg, iter, ifs, 0⟩] scope pos) spos) (cS X.K cn W (wSet i (wLc mi g mt me (own.map (·.2))))) := ps_wk (ps_setLc hc hN hy hyl hsw hi ok hg ht he hs) (set_ok (lc_ok to hv))
theorem rs_setLcO (i : Nat) {y : Str} {py : Pos} {elt tg iter : Expr} {ifs : List Expr} {scope : Scope} {own : List (Str × Nat)} {spos : Pos} {mi : MI} {g : MG} {t : TG} {is : List Nat} {mt : MT} {me : ME} (hc : X.calm = true) (hN : X.N.Nodup) (hi : PI X tg iter (cI X.K cn W mi)) (ok : BlkOk X.N X.env.scope scope own) (to : TgOk X.K is t g) (hv : ∀ i ∈ is, i ∈ own.map (·.2))
    (hg : ∀ (s : Shared) (H : Hp) (C : Addr) (cl : List (Str × Addr)) (fp : List Addr), PG (X.blk s H scope (compEnvC scope cl C X.env) fp) tg t) (ht : ∀ (s : Shared) (H : Hp) (C : Addr) (cl : List (Str × Addr)) (fp : List Addr), PTs (X.blk s H scope (compEnvC scope cl C X.env) fp) ifs (cT X.K cn W0 mt))
    (he : ∀ (s : Shared) (H : Hp) (C : Addr) (cl : List (Str × Addr)) (fp : List Addr), PE (X.blk s H scope (compEnvC scope cl C X.env) fp) elt (cE X.K cn W0 me)) (hy : X.N[i]? = some y := by rfl) (hyl : X.env.scope.names.lookup y = some .local := by rfl)
    (hsw : swapsWith (.ListComp elt [⟨tg, iter, ifs, 0⟩] scope pos) (some (.Name y py)) spos.line X.env = pure true := by exact L2.sw_true rfl rfl rfl (by decide +kernel)) (hs : ∀ x, foldedSetIterable iter X.env x = pure x := by intro _; rfl) :
    PS X (.Assign [.Name y py] (.ListComp elt [⟨tg, iter, ifs, 0⟩] scope pos) spos) (cS X.K cn W (wSetO i (wLc mi g mt me (own.map (·.2))))) := ps_wk (ps_setLc hc hN hy hyl hsw hi ok hg ht he hs) (setO_ok (lc_ok to hv))

/-! ### several targets -/
@[simp] def wAsg (m : ME) (mg : MG) : MS := fun ρ g P => m ρ g (fun u g1 => fzU u fun x => mg x ρ fun ρ' => P.nx ρ' g1) (xOf P ρ)
theorem rs_asg {tg : Expr} {t : TG} {is : List Nat} {mg : MG} (he : PE X e (cE X.K cn W m)) (hg : PG X tg t) (to : TgOk X.K is t mg) (hs : swapsWithSole [tg] e pos.line X.env = pure false := by rfl) (hw : swappedStores [tg] e X.env = pure none := by rfl)
    (h1 : (assignEach [tg] X.env).map (·.2) = [assign tg X.env] := by rfl) : PS X (.Assign [tg] e pos) (cS X.K cn W (wAsg m mg)) := ps_wk (ps_asg he hg hs hw h1) fun D σ H h => by
  obtain ⟨E, F, ρ, g, P, S, hm, C⟩ := h
  refine ⟨E, F, ρ, g, _, _, S, hm, fun F1 H1 v u g1 S1 p1 o1 f1 q1 => ?_, C.xc σ ρ⟩
  obtain ⟨F2, x, S2, p2, r2, q2, _⟩ := fz_ok S S1 p1 o1 f1 q1
  exact to E F2 H1 σ ρ g1 v x _ _ S2 r2 q2 fun σ' ρ' S' _ _ q => C.nx F2 H1 σ' ρ' g1 S' q
@[simp] def wPar (i j : Nat) (ma : MA) : MS := fun ρ g P => ma ρ g (fun xs g1 => match xs with
  | [x, y] => P.nx ((ρ.set i (some (.d x))).set j (some (.d y))) g1
  | _ => False) (xOf P ρ)
theorem rs_par (i j : Nat) {x y : Str} {px py pt : Pos} {kt k2 pt2} {mx : MA} (hc : X.calm = true) (hN : X.N.Nodup) (ha : PA X [a, b] (cA X.K cn W mx)) (hi : X.N[i]? = some x := by rfl) (hj : X.N[j]? = some y := by rfl) (hij : i ≠ j := by decide)
    (hx : X.env.scope.names.lookup x = some .local := by rfl) (hy : X.env.scope.names.lookup y = some .local := by rfl)
    (hw : swappedStores [.Tuple [.Name x px, .Name y py] kt pt] (.Tuple [a, b] k2 pt2) X.env = pure (some [x, y]) := by rfl)
    (hs : swapsWithSole [.Tuple [.Name x px, .Name y py] kt pt] (.Tuple [a, b] k2 pt2) pos.line X.env = pure false := by rfl) :
    PS X (.Assign [.Tuple [.Name x px, .Name y py] kt pt] (.Tuple [a, b] k2 pt2) pos) (cS X.K cn W (wPar i j mx)) := ps_wk (ps_par hc hN hi hj hij hx hy ha hw hs) fun D σ H h => by
  obtain ⟨E, F, ρ, g, P, S, hm, C⟩ := h
  refine ⟨E, F, ρ, g, _, _, S, hm, fun F1 H1 vs xs g1 S1 p1 r1 q1 => ?_, C.xc σ ρ⟩
  dsimp only at q1
  split at q1
  · cases r1 with
    | cons h1 t =>
      cases t with
      | cons h2 t =>
        cases t
        exact ⟨_, _, rfl, C.nx F1 H1 _ _ g1 ((S1.setD i h1).setD j h2) q1⟩
  · exact q1.elim

/-! ### while, for -/
@[simp] def loopP (N : Env → G → Prop) (P : Post) : Post := { nx := N, rt := P.rt, bk := P.nx, ct := N, ex := P.ex }
def wWhile (t : MT) (mb : MS) : MS := fun ρ g P => ∃ I : Nat → Env → G → Prop, (∃ n, I n ρ g) ∧ ∀ n ρ g, I n ρ g →
  t ρ g (fun c g1 => (c = true → mb ρ g1 (loopP (fun ρ' g' => ∃ n', n' < n ∧ I n' ρ' g') P)) ∧ (c = false → P.nx ρ g1)) (xOf P ρ)
theorem rs_while {body : List Stmt} (hp : PassesOwn (model X.prog X.w) X.A X.env X.xe) (hc : PT X c (cT X.K cn W mt)) (hb : PSs X body (cS X.K cn W ms)) : PS X (.While c body [] pos) (cS X.K cn W (wWhile mt ms)) := ps_wk (ps_while hp hc hb) fun D σ H h => by
  obtain ⟨E, F, ρ, g, P, S, ⟨I, ⟨n0, i0⟩, turn⟩, C⟩ := h
  refine ⟨fun n σ H => ∃ F ρ g, Stt X.K E F H σ ρ g ∧ I n ρ g, ⟨n0, F, ρ, g, S, i0⟩, ?_⟩
  rintro n σ1 H1 ⟨F1, ρ1, g1, S1, i1⟩
  refine ⟨E, F1, ρ1, g1, _, _, S1, turn n ρ1 g1 i1, fun F2 H2 b g2 S2 p2 q2 => ?_, C.xc σ1 ρ1⟩
  cases b with
  | false => exact iteF (C.nx F2 H2 σ1 ρ1 g2 S2 (q2.2 rfl))
  | true =>
    refine iteT ⟨fun σ' H' => ∃ F' ρ' g', Stt X.K E F' H' σ' ρ' g' ∧ ∃ n', n' < n ∧ I n' ρ' g', ?_, ?_⟩
    · rintro σ' H' ⟨F', ρ', g', S', n', hn, hi⟩
      exact ⟨n', hn, F', ρ', g', S', hi⟩
    · exact ⟨E, F2, ρ1, g2, _, S2, q2.1 rfl, ⟨fun F' H' σ' ρ' g' S' q => ⟨F', ρ', g', S', q⟩, C.nx, fun F' H' σ' ρ' g' S' q => ⟨F', ρ', g', S', q⟩, C.rt, C.ex⟩⟩
@[simp] def forLoop (mg : MG) (mb : MS) : List D → Env → G → Post → Prop
  | [], ρ, g, P => P.nx ρ g
  | x :: xs, ρ, g, P => mg x ρ fun ρ1 => mb ρ1 g (loopP (fun ρ' g' => forLoop mg mb xs ρ' g' P) P)
@[simp] def wFor (mi : MI) (mg : MG) (mb : MS) : MS := fun ρ g P => mi ρ g (fun xs g1 => forLoop mg mb xs ρ g1 P) (xOf P ρ)
/-- told from a later frozen part on -/
theorem Stt.up {E : Ent} {F1 H1 F H : Hp} {σ1 σ : L2.St} {ρ1 ρ : Env} {g1 g : G} (S1 : Stt K E F1 H1 σ1 ρ1 g1) (S : Stt K E F H σ ρ g) (e : Same F1 F) : Stt K ⟨F1, E.H, E.g⟩ F H σ ρ g :=
  ⟨S.ext, e, S.len, fun i u h => by
    obtain ⟨v, h1, h2⟩ := S.slot i u h
    exact ⟨v, h1, by cases u <;> exact h2⟩, S.sep, S.cell, (fun a o h1 h2 h3 => by
    cases q : E.F a with
    | none => exact S.keep a o h1 q h3
    | some u =>
      have h2' : F1 a = none := h2
      rw [S1.ext0 a u q] at h2'
      cases h2'), S.trk⟩
theorem Stt.down {E : Ent} {F1 H1 F H : Hp} {σ1 σ : L2.St} {ρ1 ρ : Env} {g1 g : G} (S1 : Stt K E F1 H1 σ1 ρ1 g1) (S : Stt K ⟨F1, E.H, E.g⟩ F H σ ρ g) : Stt K E F H σ ρ g :=
  ⟨S.ext, S1.ext0.trans S.ext0, S.len, fun i u h => by
    obtain ⟨v, h1, h2⟩ := S.slot i u h
    exact ⟨v, h1, by cases u <;> exact h2⟩, S.sep, S.cell, fun a o h1 h2 h3 => S.keep a o h1 (S1.keep a o h1 h2 h3).2.1 h3, S.trk⟩
theorem uok_E {E : Ent} {F1 F H : Hp} {g : G} {v : V} {u : U} (h : UOk K ⟨F1, E.H, E.g⟩ F H g v u) : UOk K E F H g v u := by
  cases u <;> exact h
theorem for_ok {mi : MI} {t : TG} {mg : MG} {is : List Nat} {ms : MS} (to : TgOk K is t mg) (D : Ends) (σ : L2.St) (H : Hp) (h : cS K cn W (wFor mi mg ms) D σ H) : tFor (cI K cn W mi) t (cS K cn W ms) D σ H := by
  obtain ⟨E, F, ρ, g, P, S, hm, C⟩ := h
  refine ⟨E, F, ρ, g, _, _, S, hm, fun F1 H1 J xs g1 S1 p1 io q1 => ?_, C.xc σ ρ⟩
  obtain ⟨Gd, Y, wk, gd, yl⟩ := io
  refine for_it wk (fun i σ' H' => ∃ F' ρ' g', Stt K ⟨F1, E.H, E.g⟩ F' H' σ' ρ' g' ∧ forLoop mg ms (xs.drop i) ρ' g' P) ⟨F1, ρ, g1, S1.up S1 (Same.refl F1), q1⟩ (fun i σ' H' _ ⟨F', ρ', g', S', _⟩ => gd F' H' S'.ext0 S'.ext) ?_ ?_
  · rintro i x σ2 H2 H3 hi2 ⟨F2, ρ2, g2, S2, lp⟩ y
    obtain ⟨d, hd, hy⟩ := yl i F2 H2 x H3 hi2 S2.ext0 S2.ext y
    have drop_i : xs.drop i = d :: xs.drop (i + 1) := by
      obtain ⟨hi', e'⟩ := List.getElem?_eq_some_iff.mp hd
      rw [List.drop_eq_getElem_cons hi', e']
    rw [drop_i] at lp
    obtain ⟨F3, S3, r3⟩ : ∃ F3, Stt K ⟨F1, E.H, E.g⟩ F3 H3 σ2 ρ2 g2 ∧ Rp K F3 x d := by
      rcases hy with ⟨e, r⟩ | ⟨T, o, e1, hT, e2, r⟩
      · rw [e]; exact ⟨F2, S2, r⟩
      · rw [e2]; exact ⟨upd F2 T o, S2.newF hT, r⟩
    refine to _ F3 H3 σ2 ρ2 g2 x d _ _ S3 r3 lp fun σ4 ρ4 S4 _ _ q4 => ?_
    refine ⟨⟨F1, E.H, E.g⟩, F3, ρ4, g2, _, S4, q4, ⟨fun F' H' σ' ρ' g' S' q => ⟨F', ρ', g', S', q⟩, fun F' H' σ' ρ' g' S' q => C.nx F' H' σ' ρ' g' (S1.down S') q, fun F' H' σ' ρ' g' S' q => ⟨F', ρ', g', S', q⟩, ?_, ?_⟩⟩
    · exact fun F' H' σ' ρ' g' v u S' o n q => C.rt F' H' σ' ρ' g' v u (S1.down S') (uok_E o) n q
    · exact fun F' H' σ' ρ' g' cls d x S' o q => C.ex F' H' σ' ρ' g' cls d x (S1.down S') o q
  · rintro σ2 H2 ⟨F2, ρ2, g2, S2, lp⟩
    rw [List.drop_length] at lp
    exact C.nx F2 H2 σ2 ρ2 g2 (S1.down S2) lp
theorem rs_for {tg iter : Expr} {body : List Stmt} {mi : MI} {t : TG} {mg : MG} {is : List Nat} (hp : PassesOwn (model X.prog X.w) X.A X.env X.xe) (hc : X.calm = true) (hi : PI X tg iter (cI X.K cn W mi)) (hg : PG X tg t) (to : TgOk X.K is t mg) (hb : PSs X body (cS X.K cn W ms))
    (hs : ∀ x, foldedSetIterable iter X.env x = pure x := by intro _; rfl) : PS X (.For tg iter body [] pos) (cS X.K cn W (wFor mi mg ms)) := ps_wk (ps_for hp hc hi hg hb hs) (for_ok to)

/-! ### owned lists changed -/
def setG (g : G) (a : Addr) (c : Cell) : G := fun b => if b = a then some c else g b
@[simp] def appU (w0 : U) (i : Nat) (y : D) (ρ : Env) (g : G) (P : Post) : Prop := match w0 with
  | .own (.lst xs) => xs.length < sizeLine ∧ P.nx (ρ.set i (some (.own (.lst (xs ++ [y]))))) g
  | .d (.ref a) => ∃ xs, g a = some (.lst xs) ∧ xs.length < sizeLine ∧ P.nx ρ (setG g a (.lst (xs ++ [y])))
  | _ => False
@[simp] def listy (g : G) : U → Prop
  | .own (.lst _) => True
  | .d (.ref a) => ∃ xs, g a = some (.lst xs)
  | _ => False
@[simp] def wApp (i : Nat) (m : ME) : MS := fun ρ g P => match ρ[i]? with
  | some (some w0) => listy g w0 ∧ m ρ g (fun u g1 => fzU u fun y => appU w0 i y ρ g1 P) (xOf P ρ)
  | _ => False
/-- the owned list in slot i is changed: its slot's address -/
theorem Stt.slotL {E : Ent} {F H : Hp} {σ : L2.St} {ρ : Env} {g : G} {i : Nat} {xs : List D} (S : Stt K E F H σ ρ g) (h : ρ[i]? = some (some (.own (.lst xs)))) : ∃ a vs, σ[i]? = some (some (.ref a)) ∧ H a = some (.lst vs) ∧ RpL K F vs xs ∧ F a = none ∧ g a = none ∧ E.H a = none := by
  obtain ⟨v, h1, a, e, ⟨vs, q1, q2⟩, q3, q4, q5⟩ := S.slot i _ h
  exact ⟨a, vs, by rw [h1, e], q1, q2, q3, q4, q5⟩
theorem set_back {σ : L2.St} {i : Nat} {v : V} (h : σ[i]? = some (some v)) : σ.set i (some v) = σ := by
  apply List.ext_getElem?
  intro j
  rw [List.getElem?_set]
  by_cases e : i = j
  · rw [if_pos e, if_pos (List.getElem?_eq_some_iff.mp h).1, ← e, h]
  · rw [if_neg e]
theorem Stt.mutL {E : Ent} {F H : Hp} {σ : L2.St} {ρ : Env} {g : G} {i : Nat} {xs ys : List D} {a : Addr} {ws : List V} (S : Stt K E F H σ ρ g) (h : ρ[i]? = some (some (.own (.lst xs)))) (ha : σ[i]? = some (some (.ref a))) (r : RpL K F ws ys) :
    Stt K E F (upd H a (.lst ws)) σ (ρ.set i (some (.own (.lst ys)))) g := by
  obtain ⟨a', vs, h1, h2, h3, h4, h5, h6⟩ := S.slotL h
  rw [ha] at h1
  cases h1
  have S' := S.unset i
  have ns : ∀ (j : Nat) (p : O), (ρ.set i none)[j]? = some (some (.own p)) → j ≠ i ∧ σ[j]? ≠ some (some (.ref a)) := fun j p hj => by
    rw [List.getElem?_set] at hj
    by_cases e : i = j
    · rw [if_pos e] at hj
      by_cases l : i < ρ.length
      · rw [if_pos l] at hj; cases hj
      · rw [if_neg l] at hj; cases hj
    · rw [if_neg e] at hj
      exact ⟨fun z => e z.symm, fun hs => S.sep i j _ p h hj e (by rw [ha, hs])⟩
  have S2 := S'.poke (o := .lst ws) h4 h5 h6 (fun y e => by rw [h2] at e; cases e) fun j p hj hs => by
    obtain ⟨n1, n2⟩ := ns j p hj
    rw [List.getElem?_set_ne (fun z => n1 z.symm)] at hs
    exact n2 hs
  have S3 := S2.set (i := i) (v := .ref a) (u := .own (.lst ys)) ⟨a, rfl, ⟨ws, upd_same, r⟩, h4, h5, h6⟩ fun o eo j p hj hne hs => by
    obtain ⟨n1, n2⟩ := ns j p hj
    rw [List.getElem?_set_ne (fun z => n1 z.symm)] at hs
    exact n2 hs
  rw [List.set_set, List.set_set, set_back ha] at S3
  exact S3
/-- a shared list is changed -/
theorem Stt.mutC {E : Ent} {F H : Hp} {σ : L2.St} {ρ : Env} {g : G} {l : Addr} {xs ys : List D} {ws : List V} (S : Stt K E F H σ ρ g) (hg : g l = some (.lst xs)) (r : RpL K F ws ys) : Stt K E F (upd H l (.lst ws)) σ ρ (setG g l (.lst ys)) := by
  obtain ⟨⟨vs, t1, t2⟩, t3⟩ := S.cell l _ hg
  have gne : ∀ b, b ≠ l → setG g l (.lst ys) b = g b := fun b hb => by unfold setG; rw [if_neg hb]
  have hne : ∀ b, b ≠ l → upd H l (.lst ws) b = H b := fun b hb => upd_ne hb
  refine ⟨fun b w' hb => ?_, S.ext0, S.len, fun i' u' hi' => ?_, S.sep, fun b c' hc => ?_, fun b o' e1 e2 e3 => ?_, fun b hb => S.trk b (upd_free hb)⟩
  · rw [hne b (fun z => by rw [z, t3] at hb; cases hb)]; exact S.ext b w' hb
  · obtain ⟨v2, s1, s2⟩ := S.slot i' u' hi'
    refine ⟨v2, s1, ?_⟩
    cases u' with
    | d x => exact s2
    | own p =>
      obtain ⟨b, eb, y1, y2, y3, y4⟩ := s2
      have hb : b ≠ l := fun z => by rw [z, hg] at y3; cases y3
      exact ⟨b, eb, y1.at (Same.refl F) fun w1 hw1 => by rw [hne b hb]; exact hw1, y2, by rw [gne b hb]; exact y3, y4⟩
    | bor p => exact s2
  · by_cases hb : b = l
    · subst hb
      unfold setG at hc
      rw [if_pos rfl] at hc
      cases hc
      exact ⟨⟨_, upd_same, r⟩, t3⟩
    · rw [gne b hb] at hc
      obtain ⟨y1, y2⟩ := S.cell b c' hc
      refine ⟨?_, y2⟩
      cases c' with
      | lst zs => obtain ⟨ws', z1, z2⟩ := y1; exact ⟨ws', by rw [hne b hb]; exact z1, z2⟩
      | ins C fs =>
        obtain ⟨dx, ws', z1, z2, z3, z4⟩ := y1
        have hd : dx ≠ l := fun z => by rw [z, t1] at z2; cases z2
        exact ⟨dx, ws', by rw [hne b hb]; exact z1, by rw [hne dx hd]; exact z2, z3, z4⟩
      | dct zs => obtain ⟨ws', z1, z2⟩ := y1; exact ⟨ws', by rw [hne b hb]; exact z1, z2⟩
      | ext ψ zs cs => obtain ⟨ws', z1, z2⟩ := y1; exact ⟨ws', by rw [hne b hb]; exact z1, z2⟩
      | tbl =>
        obtain ⟨ps, z1, z2, z3⟩ := y1
        exact ⟨ps, by rw [hne b hb]; exact z1, z2, z3⟩
  · obtain ⟨y1, y2, y3⟩ := S.keep b o' e1 e2 e3
    have hb : b ≠ l := fun z => by rw [z, hg] at y3; cases y3
    exact ⟨by rw [hne b hb]; exact y1, y2, by rw [gne b hb]; exact y3⟩
theorem rs_app (i : Nat) {x : Str} {xpos apos cpos : Pos} (he : PE X e (cE X.K cn W m)) (hN : X.N[i]? = some x := by rfl) (hv : Vis X.env.scope x := by first | exact Or.inl rfl | exact Or.inr (Or.inl rfl) | exact Or.inr (Or.inr rfl)) (hd : (x == ("__debug__" : Str)) = false := by decide)
    (hcd : (x == ("__classdict__" : Str)) = false := by decide) (hbase : attributeBase (.Name x xpos) "append" X.env (eval (.Name x xpos) X.env) = eval (.Name x xpos) X.env := by rfl)
    (hfew : ((backTo cpos (starEach [e] X.env)).all (fun x => !x.1) && (backToKw cpos (keywordEach [] X.env)).all (fun x => x.1.isSome) && decide ([e].length + ([] : List Keyword).length + (if ([] : List Keyword).isEmpty then 0 else 1) < 30)) = true := by rfl)
    (hline : (apos.endLine == cpos.line) = true := by rfl) (hs1 : starEach [e] X.env = (false, eval e X.env) :: starEach [] X.env := by rfl) (hplain : (backTo cpos (starEach [] X.env)).any (·.1) = false := by rfl)
    (hs : swapsWith (.Call (.Attribute (.Name x xpos) "append" apos) [e] [] cpos) none pos.line X.env = pure false := by rfl) :
    PS X (.Expr (.Call (.Attribute (.Name x xpos) "append" apos) [e] [] cpos) pos) (cS X.K cn W (wApp i m)) :=
  ps_wk (ps_expr (pe_bm PySem.F.plainAttrs_list PySem.F.slot_list_append PySem.F.type_list_append mt_append (pe_var (i := i) hN hv hd hcd) (pa_cons he pa_nil (hs := hs1)) hbase hfew hline hs1 hplain) hs) fun D σ H h => by
    obtain ⟨E, F, ρ, g, P, S, hm, C⟩ := h
    unfold wApp at hm
    split at hm
    case h_2 => exact hm.elim
    rename_i w0 hi
    obtain ⟨hli, hm⟩ := hm
    have at1 : ∃ l vs, σ[i]? = some (some (.ref l)) ∧ H l = some (.lst vs) := by
      cases w0 with
      | own o =>
        cases o with
        | lst xs => obtain ⟨l, vs, h1, h2, _⟩ := S.slotL hi; exact ⟨l, vs, h1, h2⟩
        | dct xs => exact hli.elim
      | d x =>
        cases x with
        | ref l =>
          obtain ⟨xs, hg⟩ := hli
          obtain ⟨⟨vs, t1, t2⟩, t3⟩ := S.cell l _ hg
          obtain ⟨v', k1, k2⟩ := S.slot i _ hi
          cases k2
          exact ⟨l, vs, k1, t1⟩
        | _ => exact hli.elim
      | bor o => exact hli.elim
    obtain ⟨l, vs, h1, h2⟩ := at1
    refine ⟨.ref l, h1, .inl ⟨rfl, vs, .inl (.inl h2)⟩, ?_⟩
    refine ⟨E, F, ρ, g, _, _, S, hm, fun F1 H1 v u g1 S1 p1 o1 f1 q1 => ?_, C.xc σ ρ⟩
    obtain ⟨F2, y, S2, p2, r2, q2, _⟩ := fz_ok S S1 p1 o1 f1 q1
    unfold appU at q2
    split at q2
    · obtain ⟨l', ws, k1, k2, k3, _⟩ := S2.slotL hi
      rw [h1] at k1
      cases k1
      exact ⟨l, ws, v, rfl, rfl, k2, by rw [k3.len]; exact q2.1, C.nx F2 _ σ _ g1 (S2.mutL hi h1 (k3.app (.cons r2 .nil))) q2.2⟩
    · obtain ⟨xs, hg, hz, q⟩ := q2
      obtain ⟨v', k1, k2⟩ := S2.slot i _ hi
      rw [h1] at k1
      cases k1
      cases k2
      obtain ⟨⟨ws, t1, t2⟩, t3⟩ := S2.cell _ _ hg
      exact ⟨_, ws, v, rfl, rfl, t1, by rw [t2.len]; exact hz, C.nx F2 _ σ ρ _ (S2.mutC hg (t2.app (.cons r2 .nil))) q⟩
    · exact q2.elim
/-- x.pop(i), its value dropped -/
@[simp] def wPopD (i : Nat) (m : ME) : MS := fun ρ g P => match ρ[i]? with
  | some (some (.own (.lst xs))) => m ρ g (fun u g1 => intU u fun j => ∃ n, (-(2 ^ 63) ≤ j ∧ j < 2 ^ 63) ∧ seqIndex? j xs.length = some n ∧ n < xs.length ∧ P.nx (ρ.set i (some (.own (.lst (xs.eraseIdx n))))) g1) (xOf P ρ)
  | _ => False
theorem rs_popD (i : Nat) {x : Str} {xpos apos cpos : Pos} (he : PE X e (cE X.K cn W m)) (hN : X.N[i]? = some x := by rfl) (hv : Vis X.env.scope x := by first | exact Or.inl rfl | exact Or.inr (Or.inl rfl) | exact Or.inr (Or.inr rfl)) (hd : (x == ("__debug__" : Str)) = false := by decide)
    (hcd : (x == ("__classdict__" : Str)) = false := by decide) (hbase : attributeBase (.Name x xpos) "pop" X.env (eval (.Name x xpos) X.env) = eval (.Name x xpos) X.env := by rfl)
    (hfew : ((backTo cpos (starEach [e] X.env)).all (fun x => !x.1) && (backToKw cpos (keywordEach [] X.env)).all (fun x => x.1.isSome) && decide ([e].length + ([] : List Keyword).length + (if ([] : List Keyword).isEmpty then 0 else 1) < 30)) = true := by rfl)
    (hline : (apos.endLine == cpos.line) = true := by rfl) (hs1 : starEach [e] X.env = (false, eval e X.env) :: starEach [] X.env := by rfl) (hplain : (backTo cpos (starEach [] X.env)).any (·.1) = false := by rfl)
    (hs : swapsWith (.Call (.Attribute (.Name x xpos) "pop" apos) [e] [] cpos) none pos.line X.env = pure false := by rfl) :
    PS X (.Expr (.Call (.Attribute (.Name x xpos) "pop" apos) [e] [] cpos) pos) (cS X.K cn W (wPopD i m)) :=
  ps_wk (ps_expr (pe_bm PySem.F.plainAttrs_list PySem.F.slot_list_pop PySem.F.type_list_pop mt_popAt (pe_var (i := i) hN hv hd hcd) (pa_cons he pa_nil (hs := hs1)) hbase hfew hline hs1 hplain) hs) fun D σ H h => by
    obtain ⟨E, F, ρ, g, P, S, hm, C⟩ := h
    unfold wPopD at hm
    split at hm
    · rename_i xs hi
      obtain ⟨l, vs, h1, h2, h3, h4, h5, h6⟩ := S.slotL hi
      refine ⟨.ref l, h1, .inl ⟨rfl, vs, .inl (.inl h2)⟩, ?_⟩
      refine ⟨E, F, ρ, g, _, _, S, hm, fun F1 H1 v u g1 S1 p1 o1 f1 q1 => ?_, C.xc σ ρ⟩
      obtain ⟨j, ev, n, hb, hn, hl, q⟩ := intU_ok o1 q1
      obtain ⟨l', ws, k1, k2, k3, _⟩ := S1.slotL hi
      rw [h1] at k1
      cases k1
      subst ev
      have hl' : n < ws.length := by rw [k3.len]; exact hl
      exact ⟨l, ws, j, n, ws[n], rfl, rfl, k2, hb.1, hb.2, by rw [k3.len]; exact hn, List.getElem?_eq_getElem hl', C.nx F1 _ σ _ g1 (S1.mutL hi h1 (k3.erase n)) q⟩
    · exact hm.elim

/-! ### shared lists -/
/-- the own list in slot i becomes a shared one -/
@[simp] def wShare (i : Nat) (m : MS) : MS := fun ρ g P => match ρ[i]? with
  | some (some (.own (.lst xs))) => ∀ a, g a = none → m (ρ.set i (some (.d (.ref a)))) (setG g a (.lst xs)) P
  | _ => m ρ g P
theorem rs_share (i : Nat) {sts : List Stmt} (h : PSs X sts (cS X.K cn W ms)) : PSs X sts (cS X.K cn W (wShare i ms)) := pss_wk h fun D σ H hh => by
  obtain ⟨E, F, ρ, g, P, S, hm, C⟩ := hh
  unfold wShare at hm
  split at hm
  · rename_i xs hi
    obtain ⟨a, vs, h1, h2, h3, h4, h5, h6⟩ := S.slotL hi
    have S1 := S.setD (v := .ref a) (x := .ref a) i (.ref a)
    rw [set_back h1] at S1
    have own_ne : ∀ (j : Nat) (p : O), (ρ.set i (some (.d (.ref a))))[j]? = some (some (.own p)) → σ[j]? ≠ some (some (.ref a)) := fun j p hj hs => by
      rw [List.getElem?_set] at hj
      by_cases e : i = j
      · rw [if_pos e] at hj
        by_cases l : i < ρ.length
        · rw [if_pos l] at hj; cases hj
        · rw [if_neg l] at hj; cases hj
      · rw [if_neg e] at hj
        exact S.sep i j _ p hi hj e (by rw [h1, hs])
    have gne : ∀ b, b ≠ a → setG g a (.lst xs) b = g b := fun b hb => by unfold setG; rw [if_neg hb]
    refine ⟨E, F, _, _, P, ⟨S1.ext, S1.ext0, S1.len, fun j u hj => ?_, S1.sep, fun b c hc => ?_, fun b o k1 k2 k3 => ?_, S1.trk⟩, hm a h5, C⟩
    · obtain ⟨v, q1, q2⟩ := S1.slot j u hj
      refine ⟨v, q1, ?_⟩
      cases u with
      | d x => exact q2
      | own p =>
        obtain ⟨b, eb, t1, t2, t3, t4⟩ := q2
        have hb : b ≠ a := fun y => own_ne j p hj (by rw [q1, eb, y])
        exact ⟨b, eb, t1, t2, by rw [gne b hb]; exact t3, t4⟩
      | bor p => exact q2
    · by_cases hb : b = a
      · subst hb
        unfold setG at hc
        rw [if_pos rfl] at hc
        cases hc
        exact ⟨⟨vs, h2, h3⟩, h4⟩
      · rw [gne b hb] at hc
        exact S1.cell b c hc
    · obtain ⟨t1, t2, t3⟩ := S1.keep b o k1 k2 k3
      have hb : b ≠ a := fun y => by rw [y, h6] at k1; cases k1
      exact ⟨t1, t2, by rw [gne b hb]; exact t3⟩
  · exact ⟨E, F, ρ, g, P, S, hm, C⟩
/-- x[i] = e, x an own list or a shared one -/
@[simp] def stoU (w0 : U) (j : Nat) (k : Int) (y : D) (ρ : Env) (g2 : G) (P : Post) : Prop := match w0 with
  | .own (.lst xs) => ∃ n, ixN xs.length k = some n ∧ P.nx (ρ.set j (some (.own (.lst (xs.set n y))))) g2
  | .d (.ref a) => ∃ xs n, g2 a = some (.lst xs) ∧ ixN xs.length k = some n ∧ P.nx ρ (setG g2 a (.lst (xs.set n y)))
  | _ => False
@[simp] def wSto (j : Nat) (mi me : ME) : MS := fun ρ g P => match ρ[j]? with
  | some (some w0) => me ρ g (fun u g1 => fzU u fun y => mi ρ g1 (fun w g2 => intU w fun k => stoU w0 j k y ρ g2 P) (xOf P ρ)) (xOf P ρ)
  | _ => False
theorem rs_sto (j : Nat) {x : Str} {xpos tpos : Pos} {mi me : ME} (hi : PE X a (cE X.K cn W mi)) (he : PE X e (cE X.K cn W me)) (hN : X.N[j]? = some x := by rfl) (hv : Vis X.env.scope x := by first | exact Or.inl rfl | exact Or.inr (Or.inl rfl) | exact Or.inr (Or.inr rfl)) (hd : (x == ("__debug__" : Str)) = false := by decide)
    (hcd : (x == ("__classdict__" : Str)) = false := by decide)
    (ha : ∀ v, assign (.Subscript (.Name x xpos) a tpos) X.env v = (do
      let av ← holding [v] (eval (.Name x xpos) X.env)
      let bv ← holding [v, av] (eval a X.env)
      standAt tpos
      holding [v, av, bv] (setItem av bv v)
      release [v, av, bv] []) := by intro _; rfl)
    (hs : swapsWithSole [.Subscript (.Name x xpos) a tpos] e pos.line X.env = pure false := by rfl) (hw : swappedStores [.Subscript (.Name x xpos) a tpos] e X.env = pure none := by rfl)
    (h1 : (assignEach [.Subscript (.Name x xpos) a tpos] X.env).map (·.2) = [assign (.Subscript (.Name x xpos) a tpos) X.env] := by rfl) :
    PS X (.Assign [.Subscript (.Name x xpos) a tpos] e pos) (cS X.K cn W (wSto j mi me)) := ps_wk (ps_asg he (pg_sub (pe_var (i := j) hN hv hd hcd) hi set_list ha) hs hw h1) fun D σ H h => by
  obtain ⟨E, F, ρ, g, P, S, hm, C⟩ := h
  unfold wSto at hm
  split at hm
  case h_2 => exact hm.elim
  rename_i w0 hj
  obtain ⟨o, ho, hso⟩ := S.slot j _ hj
  clear hso
  refine ⟨E, F, ρ, g, _, _, S, hm, fun F1 H1 v u g1 S1 p1 o1 f1 q1 => ?_, C.xc σ ρ⟩
  obtain ⟨F2, y, S2, p2, r2, q2, _⟩ := fz_ok S S1 p1 o1 f1 q1
  -- x stands in its slot: an own list, or a shared one
  have slot : ∀ F3 H3 w z g3, Stt X.K E F3 H3 σ ρ g3 → UOk X.K E F3 H3 g3 w z → Rp X.K F3 v y → (intU z fun k => stoU w0 j k y ρ g3 P) → rSetL o w v H3 fun H4 => D.nx σ H4 := by
    intro F3 H3 w z g3 S3 o3 r3 q3
    obtain ⟨k, ew, q⟩ := intU_ok o3 q3
    subst ew
    unfold stoU at q
    split at q
    · rename_i xs
      obtain ⟨n, hn, qn⟩ := q
      obtain ⟨l, vs, k1, k2, k3, k4, k5, k6⟩ := S3.slotL hj
      rw [ho] at k1
      cases k1
      exact ⟨l, vs, k, n, rfl, rfl, k2, by rw [k3.len]; exact hn, C.nx F3 _ σ _ g3 (S3.mutL hj ho (k3.setAt r3 n)) qn⟩
    · rename_i l
      obtain ⟨xs, n, hg, hn, qn⟩ := q
      obtain ⟨v', k1, k2⟩ := S3.slot j _ hj
      rw [ho] at k1
      cases k1
      cases k2
      obtain ⟨⟨vs, t1, t2⟩, t3⟩ := S3.cell l _ hg
      refine ⟨l, vs, k, n, rfl, rfl, t1, by rw [t2.len]; exact hn, C.nx F3 _ σ ρ _ ?_ qn⟩
      have gne : ∀ b, b ≠ l → setG g3 l (.lst (xs.set n y)) b = g3 b := fun b hb => by unfold setG; rw [if_neg hb]
      have hne : ∀ b, b ≠ l → upd H3 l (.lst (vs.set n v)) b = H3 b := fun b hb => upd_ne hb
      refine ⟨fun b w' hb => ?_, S3.ext0, S3.len, fun i' u' hi' => ?_, S3.sep, fun b c' hc => ?_, fun b o' e1 e2 e3 => ?_, fun b hb => S3.trk b (upd_free hb)⟩
      · rw [hne b (fun z => by rw [z, t3] at hb; cases hb)]; exact S3.ext b w' hb
      · obtain ⟨v2, s1, s2⟩ := S3.slot i' u' hi'
        refine ⟨v2, s1, ?_⟩
        cases u' with
        | d x => exact s2
        | own p =>
          obtain ⟨b, eb, y1, y2, y3, y4⟩ := s2
          have hb : b ≠ l := fun z => by rw [z, hg] at y3; cases y3
          exact ⟨b, eb, y1.at (Same.refl F3) fun w1 hw1 => by rw [hne b hb]; exact hw1, y2, by rw [gne b hb]; exact y3, y4⟩
        | bor p => exact s2
      · by_cases hb : b = l
        · subst hb
          unfold setG at hc
          rw [if_pos rfl] at hc
          cases hc
          exact ⟨⟨_, upd_same, t2.setAt r3 n⟩, t3⟩
        · rw [gne b hb] at hc
          obtain ⟨y1, y2⟩ := S3.cell b c' hc
          refine ⟨?_, y2⟩
          cases c' with
          | lst zs => obtain ⟨ws, z1, z2⟩ := y1; exact ⟨ws, by rw [hne b hb]; exact z1, z2⟩
          | ins C fs =>
            obtain ⟨dx, ws, z1, z2, z3, z4⟩ := y1
            have hd : dx ≠ l := fun z => by rw [z, t1] at z2; cases z2
            exact ⟨dx, ws, by rw [hne b hb]; exact z1, by rw [hne dx hd]; exact z2, z3, z4⟩
          | dct zs => obtain ⟨ws, z1, z2⟩ := y1; exact ⟨ws, by rw [hne b hb]; exact z1, z2⟩
          | ext ψ zs cs => obtain ⟨ws, z1, z2⟩ := y1; exact ⟨ws, by rw [hne b hb]; exact z1, z2⟩
          | tbl =>
            obtain ⟨ps, z1, z2, z3⟩ := y1
            exact ⟨ps, by rw [hne b hb]; exact z1, z2, z3⟩
      · obtain ⟨y1, y2, y3⟩ := S3.keep b o' e1 e2 e3
        have hb : b ≠ l := fun z => by rw [z, hg] at y3; cases y3
        exact ⟨by rw [hne b hb]; exact y1, y2, by rw [gne b hb]; exact y3⟩
    · exact q.elim
  refine ⟨o, ho, ?_⟩
  exact ⟨E, F2, ρ, g1, _, _, S2, q2, fun F3 H3 w z g3 S3 p3 o3 f3 q3 => slot F3 H3 w z g3 S3 o3 (r2.mono p3.ext) q3, C.xc σ ρ⟩
end
open PySem L2 PyProof.Rows

section
variable {X : Cx} {K : PySem.W.Frag} {cn : Str → Option Addr} {W : WX} {st : Stmt}
/-! ### raise -/
@[simp] def wRaise (nm : Str) : MS := fun ρ g P => P.ex ⟨nm, []⟩ ρ g
theorem rs_raise0 (nm : Str) {C : Addr} (hC : cn nm = some C) (h : PS X st (fun _ σ H => W (.ref C) none σ H)) : PS X st (cS X.K cn W (wRaise nm)) := ps_wk h fun D σ H h => by
  obtain ⟨E, F, ρ, g, P, S, hm, Cn⟩ := h
  exact Cn.ex F H σ ρ g _ none ⟨nm, []⟩ S (fun C' hC' => by rw [hC] at hC'; cases hC'; exact ⟨rfl, .inl ⟨rfl, rfl⟩⟩) hm
end

/-! ### a def's promise from its body -/
def SubG (g1 g : G) : Prop := ∀ a c, g1 a = some c → g a = some c
theorem SubG.refl (g : G) : SubG g g := fun _ _ h => h
@[simp] def fnPost (Qu : KU) (Qx : KX) : Post where
  nx := fun _ g => ∃ g1, SubG g1 g ∧ Qu (.d .non) g1
  rt := fun u g => ∃ g1, SubG g1 g ∧ Qu u g1
  bk := fun _ _ => False
  ct := fun _ _ => False
  ex := fun x _ g => ∃ g1, SubG g1 g ∧ Qx x g1
@[simp] def startU (n : Nat) (xs : List D) : Env := xs.map (fun x => some (.d x)) ++ List.replicate (n - xs.length) none
theorem SubG.none {g1 g : G} (h : SubG g1 g) {a : Addr} (e : g a = none) : g1 a = none := by
  cases q : g1 a with
  | none => rfl
  | some c => rw [h a c q] at e; cases e
theorem SubG.cells {K : PySem.W.Frag} {F H : Hp} {g1 g : G} (h : SubG g1 g) (c : Cells K F H g) : Cells K F H g1 := fun a x q => c a x (h a x q)
theorem SubG.uok {K : PySem.W.Frag} {E : Ent} {F H : Hp} {g1 g : G} {v : V} {u : U} (h : SubG g1 g) (o : UOk K E F H g v u) : UOk K E F H g1 v u := by
  cases u with
  | d x => exact o
  | own p => obtain ⟨a, e, h1, h2, h3, h4⟩ := o; exact ⟨a, e, h1, h2, h.none h3, h4⟩
  | bor p => obtain ⟨a, e, h1, h2, h3, h4⟩ := o; exact ⟨a, e, h1, h2, h.none h3, h4⟩
section
variable {K : PySem.W.Frag} {cn : Str → Option Addr}
theorem Stt.out {E : Ent} {F H : Hp} {σ : L2.St} {ρ : Env} {g g1 : G} (S : Stt K E F H σ ρ g) (h : SubG g1 g) : Stp E.g E.F E.H g1 F H :=
  ⟨S.ext0, fun a o h1 h2 h3 => let ⟨k1, k2, k3⟩ := S.keep a o h1 h2 h3; ⟨k1, k2, h.none k3⟩, S.trk⟩
theorem stt_start {F H : Hp} {g : G} {vs : List V} {xs : List D} {N : List Str} (e : Same F H) (c : Cells K F H g) (r : RpL K F vs xs) : Stt K ⟨F, H, g⟩ F H (L2.start N vs) (startU N.length xs) g := by
  have hl := r.len
  refine ⟨e, Same.refl F, ?_, fun i u h => ?_, fun i j o p h => ?_, c, fun a o h1 h2 h3 => ⟨h1, h2, h3⟩, fun a h => h⟩
  · unfold startU L2.start
    rw [List.length_append, List.length_append, List.length_map, List.length_map, List.length_replicate, List.length_replicate, hl]
  · unfold startU at h
    unfold L2.start
    by_cases hi : i < xs.length
    · rw [List.getElem?_append_left (by rw [List.length_map]; exact hi), List.getElem?_map] at h
      rw [List.getElem?_append_left (by rw [List.length_map, hl]; exact hi), List.getElem?_map]
      cases q : xs[i]? with
      | none => rw [q] at h; cases h
      | some x =>
        rw [q] at h
        cases h
        obtain ⟨v, hv, rv⟩ := r.get q
        exact ⟨v, by rw [hv]; rfl, rv⟩
    · rw [List.getElem?_append_right (by rw [List.length_map]; omega), List.getElem?_replicate] at h
      split at h
      · cases h
      · cases h
  · unfold startU at h
    by_cases hi : i < xs.length
    · rw [List.getElem?_append_left (by rw [List.length_map]; exact hi), List.getElem?_map] at h
      cases q : xs[i]? with
      | none => rw [q] at h; cases h
      | some x => rw [q] at h; cases h
    · rw [List.getElem?_append_right (by rw [List.length_map]; omega), List.getElem?_replicate] at h
      split at h
      · cases h
      · cases h
/-- what a def's wish about exceptions is, at its body's slots -/
abbrev WD (E : XK) : WX := fun cls d _ H => E cls d H
theorem fn_ok {P : Program} {w : World} {mg : Str → Option Value} {base : Heap} {CXg : CXT} {x qual : Str} {st : Stmt} {f : Addr} {fd : FuncData} {N ps : List Str} {k : Nat} {sp : SpU} {ms : MS} (F : Fun K x qual st f fd) (S : FnScope N ps (defScope st))
    (len : ∀ xs g Qu Qx, sp xs g Qu Qx → xs.length = ps.length) (hsp : ∀ xs g Qu Qx, sp xs g Qu Qx → ms (startU N.length xs) g (fnPost Qu Qx))
    (hbody : ∀ (cdv : Value) (A : Around) (outer : List PySem.Env) (s : Shared) (H : Hp) (E : XK), Room k (A.deeper (envOfC qual (defScope st) s.heap.objs.size f cdv)) →
      PSs (cxOf CXg P w K mg base N qual (defScope st) f cdv A outer s H E) (defBody st) (cS K cn (WD E) ms)) : FnOk P w K mg base CXg (k + 1) f fd ps (LSp K cn sp) := by
  obtain ⟨oc, od, kV, doc, pm, an, cdv, ct, osl, rfl, lk, hcd⟩ := F.ex
  refine fn_of lk hcd S (fun vs H Q E h => ?_) fun A outer s H vs Q E hr h => ?_
  · obtain ⟨F, g, xs, Qu, Qx, _, _, r, q, _⟩ := h
    rw [r.len]
    exact len xs g Qu Qx q
  · obtain ⟨F, g, xs, Qu, Qx, e, c, r, q, hk, hx⟩ := h
    refine ⟨_, hbody cdv A outer s H E hr, ⟨F, H, g⟩, F, startU N.length xs, g, fnPost Qu Qx, stt_start e c r, hsp xs g Qu Qx q, ⟨?_, ?_, ?_, ?_, ?_⟩⟩
    · rintro F' H' σ' ρ' g' S' ⟨g1, hg, q'⟩
      exact hk F' H' .non (.d .non) g1 S'.ext (hg.cells S'.cell) (S'.out hg) Rp.non trivial q'
    · exact fun _ _ _ _ _ _ q => q.elim
    · exact fun _ _ _ _ _ _ q => q.elim
    · rintro F' H' σ' ρ' g' v u S' o nb ⟨g1, hg, q'⟩
      exact hk F' H' v u g1 S'.ext (hg.cells S'.cell) (S'.out hg) (hg.uok o) nb q'
    · rintro F' H' σ' ρ' g' cls d x S' o ⟨g1, hg, q'⟩
      exact hx F' H' cls d x g1 S'.ext (hg.cells S'.cell) (S'.out hg) o q'
end

/-! ### the law -/
/-- law(script) gives True, whatever the script of at most 63 numbers -/
def spLaw : SpU := fun xs g Q _ => ∃ ns : List Int, xs = [.ro (ns.map D.int)] ∧ ns.length ≤ 63 ∧ g = (fun _ => none) ∧ ∀ g', Q (.d (.bl true)) g'
theorem law_sp {K : PySem.W.Frag} {cn : Str → Option Addr} {H : Hp} {a : Addr} {ns : List Int} (hl : ns.length ≤ 63) (h : SqL K H a (ns.map V.int)) : LSp K cn spLaw [.ref a] H (fun v _ => v = .bl true) fun _ _ _ => False := by
  refine ⟨H, fun _ => none, [.ro (ns.map D.int)], fun u _ => u = .d (.bl true), fun _ _ => False, Same.refl H, (fun a c q => by cases q), .cons (.ro h (RpL.of_ints ns)) .nil, ⟨ns, rfl, hl, rfl, fun _ => rfl⟩, ?_, ?_⟩
  · rintro F' H' v u g' _ _ _ o _ rfl
    have o' : Rp K F' v (.bl true) := o
    cases o'
    rfl
  · rintro F' H' cls d x g' _ _ _ _ q
    exact q
theorem law_walk {l : PySem.W.OpenLaw} {k : Nat} {q : Program} {loose : List Str} {XP : (Str → Option Value) → Heap → Prop} {YP : World → Heap → Prop} {d : DefRec} {K : Params → PySem.W.Frag} {x : Str} (hn : l.most = some 63) (hdf : d.params.defaults = []) (hr : Room k callerA)
    (hY : ∀ (w : World) (h : Heap), YP w h → (K w.params).In h)
    (F : ∀ (w : World) (mg : Str → Option Value) (fa : Addr) (h : Heap), (K w.params).In h → h.Ns mainGlobals mg → mg d.name = some (.ref fa) →
      ∃ (cn : Str → Option Addr) (fd : FuncData), (∀ (s : Shared) (u : Value), BindsTo s fd ⟨[u], []⟩ [(x, u)]) ∧
        ∀ base : Heap, (K w.params).In base → base.Ns mainGlobals mg → FnOk l.prog w (K w.params) mg base CX0 k fa fd [x] (LSp (K w.params) cn spLaw)) : PySem.W.WalkO q loose XP YP l.row.toRowW d [] (fun f vs => PySem.call f vs) := by
  refine L2.walk_of (n := 63) (k := k) (x := x) (CX := fun _ => CX0) (sp := fun w => fun vs H Q E => ∃ cn, LSp (K w.params) cn spLaw vs H Q E) hn (by decide) hdf hr hY (fun w mg fa h KX G hm => ?_) (fun w H a ns hl _ hS => ⟨fun _ => none, law_sp hl hS⟩) fun _ _ _ _ _ z => z
  obtain ⟨cn, fd, hb, hF⟩ := F w mg fa h KX G hm
  refine ⟨fd, hb, fun base h1 h2 => (hF base h1 h2).imp fun vs H Q E h => ?_⟩
  obtain ⟨cn', F, g, xs, Qu, Qx, e, c, r, ⟨ns, rfl, hl, hg, hq⟩, hk, hx⟩ := h
  refine ⟨F, g, [.ro (ns.map D.int)], fun u _ => u = .d (.bl true), fun _ _ => False, e, c, r, ⟨ns, rfl, hl, hg, fun _ => rfl⟩, fun F' H' v u g' e' c' p' o' nb q' => ?_, fun F' H' cls d x g' _ _ _ _ q => q.elim⟩
  rw [q'] at o'
  exact hk F' H' v (.d (.bl true)) g' e' c' p' o' trivial (hq g')
open PySem L2 PyProof.Rows

/-! ### the way without exceptions -/
def LSp0 (K : PySem.W.Frag) (cn : Str → Option Addr) (sp : SpU) : Sp := fun vs H Qv _ => LSp K cn sp vs H Qv fun _ _ _ => False
section
variable {K : PySem.W.Frag} {cn : Str → Option Addr}
theorem fn_ok0 {P : Program} {w : World} {mg : Str → Option Value} {base : Heap} {x qual : Str} {st : Stmt} {f : Addr} {fd : FuncData} {N ps : List Str} {k : Nat} {sp : SpU} {ms : MS} (F : Fun K x qual st f fd) (S : FnScope N ps (defScope st))
    (len : ∀ xs g Qu Qx, sp xs g Qu Qx → xs.length = ps.length) (hsp : ∀ xs g Qu Qx, sp xs g Qu Qx → ms (startU N.length xs) g (fnPost Qu Qx))
    (hbody : ∀ (cdv : Value) (A : Around) (outer : List PySem.Env) (s : Shared) (H : Hp) (E : XK), Room k (A.deeper (envOfC qual (defScope st) s.heap.objs.size f cdv)) →
      PSs (cxOf CX0 P w K mg base N qual (defScope st) f cdv A outer s H E).nox (defBody st) (cS K cn W0 ms)) : FnOk P w K mg base CX0 (k + 1) f fd ps (LSp0 K cn sp) := by
  refine F.ok S (fun vs H Q E h => ?_) (fun cdv A outer s H vs Q E hr h => ?_)
  · obtain ⟨F, g, xs, Qu, Qx, _, _, r, q, _⟩ := h
    rw [r.len]
    exact len xs g Qu Qx q
  · obtain ⟨F, g, xs, Qu, Qx, e, c, r, q, hk, hx⟩ := h
    refine ⟨_, hbody cdv A outer s H E hr, ⟨F, H, g⟩, F, startU N.length xs, g, fnPost Qu Qx, stt_start e c r, hsp xs g Qu Qx q, ⟨?_, ?_, ?_, ?_, ?_⟩⟩
    · rintro F' H' σ' ρ' g' S' ⟨g1, hg, q'⟩
      exact hk F' H' .non (.d .non) g1 S'.ext (hg.cells S'.cell) (S'.out hg) Rp.non trivial q'
    · exact fun _ _ _ _ _ _ q => q.elim
    · exact fun _ _ _ _ _ _ q => q.elim
    · rintro F' H' σ' ρ' g' v u S' o nb ⟨g1, hg, q'⟩
      exact hk F' H' v u g1 S'.ext (hg.cells S'.cell) (S'.out hg) (hg.uok o) nb q'
    · rintro F' H' σ' ρ' g' cls d x S' o ⟨g1, hg, q'⟩
      exact hx F' H' cls d x g1 S'.ext (hg.cells S'.cell) (S'.out hg) o q'
/-- a def that may be called -/
structure Cl0 (P : Program) (w : World) (K : PySem.W.Frag) (mg : Str → Option Value) (base : Heap) (cn : Str → Option Addr) (k : Nat) (x : Str) (sp : SpU) : Prop where
  ex : ∃ (f : Addr) (fd : FuncData) (ps : List Str), FnOk P w K mg base CX0 k f fd ps (LSp0 K cn sp) ∧ mg x = some (.ref f) ∧ PySem.W.keepIn K (.ref f) = true ∧ Binds K fd ps []
variable {X : Cx} {e : Expr} {es : List Expr} {pos : Pos}
theorem re_call0 {k : Nat} {sp : SpU} {x : Str} {p : Pos} {ma : MA} (C : Cl0 X.prog X.w X.K X.mg X.base cn k x sp) (hr : Room k X.A) (hg : Gl X x) (ha : PA X (e :: es) (cA X.K cn W0 ma)) (hdb : (x == ("__debug__" : Str)) = false := by decide)
    (he : starEach (e :: es) X.env = (false, eval e X.env) :: starEach es X.env := by rfl) (hpl : (backTo pos (starEach es X.env)).any (·.1) = false := by rfl) : PE X (.Call (.Name x p) (e :: es) [] pos) (cE X.K cn W0 (wCall sp ma)) := by
  obtain ⟨f, fd, ps, F, hm, hk, hb⟩ := C.ex
  refine pe_wk (pe_callS (E := fun _ _ _ _ => False) F hr hg hm hk hb (fun _ _ _ _ _ _ _ h => h.elim) ha hdb he hpl) fun σ H Q h => ?_
  obtain ⟨E, F', ρ, g, Qu, Qx, S, hm', hk', hx⟩ := h
  have q := call_ok (W := W0) σ H Q ⟨E, F', ρ, g, Qu, Qx, S, hm', hk', hx⟩
  exact q
/-- a raise that never comes -/
theorem rs_raiseN {st : Stmt} (nm : Str) : PS X st (cS X.K (fun _ => none) W0 (wRaise nm)) := ⟨fun pins s σ H D I h => by
  obtain ⟨E, F, ρ, g, P, S, hm, C⟩ := h
  exact (C.ex F H σ ρ g .none none ⟨nm, []⟩ S (fun C' h => by cases h) hm).elim⟩
/-! constants of the module -/
theorem re_gint {W : WX} {x : Str} {i : Int} {p : Pos} (hg : Gl X x) (hm : ∃ t, X.mg x = some (.int i t)) (hd : (x == ("__debug__" : Str)) = false := by decide) : PE X (.Name x p) (cE X.K cn W (wC (.int i))) := by
  obtain ⟨t, ht⟩ := hm
  exact re_glob (v := .int i) hg ht ⟨t, rfl⟩ (fun _ => .int i) hd
/-- a tuple of texts, of ints -/
theorem re_gtup {W : WX} {x : Str} {vs : List V} {xs : List D} {p : Pos} (hg : Gl X x) (hm : ∃ a, X.mg x = some (.ref a) ∧ ∀ F, SqT X.K F a vs) (r : ∀ F, RpL X.K F vs xs) (hd : (x == ("__debug__" : Str)) = false := by decide) : PE X (.Name x p) (cE X.K cn W (wC (.tup xs))) := by
  obtain ⟨a, ha, hs⟩ := hm
  exact re_glob (v := .ref a) hg ha rfl (fun F => .tup (hs F) (r F)) hd
theorem sqt_K {a : Addr} {od : Option Addr} {sl : Array (Option Value)} {its : Array Value} {n : Nat} {vs : List V} (l : K.lookup a = some ⟨.type "tuple", od, .seq its n, sl⟩) (h : its.size ≤ sizeLine) (r : Vals vs its.toList) (F : Hp) : SqT K F a vs := .inr ⟨_, its, n, l, rfl, rfl, h, r⟩
/-- what is never asked -/
theorem FnOk.no {P : Program} {w : World} {mg : Str → Option Value} {base : Heap} {k : Nat} {f : Addr} {fd : FuncData} {ps : List Str} : FnOk P w K mg base CX0 k f fd ps (LSp0 K cn fun _ _ _ _ => False) :=
  ⟨fun vs H Q E h => by obtain ⟨_, _, _, _, _, _, _, _, q, _⟩ := h; exact q.elim, fun A outer s H args us vs Q E _ _ _ _ h => by obtain ⟨_, _, _, _, _, _, _, _, q, _⟩ := h; exact q.elim⟩
theorem room64 {k : Nat} {A : Around} (hr : Room k A) : A.units + 64 < cLine := by have := hr.un; omega
theorem room65 {k : Nat} {A : Around} (hr : Room k A) : A.units + 65 < cLine := by have := hr.un; omega
end
theorem law_walk0 {l : PySem.W.OpenLaw} {k : Nat} {q : Program} {loose : List Str} {XP : (Str → Option Value) → Heap → Prop} {YP : World → Heap → Prop} {d : DefRec} {K : Params → PySem.W.Frag} {x : Str} (hn : l.most = some 63) (hdf : d.params.defaults = []) (hr : Room k callerA)
    (hY : ∀ (w : World) (h : Heap), YP w h → (K w.params).In h)
    (F : ∀ (w : World) (mg : Str → Option Value) (fa : Addr) (h : Heap), (K w.params).In h → h.Ns mainGlobals mg → mg d.name = some (.ref fa) →
      ∃ (fd : FuncData), (∀ (s : Shared) (u : Value), BindsTo s fd ⟨[u], []⟩ [(x, u)]) ∧
        ∀ base : Heap, (K w.params).In base → base.Ns mainGlobals mg → FnOk l.prog w (K w.params) mg base CX0 k fa fd [x] (LSp0 (K w.params) (fun _ => none) spLaw)) : PySem.W.WalkO q loose XP YP l.row.toRowW d [] (fun f vs => PySem.call f vs) := by
  refine law_walk (x := x) hn hdf hr hY fun w mg fa h KX G hm => ?_
  obtain ⟨fd, hb, hF⟩ := F w mg fa h KX G hm
  refine ⟨fun _ => none, fd, hb, fun base h1 h2 => (hF base h1 h2).imp fun vs H Q E h => ?_⟩
  obtain ⟨F', g, xs, Qu, Qx, e, c, r, ⟨ns, rfl, hl, hg, hq⟩, hk, hx⟩ := h
  exact ⟨F', g, [.ro (ns.map D.int)], Qu, fun _ _ => False, e, c, r, ⟨ns, rfl, hl, hg, hq⟩, hk, fun _ _ _ _ _ _ _ _ _ _ z => z.elim⟩
open PySem L2 PyProof.Rows

section
variable {X : Cx} {K : PySem.W.Frag} {cn : Str → Option Addr} {W : WX} {e a b c : Expr} {es : List Expr} {pos : Pos} {m ma mb mc : ME}
/-! ### a call without arguments -/
theorem re_call00 {k : Nat} {sp : SpU} {x : Str} {p : Pos} (C : Cl0 X.prog X.w X.K X.mg X.base cn k x sp) (hr : Room k X.A) (hg : Gl X x) (hdb : (x == ("__debug__" : Str)) = false := by decide) : PE X (.Call (.Name x p) [] [] pos) (cE X.K cn W0 (wCall sp wNil)) := by
  obtain ⟨f, fd, ps, F, hm, hk, hb⟩ := C.ex
  refine pe_wk (pe_call0 (ds := []) (dvs := []) (E := fun _ _ _ => False) F hr hg hm hk hb .nil (fun _ _ _ _ _ _ _ h => h.elim) hdb) fun σ H Q h => ?_
  obtain ⟨E, F', ρ, g, Qu, Qx, S, hm', hk', hx⟩ := h
  refine ⟨F', g, [], Qu, Qx, S.ext, S.cell, .nil, hm', fun F2 H2 v u g2 e2 c2 p2 o2 _ q2 => ?_, fun F2 H2 cls d x g2 e2 c2 p2 o2 q2 => ?_⟩
  · exact hk' F2 H2 v u g2 (S.stp p2 e2 c2) p2 (uok_from o2 S.trk) (fresh_from o2) q2
  · exact hx F2 H2 cls d x g2 (S.stp p2 e2 c2) o2 q2
/-! ### list(range(..)) -/
@[simp] def wLrg1 (m : ME) : ME := fun ρ g Q X => m ρ g (fun u g1 => intU u fun n => (0 ≤ n ∧ n ≤ 16777216) ∧ Q (.own (.lst (rng 0 n.toNat))) g1) X
@[simp] def wLrg2 (m1 m2 : ME) : ME := fun ρ g Q X => m1 ρ g (fun u g1 => intU u fun i => m2 ρ g1 (fun v g2 => intU v fun j => (0 ≤ i ∧ i ≤ j ∧ j ≤ 16777216) ∧ Q (.own (.lst (rng i (j - i).toNat))) g2) X) X
theorem rg_rp {F : Hp} (a b : Int) : RpL K F (rgV a b) (rng a (b - a).toNat) := by
  have h : rgV a b = ((List.range (b - a).toNat).map fun (i : Nat) => a + (i : Int)).map V.int := by unfold rgV; rw [List.map_map]; rfl
  have h2 : rng a (b - a).toNat = ((List.range (b - a).toNat).map fun (i : Nat) => a + (i : Int)).map D.int := by unfold rng; rw [List.map_map]; rfl
  rw [h, h2]
  exact RpL.of_ints _
theorem re_lrg1 {p p2 pos2 : Pos} (hc : X.calm = true) (hg : Gl X "list") (hm : X.mg "list" = none) (hg2 : Gl X "range") (hm2 : X.mg "range" = none) (ha : PE X a (cE X.K cn W m))
    (na : starEach [.Call (.Name "range" p2) [a] [] pos2] X.env = (false, eval (.Call (.Name "range" p2) [a] [] pos2) X.env) :: starEach [] X.env := by rfl) (nb : starEach [a] X.env = (false, eval a X.env) :: starEach [] X.env := by rfl) :
    PE X (.Call (.Name "list" p) [.Call (.Name "range" p2) [a] [] pos2] [] pos) (cE X.K cn W (wLrg1 m)) := pe_wk (pe_listRg hc hg hm (prg_1 hg2 hm2 ha nb) na) fun σ H Q h => by
  obtain ⟨E, F, ρ, g, Qu, Qx, S, hm, hk, hx⟩ := h
  refine ⟨E, F, ρ, g, _, Qx, S, hm, fun F1 H1 v u g1 S1 p1 o1 f1 q1 => ?_, hx⟩
  obtain ⟨n, ev, hn, q⟩ := intU_ok o1 q1
  refine ⟨n, ev, RgOk.of_le (by omega) (by omega) (by omega) (by omega), fun l hl => ?_⟩
  have r := rg_rp (K := X.K) (F := F1) 0 n
  rw [Int.sub_zero] at r
  exact hk _ _ (.ref l) (.own (.lst (rng 0 n.toNat))) g1 (S1.newO hl) (p1.trans (Stp.newO hl)) ⟨l, rfl, ⟨_, upd_same, r⟩, S1.freeF hl, S1.freeG hl, S1.trk l hl⟩ (fun a e => by cases e; exact p1.trk _ hl) q
theorem re_lrg2 {p p2 pos2 : Pos} (hc : X.calm = true) (hg : Gl X "list") (hm : X.mg "list" = none) (hg2 : Gl X "range") (hm2 : X.mg "range" = none) (ha : PE X a (cE X.K cn W ma)) (hb : PE X b (cE X.K cn W mb))
    (na : starEach [.Call (.Name "range" p2) [a, b] [] pos2] X.env = (false, eval (.Call (.Name "range" p2) [a, b] [] pos2) X.env) :: starEach [] X.env := by rfl) (nb : starEach [a, b] X.env = (false, eval a X.env) :: starEach [b] X.env := by rfl)
    (nc : starEach [b] X.env = (false, eval b X.env) :: starEach [] X.env := by rfl) (hp : (backTo pos2 (starEach [b] X.env)).any (·.1) = false := by rfl) :
    PE X (.Call (.Name "list" p) [.Call (.Name "range" p2) [a, b] [] pos2] [] pos) (cE X.K cn W (wLrg2 ma mb)) := pe_wk (pe_listRg hc hg hm (prg_2 hg2 hm2 ha hb nb nc hp) na) fun σ H Q h => by
  obtain ⟨E, F, ρ, g, Qu, Qx, S, hm, hk, hx⟩ := h
  refine ⟨E, F, ρ, g, _, Qx, S, hm, fun F1 H1 v u g1 S1 p1 o1 f1 q1 => ?_, hx⟩
  obtain ⟨i, ev, q1⟩ := intU_ok o1 q1
  refine ⟨E, F1, ρ, g1, _, Qx, S1, q1, fun F2 H2 w z g2 S2 p2 o2 f2 q2 => ?_, hx⟩
  obtain ⟨j, ew, hn, q⟩ := intU_ok o2 q2
  refine ⟨i, j, ev, ew, RgOk.of_le (by omega) (by omega) (by omega) (by omega), fun l hl => ?_⟩
  exact hk _ _ (.ref l) (.own (.lst (rng i (j - i).toNat))) g2 (S2.newO hl) ((p1.trans p2).trans (Stp.newO hl)) ⟨l, rfl, ⟨_, upd_same, rg_rp i j⟩, S2.freeF hl, S2.freeG hl, S2.trk l hl⟩ (fun a e => by cases e; exact (p1.trans p2).trk _ hl) q
/-! ### a raise with values that never comes -/
/-- raise C(e ..): fields by name -/
@[simp] def wRaiseA (nm : Str) (fl : List Str) (ma : MA) : MS := fun ρ g P => ma ρ g (fun xs g1 => xs.length = fl.length ∧ P.ex ⟨nm, (fl.zip xs).reverse⟩ ρ g1) (xOf P ρ)
theorem rs_raiseAN {x : Str} {fl : List Str} {es : List Expr} {mx : MA} {p p2 p3 : Pos} (nm : Str) (hc : X.calm = true) (hm : ∃ C, X.mg x = some (.ref C) ∧ PySem.W.keepIn X.K (.ref C) = true) (hg : Gl X x) (ha : PA X (e :: es) (cA X.K (fun _ => none) W0 mx))
    (hdb : (x == ("__debug__" : Str)) = false := by decide) (he : starEach (e :: es) X.env = (false, eval e X.env) :: starEach es X.env := by rfl) (hpl : (backTo p2 (starEach es X.env)).any (·.1) = false := by rfl) :
    PS X (.Raise (some (.Call (.Name x p) (e :: es) [] p2)) none p3) (cS X.K (fun _ => none) W0 (wRaiseA nm fl mx)) := by
  obtain ⟨C, gC, kC⟩ := hm
  have hmk : L2N.PMk X (.Call (.Name x p) (e :: es) [] p2) (fun σ H _ => cA X.K (fun _ => none) W0 mx σ H fun _ _ => False) := by
    intro pins s σ H Q I h
    refine wpAny_Call_Name_kw (ld_glob I hg gC ?_ hdb)
    refine PySem.W.callWith_K (h₀ := X.base) I.ok.mod.kin kC (thn (ha.run p2 pins s σ H _ I h) fun us s1 ⟨vs, H1, I1, r1, q1⟩ => q1.elim) he hpl
  refine ps_wk (L2N.ps_raise (W := W0) hc (fun u s' ⟨_, _, _, _, _, _, _, _, _, _, _, _, _, _, _, _, w⟩ => w.elim) hmk) fun D σ H h => ?_
  obtain ⟨E, F, ρ, g, P, S, hm', C'⟩ := h
  exact ⟨E, F, ρ, g, _, _, S, hm', fun F' H' vs xs g' S' p' r' q' => (C'.ex F' H' σ ρ g' .none none ⟨nm, _⟩ S' (fun C' h => by cases h) q'.2), C'.xc σ ρ⟩
end
open PySem L2 PyProof.Rows

section
variable {X : Cx} {K : PySem.W.Frag} {cn : Str → Option Addr} {W : WX} {e a b c o : Expr} {es : List Expr} {pos : Pos} {m ma mb mc : ME}
/-! ### methods of texts -/
@[simp] def strOf (u : U) (k : Str → Prop) : Prop := match u with
  | .d (.str z) => k z
  | _ => False
theorem strOf_ok {E : Ent} {F H : Hp} {g : G} {v : V} {u : U} {k : Str → Prop} (o : UOk K E F H g v u) (h : strOf u k) : ∃ i, v = .str i ∧ k i := by
  unfold strOf at h
  split at h
  · have o' : Rp K F v (.str _) := o
    cases o'
    exact ⟨_, rfl, h⟩
  · exact h.elim
@[simp] def wM1 (op : Str → D → (U → Prop) → Prop) (m1 m2 : ME) : ME := fun ρ g Q X => m1 ρ g (fun u g1 => strOf u fun z => m2 ρ g1 (fun w g2 => op z (view g2 w) fun t => Q t g2) X) X
def M1S (K : PySem.W.Frag) (r : V → List V → Hp → VK → Prop) (op : Str → D → (U → Prop) → Prop) : Prop :=
  ∀ (E : Ent) (F H : Hp) (σ : L2.St) (ρ : Env) (g : G) (z : Str) (v : V) (x : D) (k : U → Prop) (Q : VK), Stt K E F H σ ρ g → Vw K F H v x → op z x k → RC K E F H σ ρ g k Q → r (.str z) [v] H Q
theorem m1_ok {r : V → List V → Hp → VK → Prop} {op : Str → D → (U → Prop) → Prop} (hu : M1S X.K r op) (σ : L2.St) (H : Hp) (Q : VK) (h : cE X.K cn W (wM1 op ma mb) σ H Q) : tM1 r (cE X.K cn W ma) (cE X.K cn W mb) σ H Q := by
  obtain ⟨E, F, ρ, g, Qu, Qx, S, hm, hk, hx⟩ := h
  refine ⟨E, F, ρ, g, _, Qx, S, hm, fun F1 H1 v u g1 S1 p1 o1 f1 q1 => ?_, hx⟩
  obtain ⟨z, ev, q1⟩ := strOf_ok o1 q1
  subst ev
  refine ⟨⟨z, rfl⟩, E, F1, ρ, g1, _, Qx, S1, q1, fun F2 H2 w t g2 S2 p2 o2 f2 q2 => ?_, hx⟩
  exact hu E F2 H2 σ ρ g2 z w _ _ Q S2 (S2.vw o2) q2 fun F3 H3 y t S3 p3 o3 f3 q3 => hk F3 H3 y t g2 S3 ((p1.trans p2).trans p3) o3 (f3.back (p1.trans p2)) q3
@[simp] def splitD : Str → D → (U → Prop) → Prop
  | z, .str t, k => (t.length == 0) = false ∧ z.length + 2 ≤ sizeLine ∧ k (.own (.lst ((Txt.split z t).map D.str)))
  | _, _, _ => False
@[simp] def partD : Str → D → (U → Prop) → Prop
  | z, .str t, k => (t.length == 0) = false ∧ z.length ≤ sizeLine ∧ k (.d (.tup [.str (Txt.partition z t).1, .str (Txt.partition z t).2.1, .str (Txt.partition z t).2.2]))
  | _, _, _ => False
@[simp] def startD : Str → D → (U → Prop) → Prop
  | z, .str t, k => k (.d (.bl (Txt.startswith z t)))
  | _, _, _ => False
@[simp] def joinD : Str → D → (U → Prop) → Prop
  | z, .lst xs, k => ∃ ys : List Str, xs = ys.map D.str ∧ (ys.map (·.length)).sum + ys.length * z.length ≤ 16777216 ∧ k (.d (.str (Txt.join z ys)))
  | z, .tup xs, k => ∃ ys : List Str, xs = ys.map D.str ∧ (ys.map (·.length)).sum + ys.length * z.length ≤ 16777216 ∧ k (.d (.str (Txt.join z ys)))
  | _, _, _ => False
theorem re_split {apos : Pos} (ho : PE X o (cE X.K cn W ma)) (he : PE X e (cE X.K cn W mb)) (hs : starEach [e] X.env = [(false, eval e X.env)] := by rfl) (hbase : attributeBase o "split" X.env (eval o X.env) = eval o X.env := by rfl) (hline : (apos.endLine == pos.line) = true := by rfl) :
    PE X (.Call (.Attribute o "split" apos) [e] [] pos) (cE X.K cn W (wM1 splitD ma mb)) := pe_wk (pe_split ho he hs hbase hline) (m1_ok fun E F H σ ρ g z v x k Q S hv hk rc => by
  unfold splitD at hk
  split at hk
  · rw [hv.str]
    exact ⟨_, _, rfl, rfl, hk.1, hk.2.1, fun p hp => rc_newO rc S hp (RpL.of_strs _) hk.2.2⟩
  · exact hk.elim)
theorem re_part {apos : Pos} (ho : PE X o (cE X.K cn W ma)) (he : PE X e (cE X.K cn W mb)) (hs : starEach [e] X.env = [(false, eval e X.env)] := by rfl) (hbase : attributeBase o "partition" X.env (eval o X.env) = eval o X.env := by rfl) (hline : (apos.endLine == pos.line) = true := by rfl) :
    PE X (.Call (.Attribute o "partition" apos) [e] [] pos) (cE X.K cn W (wM1 partD ma mb)) := pe_wk (pe_partition ho he hs hbase hline) (m1_ok fun E F H σ ρ g z v x k Q S hv hk rc => by
  unfold partD at hk
  split at hk
  · rw [hv.str]
    exact ⟨_, _, rfl, rfl, hk.1, hk.2.1, fun p hp => rc_newF rc S hp (.cons (.str _) (.cons (.str _) (.cons (.str _) .nil))) hk.2.2⟩
  · exact hk.elim)
theorem re_starts {apos : Pos} (ho : PE X o (cE X.K cn W ma)) (he : PE X e (cE X.K cn W mb)) (hs : starEach [e] X.env = [(false, eval e X.env)] := by rfl) (hbase : attributeBase o "startswith" X.env (eval o X.env) = eval o X.env := by rfl) (hline : (apos.endLine == pos.line) = true := by rfl) :
    PE X (.Call (.Attribute o "startswith" apos) [e] [] pos) (cE X.K cn W (wM1 startD ma mb)) := pe_wk (pe_m1 F.slot_str_startswith F.type_str_startswith mt_startswith ho he hs hbase hline) (m1_ok fun E F H σ ρ g z v x k Q S hv hk rc => by
  unfold startD at hk
  split at hk
  · rw [hv.str]
    exact ⟨_, _, rfl, rfl, rc_same rc S (.bl _) hk⟩
  · exact hk.elim)
theorem re_join {apos : Pos} (ho : PE X o (cE X.K cn W ma)) (he : PE X e (cE X.K cn W mb)) (hs : starEach [e] X.env = [(false, eval e X.env)] := by rfl) (hbase : attributeBase o "join" X.env (eval o X.env) = eval o X.env := by rfl) (hline : (apos.endLine == pos.line) = true := by rfl) :
    PE X (.Call (.Attribute o "join" apos) [e] [] pos) (cE X.K cn W (wM1 joinD ma mb)) := pe_wk (pe_join ho he hs hbase hline) (m1_ok fun E F H σ ρ g z v x k Q S hv hk rc => by
  unfold joinD at hk
  split at hk
  · obtain ⟨ys, rfl, hz, q⟩ := hk
    obtain ⟨l, vs, rfl, hl, rl⟩ := hv.lst S.ext
    rw [rl.strs] at hl
    exact ⟨_, l, ys, rfl, rfl, .inl (.inl (.inl hl)), hz, rc_same rc S (.str _) q⟩
  · obtain ⟨ys, rfl, hz, q⟩ := hk
    obtain ⟨l, vs, rfl, hl, rl⟩ := hv.tup
    rw [rl.strs] at hl
    exact ⟨_, l, ys, rfl, rfl, .inr (sqt_same S.ext hl), hz, rc_same rc S (.str _) q⟩
  · exact hk.elim)
end
open PySem L2 PyProof.Rows

section
variable {X : Cx} {K : PySem.W.Frag} {cn : Str → Option Addr} {W : WX} {e a b c o : Expr} {es : List Expr} {pos : Pos} {m ma mb mc : ME}
/-! ### x.pop(i) of a shared list, its value -/
@[simp] def popU (a : Addr) (j : Int) (g : G) (Q : KU) : Prop := ∃ xs n y, g a = some (.lst xs) ∧ (-(2 ^ 63) ≤ j ∧ j < 2 ^ 63) ∧ seqIndex? j xs.length = some n ∧ xs[n]? = some y ∧ Q (.d y) (setG g a (.lst (xs.eraseIdx n)))
@[simp] def wPopE (i : Nat) (m : ME) : ME := fun ρ g Q X => match ρ[i]? with
  | some (some (.d (.ref a))) => (∃ xs, g a = some (.lst xs)) ∧ m ρ g (fun u g1 => intU u fun j => popU a j g1 Q) X
  | _ => False
theorem re_popE (i : Nat) {x : Str} {xpos apos cpos : Pos} (he : PE X e (cE X.K cn W m)) (hN : X.N[i]? = some x := by rfl) (hv : Vis X.env.scope x := by first | exact Or.inl rfl | exact Or.inr (Or.inl rfl) | exact Or.inr (Or.inr rfl)) (hd : (x == ("__debug__" : Str)) = false := by decide)
    (hcd : (x == ("__classdict__" : Str)) = false := by decide) (hbase : attributeBase (.Name x xpos) "pop" X.env (eval (.Name x xpos) X.env) = eval (.Name x xpos) X.env := by rfl)
    (hfew : ((backTo cpos (starEach [e] X.env)).all (fun x => !x.1) && (backToKw cpos (keywordEach [] X.env)).all (fun x => x.1.isSome) && decide ([e].length + ([] : List Keyword).length + (if ([] : List Keyword).isEmpty then 0 else 1) < 30)) = true := by rfl)
    (hline : (apos.endLine == cpos.line) = true := by rfl) (hs1 : starEach [e] X.env = (false, eval e X.env) :: starEach [] X.env := by rfl) (hplain : (backTo cpos (starEach [] X.env)).any (·.1) = false := by rfl) :
    PE X (.Call (.Attribute (.Name x xpos) "pop" apos) [e] [] cpos) (cE X.K cn W (wPopE i m)) :=
  pe_wk (pe_bm PySem.F.plainAttrs_list PySem.F.slot_list_pop PySem.F.type_list_pop mt_popAt (pe_var (i := i) hN hv hd hcd) (pa_cons he pa_nil (hs := hs1)) hbase hfew hline hs1 hplain) fun σ H Q h => by
    obtain ⟨E, F, ρ, g, Qu, Qx, S, hm, hk, hx⟩ := h
    unfold wPopE at hm
    split at hm
    case h_2 => exact hm.elim
    rename_i l hi
    obtain ⟨⟨xs, hg⟩, hm⟩ := hm
    obtain ⟨⟨vs, t1, t2⟩, t3⟩ := S.cell l _ hg
    obtain ⟨v', k1, k2⟩ := S.slot i _ hi
    cases k2
    refine ⟨.ref l, k1, .inl ⟨rfl, vs, .inl (.inl t1)⟩, ?_⟩
    refine ⟨E, F, ρ, g, _, Qx, S, hm, fun F1 H1 v u g1 S1 p1 o1 f1 q1 => ?_, hx⟩
    obtain ⟨j, ev, xs1, n, y, hg1, hb, hn, hy, q⟩ := intU_ok o1 q1
    obtain ⟨⟨ws, w1, w2⟩, w3⟩ := S1.cell l _ hg1
    obtain ⟨z, hz, rz⟩ := w2.get hy
    subst ev
    have S2 := S1.mutC hg1 (w2.erase n)
    refine ⟨l, ws, j, n, z, rfl, rfl, w1, hb.1, hb.2, by rw [w2.len]; exact hn, hz, ?_⟩
    refine hk F1 _ z (.d y) _ S2 (p1.trans ⟨Same.refl _, fun a o h1 h2 h3 => ?_, fun a h => upd_free h⟩) rz trivial q
    have hne : a ≠ l := fun e => by rw [e, hg1] at h3; cases h3
    exact ⟨by rw [upd_ne hne]; exact h1, h2, by unfold setG; rw [if_neg hne]; exact h3⟩
/-- a text of the module -/
theorem re_gstr {x : Str} {z : Str} {p : Pos} (hg : Gl X x) (hm : ∃ t, X.mg x = some (.str z t)) (hd : (x == ("__debug__" : Str)) = false := by decide) : PE X (.Name x p) (cE X.K cn W (wC (.str z))) := by
  obtain ⟨t, ht⟩ := hm
  exact re_glob (v := .str z) hg ht ⟨t, rfl⟩ (fun _ => .str z) hd
end
open PySem L2 PyProof.Rows

/-! ### what leaves a def, in both ways -/
theorem cx_weak {P : Program} {w : World} {o : List PySem.Env} {H : Hp} {s s' : Shared} {E : XK} {u : Value} (x : L2N.CX P w o H s E u s') : L2.CX P w o H s E u s' := by
  obtain ⟨a, B, H', cls, d, e, fl, r⟩ := x
  exact ⟨a, B, H', cls, d, e, L2H.flyingZ_imp (fun o z => z.zc) fl, r⟩
section
variable {X : Cx} {W : WX}
theorem hx_L (tk : L2.Takes X W) : ∀ σ, PassesAt (L2.CX X.prog X.w) X σ (WE W σ) := fun σ => L2.passAt tk σ
theorem hx_NL (tk : L2.Takes X W) : ∀ σ, PassesAt (L2N.CX X.prog X.w) X σ (WE W σ) := fun σ pins H s e s' I c => L2.passAt tk σ pins H s e s' I (cx_weak c)
theorem hx_N (tk : L2N.Takes X W) : ∀ σ, PassesAt (L2N.CX X.prog X.w) X σ (WE W σ) := fun σ => L2N.passAt tk σ
theorem hx_0L : ∀ σ, PassesAt (L2.CX X.prog X.w) X σ (WE W0 σ) := fun σ pins H s e s' I c => by
  obtain ⟨_, _, _, _, _, _, _, _, _, _, _, _, z⟩ := c
  exact z.elim
theorem hx_0N : ∀ σ, PassesAt (L2N.CX X.prog X.w) X σ (WE W0 σ) := fun σ pins H s e s' I c => hx_0L σ pins H s e s' I (cx_weak c)
end

/-! ### callees -/
structure Cl (CXg : CXT) (P : Program) (w : World) (K : PySem.W.Frag) (mg : Str → Option Value) (base : Heap) (cn : Str → Option Addr) (k : Nat) (x : Str) (sp : SpU) : Prop where
  ex : ∃ (f : Addr) (fd : FuncData) (ps : List Str), FnOk P w K mg base CXg k f fd ps (LSp K cn sp) ∧ mg x = some (.ref f) ∧ PySem.W.keepIn K (.ref f) = true ∧ Binds K fd ps []
section
variable {X : Cx} {K : PySem.W.Frag} {cn : Str → Option Addr} {W : WX} {e a b c : Expr} {es : List Expr} {pos : Pos} {m ma mb mc : ME}
theorem re_callR {CXg : CXT} {k : Nat} {sp : SpU} {x : Str} {p : Pos} {mx : MA} (C : Cl CXg X.prog X.w X.K X.mg X.base cn k x sp) (hr : Room k X.A) (hg : Gl X x) (hx : ∀ σ, PassesAt CXg X σ (WE W σ)) (ha : PA X (e :: es) (cA X.K cn W mx)) (hdb : (x == ("__debug__" : Str)) = false := by decide)
    (he : starEach (e :: es) X.env = (false, eval e X.env) :: starEach es X.env := by rfl) (hpl : (backTo pos (starEach es X.env)).any (·.1) = false := by rfl) : PE X (.Call (.Name x p) (e :: es) [] pos) (cE X.K cn W (wCall sp mx)) := by
  obtain ⟨f, fd, ps, F, hm, hk, hb⟩ := C.ex
  exact re_call F hr hg hm hk hb hx ha hdb he hpl
/-- a def that never raises, called where exceptions fly -/
theorem re_callZ {k : Nat} {sp : SpU} {x : Str} {p : Pos} {mx : MA} (C : Cl0 X.prog X.w X.K X.mg X.base cn k x sp) (nx : ∀ xs g Q X, sp xs g Q X → sp xs g Q noX) (hr : Room k X.A) (hg : Gl X x) (ha : PA X (e :: es) (cA X.K cn W mx)) (hdb : (x == ("__debug__" : Str)) = false := by decide)
    (he : starEach (e :: es) X.env = (false, eval e X.env) :: starEach es X.env := by rfl) (hpl : (backTo pos (starEach es X.env)).any (·.1) = false := by rfl) : PE X (.Call (.Name x p) (e :: es) [] pos) (cE X.K cn W (wCall sp mx)) := by
  obtain ⟨f, fd, ps, F, hm, hk, hb⟩ := C.ex
  refine pe_wk (pe_callS (E := fun _ _ _ _ => False) F hr hg hm hk hb (fun _ _ _ _ _ _ _ h => h.elim) ha hdb he hpl) fun σ H Q h => ?_
  obtain ⟨E, F', ρ, g, Qu, Qx, S, hm', hk', hx⟩ := h
  refine ⟨E, F', ρ, g, _, Qx, S, hm', fun F1 H1 vs xs g1 S1 p1 r1 q1 => ?_, hx⟩
  refine ⟨F1, g1, xs, Qu, noX, S1.ext, S1.cell, r1, nx _ _ _ _ q1, fun F2 H2 v u g2 e2 c2 p2 o2 _ q2 => ?_, fun F2 H2 cls d x g2 e2 c2 p2 o2 q2 => q2⟩
  exact hk' F2 H2 v u g2 (S1.stp p2 e2 c2) (p1.trans p2) (uok_from o2 S1.trk) ((fresh_from o2).back p1) q2
theorem re_callZ0 {k : Nat} {sp : SpU} {x : Str} {p : Pos} (C : Cl0 X.prog X.w X.K X.mg X.base cn k x sp) (nx : ∀ xs g Q X, sp xs g Q X → sp xs g Q noX) (hr : Room k X.A) (hg : Gl X x) (hdb : (x == ("__debug__" : Str)) = false := by decide) : PE X (.Call (.Name x p) [] [] pos) (cE X.K cn W (wCall sp wNil)) := by
  obtain ⟨f, fd, ps, F, hm, hk, hb⟩ := C.ex
  refine pe_wk (pe_call0 (ds := []) (dvs := []) (E := fun _ _ _ => False) F hr hg hm hk hb .nil (fun _ _ _ _ _ _ _ h => h.elim) hdb) fun σ H Q h => ?_
  obtain ⟨E, F', ρ, g, Qu, Qx, S, hm', hk', hx⟩ := h
  refine ⟨F', g, [], Qu, noX, S.ext, S.cell, .nil, nx _ _ _ _ hm', fun F2 H2 v u g2 e2 c2 p2 o2 _ q2 => ?_, fun F2 H2 cls d x g2 e2 c2 p2 o2 q2 => q2⟩
  exact hk' F2 H2 v u g2 (S.stp p2 e2 c2) p2 (uok_from o2 S.trk) (fresh_from o2) q2
end

/-! ### raise of an own class that has no __init__ -/
structure ExcP (K : PySem.W.Frag) (mg : Str → Option Value) (cn : Str → Option Addr) (x : Str) : Prop where
  ex : ∃ C : Addr, cn x = some C ∧ mg x = some (.ref C) ∧ PySem.W.excIn K C [.type "ValueError", .type "Exception", .type "BaseException", .type "object"] "ValueError.__new__" = true ∧ PySem.W.keepIn K (.ref C) = true ∧
    PySem.W.subIn K (.ref C) (.type "BaseException") = some true ∧ PySem.W.typeIn K (.ref C) = some (.type "type")
section
variable {X : Cx} {K : PySem.W.Frag} {cn : Str → Option Addr} {W : WX}
theorem rs_raiseL {x m : Str} {j : Nat} {p p2 p3 pos : Pos} (T : ExcP X.K X.mg cn x) (hc : X.calm = true) (tk : L2.Takes X W) (hg : Gl X x) (hdb : (x == ("__debug__" : Str)) = false := by decide) : PS X (.Raise (some (.Call (.Name x p) [.Constant (.str m) j p2] [] p3)) none pos) (cS X.K cn W (wRaise x)) := by
  obtain ⟨C, hC, gP, xP, kP, bP, tP⟩ := T.ex
  exact rs_raise0 x hC (L2.ps_raise hc tk (L2.pmk_own PySem.F.excBase_ValueError xP gP kP (raises_own bP tP) hg hdb))
theorem rs_raiseM {x m : Str} {j : Nat} {p p2 p3 pos : Pos} (T : ExcP X.K X.mg cn x) (hc : X.calm = true) (tk : L2N.Takes X W) (hg : Gl X x) (hdb : (x == ("__debug__" : Str)) = false := by decide) : PS X (.Raise (some (.Call (.Name x p) [.Constant (.str m) j p2] [] p3)) none pos) (cS X.K cn W (wRaise x)) := by
  obtain ⟨C, hC, gP, xP, kP, bP, tP⟩ := T.ex
  exact rs_raise0 x hC (L2N.ps_raise hc tk (L2N.pmk_own PySem.F.excBase_ValueError xP gP kP (raises_own bP tP) hg hdb))
end
open PySem L2 PyProof.Rows

/-! ### C0.__init__(self, ..), C0 an own class that has ValueError's __init__ -/
structure CIni (K : PySem.W.Frag) (mg : Str → Option Value) (x : Str) : Prop where
  ex : ∃ C0 : Addr, mg x = some (.ref C0) ∧ PySem.W.specialIn K (.ref C0) "__getattribute__" = some (some (.builtin "type.__getattribute__")) ∧ PySem.W.readsIn K C0 (.type "type") = true ∧
    PySem.W.findCls K (.ref C0) (.type "type") "__init__" = some (.val (.builtin "ValueError.__init__"))
section
variable {X : Cx} {e : Expr} {es : List Expr} {x : Str} {p1 p2 pos : Pos} {tx : TA}
theorem pe_cinit {pl : Sem Bool} (T : CIni X.K X.mg x) (hg : Gl X x) (ha : PA X (e :: es) tx) (hdb : (x == ("__debug__" : Str)) = false := by decide)
    (hc : eval (.Call (.Attribute (.Name x p1) "__init__" p2) (e :: es) [] pos) X.env = (do
      let ov ← eval (.Name x p1) X.env
      standAt p2.atName
      let (f, first) ← holding [ov] (getMethod ov "__init__" pl)
      callWith pos f first (backTo pos (starEach (e :: es) X.env)) (backToKw pos (keywordEach [] X.env))) := by rfl)
    (he : starEach (e :: es) X.env = (false, eval e X.env) :: starEach es X.env := by rfl) (hpl : (backTo pos (starEach es X.env)).any (·.1) = false := by rfl) :
    PE X (.Call (.Attribute (.Name x p1) "__init__" p2) (e :: es) [] pos) (tVeI X.K tx) := by
  obtain ⟨C0, gC, ga, rd, vV⟩ := T.ex
  constructor
  intro pins s σ H Q I hq
  refine PySem.W.methodCall_KW (ld_glob I hg gC ?_ hdb) hc
  refine PySem.W.method_cls I.kIn ga (PySem.W.cls_value I.kIn rd vV (by decide +kernel) ?_)
  show wpAny _ _ (callWith pos (Value.builtin "ValueError.__init__") [] (backTo pos (starEach (e :: es) X.env)) []) _ _ _
  refine PyProof.Rows.callWith_method1 (thn (ha.run pos pins _ σ H _ (I.tok _) hq) fun us s1 hh => ?_) he hpl
  obtain ⟨vs, H1, I1, r1, b, C, ws, ev, hl, TO, eb, q⟩ := hh
  subst ev
  cases r1 with
  | @cons _ u0 _ ur ra rw' =>
    obtain rfl : u0 = Value.ref b := ra
    have hlen : ur.length ≤ sizeLine := by
      have := Paired.length rw'
      rw [sizeLine_eq]
      omega
    exact oinit_ok TO I1 eb hlen fun s2 J => ⟨V.non, _, J, rfl, q⟩
end
/-- what an exception's __init__ promises that keeps its arguments in the fields fl -/
def spI (K : PySem.W.Frag) (fl : List Str) : Sp := fun vs H Q _ => ∃ (a C : Addr) (ws : List V), vs = .ref a :: ws ∧ ws.length = fl.length ∧ H a = some (exo a C none) ∧ OexC K C ∧ (∀ f ∈ fl, PySem.W.findIn K (.ref C) f = some none) ∧
  ∀ d, H d = none → d ≠ a → Q .non (upd (upd H d (exd d (fl.zip ws).reverse)) a (exo a C (some d)))
theorem spI_len {K : PySem.W.Frag} {fl : List Str} {n : Nat} (hn : fl.length + 1 = n) (vs : List V) (H : Hp) (Q : VK) (E : XK) (h : spI K fl vs H Q E) : vs.length = n := by
  obtain ⟨a, C, ws, rfl, hl, _⟩ := h
  rw [List.length_cons, hl, hn]
section
variable {K : PySem.W.Frag} {H : Hp} {vs : List V} {Q : VK} {E : XK}
/-- self, p: C0.__init__(self, 'm'); self.f = p -/
theorem ini_S {p f m : Str} (h : spI K [f] vs H Q E) : (tSeq (tDrop (tVeI K (tCons (tVar 0) (tCons (tC (.str m)) tNil)))) (tOst K f (tVar 0) (tVar 1))) { nx := fun _ H' => Q .non H', rt := Q } (L2.start ["self", p] vs) H := by
  obtain ⟨a, C, ws, rfl, hl, ha, TO, hn, hq⟩ := h
  match ws, hl with
  | [v], _ =>
    refine ⟨.ref a, rfl, a, C, [.str m], rfl, by show 1 ≤ 1000; decide, TO, ha, v, rfl, .ref a, rfl, a, C, rfl, TO, hn f List.mem_cons_self, .inl ⟨ha, fun d hd hne => hq d hd hne⟩⟩
/-- self, p: C0.__init__(self, p); self.f = p -/
theorem ini_V {p f : Str} (h : spI K [f] vs H Q E) : (tSeq (tDrop (tVeI K (tCons (tVar 0) (tCons (tVar 1) tNil)))) (tOst K f (tVar 0) (tVar 1))) { nx := fun _ H' => Q .non H', rt := Q } (L2.start ["self", p] vs) H := by
  obtain ⟨a, C, ws, rfl, hl, ha, TO, hn, hq⟩ := h
  match ws, hl with
  | [v], _ =>
    refine ⟨.ref a, rfl, v, rfl, a, C, [v], rfl, by show 1 ≤ 1000; decide, TO, ha, v, rfl, .ref a, rfl, a, C, rfl, TO, hn f List.mem_cons_self, .inl ⟨ha, fun d hd hne => hq d hd hne⟩⟩
/-- self, p, q: C0.__init__(self, q); self.f = p; self.g = q -/
theorem ini_VV {p q f g : Str} (h : spI K [f, g] vs H Q E) : (tSeq (tDrop (tVeI K (tCons (tVar 0) (tCons (tVar 2) tNil)))) (tSeq (tOst K f (tVar 0) (tVar 1)) (tOst K g (tVar 0) (tVar 2)))) { nx := fun _ H' => Q .non H', rt := Q } (L2.start ["self", p, q] vs) H := by
  obtain ⟨a, C, ws, rfl, hl, ha, TO, hn, hq⟩ := h
  match ws, hl with
  | [v, w], _ =>
    refine ⟨.ref a, rfl, w, rfl, a, C, [w], rfl, by show 1 ≤ 1000; decide, TO, ha, v, rfl, .ref a, rfl, a, C, rfl, TO, hn f List.mem_cons_self, .inl ⟨ha, fun d hd hne => ?_⟩⟩
    refine ⟨w, rfl, .ref a, rfl, a, C, rfl, TO, hn g (List.mem_cons_of_mem _ List.mem_cons_self), .inr ⟨d, [(f, v)], upd_same, by rw [upd_ne hne]; exact upd_same, by show 1 ≤ 900; decide, ?_⟩⟩
    have e : upd (upd (upd H d (exd d [(f, v)])) a (exo a C (some d))) d (exd d [(g, w), (f, v)]) = upd (upd H d (exd d [(g, w), (f, v)])) a (exo a C (some d)) := by
      funext b
      by_cases hb : b = d
      · subst hb
        rw [upd_same, upd_ne hne, upd_same]
      · rw [upd_ne hb]
        by_cases hb2 : b = a
        · subst hb2
          rw [upd_same, upd_same]
        · rw [upd_ne hb2, upd_ne hb2, upd_ne hb, upd_ne hb]
    show Q .non (upd (upd (upd H d (exd d [(f, v)])) a (exo a C (some d))) d (exd d [(g, w), (f, v)]))
    rw [e]
    exact hq d hd hne
end
/-- an own exception class with an __init__ that keeps fields -/
structure ExcF (P : Program) (w : World) (K : PySem.W.Frag) (mg : Str → Option Value) (base : Heap) (cn : Str → Option Addr) (x : Str) (fl : List Str) : Prop where
  ex : ∃ (C fI : Addr) (fd : FuncData) (ps : List Str), cn x = some C ∧ mg x = some (.ref C) ∧ OexC K C ∧ PySem.W.findIn K (.ref C) "__init__" = some (some (.ref fI)) ∧ PySem.W.typeIn K (.ref fI) = some (.type "function") ∧
    (∀ f ∈ fl, PySem.W.findIn K (.ref C) f = some none) ∧ FnOk P w K mg base CX0 1 fI fd ps (spI K fl) ∧ L2H.FnH P w K mg base CX0 1 fI fd ps (spI K fl) ∧ Binds K fd ps []
theorem zip_rpF {K : PySem.W.Frag} {F : Hp} : ∀ {fl : List Str} {vs : List V} {xs : List D}, RpL K F vs xs → RpF K F (fl.zip vs) (fl.zip xs)
  | [], _, _, _ => .nil
  | _ :: _, _, _, .nil => .nil
  | _ :: fl, _, _, .cons h t => .cons h (zip_rpF (fl := fl) t)
theorem RpF.app {K : PySem.W.Frag} {F : Hp} : ∀ {a b : List (Str × V)} {x y : List (Str × D)}, RpF K F a x → RpF K F b y → RpF K F (a ++ b) (x ++ y)
  | _, _, _, _, .nil, s => s
  | _, _, _, _, .cons h t, s => .cons h (RpF.app t s)
theorem RpF.rev {K : PySem.W.Frag} {F : Hp} : ∀ {a : List (Str × V)} {x : List (Str × D)}, RpF K F a x → RpF K F a.reverse x.reverse
  | _, _, .nil => .nil
  | _, _, .cons h t => by rw [List.reverse_cons, List.reverse_cons]; exact RpF.app (RpF.rev t) (.cons h .nil)
theorem del_back {H1 : Hp} {a d C : Addr} {fs : List (Str × V)} (ha : H1 a = none) (hne : d ≠ a) : upd (del (upd (upd (upd H1 a (exo a C none)) d (exd d fs)) a (exo a C (some d))) a) d (.xd fs) = upd H1 d (.xd fs) := by
  funext b
  by_cases hb : b = d
  · subst hb
    rw [upd_same, upd_same]
  · rw [upd_ne hb, upd_ne hb]
    by_cases hb2 : b = a
    · subst hb2
      rw [del_same, ha]
    · rw [del_ne hb2, upd_ne hb2, upd_ne hb, upd_ne hb2]
section
variable {X : Cx} {K : PySem.W.Frag} {cn : Str → Option Addr} {W : WX} {e : Expr} {es : List Expr}
theorem mkF_ok {C : Addr} {x : Str} {fl : List Str} {mx : MA} {D : Ends} {σ : L2.St} {H : Hp} (hC : cn x = some C) (TO : OexC K C) (hn : ∀ f ∈ fl, PySem.W.findIn K (.ref C) f = some none) (h : cS K cn W (wRaiseA x fl mx) D σ H) :
    (1 ≤ fl.length ∧ fl.length ≤ 1000) → tMkO C (spI K fl) [] (cA K cn W mx) σ H fun cls d H' => W cls d σ H' := fun hz => by
  obtain ⟨E, F, ρ, g, P, S, hm, Cn⟩ := h
  refine ⟨E, F, ρ, g, _, _, S, hm, fun F1 H1 vs xs g1 S1 p1 r1 q1 => ⟨by rw [r1.len, q1.1]; exact hz.2, fun a ha => ?_⟩, Cn.xc σ ρ⟩
  rw [List.append_nil]
  refine ⟨a, C, vs, rfl, by rw [r1.len, q1.1], upd_same, TO, hn, fun d hd hne => ⟨rfl, d, (fl.zip vs).reverse, upd_same, by rw [upd_ne hne]; exact upd_same, by rw [← hd, upd_ne hne], ?_⟩⟩
  rw [del_back ha hne]
  have hd1 : H1 d = none := by rw [← hd, upd_ne hne]
  exact Cn.ex _ _ σ ρ g1 (.ref C) (some d) ⟨x, (fl.zip xs).reverse⟩ (S1.newF (o := .xd (fl.zip vs).reverse) hd1) (fun C' hC' => by
    rw [hC] at hC'
    cases hC'
    exact ⟨rfl, .inr ⟨fun z => by
      have := congrArg List.length z
      rw [List.length_reverse, List.length_zip, q1.1, Nat.min_self] at this
      have h0 : fl.length = 0 := this
      omega, d, _, rfl, upd_same, ((zip_rpF r1).rev).mono (same_upd (S1.freeF hd1))⟩⟩) q1.2
theorem rs_raiseF {x : Str} {fl : List Str} {mx : MA} {k : Nat} {p p2 p3 : Pos} (T : ExcF X.prog X.w X.K X.mg X.base cn x fl) (hc : X.calm = true) (tk : L2.Takes X W) (hr : Room k X.A) (hk : 2 ≤ k) (hg : Gl X x) (ha : PA X (e :: es) (cA X.K cn W mx)) (hz : 1 ≤ fl.length ∧ fl.length ≤ 1000 := by decide)
    (hdb : (x == ("__debug__" : Str)) = false := by decide) (he : starEach (e :: es) X.env = (false, eval e X.env) :: starEach es X.env := by rfl) (hpl : (backTo p2 (starEach es X.env)).any (·.1) = false := by rfl) :
    PS X (.Raise (some (.Call (.Name x p) (e :: es) [] p2)) none p3) (cS X.K cn W (wRaiseA x fl mx)) := by
  obtain ⟨C, fI, fd, ps, hC, gC, TO, iC, tI, hn, F1, _, hb⟩ := T.ex
  exact ps_wk (L2.ps_raise hc tk (L2.pmk_oex (k := 1) (ds := []) (dvs := []) TO iC tI F1 (hr.mono hk) hb .nil (fun _ _ _ _ _ _ _ h => h.elim) hg gC ha hdb he hpl)) fun D σ H h => mkF_ok hC TO hn h hz
/-- .. in an except suite, from None -/
theorem rs_raiseH {x : Str} {fl : List Str} {mx : MA} {k j : Nat} {p p2 p3 cp : Pos} (T : ExcF X.prog X.w X.K X.mg X.base cn x fl) (hc : L2H.HotC X) (tk : L2.Takes X W) (hr : L2H.RoomH k X.A) (hk : 2 ≤ k) (hg : Gl X x) (ha : PA X (e :: es) (cA X.K cn W mx)) (hz : 1 ≤ fl.length ∧ fl.length ≤ 1000 := by decide)
    (hdb : (x == ("__debug__" : Str)) = false := by decide) (he : starEach (e :: es) X.env = (false, eval e X.env) :: starEach es X.env := by rfl) (hpl : (backTo p2 (starEach es X.env)).any (·.1) = false := by rfl) :
    PS X (.Raise (some (.Call (.Name x p) (e :: es) [] p2)) (some (.Constant .none j cp)) p3) (cS X.K cn W (wRaiseA x fl mx)) := by
  obtain ⟨C, fI, fd, ps, hC, gC, TO, iC, tI, hn, _, F2, hb⟩ := T.ex
  exact ps_wk (L2H.ps_raiseHN hc tk (L2H.pmk5_oexH (k := 1) TO iC tI F2 (hr.mono hk) hc hb (fun _ _ _ _ _ _ _ h => h.elim) hg gC ha hdb he hpl)) fun D σ H h => mkF_ok hC TO hn h hz
end
open PySem L2 PyProof.Rows

/-! ### try with any clauses: names and tuples of names, with or without «as» -/
theorem fly_keep {B h h' : Heap} {l : List PySem.Env} {a : Addr} {Z : Obj → Prop} (x : PySem.HandSPX.FlyingZ B l a Z h) (k : ∀ b o, h.get? b = some o → h'.get? b = some o) : PySem.HandSPX.FlyingZ B l a Z h' := by
  obtain ⟨k1, k2, k3, oe, vs, T, oT, ts, e1, z, d1, t1, n1, ne, e2, d2, t2⟩ := x
  exact ⟨fun b o e => k b o (k1 b o e), k2, k3.of_keeps (fun b o e _ => ⟨o, k b o e, rfl⟩), oe, vs, T, oT, ts, k _ _ e1, z, d1, t1, n1, ne, k _ _ e2, d2, t2⟩
/-- what the clause's test says of an exception of the class cls that is in hand at a -/
def ClT (X : Cx) (ce : Expr) (cls : Value) (b : Bool) : Prop := ∀ (a : Addr) (oe : Obj) (pn : List (Addr × Obj)) (σ : L2.St) (H : Hp) (s : Shared) (Q : Bool → Shared → Prop) (E : Value → Shared → Prop),
  Inv (X.suite a ((a, oe) :: pn)) [] σ H s → s.heap.get? a = some oe → oe.cls = cls → (∀ h', (∀ p o, s.heap.get? p = some o → h'.get? p = some o) → Q b { s with heap := h' }) →
  wpAny (model X.prog X.w) (X.A.mark (some (.ref a))) (eval ce X.env) (fun c s1 => wpAny (model X.prog X.w) (X.A.mark (some (.ref a))) (excMatches (.ref a) c) Q E s1) E s
section
variable {X : Cx}
theorem nm_eval {x : Str} {c : Value} {a : Addr} {oe : Obj} {pn : List (Addr × Obj)} {σ : L2.St} {H : Hp} {s : Shared} {np : Pos} {Q : Value → Shared → Prop} {E : Value → Shared → Prop} (hc : Names X x c) (I : Inv (X.suite a ((a, oe) :: pn)) [] σ H s) (q : Q c s) :
    wpAny (model X.prog X.w) (X.A.mark (some (.ref a))) (eval (.Name x np) X.env) Q E s := by
  obtain ⟨hg, hd, hm | ⟨hm, hv, hn⟩⟩ := hc
  · exact ld_glob (X := X.suite a ((a, oe) :: pn)) I hg hm q hd
  · exact ld_blt (X := X.suite a ((a, oe) :: pn)) I hg hm hv q hn hd
theorem clt_one {x : Str} {c cls : Value} {b : Bool} {np : Pos} (hc : Names X x c) (hb : PySem.W.exmOne X.K cls c = some b) : ClT X (.Name x np) cls b := by
  intro a oe pn σ H s Q E I ho hcl hq
  refine nm_eval hc I ?_
  have looks : PySem.W.Looks (model X.prog X.w) s.heap (typeOf (.ref a)) cls := fun A' Q' E' s' k q => wpAny_typeOf_ref (k _ _ ho) (by rw [hcl]; exact q)
  exact (PySem.W.exm_one I.kIn looks hb).here (hq s.heap fun _ _ z => z)
theorem clt_two {x y : Str} {c d cls : Value} {b : Bool} {n1 n2 tp : Pos} {kk : Nat} (hc : Names X x c) (hd : Names X y d) (hb : PySem.W.exmAny X.K cls [c, d] = some b) : ClT X (.Tuple [.Name x n1, .Name y n2] kk tp) cls b := by
  intro a oe pn σ H s Q E I ho hcl hq
  have looks : PySem.W.Looks (model X.prog X.w) s.heap (typeOf (.ref a)) cls := fun A' Q' E' s' k q => wpAny_typeOf_ref (k _ _ ho) (by rw [hcl]; exact q)
  refine wpAny_Tuple (wpAny_items_cons (nm_eval hc I (wpAny_items_cons (nm_eval hd I (wpAny_items_nil ⟨by size_fits, ?_⟩)))))
  have more : ∀ p o, s.heap.get? p = some o → (s.heap.push { cls := .type "tuple", data := .seq [c, d].toArray }).get? p = some o := fun _ _ z => Heap.get?_push_of_some _ z
  exact (PySem.W.exm_tup2 (I.kIn.keeps more) (looks.keeps more) (Heap.get?_push_size s.heap rfl) hb).here (hq _ more)
end
/-- a clause: the classes that it takes, its name's slot, its suite's reading -/
structure CS where
  sel : Value → Bool → Prop
  i : Option Nat
  ts : Addr → Value → Option Addr → TS
def endsI (i : Option Nat) (D : Ends) : Ends := match i with
  | none => D
  | some j => { nx := fun τ J => D.nx (τ.set j none) J, rt := D.rt, bk := fun τ J => D.bk (τ.set j none) J, ct := fun τ J => D.ct (τ.set j none) J }
def slotI (i : Option Nat) (a : Addr) (σ : L2.St) : L2.St := match i with
  | none => σ
  | some j => σ.set j (some (.ref a))
def wCls (Wo : WX) (D : Ends) : List CS → WX
  | [] => Wo
  | c :: r => fun cls d σ H => ∃ b, c.sel cls b ∧ (b = true → ∀ a, H a = none → c.ts a cls d (endsI c.i D) (slotI c.i a σ) H) ∧ (b = false → wCls Wo D r cls d σ H)
inductive HdOk (X : Cx) : ExceptHandler → CS → Prop
  | bare {ce : Expr} {c : CS} {b0 : Stmt} {su : List Stmt} {q : Pos} (hi : c.i = none) (hs : ∀ cls b, c.sel cls b → ClT X ce cls b)
      (ht : ∀ (a : Addr) (oe : Obj) (cls : Value) (d : Option Addr) (pn : List (Addr × Obj)), Zc cls d oe → (∃ vs, oe.data = .fields vs) → PSs (X.suite a ((a, oe) :: pn)) (b0 :: su) (c.ts a cls d)) : HdOk X (.ExceptHandler (some ce) none (b0 :: su) q) c
  | named {ce : Expr} {c : CS} {n : Str} {j : Nat} {b0 : Stmt} {su : List Stmt} {q : Pos} (hi : c.i = some j) (hN : X.N.Nodup) (hj : X.N[j]? = some n) (hl : X.env.kindOf n = some .local) (hs : ∀ cls b, c.sel cls b → ClT X ce cls b)
      (ht : ∀ (a : Addr) (oe : Obj) (cls : Value) (d : Option Addr) (pn : List (Addr × Obj)), Zc cls d oe → (∃ vs, oe.data = .fields vs) → PSs (X.suite a ((a, oe) :: pn)) (b0 :: su) (c.ts a cls d)) : HdOk X (.ExceptHandler (some ce) (some n) (b0 :: su) q) c
inductive HdsOk (X : Cx) : List ExceptHandler → List CS → Prop
  | nil : HdsOk X [] []
  | cons {h : ExceptHandler} {hs : List ExceptHandler} {c : CS} {cs : List CS} : HdOk X h c → HdsOk X hs cs → HdsOk X (h :: hs) (c :: cs)
section
variable {X : Cx} {body : List Stmt} {h0 : ExceptHandler} {hds : List ExceptHandler} {cs : List CS} {pos : Pos} {tb : WX → TS} {Wo : WX}
theorem ps_tryG (hst : X.stack = X.env :: X.outer) (hfr : X.env.frame = some X.env.locals) (tk : L2.Takes X Wo)
    (hb : ∀ (W : WX) (pn : List (Addr × Obj)) (xe : Value → Shared → Prop), L2.Takes (X.tr pn xe) W → PassesOwn (model X.prog X.w) X.A X.env xe → PSs (X.tr pn xe) body (tb W)) (hh : HdsOk X (h0 :: hds) cs) :
    PS X (.Try body (h0 :: hds) [] [] pos) (fun D σ H => tb (wCls Wo D cs) D σ H) := by
  constructor
  intro pins s σ H D I hq
  have okX := I.ok
  have frs' : X.A.frames = some (X.env :: X.outer) := okX.frames.trans (by rw [hst])
  refine wpAny_Try_except ?_
  refine wpAny_mono ((hb (wCls Wo D cs) (X.pn ++ pins) (fun e t1 => wpAny (model X.prog X.w) X.A (noteFrame e X.env) (fun _ t2 => wpAny (model X.prog X.w) X.A (setFlight e none) (fun _ t3 => wpAny (model X.prog X.w) X.A (handleBy e X.env (h0 :: hds)) (SP X pins D) X.xe t3) X.xe t2) X.xe t1)
    (fun u t x => ?_) PassesOwn.looking).run [] s σ H D (I.toTry _) hq) (fun f t hsp => ?_) (fun e t he => he)
  · obtain ⟨a, B, sI, pins', τ, H', cls, d, rfl, J0, nb, up, sky, na, os, ag, w⟩ := x
    have J : Inv X pins τ H' sI := J0.ofTry okX
    have sky2 : Sky B (X.env :: X.outer) a (Zc cls d) X.env.locals t.heap := by rw [← hst]; exact sky
    show wpAny (model X.prog X.w) X.A (noteFrame (.ref a) X.env) _ _ _
    refine Sky.land Zc.steady frs' hfr sky2 fun g1 fly1 up1 => ?_
    -- at any heap on the way from clause to clause
    have suite_inv : ∀ {g : Heap}, PySem.HandSPX.FlyingZ B (X.env :: X.outer) a (Zc cls d) g → sI.heap.UpToSlots g → ∃ oe, g.get? a = some oe ∧ Zc cls d oe ∧ (∃ vs, oe.data = .fields vs) ∧ Inv (X.suite a ((a, oe) :: (X.pn ++ pins))) [] τ H' { t with heap := g } := by
      intro g fly upg
      have K0 : Inv X pins τ H' { t with heap := g } := J.landed nb fly.1 upg os ag
      obtain ⟨oe, vs, eo, ez, ed⟩ := fly.there
      have notin : a ∉ frs (X.env :: X.outer) := fun hm => by
        obtain ⟨_, o', e', hnf⟩ := fly.2.2.1.mem hm
        rw [eo] at e'
        cases e'
        exact hnf _ ed
      exact ⟨oe, eo, ez, ⟨vs, ed⟩, K0.suite eo ed na (fun z => notin (List.mem_filterMap.mpr ⟨X.env, List.mem_cons_self, by rw [hfr, z]⟩)) fun hm => by
        obtain ⟨e2, he2, q2⟩ := List.mem_filterMap.mp hm
        exact notin (List.mem_filterMap.mpr ⟨e2, List.mem_cons_of_mem _ he2, q2⟩)⟩
    have walk : ∀ {l : List ExceptHandler} {r : List CS}, HdsOk X l r → ∀ {g : Heap}, PySem.HandSPX.FlyingZ B (X.env :: X.outer) a (Zc cls d) g → sI.heap.UpToSlots g → wCls Wo D r cls d τ H' → wpAny (model X.prog X.w) X.A (handleBy (.ref a) X.env l) (SP X pins D) X.xe { t with heap := g } := by
      intro l r hk
      induction hk with
      | nil =>
        intro g fly upg w
        refine wpAny_handleBy_nil ?_
        obtain ⟨c1, c2, c3, oe, vs, T, oT, ts', eo, ez, ed, e1, er⟩ := id fly
        have rest : wpAny (model X.prog X.w) X.A (setFlight (.ref a) X.env.frame) (fun _ t4 => wpAny (model X.prog X.w) X.A (throw (.ref a) : Sem Flow) (SP X pins D) X.xe t4) X.xe { t with heap := g } := by
          rw [hfr]
          refine PySem.HandSPX.setFlight_upZ fly fun g4 held4 up4 => wpAny_throw (tk _ _ ?_)
          exact ⟨a, B, sI, pins, τ, H', cls, d, rfl, J, nb, upg.trans up4, .inr (.inr (by rw [hst]; exact held4)), na, os, ag, w⟩
        unfold PySem.passOn
        refine wpAny_bind (wpAny_field eo ed e1 ?_)
        rw [if_neg (show ¬ ((Value.ref T == Value.none) = true) by simp)]
        first | exact wpAny_bind (wpAny_pure (wpAny_bind rest)) | exact wpAny_bind rest
      | @cons h hs c r' hk1 hk2 ih =>
        intro g fly upg w
        obtain ⟨b, hb1, hyes, hno⟩ := w
        obtain ⟨oe, eo, ez, ef, S0⟩ := suite_inv fly upg
        cases hk1 with
        | @bare ce c b0 su q hi hsel ht =>
          refine wpAny_handleBy_cons (codeAny_handlers_test ?_) (by intro z; cases z)
          refine hsel _ _ hb1 a oe _ τ H' _ _ _ S0 eo ez.1 fun g' more => ?_
          have fly' := fly_keep fly more
          have up' : sI.heap.UpToSlots g' := upg.trans (Heap.UpToSlots.of_keeps more)
          cases b with
          | false => exact ih fly' up' (hno rfl)
          | true =>
            refine codeAny_handlers_suite (PySem.HandSPX.lands_againZ fly' fun g4 fly4 up4 => ?_)
            obtain ⟨o4, eo4, ez4, ef4, S4⟩ := suite_inv fly4 (up'.trans up4)
            have hy := hyes rfl a na
            unfold slotI endsI at hy
            rw [hi] at hy
            refine wpAny_mono ((ht a o4 cls d _ ez4 ef4).run [] _ _ H' _ S4 hy) (fun f t6 hsp => ?_) (fun _ _ z => False.elim z)
            cases f with
            | next => obtain ⟨τ6, H6, S6, q6⟩ := hsp; exact ⟨τ6, H6, S6.unsuite okX, q6⟩
            | brk => obtain ⟨τ6, H6, S6, q6⟩ := hsp; exact ⟨τ6, H6, S6.unsuite okX, q6⟩
            | cont => obtain ⟨τ6, H6, S6, q6⟩ := hsp; exact ⟨τ6, H6, S6.unsuite okX, q6⟩
            | ret u => obtain ⟨v6, τ6, H6, S6, r6, q6⟩ := hsp; exact ⟨v6, τ6, H6, S6.unsuite okX, r6, q6⟩
        | @named ce c n j b0 su q hi hN hj hl hsel ht =>
          refine wpAny_handleBy_cons (codeAny_handlers_test ?_) (by intro z; cases z)
          refine hsel _ _ hb1 a oe _ τ H' _ _ _ S0 eo ez.1 fun g' more => ?_
          have fly' := fly_keep fly more
          have up' : sI.heap.UpToSlots g' := upg.trans (Heap.UpToSlots.of_keeps more)
          cases b with
          | false => exact ih fly' up' (hno rfl)
          | true =>
            refine codeAny_handlers_suite_as (PySem.HandSPX.lands_againZ fly' fun g4 fly4 up4 => ?_)
            obtain ⟨o4, eo4, ez4, ef4, S4⟩ := suite_inv fly4 (up'.trans up4)
            have hy := hyes rfl a na
            unfold slotI endsI at hy
            rw [hi] at hy
            refine store_ok (X := X.suite a ((a, o4) :: (X.pn ++ pins))) (v := .ref a) S4 hN hj (.inl hl) rfl (fun t5 S5 => ?_) (.inr hl)
            refine wpAny_mono ((ht a o4 cls d _ ez4 ef4).run [] t5 _ H' _ S5 hy) (fun f t6 hsp => ?_) (fun _ _ z => False.elim z)
            have gone : ∀ {τ6 : L2.St} {H6 : Hp} {Q : Shared → Prop}, Inv (X.suite a ((a, o4) :: (X.pn ++ pins))) [] τ6 H6 t6 → (∀ t7, Inv X pins (τ6.set j none) H6 t7 → Q t7) → wpAny (model X.prog X.w) X.A (do bindName X.env n .none; unbindBehindTheSuite X.env n q) (fun _ t7 => Q t7) X.xe t6 :=
              fun {τ6 H6 Q} S6 hq => gone_ok (S6.unsuite okX) hN hj hl hq
            cases f with
            | next => obtain ⟨τ6, H6, S6, q6⟩ := hsp; exact gone S6 fun t7 J7 => ⟨_, _, J7, q6⟩
            | brk => obtain ⟨τ6, H6, S6, q6⟩ := hsp; exact gone S6 fun t7 J7 => ⟨_, _, J7, q6⟩
            | cont => obtain ⟨τ6, H6, S6, q6⟩ := hsp; exact gone S6 fun t7 J7 => ⟨_, _, J7, q6⟩
            | ret u => obtain ⟨v6, τ6, H6, S6, r6, q6⟩ := hsp; exact gone S6 fun t7 J7 => ⟨_, _, _, J7, r6, q6⟩
    exact walk hh fly1 (up.trans up1) w
  · cases f with
    | next => obtain ⟨τ, H', J', q⟩ := hsp; exact wpAny_execs_nil ⟨τ, H', J'.ofTry okX, q⟩
    | brk => obtain ⟨τ, H', J', q⟩ := hsp; exact ⟨τ, H', J'.ofTry okX, q⟩
    | cont => obtain ⟨τ, H', J', q⟩ := hsp; exact ⟨τ, H', J'.ofTry okX, q⟩
    | ret u => obtain ⟨v, τ, H', J', r, q⟩ := hsp; exact ⟨v, τ, H', J'.ofTry okX, r, q⟩
end
open PySem L2 PyProof.Rows

/-! ### try, as a mirror -/
/-- a clause: which of the classes it takes, the slot of its name, its suite (of the exception at a, its dict at dd) -/
structure Hd where
  cat : List (Str × Bool)
  i : Option Nat
  su : Addr → Addr → Exn → MS
@[simp] def exnD (a dd : Addr) (x : Exn) : D := match x.fs with
  | [] => .exn a none []
  | f :: fs => .exn a (some dd) (f :: fs)
@[simp] def outI (i : Option Nat) (P : Post) : Post := match i with
  | none => { P with ex := fun _ _ _ => False }
  | some j => { nx := fun ρ g => P.nx (ρ.set j none) g, rt := P.rt, bk := fun ρ g => P.bk (ρ.set j none) g, ct := fun ρ g => P.ct (ρ.set j none) g, ex := fun _ _ _ => False }
@[simp] def inI (i : Option Nat) (x : D) (ρ : Env) : Env := match i with
  | none => ρ
  | some j => ρ.set j (some (.d x))
@[simp] def hdsU : List Hd → Exn → Env → G → Post → Prop
  | [], x, ρ, g, P => P.ex x ρ g
  | h :: r, x, ρ, g, P => ∃ b, h.cat.lookup x.nm = some b ∧ (b = true → ∀ a dd, h.su a dd x (inI h.i (exnD a dd x) ρ) g (outI h.i P)) ∧ (b = false → hdsU r x ρ g P)
@[simp] def wTry (mb : MS) (hs : List Hd) : MS := fun ρ g P => mb ρ g { P with ex := fun x ρ' g' => hdsU hs x ρ' g' P }
/-- one clause whose suite raises -/
@[simp] def wTryX (mb : MS) (h : Hd) : MS := fun ρ g P => mb ρ g { P with ex := fun x ρ' g' => ∃ b, h.cat.lookup x.nm = some b ∧ (b = true → ∀ a dd, h.su a dd x ρ' g' P) ∧ (b = false → P.ex x ρ' g') }
/-- x is of the class cls, its dict at dd if it has fields -/
structure ExN (cn : Str → Option Addr) (cls : Value) (d : Option Addr) (dd : Addr) (x : Exn) : Prop where
  c : ∀ C, cn x.nm = some C → cls = .ref C
  n : x.fs = [] → d = none
  d : x.fs ≠ [] → d = some dd
section
variable {X : Cx} {K : PySem.W.Frag} {cn : Str → Option Addr} {W : WX}
theorem pss_ex {α : Type} {st : List Stmt} {p : α → Prop} {t : α → TS} (h : ∀ x, p x → PSs X st (t x)) : PSs X st (fun D σ H => ∃ x, p x ∧ t x D σ H) := ⟨fun pins s σ H D I q => by
  obtain ⟨x, hp, ht⟩ := q
  exact (h x hp).run pins s σ H D I ht⟩
/-- the clause's reading in the abstract heap -/
def csOf (K : PySem.W.Frag) (cn : Str → Option Addr) (W' : WX) (h : Hd) : CS where
  sel := fun cls b => ∃ nm C, h.cat.lookup nm = some b ∧ cn nm = some C ∧ cls = .ref C
  i := h.i
  ts := fun a cls d D σ H => ∃ p : Addr × Exn, ExN cn cls d p.1 p.2 ∧ cS K cn W' (h.su a p.1 p.2) D σ H
inductive HdR (X : Cx) (cn : Str → Option Addr) : ExceptHandler → Hd → Prop
  | bare {ce : Expr} {h : Hd} {b0 : Stmt} {su : List Stmt} {q : Pos} (hi : h.i = none) (hs : ∀ nm b, h.cat.lookup nm = some b → ∃ C, cn nm = some C ∧ ClT X ce (.ref C) b)
      (ht : ∀ (a : Addr) (oe : Obj) (cls : Value) (d : Option Addr) (pn : List (Addr × Obj)) (dd : Addr) (x : Exn), Zc cls d oe → (∃ vs, oe.data = .fields vs) → ExN cn cls d dd x → PSs (X.suite a ((a, oe) :: pn)) (b0 :: su) (cS X.K cn W0 (h.su a dd x))) : HdR X cn (.ExceptHandler (some ce) none (b0 :: su) q) h
  | named {ce : Expr} {h : Hd} {n : Str} {j : Nat} {b0 : Stmt} {su : List Stmt} {q : Pos} (hi : h.i = some j) (hN : X.N.Nodup) (hj : X.N[j]? = some n) (hl : X.env.kindOf n = some .local) (hs : ∀ nm b, h.cat.lookup nm = some b → ∃ C, cn nm = some C ∧ ClT X ce (.ref C) b)
      (ht : ∀ (a : Addr) (oe : Obj) (cls : Value) (d : Option Addr) (pn : List (Addr × Obj)) (dd : Addr) (x : Exn), Zc cls d oe → (∃ vs, oe.data = .fields vs) → ExN cn cls d dd x → PSs (X.suite a ((a, oe) :: pn)) (b0 :: su) (cS X.K cn W0 (h.su a dd x))) : HdR X cn (.ExceptHandler (some ce) (some n) (b0 :: su) q) h
inductive HdsR (X : Cx) (cn : Str → Option Addr) : List ExceptHandler → List Hd → Prop
  | nil : HdsR X cn [] []
  | cons {e : ExceptHandler} {es : List ExceptHandler} {h : Hd} {hs : List Hd} : HdR X cn e h → HdsR X cn es hs → HdsR X cn (e :: es) (h :: hs)
theorem HdR.ok {e : ExceptHandler} {h : Hd} (r : HdR X cn e h) : HdOk X e (csOf X.K cn W0 h) := by
  cases r with
  | bare hi hs ht => exact .bare hi (fun cls b q => by obtain ⟨nm, C, h1, h2, rfl⟩ := q; obtain ⟨C', h3, h4⟩ := hs nm b h1; rw [h2] at h3; cases h3; exact h4) fun a oe cls d pn z f => pss_ex fun p hp => ht a oe cls d pn p.1 p.2 z f hp
  | named hi hN hj hl hs ht => exact .named hi hN hj hl (fun cls b q => by obtain ⟨nm, C, h1, h2, rfl⟩ := q; obtain ⟨C', h3, h4⟩ := hs nm b h1; rw [h2] at h3; cases h3; exact h4) fun a oe cls d pn z f => pss_ex fun p hp => ht a oe cls d pn p.1 p.2 z f hp
theorem HdR.known {e : ExceptHandler} {h : Hd} (r : HdR X cn e h) : ∀ nm b, h.cat.lookup nm = some b → ∃ C, cn nm = some C := by
  cases r with
  | bare hi hs ht => exact fun nm b h => (hs nm b h).imp fun _ q => q.1
  | named hi hN hj hl hs ht => exact fun nm b h => (hs nm b h).imp fun _ q => q.1
theorem exn_rp {F : Hp} {cls : Value} {d : Option Addr} {x : Exn} {a C : Addr} (hC : cn x.nm = some C) (h : ExOk K cn F cls d x) : ∃ dd, ExN cn cls d dd x ∧ Rp K F (.ref a) (exnD a dd x) := by
  obtain ⟨hc, h⟩ := h C hC
  have hcl : ∀ C', cn x.nm = some C' → cls = .ref C' := fun C' e => by rw [hC] at e; cases e; exact hc
  obtain ⟨nm, fs⟩ := x
  rcases h with h | ⟨hne, dd, vs, e, h1, h2⟩
  · have h' : fs = [] := h.1
    subst h'
    exact ⟨a, ⟨hcl, fun _ => h.2, fun z => absurd rfl z⟩, .exn0 a⟩
  · cases fs with
    | nil => exact (hne rfl).elim
    | cons f fs => exact ⟨dd, ⟨hcl, fun z => (by cases z), fun _ => e⟩, .exn h1 h2⟩
theorem out_conn {E : Ent} {P : Post} {D : Ends} {i : Option Nat} (C : Conn K cn W E P D) : Conn K cn W0 E (outI i P) (endsI i D) := by
  cases i with
  | none => exact ⟨C.nx, C.bk, C.ct, C.rt, fun _ _ _ _ _ _ _ _ _ _ q => q⟩
  | some j => exact ⟨fun F H σ ρ g S q => C.nx F H _ _ g (S.unset j) q, fun F H σ ρ g S q => C.bk F H _ _ g (S.unset j) q, fun F H σ ρ g S q => C.ct F H _ _ g (S.unset j) q, C.rt, fun _ _ _ _ _ _ _ _ _ _ q => q⟩
theorem hdsR_ok {es : List ExceptHandler} {hs : List Hd} (r : HdsR X cn es hs) : HdsOk X es (hs.map (csOf X.K cn W0)) := by
  induction r with
  | nil => exact .nil
  | cons h1 h2 ih => exact .cons h1.ok ih
theorem hds_wish {es : List ExceptHandler} {hs : List Hd} (r : HdsR X cn es hs) {E : Ent} {P : Post} {D : Ends} (C : Conn X.K cn W E P D) {F H : Hp} {σ : L2.St} {ρ : Env} {g : G} {cls : Value} {d : Option Addr} {x : Exn} (S : Stt X.K E F H σ ρ g) (ok : ExOk X.K cn F cls d x) (hq : hdsU hs x ρ g P) :
    wCls W D (hs.map (csOf X.K cn W0)) cls d σ H := by
  induction r with
  | nil => exact C.ex F H σ ρ g cls d x S ok hq
  | @cons e es h hs r1 r2 ih =>
    obtain ⟨b, hl, hy, hn⟩ := hq
    obtain ⟨c, hc⟩ := r1.known _ _ hl
    refine ⟨b, ⟨x.nm, c, hl, hc, (ok c hc).1⟩, fun eb a ha => ?_, fun eb => ih (hn eb)⟩
    obtain ⟨dd, hx, rp⟩ := exn_rp (a := a) hc ok
    refine ⟨(dd, x), hx, E, F, inI h.i (exnD a dd x) ρ, g, outI h.i P, ?_, hy eb a dd, out_conn C⟩
    show Stt X.K E F H (slotI h.i a σ) (inI h.i (exnD a dd x) ρ) g
    cases h.i with
    | none => exact S
    | some j => exact S.setD j rp
theorem rs_try {body : List Stmt} {h0 : ExceptHandler} {hds : List ExceptHandler} {hs : List Hd} {mb : MS} {pos : Pos} (hst : X.stack = X.env :: X.outer) (hfr : X.env.frame = some X.env.locals) (tk : L2.Takes X W)
    (hb : ∀ (W' : WX) (pn : List (Addr × Obj)) (xe : Value → Shared → Prop), L2.Takes (X.tr pn xe) W' → PassesOwn (model X.prog X.w) X.A X.env xe → PSs (X.tr pn xe) body (cS X.K cn W' mb)) (hh : HdsR X cn (h0 :: hds) hs) :
    PS X (.Try body (h0 :: hds) [] [] pos) (cS X.K cn W (wTry mb hs)) := ps_wk (ps_tryG hst hfr tk (tb := fun W' => cS X.K cn W' mb) hb (hdsR_ok hh)) fun D σ H h => by
  obtain ⟨E, F, ρ, g, P, S, hm, C⟩ := h
  exact ⟨E, F, ρ, g, _, S, hm, ⟨C.nx, C.bk, C.ct, C.rt, fun F' H' σ' ρ' g' cls d x S' ok q => hds_wish hh C S' ok q⟩⟩
/-- try .. except C: a suite that raises, the body's exceptions being of the first way -/
theorem rs_tryX {body su : List Stmt} {b0 : Stmt} {x : Str} {np q pos : Pos} {h : Hd} {mb : MS} {c : Value} (hst : X.stack = X.env :: X.outer) (hfr : X.env.frame = some X.env.locals) (hc : Names X x c) (hpa : ∀ hd : Option Value, PassesOwnAt (model X.prog X.w) (X.A.mark hd) X.A X.env X.xe) (tk : L2.Takes X W)
    (hs : ∀ nm b, h.cat.lookup nm = some b → ∃ C, cn nm = some C ∧ PySem.W.exmOne X.K (.ref C) c = some b)
    (hb : ∀ (W' : WX) (pn : List (Addr × Obj)) (xe : Value → Shared → Prop), L2N.Takes (X.tr pn xe) W' → PassesOwn (model X.prog X.w) X.A X.env xe → PSs (X.tr pn xe) body (cS X.K cn W' mb))
    (ht : ∀ (a : Addr) (oe : Obj) (cls : Value) (d : Option Addr) (pn : List (Addr × Obj)) (dd : Addr) (e : Exn), ExN cn cls d dd e → L2.Takes (L2H.suiteX X a ((a, oe) :: pn)) W → L2H.HotC (L2H.suiteX X a ((a, oe) :: pn)) → PSs (L2H.suiteX X a ((a, oe) :: pn)) (b0 :: su) (cS X.K cn W (h.su a dd e))) :
    PS X (.Try body [.ExceptHandler (some (.Name x np)) none (b0 :: su) q] [] [] pos) (cS X.K cn W (wTryX mb h)) :=
  ps_wk (L2H.ps_try_onlyX hst hfr hc hpa tk (tb := fun W' => cS X.K cn W' mb) (ts := fun a cls d D σ H => ∃ p : Addr × Exn, ExN cn cls d p.1 p.2 ∧ cS X.K cn W (h.su a p.1 p.2) D σ H) (fun W' pn xe t _ po => hb W' pn xe t po)
    fun a oe cls d pn z f t ho => pss_ex fun p hp => ht a oe cls d pn p.1 p.2 hp t ho) fun D σ H hh => by
  obtain ⟨E, F, ρ, g, P, S, hm, C⟩ := hh
  refine ⟨E, F, ρ, g, _, S, hm, ⟨C.nx, C.bk, C.ct, C.rt, fun F' H' σ' ρ' g' cls d e S' ok hq => ?_⟩⟩
  obtain ⟨b, hl, hy, hn⟩ := hq
  obtain ⟨C1, hc1, he⟩ := hs _ _ hl
  have hcl := (ok C1 hc1).1
  refine ⟨b, by rw [hcl]; exact he, fun eb a ha => ?_, fun eb => C.ex F' H' σ' ρ' g' cls d e S' ok (hn eb)⟩
  obtain ⟨dd, hx, _⟩ := exn_rp (a := a) hc1 ok
  exact ⟨(dd, e), hx, E, F', ρ', g', P, S', hy eb a dd, C⟩

/-! ### e.f of the exception in hand -/
structure ExcX (K : PySem.W.Frag) (cn : Str → Option Addr) (nm f : Str) : Prop where
  ex : ∃ C : Addr, cn nm = some C ∧ XfC K C ∧ PySem.W.findIn K (.ref C) f = some none
@[simp] def wXf (a dd : Addr) (x : Exn) (nms : List Str) (f : Str) (m : ME) : ME := fun ρ g Q X => m ρ g (fun u g1 => match u with
  | .d y => y = exnD a dd x ∧ x.nm ∈ nms ∧ ∃ v, x.fs.lookup f = some v ∧ Q (.d v) g1
  | _ => False) X
theorem RpF.look {F : Hp} {f : Str} {v : D} : ∀ {vs : List (Str × V)} {fs : List (Str × D)}, RpF K F vs fs → fs.lookup f = some v → ∃ w, vs.lookup f = some w ∧ Rp K F w v
  | _, _, .nil, e => by cases e
  | _, _, .cons (s := s) (v := w) h t, e => by
    rw [List.lookup_cons] at e ⊢
    cases q : f == s with
    | true => rw [q] at e; cases e; exact ⟨w, rfl, h⟩
    | false => rw [q] at e; exact RpF.look t e
theorem re_xf {a dd : Addr} {x : Exn} {nms : List Str} {f : Str} {oe : Obj} {cls : Value} {d : Option Addr} {pn : List (Addr × Obj)} {e : Expr} {m : ME} {pos : Pos} (hz : Zc cls d oe) (hf : ∃ vs, oe.data = .fields vs) (hx : ExN cn cls d dd x) (T : ∀ nm ∈ nms, ExcX X.K cn nm f)
    (he : PE (X.suite a ((a, oe) :: pn)) e (cE X.K cn W m)) (hb : attributeBase e f X.env (eval e X.env) = eval e X.env := by rfl) : PE (X.suite a ((a, oe) :: pn)) (.Attribute e f pos) (cE X.K cn W (wXf a dd x nms f m)) := by
  by_cases hm : x.nm ∈ nms
  · obtain ⟨C, hC, T1, T2⟩ := (T x.nm hm).ex
    refine pe_wk (pe_xf T1 T2 hz hf he hb) fun σ H Q h => ?_
    obtain ⟨E, F, ρ, g, Qu, Qx, S, hm', hk, hxc⟩ := h
    refine ⟨E, F, ρ, g, _, Qx, S, hm', fun F1 H1 v u g1 S1 p1 o1 f1 q1 => ?_, hxc⟩
    cases u with
    | own o => exact q1.elim
    | bor o => exact q1.elim
    | d y =>
      obtain ⟨ey, _, w, hl, q⟩ := q1
      subst ey
      obtain ⟨nm, fs⟩ := x
      cases fs with
      | nil => cases hl
      | cons p fs =>
        have o2 : Rp X.K F1 v (.exn a (some dd) (p :: fs)) := o1
        cases o2 with
        | exn h1 h2 =>
          obtain ⟨w', hw, rw'⟩ := h2.look hl
          exact ⟨rfl, hx.c C hC, dd, _, w', hx.d (fun z => by cases z), S1.ext _ _ h1, hw, hk F1 H1 w' (.d w) g1 S1 p1 rw' trivial q⟩
  · refine ⟨fun pins s σ H Q I h => ?_⟩
    obtain ⟨E, F, ρ, g, Qu, Qx, S, hm', hk, hxc⟩ := h
    refine attr_of hb (thn (he.run pins s σ H (fun _ _ => False) I ⟨E, F, ρ, g, _, Qx, S, hm', fun F1 H1 v u g1 S1 p1 o1 f1 q1 => ?_, hxc⟩) fun u s1 hh => ?_)
    · cases u with
      | own o => exact q1.elim
      | bor o => exact q1.elim
      | d y => exact hm q1.2.1
    · obtain ⟨_, _, _, _, z⟩ := hh
      exact z.elim
end
open PySem L2 PyProof.Rows

/-! ### tuples of ints in order -/
def ltL : List Int → List Int → Bool
  | [], [] => false
  | [], _ :: _ => true
  | _ :: _, [] => false
  | x :: xs, y :: ys => if x = y then ltL xs ys else decide (x < y)
theorem ltL_asym : ∀ x y : List Int, ltL x y = true → ltL y x = false
  | [], [], h => by cases h
  | [], _ :: _, _ => rfl
  | _ :: _, [], h => by cases h
  | x :: xs, y :: ys, h => by
    unfold ltL at h ⊢
    by_cases e : x = y
    · rw [if_pos e] at h
      rw [if_pos e.symm]
      exact ltL_asym xs ys h
    · rw [if_neg e] at h
      rw [if_neg (fun z => e z.symm)]
      simp at h ⊢
      omega
theorem ltL_tr : ∀ x y z : List Int, ltL y x = false → ltL z y = false → ltL z x = false
  | [], [], z, _, h => h
  | [], _ :: _, [], _, h => by cases h
  | [], _ :: _, _ :: _, _, _ => rfl
  | _ :: _, [], _, h, _ => by cases h
  | _ :: _, _ :: _, [], _, h => by cases h
  | x :: xs, y :: ys, z :: zs, h1, h2 => by
    unfold ltL at h1 h2 ⊢
    by_cases e1 : y = x
    · rw [if_pos e1] at h1
      subst e1
      by_cases e2 : z = y
      · rw [if_pos e2] at h2 ⊢
        exact ltL_tr xs ys zs h1 h2
      · rw [if_neg e2] at h2 ⊢
        exact h2
    · rw [if_neg e1] at h1
      by_cases e2 : z = y
      · subst e2
        rw [if_pos rfl] at h2
        rw [if_neg e1]
        exact h1
      · rw [if_neg e2] at h2
        simp at h1 h2
        rw [if_neg (by omega)]
        simp
        omega
theorem swo_ltL {α : Type} (k : α → List Int) : SrtO.Swo fun v u => ltL (k v) (k u) := ⟨fun x y => ltL_asym _ _, fun x y z => ltL_tr _ _ _⟩
section
variable {prog : Program} {w : World} {A : Around} {s : Shared}
theorem lex_at {b : Bool} {r : Bool} : ∀ {us vs : List Value} {ns ms : List Int} (i : Nat), IntsAre us ns → IntsAre vs ms → r = ltL ns ms → PySem.W.KatLex prog w A b (decide (us.length < vs.length)) (fun c s' => s' = s ∧ c = r) (us.zip vs) i s
  | _, _, _, _, i, .nil, .nil, h => PySem.W.kat_nil ⟨rfl, by rw [h]; rfl⟩
  | _, _, _, _, i, .nil, .cons m t q, h => PySem.W.kat_nil ⟨rfl, by rw [h]; simp [ltL]⟩
  | _, _, _, _, i, .cons n t q, .nil, h => PySem.W.kat_nil ⟨rfl, by rw [h]; simp [ltL]⟩
  | _, _, _, _, i, .cons (vs := us) (ns := ns) n t q, .cons (vs := vs) (ns := ms) m u q', h => by
    have e : decide ((Value.int n t :: us).length < (Value.int m u :: vs).length) = decide (us.length < vs.length) := by simp
    rw [e]
    refine PySem.W.kat_cons (SeqAt.EqAt.int_int n t m u prog w _ _ ?_)
    unfold ltL at h
    refine PySem.W.kat_go (fun e1 => ?_) (fun e1 => ?_)
    · have ex : n = m := by simpa using e1
      rw [if_pos ex] at h
      exact PySem.W.kat_yes (lex_at (i + 1) q q' h)
    · have ex : ¬ n = m := by simpa using e1
      rw [if_neg ex] at h
      refine PySem.W.kat_no ?_
      cases b && i == 0 with
      | true => exact oneLt_int ⟨rfl, h.symm⟩
      | false => exact PySem.W.kat_one _ _ (PyProof.Rows.lt_int (show s = s ∧ decide (n < m) = r from ⟨rfl, h.symm⟩))
theorem tups_cmp {vs : List Value} {k : Value → List Int} (hp : ∀ v ∈ vs, TS.TupInts s.heap v (k v)) : SrtO.Cmp prog w A s (tuples' true) (fun p => p.1 ∈ vs) (SrtO.lt2 fun v u => ltL (k v) (k u)) := by
  intro p q hm hm'
  obtain ⟨a, xs, e, ⟨o, ho, hc, n, hd⟩, hi⟩ := hp _ hm
  obtain ⟨a', xs', e', ⟨o', ho', hc', n', hd'⟩, hi'⟩ := hp _ hm'
  show wpAny (model prog w) A (keyLt' (tuples' true) p.1 q.1) (fun r s' => s' = s ∧ r = ltL (k p.1) (k q.1)) (fun _ _ => False) s
  generalize k p.1 = ns at hi ⊢
  generalize k q.1 = ms at hi' ⊢
  rw [e, e']
  refine PySem.W.kat_lt ho hd ho' hd' ?_
  have z := lex_at (prog := prog) (w := w) (A := A) (s := s) (b := true) (r := ltL ns ms) 0 hi hi' rfl
  simpa using z
theorem firsts_tup {h : Heap} {k : Value → List Int} : ∀ {vs : List Value}, (∀ v ∈ vs, TS.TupInts h v (k v) ∧ k v ≠ []) → ∃ fs, PySem.W.KatTups h vs fs ∧ fs.length = vs.length ∧ ∀ f ∈ fs, ∃ i t, f = Value.int i t
  | [], _ => ⟨[], PySem.W.KatTups.nil, rfl, fun f hf => absurd hf (by simp)⟩
  | v :: vs, hp => by
    obtain ⟨⟨a, xs, e, ⟨o, ho, hc, n, hd⟩, hi⟩, hne⟩ := hp v List.mem_cons_self
    obtain ⟨fs, h1, h2, h3⟩ := firsts_tup (vs := vs) fun u hu => hp u (List.mem_cons_of_mem _ hu)
    generalize k v = ns at hi hne
    obtain ⟨l⟩ := xs
    cases hi with
    | nil => exact absurd rfl hne
    | cons i t q =>
      subst e
      refine ⟨_ :: fs, PySem.W.KatTups.cons (f := .int i t) ho hc hd rfl h1, by rw [List.length_cons, List.length_cons, h2], fun f hf => ?_⟩
      rcases List.mem_cons.mp hf with z | z
      · exact ⟨i, t, z⟩
      · exact h3 f z
theorem tups_sortable {a : Addr} {vs : List Value} {k : Value → List Int} (h0 : 0 < vs.length) (hp : ∀ v ∈ vs, TS.TupInts s.heap v (k v) ∧ k v ≠ []) (ha : ∀ o, s.heap.get? a = some o → o.cls ≠ .type "tuple") : SrtO.SortableO prog w A s a vs fun v u => ltL (k v) (k u) := by
  intro h' keep
  have hp' : ∀ v ∈ vs, TS.TupInts h' v (k v) ∧ k v ≠ [] := fun v hm => ⟨(hp v hm).1.keeps fun b o e c => keep b o (fun z => by subst z; exact ha o e c) e, (hp v hm).2⟩
  obtain ⟨fs, h1, h2, h3⟩ := firsts_tup hp'
  refine ⟨tuples' true, fun Q E hq => ?_, tups_cmp fun v hv => (hp' v hv).1⟩
  refine PySem.W.kat_kind (T := .type "int") h1 (by omega) (fun f hm => ?_) (by rfl) ?_
  · obtain ⟨x, t, rfl⟩ := h3 f hm
    exact PySem.W.Looks.now
  · have e : (Value.type "int" != Value.type "tuple") = true := by first | decide +kernel | rfl | decide
    rw [e]
    exact hq
end
/-- sorted(xs), xs a list of tuples of ints, none empty -/
def rSortY (K : PySem.W.Frag) : List V → Hp → VK → Prop := fun vs H Q => ∃ (a : Addr) (xs : List V) (rs : List (List Int)), vs = [.ref a] ∧ SqL K H a xs ∧ xs.length = rs.length ∧ (∀ p ∈ xs.zip rs, TupI K H p.1 p.2) ∧ (∀ r ∈ rs, r ≠ []) ∧
  ∀ (ps : List (V × List Int)) (p : Addr), ps.Perm (xs.zip rs) → (ps.map (·.2)).Pairwise (fun x y => ltL y x = false) → H p = none → Q (.ref p) (upd H p (.lst (ps.map (·.1))))
theorem zip_back {K : PySem.W.Frag} {X : Cx} {pins : List (Addr × Obj)} {σ : L2.St} {H : Hp} {s : Shared} (I : Inv X pins σ H s) : ∀ {xs : List V} {us : List Value} {rs : List (List Int)}, Vals xs us → xs.length = rs.length → (∀ p ∈ xs.zip rs, TupI X.K H p.1 p.2) →
    xs.zip rs = us.map (fun u => (bkV u, TS.intsOf s.heap u)) ∧ (∀ u ∈ us, TS.TupInts s.heap u (TS.intsOf s.heap u) ∧ TS.intsOf s.heap u ∈ rs)
  | [], [], rs, _, hl, _ => by
    cases rs with
    | nil => exact ⟨rfl, fun u hu => absurd hu (by simp)⟩
    | cons r rs => cases hl
  | x :: xs, u :: us, [], _, hl, _ => by cases hl
  | x :: xs, u :: us, r :: rs, .cons rv t, hl, h => by
    obtain ⟨b, e, hT⟩ := h (x, r) List.mem_cons_self
    have e' : x = .ref b := e
    subst e'
    obtain rfl : u = Value.ref b := rv
    have ti := tupI_raw I hT
    obtain ⟨h1, h2⟩ := zip_back (K := K) I t (by simpa using hl) fun p hp => h p (List.mem_cons_of_mem _ hp)
    refine ⟨by rw [List.zip_cons_cons, List.map_cons, h1, ti.ints]; rfl, fun v hv => ?_⟩
    rcases List.mem_cons.mp hv with z | z
    · subst z
      rw [ti.ints]
      exact ⟨ti, List.mem_cons_self⟩
    · exact ⟨(h2 v z).1, List.mem_cons_of_mem _ (h2 v z).2⟩
section
variable {X : Cx} {K : PySem.W.Frag}
theorem cr_sortY : CallR X (.builtin "sorted") (rSortY X.K) := by
  intro pins s σ H vs us Q I r h
  obtain ⟨a, xs, rs, rfl, hs, hl, hx, hne, q⟩ := h
  obtain ⟨its, rv, hil, hz⟩ := I.list hs
  rw [Vals.ref1 r]
  obtain ⟨e1, e2⟩ := zip_back (K := X.K) I rv hl hx
  have hsz : its.length ≤ sizeLine := by rw [← rv.length]; exact hz
  have isref : ∀ u ∈ its, ∃ b, u = Value.ref b := fun u hu => by
    obtain ⟨b, _, e, _⟩ := (e2 u hu).1
    exact ⟨b, e⟩
  refine SrtO.sorted_ord (swo_ltL fun u => TS.intsOf s.heap u) hil.isList hsz (fun h2 g a' ha kk => ?_) fun out h1 h2 => ?_
  · refine tups_sortable (s := { s with heap := g }) (k := fun u => TS.intsOf s.heap u) (by omega) (fun v hm => ⟨(e2 v hm).1.keeps fun b o e _ => (kk b o e).2, hne _ (e2 v hm).2⟩) fun o e => ?_
    have e' : some o = some (seqObj "list" its.toArray 0) := e.symm.trans ha
    cases e'
    exact fun c => absurd (Value.type.inj c) (by decide)
  · obtain ⟨ep, he'⟩ := PyProof.Rows.sortedAll_at s.heap its out.toArray
    have hrefs : ∀ u ∈ out, ∃ b, u = Value.ref b := fun u hu => isref u (h2.perm.mem_iff.mp hu)
    have hlen : (out.map bkV).length ≤ sizeLine := by
      rw [List.length_map, h2.perm.length_eq]
      exact hsz
    have hperm : (out.map fun u => (bkV u, TS.intsOf s.heap u)).Perm (xs.zip rs) := by
      rw [e1]
      exact h2.perm.map _
    have hpw : ((out.map fun u => (bkV u, TS.intsOf s.heap u)).map (·.2)).Pairwise (fun x y => ltL y x = false) := by
      rw [List.map_map, List.pairwise_map]
      exact h1
    have fin := q _ (s.heap.objs.size + 1) hperm hpw (I.hok.fresh (Nat.le_succ _))
    rw [List.map_map] at fin
    exact ⟨.ref _, upd H (s.heap.objs.size + 1) (.lst (out.map bkV)), I.laid (t' := s.toks) (fun _ _ => PyProof.Rows.sortedAll_old) (Nat.le_succ _) ⟨hlen, out, ep, bkV_vals hrefs, he'⟩, rfl, fin⟩
/-! sorted as a mirror -/
@[simp] def sortU : D → (U → Prop) → Prop
  | .lst xs, k => (∃ rs : List (List Int), xs = rs.map (fun r => .tup (r.map D.int)) ∧ (∀ r ∈ rs, r ≠ []) ∧ ∀ rs' : List (List Int), rs'.Perm rs → rs'.Pairwise (fun x y => ltL y x = false) → k (.own (.lst (rs'.map fun r => .tup (r.map D.int))))) ∨
    ∃ ns : List Int, xs = ns.map D.int ∧ ∀ ns' : List Int, ns'.Perm ns → ns'.Pairwise (· ≤ ·) → k (.own (.lst (ns'.map D.int)))
  | _, _ => False
def rSortA (K : PySem.W.Frag) : List V → Hp → VK → Prop := fun vs H Q => rSortY K vs H Q ∨ rSortedI K vs H Q
theorem cr_sortA : CallR X (.builtin "sorted") (rSortA X.K) := cr_sortY.or cr_sortedI
theorem rp_zip {F : Hp} : ∀ {vs : List V} {rs : List (List Int)}, RpL K F vs (rs.map fun r => .tup (r.map D.int)) → vs.length = rs.length ∧ ∀ p ∈ vs.zip rs, Rp K F p.1 (.tup (p.2.map D.int))
  | [], [], _ => ⟨rfl, fun p hp => absurd hp (by simp)⟩
  | [], r :: rs, h => by cases h
  | v :: vs, [], h => by cases h
  | v :: vs, r :: rs, .cons h t => by
    obtain ⟨h1, h2⟩ := rp_zip (rs := rs) t
    refine ⟨by rw [List.length_cons, List.length_cons, h1], fun p hp => ?_⟩
    rcases List.mem_cons.mp hp with z | z
    · rw [z]; exact h
    · exact h2 p z
theorem rp_unzip {F : Hp} : ∀ {ps : List (V × List Int)}, (∀ p ∈ ps, Rp K F p.1 (.tup (p.2.map D.int))) → RpL K F (ps.map (·.1)) ((ps.map (·.2)).map fun r => .tup (r.map D.int))
  | [], _ => .nil
  | p :: ps, h => .cons (h p List.mem_cons_self) (rp_unzip fun q hq => h q (List.mem_cons_of_mem _ hq))
theorem cs_sort : CallS X.K (rSortA X.K) sortU := fun E F H σ ρ g v x k Q S hv hk rc => by
  unfold sortU at hk
  split at hk
  · obtain ⟨a, vs, rfl, ha, ra⟩ := hv.lst S.ext
    rcases hk with ⟨rs, rfl, hne, q⟩ | ⟨ns, rfl, q⟩
    · obtain ⟨z1, z2⟩ := rp_zip ra
      refine .inl ⟨a, vs, rs, rfl, .inl (.inl ha), z1, fun p hp => ?_, hne, fun ps p hperm hpw hp => ?_⟩
      · cases hh : p.1 with
        | ref t =>
          have z3 := z2 p hp
          rw [hh] at z3
          cases z3 with
          | tup h t =>
            have e := t.ints
            rw [e] at h
            exact ⟨_, rfl, sqt_same S.ext h⟩
        | _ =>
          have z3 := z2 p hp
          rw [hh] at z3
          cases z3
      · have hr : (ps.map (·.2)).Perm rs := by
          have q1 := hperm.map (·.2)
          rw [List.map_snd_zip (by rw [z1]; exact Nat.le_refl _)] at q1
          exact q1
        exact rc_newO rc S hp (rp_unzip fun p hp => z2 p (hperm.mem_iff.mp hp)) (q _ hr hpw)
    · rw [ra.ints] at ha
      exact .inr ⟨a, ns, rfl, .inl (.inl ha), fun ns' p h1 h2 hp => rc_newO rc S hp (RpL.of_ints _) (q ns' h1 h2)⟩
  · exact hk.elim
end
open PySem L2 PyProof.Rows

/-! ### what the text says of classes and clauses -/
theorem cat_nil {p : Str → Bool → Prop} (nm : Str) (b : Bool) (h : ([] : List (Str × Bool)).lookup nm = some b) : p nm b := by cases h
theorem cat_cons {p : Str → Bool → Prop} {n0 : Str} {b0 : Bool} {l : List (Str × Bool)} (h0 : p n0 b0) (r : ∀ nm b, l.lookup nm = some b → p nm b) (nm : Str) (b : Bool) (h : ((n0, b0) :: l).lookup nm = some b) : p nm b := by
  rw [List.lookup_cons] at h
  cases q : nm == n0 with
  | true =>
    rw [q] at h
    have h' : some b0 = some b := h
    cases h'
    rw [eq_of_beq q]
    exact h0
  | false =>
    rw [q] at h
    exact r nm b h
/-- whether the class y takes an exception of the class x -/
structure ExM (K : PySem.W.Frag) (mg : Str → Option Value) (cn : Str → Option Addr) (x y : Str) (b : Bool) : Prop where
  ex : ∃ C D : Addr, cn x = some C ∧ mg y = some (.ref D) ∧ PySem.W.exmOne K (.ref C) (.ref D) = some b
theorem exM_of {K : PySem.W.Frag} {mg : Str → Option Value} {cn : Str → Option Addr} {x y : Str} {b : Bool} {C D : Addr} (hc : cn x = some C) (hm : mg y = some (.ref D)) (h1 : PySem.W.subIn K (.ref D) (.type "BaseException") = some true) (h2 : PySem.W.hasDictIn K D = true) (h3 : PySem.W.typeIn K (.ref D) = some (.type "type"))
    (h4 : PySem.W.subIn K (.ref C) (.ref D) = some b) : ExM K mg cn x y b := ⟨C, D, hc, hm, PySem.W.exm_ref h1 h2 h3 h4⟩
section
variable {X : Cx} {cn : Str → Option Addr}
theorem clt1 {x y : Str} {b : Bool} {np : Pos} (T : ExM X.K X.mg cn x y b) (hg : Gl X y) (hd : (y == ("__debug__" : Str)) = false := by decide) : ∃ C, cn x = some C ∧ ClT X (.Name y np) (.ref C) b := by
  obtain ⟨C, D, h1, h2, h3⟩ := T.ex
  exact ⟨C, h1, clt_one ⟨hg, hd, .inl h2⟩ h3⟩
theorem clt2 {x y z : Str} {b c d : Bool} {n1 n2 tp : Pos} {kk : Nat} (T : ExM X.K X.mg cn x y b) (U : ExM X.K X.mg cn x z c) (hb : d = (b || c)) (hg : Gl X y) (hg2 : Gl X z) (hd : (y == ("__debug__" : Str)) = false := by decide) (hd2 : (z == ("__debug__" : Str)) = false := by decide) :
    ∃ C, cn x = some C ∧ ClT X (.Tuple [.Name y n1, .Name z n2] kk tp) (.ref C) d := by
  obtain ⟨C, D, h1, h2, h3⟩ := T.ex
  obtain ⟨C', D', h4, h5, h6⟩ := U.ex
  rw [h1] at h4
  cases h4
  refine ⟨C, h1, clt_two ⟨hg, hd, .inl h2⟩ ⟨hg2, hd2, .inl h5⟩ ?_⟩
  unfold PySem.W.exmAny
  rw [h3]
  unfold PySem.W.exmAny
  rw [h6]
  unfold PySem.W.exmAny
  rw [hb]
  simp
/-- .. for a clause whose suite raises -/
theorem cltX {x y : Str} {b : Bool} {c : Value} (T : ExM X.K X.mg cn x y b) (hc : X.mg y = some c) : ∃ C, cn x = some C ∧ PySem.W.exmOne X.K (.ref C) c = some b := by
  obtain ⟨C, D, h1, h2, h3⟩ := T.ex
  rw [hc] at h2
  cases h2
  exact ⟨C, h1, h3⟩
end
theorem takesL {P : Program} {w : World} {K : PySem.W.Frag} {mg : Str → Option Value} {base : Heap} {N : List Str} {qual : Str} {sc : Scope} {f : Addr} {cdv : Value} {A : Around} {outer : List PySem.Env} {s : Shared} {H : Hp} {E : XK} :
    L2.Takes (cxOf (L2.CX P w) P w K mg base N qual sc f cdv A outer s H E) (WD E) := L2.takes_of rfl rfl rfl rfl
theorem takesN {P : Program} {w : World} {K : PySem.W.Frag} {mg : Str → Option Value} {base : Heap} {N : List Str} {qual : Str} {sc : Scope} {f : Addr} {cdv : Value} {A : Around} {outer : List PySem.Env} {s : Shared} {H : Hp} {E : XK} :
    L2N.Takes (cxOf (L2N.CX P w) P w K mg base N qual sc f cdv A outer s H E) (WD E) := L2N.takes_of rfl rfl rfl rfl
theorem takes00 {X : Cx} : L2.Takes X W0 := L2.takes_none5
theorem law_walk1 {l : PySem.W.OpenLaw} {k : Nat} {q : Program} {loose : List Str} {XP : (Str → Option Value) → Heap → Prop} {YP : World → Heap → Prop} {d : DefRec} {K : Params → PySem.W.Frag} {x : Str} (hn : l.most = some 63) (hdf : d.params.defaults = []) (hr : Room k callerA)
    (hY : ∀ (w : World) (h : Heap), YP w h → (K w.params).In h)
    (F : ∀ (w : World) (mg : Str → Option Value) (fa : Addr) (h : Heap), (K w.params).In h → h.Ns mainGlobals mg → mg d.name = some (.ref fa) →
      ∃ (cn : Str → Option Addr) (fd : FuncData), (∀ (s : Shared) (u : Value), BindsTo s fd ⟨[u], []⟩ [(x, u)]) ∧
        ∀ base : Heap, (K w.params).In base → base.Ns mainGlobals mg → FnOk l.prog w (K w.params) mg base CX0 k fa fd [x] (LSp0 (K w.params) cn spLaw)) : PySem.W.WalkO q loose XP YP l.row.toRowW d [] (fun f vs => PySem.call f vs) := by
  refine law_walk (x := x) hn hdf hr hY fun w mg fa h KX G hm => ?_
  obtain ⟨cn, fd, hb, hF⟩ := F w mg fa h KX G hm
  refine ⟨cn, fd, hb, fun base h1 h2 => (hF base h1 h2).imp fun vs H Q E h => ?_⟩
  obtain ⟨F', g, xs, Qu, Qx, e, c, r, ⟨ns, rfl, hl, hg, hq⟩, hk, hx⟩ := h
  exact ⟨F', g, [.ro (ns.map D.int)], Qu, fun _ _ => False, e, c, r, ⟨ns, rfl, hl, hg, hq⟩, hk, fun _ _ _ _ _ _ _ _ _ _ z => z.elim⟩
/-- a def that may not raise what its callers don't know of -/
theorem nx0 {sp : SpU} (h : ∀ xs g Q X, sp xs g Q X → sp xs g Q noX) : ∀ xs g Q X, sp xs g Q X → sp xs g Q noX := h
/-- the statement within a class -/
def inCls : Stmt → Nat → Stmt
  | .ClassDef _ _ _ b _ _ _ _ _ _ _, i => b.getD i (.Pass ⟨0, 0, 0, 0⟩)
  | s, _ => s
open PySem L2
structure ExG (mg : Str → Option Value) (y : Str) : Prop where
  ex : ∃ c, mg y = some c
theorem mem_one {α : Type} {p : α → Prop} {a : α} {l : List α} (h : p a) (r : ∀ x ∈ l, p x) : ∀ x ∈ a :: l, p x := fun x hx => by
  rcases List.mem_cons.mp hx with e | e
  · rw [e]; exact h
  · exact r x e
open PySem L2 PyProof.Rows

/-! ### targets within targets -/
@[simp] def gMs : List MG → List D → Env → (Env → Prop) → Prop
  | [], [], ρ, k => k ρ
  | m :: ms, x :: xs, ρ, k => m x ρ fun ρ' => gMs ms xs ρ' k
  | _, _, _, _ => False
@[simp] def gP (ms : List MG) : MG := fun x ρ k => match x with
  | .tup xs => xs.length = ms.length ∧ gMs ms xs ρ k
  | .lst xs => xs.length = ms.length ∧ gMs ms xs ρ k
  | _ => False
def TgsOk (K : PySem.W.Frag) (is : List Nat) (t : TGs) (ms : List MG) : Prop := ∀ (E : Ent) (F H : Hp) (σ : L2.St) (ρ : Env) (g : G) (vs : List V) (xs : List D) (k : Env → Prop) (Q : L2.St → Hp → Prop), Stt K E F H σ ρ g → RpL K F vs xs → gMs ms xs ρ k →
  (∀ σ' ρ', Stt K E F H σ' ρ' g → (∀ j : Nat, j ∉ is → σ'[j]? = σ[j]?) → σ'.length = σ.length → k ρ' → Q σ' H) → t vs σ H Q
section
variable {K : PySem.W.Frag}
theorem tgs_nil : TgsOk K [] gNil [] := fun E F H σ ρ g vs xs k Q S r h q => by
  cases xs with
  | nil =>
    cases r
    exact ⟨rfl, q σ ρ S (fun _ _ => rfl) rfl h⟩
  | cons x xs => exact h.elim
theorem tgs_cons {is js : List Nat} {t : TG} {ts : TGs} {m : MG} {ms : List MG} (h1 : TgOk K is t m) (h2 : TgsOk K js ts ms) : TgsOk K (is ++ js) (gCons t ts) (m :: ms) := fun E F H σ ρ g vs xs k Q S r h q => by
  cases xs with
  | nil => exact h.elim
  | cons x xs =>
    cases r with
    | cons r1 r2 =>
      rename_i v vs
      refine ⟨v, vs, rfl, h1 E F H σ ρ g v x _ _ S r1 h fun σ' ρ' S' hj hl hk => ?_⟩
      refine h2 E F H σ' ρ' g vs xs k Q S' r2 hk fun σ2 ρ2 S2 hj2 hl2 hk2 => q σ2 ρ2 S2 (fun j hn => ?_) (hl2.trans hl) hk2
      rw [hj2 j fun z => hn (List.mem_append_right _ z), hj j fun z => hn (List.mem_append_left _ z)]
theorem tg_p {is : List Nat} {t : TGs} {ms : List MG} (h : TgsOk K is t ms) : TgOk K is (gAny K ms.length t) (gP ms) := fun E F H σ ρ g v x k Q S r hq q => by
  unfold gP at hq
  split at hq
  · cases r with
    | tup ha ra => exact .inl ⟨_, _, rfl, sqt_mono S.ext ha, by rw [ra.len]; exact hq.1, h E F H σ ρ g _ _ k Q S ra hq.2 q⟩
  · cases r with
    | lst ha ra => exact .inr ⟨_, _, rfl, .inl (.inl (S.ext _ _ ha)), by rw [ra.len]; exact hq.1, h E F H σ ρ g _ _ k Q S ra hq.2 q⟩
  · exact hq.elim
end

/-! ### a, b = [], list(..): the lists stay the names' own -/
def isOwn : U → Prop
  | .own _ => True
  | _ => False
inductive UsOk (K : PySem.W.Frag) (E : Ent) (F H : Hp) (g : G) (H0 : Hp) : List V → List U → Prop
  | nil : UsOk K E F H g H0 [] []
  | cons {v : V} {u : U} {vs : List V} {us : List U} : UOk K E F H g v u → NoBor u → Fresh H0 v u → (isOwn u → ∀ (j : Nat) (o : O), us[j]? = some (.own o) → vs[j]? ≠ some v) → UsOk K E F H g H0 vs us → UsOk K E F H g H0 (v :: vs) (u :: us)
abbrev MAU := Env → G → (List U → G → Prop) → KX → Prop
@[simp] def wNilU : MAU := fun _ g Q _ => Q [] g
@[simp] def wConsU (a : ME) (r : MAU) : MAU := fun ρ g Q X => a ρ g (fun u g1 => noBU u (r ρ g1 (fun us g2 => Q (u :: us) g2) X)) X
def cAU (K : PySem.W.Frag) (cn : Str → Option Addr) (W : WX) (m : MAU) : TA := fun σ H Qv => ∃ (E : Ent) (F : Hp) (ρ : Env) (g : G) (Qu : List U → G → Prop) (Qx : KX), Stt K E F H σ ρ g ∧ m ρ g Qu Qx ∧
  (∀ F' H' vs us g', Stt K E F' H' σ ρ g' → Stp g F H g' F' H' → UsOk K E F' H' g' H vs us → Qu us g' → Qv vs H') ∧ XC K cn W E σ ρ Qx
theorem UsOk.len {K : PySem.W.Frag} {E : Ent} {F H : Hp} {g : G} {H0 : Hp} : ∀ {vs : List V} {us : List U}, UsOk K E F H g H0 vs us → vs.length = us.length
  | _, _, .nil => rfl
  | _, _, .cons _ _ _ _ t => by rw [List.length_cons, List.length_cons, t.len]
theorem UsOk.at {K : PySem.W.Frag} {E : Ent} {F H : Hp} {g : G} {H0 : Hp} : ∀ {vs : List V} {us : List U} {j : Nat} {o : O} {v : V}, UsOk K E F H g H0 vs us → us[j]? = some (.own o) → vs[j]? = some v → ∃ a, v = .ref a ∧ H0 a = none
  | _, _, j, _, _, .nil, h, _ => by cases h
  | _, _, 0, o, v, .cons h1 _ h3 _ _, h, h' => by
    simp at h h'
    subst h h'
    obtain ⟨a, e, _⟩ := h1
    exact ⟨a, e, h3 a e⟩
  | _, _, j + 1, _, _, .cons _ _ _ _ t, h, h' => UsOk.at t (by simpa using h) (by simpa using h')
theorem UsOk.step {K : PySem.W.Frag} {E : Ent} {F H F' H' : Hp} {g g' : G} {H0 : Hp} (s : Stp g F H g' F' H') : ∀ {vs : List V} {us : List U}, UsOk K E F H g H0 vs us → UsOk K E F' H' g' H0 vs us
  | _, _, .nil => .nil
  | _, _, .cons h1 h2 h3 h4 t => .cons (h1.step s) h2 h3 h4 (t.step s)
section
variable {X : Cx} {K : PySem.W.Frag} {cn : Str → Option Addr} {W : WX} {e : Expr} {es : List Expr} {pos : Pos} {m : ME}
theorem rau_nil : PA X [] (cAU X.K cn W wNilU) := pa_wk pa_nil fun σ H Q h => by
  obtain ⟨E, F, ρ, g, Qu, Qx, S, hm, hk, _⟩ := h
  exact hk F H [] [] g S (Stp.refl g F H) .nil hm
theorem rau_cons {mr : MAU} (ha : PE X e (cE X.K cn W m)) (hr : PA X es (cAU X.K cn W mr)) (hs : starEach (e :: es) X.env = (false, eval e X.env) :: starEach es X.env := by rfl) : PA X (e :: es) (cAU X.K cn W (wConsU m mr)) :=
  pa_wk (pa_cons ha hr hs) fun σ H Q h => by
    obtain ⟨E, F, ρ, g, Qu, Qx, S, hm, hk, hx⟩ := h
    refine ⟨E, F, ρ, g, _, Qx, S, hm, fun F1 H1 v u g1 S1 p1 o1 f1 q1 => ?_, hx⟩
    have nb : NoBor u ∧ mr ρ g1 (fun us g2 => Qu (u :: us) g2) Qx := by
      cases u with
      | d x => exact ⟨trivial, q1⟩
      | own o => exact ⟨trivial, q1⟩
      | bor o => exact q1.elim
    refine ⟨E, F1, ρ, g1, _, Qx, S1, nb.2, fun F2 H2 vs us g2 S2 p2 r2 q2 => ?_, hx⟩
    have back : ∀ {vs : List V} {us : List U}, UsOk X.K E F2 H2 g2 H1 vs us → UsOk X.K E F2 H2 g2 H vs us := by
      intro vs us r
      induction r with
      | nil => exact .nil
      | cons h1 h2 h3 h4 _ ih => exact .cons h1 h2 (h3.back p1) h4 ih
    refine hk F2 H2 (v :: vs) (u :: us) g2 S2 (p1.trans p2) (.cons (o1.step p2) nb.1 f1 (fun hown j o hj hv => ?_) (back r2)) q2
    obtain ⟨a, ea, ha⟩ := r2.at hj hv
    cases u with
    | own o' =>
      obtain ⟨b, eb, h1, _⟩ := o1
      obtain ⟨w, hw⟩ := h1.there
      rw [ea] at eb
      cases eb
      rw [hw] at ha
      cases ha
    | d x => exact hown.elim
    | bor o' => exact hown.elim
@[simp] def setUs : List Nat → List U → Env → Env
  | i :: is, u :: us, ρ => setUs is us (ρ.set i (some u))
  | _, _, ρ => ρ
theorem tg_us : ∀ (is : List Nat) {E : Ent} {F H : Hp} {σ : L2.St} {ρ : Env} {g : G} {H0 : Hp} {vs : List V} {us : List U} {Q : L2.St → Hp → Prop}, Stt K E F H σ ρ g → UsOk K E F H g H0 vs us → us.length = is.length →
    (∀ (j : Nat) (o : O) (v : V), us[j]? = some (.own o) → vs[j]? = some v → ∀ (i : Nat) (p : O), ρ[i]? = some (some (.own p)) → σ[i]? ≠ some (some v)) → (∀ σ', Stt K E F H σ' (setUs is us ρ) g → Q σ' H) → tgNs is vs σ H Q
  | [], E, F, H, σ, ρ, g, H0, vs, us, Q, S, r, hl, _, q => by
    cases r with
    | nil => exact ⟨rfl, q σ S⟩
    | cons _ _ _ _ _ => cases hl
  | i :: is, E, F, H, σ, ρ, g, H0, vs, us, Q, S, r, hl, ns, q => by
    cases r with
    | nil => cases hl
    | @cons v u vs us h1 h2 h3 h4 t =>
      have slot : SlotOk K E F H g v u := by
        cases u with
        | d x => exact h1
        | own o => exact h1
        | bor o => exact h2.elim
      have S1 := S.set (i := i) slot fun o eo j p hj _ => ns 0 o v (by simp [eo]) rfl j p hj
      refine ⟨v, vs, rfl, tg_us is S1 t (by simpa using hl) (fun j o w hj hw k p hk hs => ?_) q⟩
      rw [List.getElem?_set] at hk hs
      by_cases ek : i = k
      · rw [if_pos ek] at hk hs
        by_cases l : i < ρ.length
        · rw [if_pos l] at hk
          have hu : u = .own p := Option.some.inj (Option.some.inj hk)
          rw [if_pos (by rw [← S.len]; exact l)] at hs
          have hv : v = w := Option.some.inj (Option.some.inj hs)
          subst hu hv
          exact h4 trivial j o hj hw
        · rw [if_neg l] at hk; cases hk
      · rw [if_neg ek] at hk hs
        exact ns (j + 1) o w (by simpa using hj) (by simpa using hw) k p hk hs
@[simp] def wAsgO (is : List Nat) (m : MAU) : MS := fun ρ g P => m ρ g (fun us g1 => (us.length = is.length ∧ us.length ≤ sizeLine) ∧ P.nx (setUs is us ρ) g1) (xOf P ρ)
theorem rs_asgO (is : List Nat) {ts : List Expr} {k k2 : Nat} {tp tp2 : Pos} {mx : MAU} (hc : X.calm = true) (ha : PA X es (cAU X.K cn W mx)) (hg : PGs X ts (tgNs is)) (hn : (assignEach ts X.env).length = is.length := by rfl) (hst : (assignEach ts X.env).findIdx? (·.1) = none := by rfl)
    (hs : swapsWithSole [.Tuple ts k tp] (.Tuple es k2 tp2) pos.line X.env = pure false := by rfl) (hw : swappedStores [.Tuple ts k tp] (.Tuple es k2 tp2) X.env = pure none := by rfl)
    (h1 : (assignEach [.Tuple ts k tp] X.env).map (·.2) = [assign (.Tuple ts k tp) X.env] := by rfl) : PS X (.Assign [.Tuple ts k tp] (.Tuple es k2 tp2) pos) (cS X.K cn W (wAsgO is mx)) := ps_wk (ps_asg (pe_tup ha) (pg_tup hc hg hn hst) hs hw h1) fun D σ H h => by
  obtain ⟨E, F, ρ, g, P, S, hm, C⟩ := h
  refine ⟨E, F, ρ, g, _, _, S, hm, fun F1 H1 vs us g1 S1 p1 r1 q1 => ⟨by rw [r1.len]; exact q1.1.2, fun p hp => ?_⟩, C.xc σ ρ⟩
  have S2 := S1.newO (o := .tup vs) hp
  have r2 : UsOk X.K E F1 (upd H1 p (.tup vs)) g1 H vs us := r1.step (Stp.newO hp)
  refine ⟨p, vs, rfl, .inl (.inl upd_same), by rw [r1.len]; exact q1.1.1, tg_us is S2 r2 q1.1.1 (fun j o v hj hv i q hi hs => ?_) fun σ' S' => C.nx F1 _ σ' _ g1 S' q1.2⟩
  obtain ⟨a, ea, ha⟩ := r1.at hj hv
  obtain ⟨v0, k1, b0, eb0, o1, _⟩ := S.slot i _ hi
  obtain ⟨w0, hw0⟩ := o1.there
  rw [k1] at hs
  cases hs
  rw [ea] at eb0
  cases eb0
  rw [hw0] at ha
  cases ha
end
open PySem PySem.Spec L2 PyProof.Rows L2H

/-! ### walks over lists while an exception is handled -/
section
variable {prog : Program} {w : World} {A : Around} {E : Value → Shared → Prop} {s : Shared}
theorem end_hot {it l x1 : Addr} {i : Nat} {items : Array Value} {Q : Option Value → Shared → Prop} (hot : HotX.HotAt A x1 s.heap) (hit : s.heap.IsListIter it l i) (hl : s.heap.IsList l items) (hx : items[i]? = none) (hne : x1 ≠ it)
    (hQ : ∀ h', (∀ b o, b ≠ it → s.heap.get? b = some o → h'.get? b = some o) → Q none { s with heap := h' }) : wpAny (model prog w) A (pyNext (.ref it)) Q E s := by
  obtain ⟨hh, o1, v1, g1, e1, c1⟩ := hot
  obtain ⟨ol, hol, _, nl, hdl⟩ := hl
  obtain ⟨o, ho, hc, hd⟩ := id hit
  unfold pyNext
  have hT := hit.typeIs
  refine wpAny_bind (wpAny_attempt (wpAny_callSpecial?_slot (name := Str.ofString "__next__") hT slot_listiter_next (wpAny_call_entry slot_listiter_next hT entry_listiter_next ?_ (args_listiter_next _))))
  show wpAny _ _ (field (.ref it) 0 >>= _) _ _ s
  refine wpAny_bind (wpAny_field ho hd (x := .ref l) rfl ?_)
  show wpAny _ _ (if (Value.ref l == Value.none) = true then _ else _) _ _ s
  have nn : ¬ ((Value.ref l == Value.none) = true) := Bool.false_ne_true
  rw [if_neg nn]
  show wpAny _ _ (field (.ref it) 1 >>= _) _ _ s
  refine wpAny_bind (wpAny_field ho hd (x := .int i 0) rfl (show wpAny _ _ (seqItems? (.ref l) >>= _) _ _ s from wpAny_bind (wpAny_seqItems hol hdl ?_)))
  simp only [Int.toNat_natCast, hx]
  have sb := Heap.SameBut.update (h := s.heap) (a := it) (f := Obj.mapFields (·.setIfInBounds 0 .none))
  refine wpAny_bind (wpAny_rule (wpAny_bind (wpAny_setField ho hd (by simp) (show wpAny _ _ (newExc (.type "StopIteration") [] >>= _) _ _ _ from wpAny_bind ?_))))
  generalize hg : s.heap.update it (Obj.mapFields (·.setIfInBounds 0 .none)) = h2
  have k2 : ∀ b o, b ≠ it → s.heap.get? b = some o → h2.get? b = some o := fun b o hb e => by rw [← hg, Heap.get?_update_other _ _ (Ne.symm hb)]; exact e
  simp only [newExc, newTuple]
  refine wpAny_bind (wpAny_newObj_type ?_ (by size_fits))
  refine wpAny_bind (m := firstArgMember _ _) (wpAny_of_eq (a := Value.none) (by first | rfl | (simp only [firstArgMember]; rfl)) (wpAny_newObj_type ?_ (by size_fits)))
  have g2 := k2 _ _ hne g1
  refine HotX.raiseNew_hot ⟨hh, o1, v1, Heap.get?_push_of_some _ (Heap.get?_push_of_some _ g2), e1, c1⟩ (Nat.ne_of_lt (Heap.lt_size (Heap.get?_push_of_some _ g2))) (Heap.get?_push_size _ rfl) rfl (by first | (simp; done) | (simp; omega) | (simp only [Array.size_append]; simp; omega)) ?_
  refine wpAny_bind (wpAny_isInstance (T := "StopIteration") (b := true) ⟨_, Heap.get?_update_self _ (Heap.get?_push_size _ rfl) rfl, rfl⟩ isSubtype_stop (wpAny_pure (hQ _ fun b o hb e => ?_)))
  have e2 := k2 b o hb e
  rw [Heap.get?_update_other _ _ (Nat.ne_of_gt (Heap.lt_size (Heap.get?_push_of_some _ e2)))]
  exact Heap.get?_push_of_some _ (Heap.get?_push_of_some _ e2)
end
/-- the handled exception is none of the walked objects -/
theorem turnH_list {P : Program} {w : World} {K : PySem.W.Frag} {tg : Expr} (a it : Addr) : TurnH P w K tg (Itl K a) [it] it (fun i h => h.IsListIter it a i) where
  mem := (turn_list (P := P) (w := w) (K := K) (tg := tg) a it).mem
  obj := (turn_list (P := P) (w := w) (K := K) (tg := tg) a it).obj
  keep := (turn_list (P := P) (w := w) (K := K) (tg := tg) a it).keep
  self := (turn_list (P := P) (w := w) (K := K) (tg := tg) a it).self
  item := by
    rintro X rfl rfl rfl _ i pins s σ H E I hf st ⟨xs, x, hq, hx⟩
    obtain ⟨its, rv, p, _⟩ := I.list hq
    obtain ⟨u, hu, ru⟩ := rv.get hx
    have F := hf it (by simp)
    refine wpAny_pyNext_list_item st p.isList (x := u) (by simpa using hu) fun h' st' sb => ?_
    have J : Inv X pins σ H { s with heap := h' } := I.turned (t' := s.toks) (fun b o hb e => (sb.2 b hb).trans e) F.1 F.2.1 F.2.2.2.1 F.2.2.2.2.1 F.2.2.2.2.2
    obtain ⟨o, e, c, d⟩ := id st'
    exact ⟨u, rfl, go_of (s := { s with heap := h' }) e c d (by decide) ⟨x, H, J, ru, ⟨rfl, fun ys hy => by rw [I.list_inj hy hq]; exact hx⟩, st', fun b hb => (hf b hb).1⟩⟩
  done := by
    rintro X rfl rfl rfl hc i pins s σ H E I hf st ⟨xs, hq, hx⟩
    obtain ⟨its, rv, p, _⟩ := I.list hq
    have F := hf it (by simp)
    have hl := rv.length
    obtain ⟨q, ⟨hh, v1, e1, c1⟩, hp⟩ := hc
    have P1 := I.pin q (List.mem_append_left _ hp)
    refine end_hot ⟨hh, q.2, v1, P1.1, e1, c1⟩ st p.isList (by simp; omega) (fun z => ?_) fun h' eb => ⟨rfl, I.turned (t' := s.toks) (fun b o hb e => eb b o hb e) F.1 F.2.1 F.2.2.2.1 F.2.2.2.2.1 F.2.2.2.2.2⟩
    have hn := F.2.2.2.2.2 q (List.mem_append_left _ hp)
    exact hn z
open PySem PySem.Spec L2 PyProof.Rows L2H

/-! ### a comprehension while an exception is handled -/
section
variable {X : Cx}
/-- its block, the handled exception still in sight -/
abbrev hblk (X : Cx) (s : Shared) (H : Hp) (scope : Scope) (cl : List (Str × Addr)) (C : Addr) (fp : List Addr) (p : Addr × Obj) : Cx := (X.blk s H scope (compEnvC scope cl C X.env) fp).tr [p] fun _ _ => False
theorem pe_lcH {elt tg iter : Expr} {ifs : List Expr} {scope : Scope} {own : List (Str × Nat)} {pos : Pos} {wi : TI} {g : TG} {tt : TT} {te : TE} (hc : HotC X) (hN : X.N.Nodup) (hi : PIH X tg iter wi) (ok : BlkOk X.N X.env.scope scope own)
    (hg : ∀ (s : Shared) (H : Hp) (C : Addr) (cl : List (Str × Addr)) (fp : List Addr) (p : Addr × Obj), PG (hblk X s H scope cl C fp p) tg g)
    (ht : ∀ (s : Shared) (H : Hp) (C : Addr) (cl : List (Str × Addr)) (fp : List Addr) (p : Addr × Obj), PTs (hblk X s H scope cl C fp p) ifs tt)
    (he : ∀ (s : Shared) (H : Hp) (C : Addr) (cl : List (Str × Addr)) (fp : List Addr) (p : Addr × Obj), PE (hblk X s H scope cl C fp p) elt te) (hs : ∀ x, foldedSetIterable iter X.env x = pure x := by intro _; rfl) :
    PE X (.ListComp elt [⟨tg, iter, ifs, 0⟩] scope pos) (tLc wi g tt te (own.map (·.2))) := by
  constructor
  intro pins s σ H Q I h
  rw [eval_ListComp]
  obtain ⟨p, hot, hp⟩ := hc
  have caps : ∀ y ∈ scope.names, y.2 = .free → ∃ c, X.env.cells.lookup y.1 = some c := fun y hy e => I.ok.has _ (ok.free y hy e)
  refine wpAny_comprehension_free rfl hs (closure_ok caps) ok.kind (fun y hy e => by rw [ok.uniq y hy, e]) (thn (hi.run pins s σ H _ I h) fun xv s1 hx => thn hx fun itv s2 h2 => ?_)
  obtain ⟨it, fp, tn, J, H2, rfl, I2, T, st2, f2, q⟩ := h2
  refine wpAny_newObj_type (newEnv_comp ?_) (by show 0 ≤ sizeLine; decide)
  have hDn : H2 s2.heap.objs.size = none := I2.hok.fresh (Nat.le_refl _)
  obtain ⟨W, ⟨m0, w0⟩, turn⟩ := q _ hDn
  have grow : ∀ b o, s2.heap.get? b = some o → (s2.heap.push { cls := .type "list", data := .seq ([] : List Value).toArray }).get? b = some o := fun b o e => Heap.get?_push_of_some _ e
  have I3 : Inv X pins σ (upd H2 s2.heap.objs.size (.lst [])) { s2 with heap := s2.heap.push { cls := .type "list", data := .seq ([] : List Value).toArray } } :=
    I2.laid (t' := s2.toks) grow (Nat.le_refl _) ⟨Nat.zero_le _, [], 0, .nil, Heap.get?_push_size _ rfl⟩
  have below : ∀ b ∈ fp, b < s2.heap.objs.size := fun b hb => (T.obj _ _ st2 b hb).elim fun o z => Heap.lt_size z.1
  have f3 : ∀ b ∈ fp, FpOk X pins (upd H2 s2.heap.objs.size (.lst [])) b := fun b hb => ⟨(upd_ne (Nat.ne_of_lt (below b hb))).trans (f2 b hb).1, (f2 b hb).2⟩
  have st3 := T.keep _ _ _ st2 fun b _ o e => grow b o e
  generalize hD : s2.heap.objs.size = D at *
  generalize hH3 : upd H2 D (.lst []) = H3 at *
  have below3 : ∀ b ∈ fp, b < ({ s2 with heap := s2.heap.push { cls := .type "list", data := .seq ([] : List Value).toArray } } : Shared).heap.objs.size := fun b hb => by
    show b < (s2.heap.push _).objs.size
    rw [Heap.size_push, hD]
    exact Nat.lt_succ_of_lt (below b hb)
  generalize hs3 : ({ s2 with heap := s2.heap.push { cls := .type "list", data := .seq ([] : List Value).toArray } } : Shared) = s3 at *
  have eh3 : s2.heap.push { cls := .type "list", data := .seq ([] : List Value).toArray } = s3.heap := by rw [← hs3]
  rw [eh3] at st3
  have I4 := block_start I3 ok hN fun b hb => ⟨f3 b hb, below3 b hb⟩
  generalize hcl : cellsFrom (s3.heap.objs.size + 1) scope.names (cloFrom X.env.cells scope.names []) = cl at *
  generalize hs4 : ({ s3 with heap := pushCells (s3.heap.push { cls := .type "dict", data := .dict #[] }) scope.names } : Shared) = s4 at *
  have keep4 : ∀ b o, s3.heap.get? b = some o → s4.heap.get? b = some o := fun b o e => by rw [← hs4]; exact pushCells_keeps _ _ _ _ (Heap.get?_push_of_some _ e)
  have st4 := T.keep _ _ _ st3 fun b _ o e => keep4 b o e
  have P3 := I3.pin p (List.mem_append_left _ hp)
  -- the block's state with the handled exception pinned
  have I5 : Inv (hblk X s3 H3 scope cl s3.heap.objs.size fp p) [] (wipe σ (own.map (·.2))) H3 s4 :=
    (I4.pins_of (pins' := [p]) fun r hr => by
      have er : r = p := by simpa using hr
      subst er
      refine ⟨keep4 _ _ P3.1, P3.2.1, ?_, ?_, P3.2.2.2.2⟩
      · exact Nat.ne_of_lt (Heap.lt_size P3.1)
      · intro hm
        exact (List.mem_cons.mp (I3.stkSub _ hm)).elim P3.2.2.1 P3.2.2.2.1).toTry _
  have hot5 : HotC (hblk X s3 H3 scope cl s3.heap.objs.size fp p) := ⟨p, hot, List.mem_cons_self⟩
  have pinp : ∀ b ∈ fp, p.1 ≠ b := fun b hb => (f2 b hb).2.2.2.2.2 p (List.mem_append_left _ hp)
  have stat : ∀ {τ : L2.St} {J' : Hp} {t : Shared}, Inv (hblk X s3 H3 scope cl s3.heap.objs.size fp p) [] τ J' t → (∀ b ∈ fp, J' b = none) → ∀ b ∈ fp, FpOk (hblk X s3 H3 scope cl s3.heap.objs.size fp p) [] J' b := fun K0 hn b hb =>
    ⟨hn b hb, (K0.ok.exf b hb).1, K0.ok.exfs b hb, .inl hb, fun x c e => (K0.ok.exf b hb).2 x c e, fun r hr => by
      have er : r = p := by simpa using hr
      rw [er]
      exact pinp b hb⟩
  show codeAny _ _ (.compStart (.ListComp elt [⟨tg, iter, ifs, 0⟩] scope pos) 0 (.ref it) (.ref D) (compEnvC scope cl s3.heap.objs.size X.env)) (compPost (model X.prog X.w) X.A X.xe _ _ (.ref D) s3.heap.objs.size) s4
  have loop : codeAny (model X.prog X.w) X.A (.compLoop (.ListComp elt [⟨tg, iter, ifs, 0⟩] scope pos) 0 (.ref it) (.ref D) (compEnvC scope cl s3.heap.objs.size X.env)) (compPost (model X.prog X.w) X.A X.xe none (EP X pins σ Q) (.ref D) s3.heap.objs.size) s4 := by
    refine compLoop_any (fun n t => ∃ i J', Inv (hblk X s3 H3 scope cl s3.heap.objs.size fp p) [] (wipe σ (own.map (·.2))) J' t ∧ tn i t.heap ∧ (∀ b ∈ fp, J' b = none) ∧ W i n J') ?_ m0 ⟨0, H3, I5, st4, fun b hb => (f3 b hb).1, w0⟩
    rintro n t ⟨i, J5, K5, st5, n5, w5⟩
    rcases turn i n J5 w5 with ⟨over, hQ⟩ | ⟨go, Nx, hNx, step⟩
    · refine thnF (T.done (hblk X s3 H3 scope cl s3.heap.objs.size fp p) rfl rfl rfl hot5 i [] t _ J5 (fun _ _ => False) K5 (stat K5 n5) st5 over) fun r t6 ⟨hr, K6⟩ => ?_
      subst hr
      have K7 : Inv X pins σ J5 t6 := I3.call' (ch := fp) K6.os K6.base K6.hok K6.bare fun b hb => ⟨(f3 b hb).2.2.2.1, (f3 b hb).2.1, (f3 b hb).2.2.2.2.1, (f3 b hb).2.2.2.2.2⟩
      obtain ⟨m, hn, _⟩ := K6.loc
      obtain ⟨g0, g1, g2, g3, g4, g5⟩ := I3.fpOk (Nat.le_refl _) (show J5 s3.heap.objs.size = none from K6.free)
      exact ⟨m, hn, fun h'' sb => ⟨.ref D, J5, K7.turned (t' := t6.toks) (fun b o hb e => (sb.2 b hb).trans e) g0 g1 g3 g4 g5, rfl, hQ⟩⟩
    · refine thnF (T.item (hblk X s3 H3 scope cl s3.heap.objs.size fp p) rfl rfl rfl hot5 i [] t _ J5 (fun _ _ => False) K5 (stat K5 n5) st5 go) fun r t6 ⟨u, hr, h6⟩ => ?_
      subst hr
      refine thnF h6 fun _ t7 ⟨x, J7, K7, r7, y7, st7, n7⟩ => ?_
      refine thnF ((hg s3 H3 s3.heap.objs.size cl fp p).run _ t7 _ J7 x u _ (K7.pinned (stat K7 n7) (T.obj _ _ st7)) r7 (step x J7 y7)) fun _ t8 ⟨τ8, J8, K8, hw8, q8⟩ => ?_
      refine thnF ((ht s3 H3 s3.heap.objs.size cl fp p).run _ t8 τ8 J8 _ K8 q8) fun yes t85 ⟨J85, K85, q85⟩ => ?_
      have back : ∀ {t10 : Shared} {J10 : Hp}, Inv (hblk X s3 H3 scope cl s3.heap.objs.size fp p) ([] ++ pinsAt fp t7.heap) τ8 J10 t10 → Nx J10 →
          ∃ m, m < n ∧ ∃ i J', Inv (hblk X s3 H3 scope cl s3.heap.objs.size fp p) [] (wipe σ (own.map (·.2))) J' t10 ∧ tn i t10.heap ∧ (∀ b ∈ fp, J' b = none) ∧ W i m J' := fun {t10 J10} K10 nx => by
        obtain ⟨m', hm, w'⟩ := hNx _ nx
        have still : ∀ b ∈ fp, ∀ o, t7.heap.get? b = some o → t10.heap.get? b = some o ∧ J10 b = none := fun b hb o e =>
          have z := K10.pin (b, o) (List.mem_append_right _ (List.mem_append_right _ (mem_pinsAt hb e)))
          ⟨z.1, z.2.1⟩
        refine ⟨m', hm, i + 1, _, K10.unpinned.weak (by rw [← hw8, wipe_length]) (fun j v e => ?_), T.keep _ _ _ st7 fun b hb o e => (still b hb o e).1, fun b hb => ?_, w'⟩
        · rw [← hw8] at e
          exact (wipe_some e).1
        · obtain ⟨o, e, _⟩ := T.obj _ _ st7 b hb
          exact (still b hb o e).2
      cases yes with
      | false =>
        simp only [Bool.false_eq_true, if_false] at q85 ⊢
        exact back K85 q85
      | true =>
        simp only [if_true] at q85 ⊢
        refine thnF ((he s3 H3 s3.heap.objs.size cl fp p).run _ t85 τ8 J85 _ K85 q85) fun z t9 ⟨yv, J9, K9, r9, acc, hD9, hz9, nx⟩ => ?_
        exact app_ok (X := hblk X s3 H3 scope cl s3.heap.objs.size fp p) K9 hD9 hz9 r9 fun t10 K10 => back K10 nx
  exact codeAny_compStart_list loop (T.self X.A 0 _ _ _ st4 loop)
end
open PySem PySem.Spec L2 PyProof.Rows L2H

section
variable {X : Cx} {K : PySem.W.Frag} {cn : Str → Option Addr} {W : WX} {e c a b : Expr} {es : List Expr} {pos : Pos} {m : ME}
/-! ### lists walked while an exception is handled -/
@[simp] def itL : D → (List D → Prop) → Prop
  | .lst xs, k => k xs
  | .ro xs, k => k xs
  | _, _ => False
@[simp] def wItL (m : ME) : MI := fun ρ g Q X => m ρ g (fun u g1 => fzU u fun x => itL x fun xs => Q xs g1) X
theorem pih_list {tg l : Expr} {tl : TE} (hl : PE X l tl) : PIH X tg l (iList X.K tl) := by
  constructor
  intro pins s σ H R I h
  refine thn (hl.run pins s σ H _ I h) fun v s1 hh => ?_
  obtain ⟨x, H1, I1, r1, z, rfl, ⟨xs, hq⟩, q⟩ := hh
  cases r1
  obtain ⟨its, _, p, _⟩ := I1.list hq
  refine wpAny_pyIter_list p.isList ⟨s1.heap.objs.size, [s1.heap.objs.size], _, _, H1, rfl, I1.kept (t' := s1.toks) fun b o e => Heap.get?_push_of_some _ e, turnH_list z _, ⟨_, Heap.get?_push_size _ rfl, rfl, rfl⟩, fun b hb => ?_, q⟩
  rw [show b = s1.heap.objs.size by simpa using hb]
  exact I1.fpOk (Nat.le_refl _) (I1.hok.fresh (Nat.le_refl _))
theorem pih_wk {tg l : Expr} {t t' : TI} (h : PIH X tg l t) (i : ∀ σ H Q, t' σ H Q → t σ H Q) : PIH X tg l t' := ⟨fun pins s σ H R I q => h.run pins s σ H R I (i σ H R q)⟩
theorem rih_list {tg l : Expr} (hl : PE X l (cE X.K cn W m)) : PIH X tg l (cI X.K cn W (wItL m)) := pih_wk (pih_list hl) fun σ H R h => by
  obtain ⟨E, F, ρ, g, Qu, Qx, S, hm, hk, hx⟩ := h
  refine ⟨E, F, ρ, g, _, Qx, S, hm, fun F1 H1 v u g1 S1 p1 o1 f1 q1 => ?_, hx⟩
  obtain ⟨F2, x, S2, p2, r2, q2, _⟩ := fz_ok S S1 p1 o1 f1 q1
  unfold itL at q2
  split at q2
  · cases r2 with
    | lst h t => exact ⟨_, rfl, ⟨_, .inl (.inl (S2.ext _ _ h))⟩, hk F2 H1 _ _ g1 S2 p2 (itok_l (.inl (.inl h)) t) q2⟩
  · cases r2 with
    | ro h t => exact ⟨_, rfl, ⟨_, S2.ext.seq h⟩, hk F2 H1 _ _ g1 S2 p2 (itok_l h t) q2⟩
  · exact q2.elim
theorem re_lcH {elt tg iter : Expr} {ifs : List Expr} {scope : Scope} {own : List (Str × Nat)} {mi : MI} {g : MG} {t : TG} {is : List Nat} {mt : MT} {me : ME} (hc : HotC X) (hN : X.N.Nodup) (hi : PIH X tg iter (cI X.K cn W mi)) (ok : BlkOk X.N X.env.scope scope own) (to : TgOk X.K is t g) (hv : ∀ i ∈ is, i ∈ own.map (·.2))
    (hg : ∀ (s : Shared) (H : Hp) (C : Addr) (cl : List (Str × Addr)) (fp : List Addr) (p : Addr × Obj), PG (hblk X s H scope cl C fp p) tg t)
    (ht : ∀ (s : Shared) (H : Hp) (C : Addr) (cl : List (Str × Addr)) (fp : List Addr) (p : Addr × Obj), PTs (hblk X s H scope cl C fp p) ifs (cT X.K cn W0 mt))
    (he : ∀ (s : Shared) (H : Hp) (C : Addr) (cl : List (Str × Addr)) (fp : List Addr) (p : Addr × Obj), PE (hblk X s H scope cl C fp p) elt (cE X.K cn W0 me)) (hs : ∀ x, foldedSetIterable iter X.env x = pure x := by intro _; rfl) :
    PE X (.ListComp elt [⟨tg, iter, ifs, 0⟩] scope pos) (cE X.K cn W (wLc mi g mt me (own.map (·.2)))) := pe_wk (pe_lcH hc hN hi ok hg ht he hs) (lc_ok to hv)
theorem rs_forH {tg iter : Expr} {body : List Stmt} {mi : MI} {t : TG} {mg : MG} {is : List Nat} {ms : MS} (hp : PassesOwn (model X.prog X.w) X.A X.env X.xe) (hc : HotC X) (hi : PIH X tg iter (cI X.K cn W mi)) (hg : PG X tg t) (to : TgOk X.K is t mg) (hb : PSs X body (cS X.K cn W ms))
    (hs : ∀ x, foldedSetIterable iter X.env x = pure x := by intro _; rfl) : PS X (.For tg iter body [] pos) (cS X.K cn W (wFor mi mg ms)) := ps_wk (ps_forH hp hc hi hg hb hs) (for_ok to)

/-! ### isinstance of the exception in hand -/
structure ExcI (K : PySem.W.Frag) (C : Addr) : Prop where
  cl : (PySem.W.clsIn K C).isSome = true
  ga : PySem.W.findIn K (.ref C) "__getattribute__" = some (some (.builtin "BaseException.__getattribute__"))
  gt : PySem.W.findIn K (.ref C) "__getattr__" = some none
  sub : PySem.W.subIn K (.ref C) (.type "BaseException") = some true
  ca : PySem.W.findIn K (.ref C) "__class__" = some (some (.builtin "object.__class__"))
  gn : PySem.W.specialIn K (.builtin "object.__class__") "__get__" = some (some (.builtin "getset_descriptor.__get__"))
  tk : PySem.W.takesIn K (.builtin "object.__class__") = some true
  mr : PySem.W.mroIn K C (.type "object") = some true
def rIsX (K : PySem.W.Frag) (C a : Addr) (d : Option Addr) : List V → Hp → VK → Prop := fun xs H Q => ∃ (c : V) (cv : Value) (b : Bool), xs = [.ref a, c] ∧ (∀ u, RelV c u → u = cv) ∧ PySem.W.kitOne K (.ref C) cv = some b ∧ (d = none ∨ ∃ dd fs, d = some dd ∧ H dd = some (.xd fs)) ∧ Q (.bl b) H
theorem call_isX {p : Addr × Obj} {C : Addr} {d : Option Addr} (T : ExcI X.K C) (hp : p ∈ X.pn) (hz : Zc (.ref C) d p.2) (hf : ∃ vs, p.2.data = .fields vs) : CallR X (.builtin "isinstance") (rIsX X.K C p.1 d) := by
  intro pins s σ H xs us Q I r h
  obtain ⟨c, cv, b, rfl, hcv, ek, hd, q⟩ := h
  cases r with
  | cons rx rr =>
    cases rr with
    | cons rt rr =>
      cases rr
      cases rx
      have ec := hcv _ rt
      subst ec
      have hget := (I.pin p (List.mem_append_left _ hp)).1
      obtain ⟨vs, hv⟩ := hf
      have hn : PySem.W.notCls p.2 = true := by unfold PySem.W.notCls; rw [hv] <;> rfl
      have fin : ∀ tk, EP X pins σ Q (.bool b) { s with toks := tk } := fun tk => ⟨.bl b, H, I.kept (t' := tk) fun _ _ z => z, rfl, q⟩
      rcases hd with e | ⟨dd, fs, e, hH⟩
      · have J : PySem.W.InstAt s.heap p.1 p.2 C none := ⟨hget, hz.1, hn, by rw [hz.2, e]; trivial⟩
        exact PySem.W.kia_one (PySem.W.kitx_exc T.cl T.ga T.gt T.sub T.ca T.gn T.tk T.mr) I.kIn J ek (fun z => nomatch z) fin
      · obtain ⟨mA, hns, _⟩ := (I.hok dd _ hH : ObjOk X.prog X.w H s.heap dd (.xd fs))
        obtain ⟨od, ho, _⟩ := lookIn_ns hns
        have J : PySem.W.InstAt s.heap p.1 p.2 C (some od) := ⟨hget, hz.1, hn, by rw [hz.2, e]; exact ho⟩
        exact PySem.W.kia_one (PySem.W.kitx_exc T.cl T.ga T.gt T.sub T.ca T.gn T.tk T.mr) I.kIn J ek (fun z => nomatch z) fin
end
open PySem PySem.Spec L2 PyProof.Rows L2H

/-! ### defs called in an except suite, their promise told of the handled exception -/
structure FnHp (P : Program) (w : World) (K : PySem.W.Frag) (mg : Str → Option Value) (base : Heap) (CXg : CXT) (k : Nat) (f : Addr) (fd : FuncData) (ps : List Str) (sp : Addr × Obj → Sp) : Prop where
  len : ∀ p vs H Q E, sp p vs H Q E → vs.length = ps.length
  run : ∀ (A : Around) (outer : List PySem.Env) (s : Shared) (H : Hp) (args : Args) (us : List Value) (vs : List V) (Q : VK) (E : XK) (p : Addr × Obj), RoomH k A → Hot1 A p → PinOk outer H s p → Env0 P w K mg base A outer s H → BindsTo s fd args (ps.zip us) → Vals vs us → sp p vs H Q E →
    codeAny (model P w) A (.call (.ref f) args) (CR CXg outer P w H s Q E) s
section
variable {K : PySem.W.Frag} {cn : Str → Option Addr}
theorem fn_okH {P : Program} {w : World} {mg : Str → Option Value} {base : Heap} {x qual : Str} {st : Stmt} {f : Addr} {fd : FuncData} {N ps : List Str} {k : Nat} {sp : Addr × Obj → SpU} (F : Fun K x qual st f fd) (S : FnScope N ps (defScope st))
    (len : ∀ p xs g Qu Qx, sp p xs g Qu Qx → xs.length = ps.length)
    (hbody : ∀ (cdv : Value) (A : Around) (outer : List PySem.Env) (s : Shared) (H : Hp) (E : XK) (p : Addr × Obj), Hot1 A p → RoomH k (A.deeper (envOfC qual (defScope st) s.heap.objs.size f cdv)) → ∀ xs g Qu Qx, sp p xs g Qu Qx →
      ∃ ms : MS, ms (startU N.length xs) g (fnPost Qu Qx) ∧ PSs (cxH CX0 P w K mg base N qual (defScope st) f cdv A outer s H E p).nox (defBody st) (cS K cn W0 ms)) : FnHp P w K mg base CX0 (k + 1) f fd ps (fun p => LSp0 K cn (sp p)) := by
  obtain ⟨oc, od, kV, doc, pm, an, cdv, ct, osl, rfl, lk, hcd⟩ := F.ex
  have hlen : ∀ p vs H Q E, LSp0 K cn (sp p) vs H Q E → vs.length = ps.length := fun p vs H Q E h => by
    obtain ⟨F1, g, xs, Qu, Qx, _, _, r, q, _⟩ := h
    exact r.len.trans (len p xs g Qu Qx q)
  refine ⟨hlen, ?_⟩
  intro A outer s H args us vs Q E p hr hot hpin e0 hb r h
  have hl := hlen _ _ _ _ _ h
  have here : ∀ b o, base.get? b = some o → s.heap.get? b = some o := fun b o e => (e0.bs b o e).1
  have inK : K.In s.heap := e0.mod.kin.keeps here
  have lim : s.heap.NoLimit := e0.mod.nolimit.keeps here
  refine codeAny_call_function hr.depth (inK _ _ lk) rfl S.co S.gen rfl (PySem.W.codeRec_of inK hcd) (hb _ _ _ _ (wpAny_newFunctionEnv_cells S.kind (fun y hy => ?_) fun env he s1 x => ?_))
  · exact (S.par y.1 (List.of_mem_zip hy).1).elim .inl fun q => .inr ⟨q, PySem.W.cellsFrom_some _ _ _ (.inl q)⟩
  subst he
  refine ⟨lim.keeps x.toInCall.keep, codeAny_func ?_⟩
  obtain ⟨F1, g, xs, Qu, Qx, e1, c1, r1, q1, hk, hx⟩ := h
  obtain ⟨ms, hm, ht⟩ := hbody cdv A outer s H E p hot (hr.deeper _) xs g Qu Qx q1
  have I := inv_startH (CX := CX0) (E := E) S hpin e0 hl r x
  have wish : cS K cn W0 ms { nx := fun _ H' => Q .non H', rt := Q } (L2.start N vs) H := by
    refine ⟨⟨F1, H, g⟩, F1, startU N.length xs, g, fnPost Qu Qx, stt_start e1 c1 r1, hm, ⟨?_, fun _ _ _ _ _ _ q => q.elim, fun _ _ _ _ _ _ q => q.elim, ?_, ?_⟩⟩
    · rintro F' H' σ' ρ' g' S' ⟨g1, hg, q'⟩
      exact hk F' H' .non (.d .non) g1 S'.ext (hg.cells S'.cell) (S'.out hg) Rp.non trivial q'
    · rintro F' H' σ' ρ' g' v u S' o nb ⟨g1, hg, q'⟩
      exact hk F' H' v u g1 S'.ext (hg.cells S'.cell) (S'.out hg) (hg.uok o) nb q'
    · rintro F' H' σ' ρ' g' cls d y S' o ⟨g1, hg, q'⟩
      exact hx F' H' cls d y g1 S'.ext (hg.cells S'.cell) (S'.out hg) o q'
  refine wpAny_mono (ht.nox.run [] s1 (L2.start N vs) H _ I wish) (fun fl s' hs => ?_) fun e s' hs => hs
  cases fl with
  | ret u => obtain ⟨v, σ', H', J, rv, q⟩ := hs; exact ⟨v, H', J.os, J.bare, J.base, J.hok, rv, q⟩
  | next => obtain ⟨σ', H', J, q⟩ := hs; exact ⟨.non, H', J.os, J.bare, J.base, J.hok, rfl, q⟩
  | brk => obtain ⟨_, _, _, q⟩ := hs; exact q.elim
  | cont => obtain ⟨_, _, _, q⟩ := hs; exact q.elim
structure ClH (P : Program) (w : World) (K : PySem.W.Frag) (mg : Str → Option Value) (base : Heap) (cn : Str → Option Addr) (k : Nat) (x : Str) (sp : Addr × Obj → SpU) : Prop where
  ex : ∃ (f : Addr) (fd : FuncData) (ps : List Str), FnHp P w K mg base CX0 k f fd ps (fun p => LSp0 K cn (sp p)) ∧ mg x = some (.ref f) ∧ PySem.W.keepIn K (.ref f) = true ∧ Binds K fd ps []
variable {X : Cx} {W : WX} {e : Expr} {es : List Expr} {pos : Pos}
theorem re_callH {p : Addr × Obj} {k : Nat} {sp : Addr × Obj → SpU} {x : Str} {q : Pos} {mx : MA} (C : ClH X.prog X.w X.K X.mg X.base cn k x sp) (nx : ∀ xs g Q X, sp p xs g Q X → sp p xs g Q noX) (hr : RoomH k X.A) (hot : Hot1 X.A p) (hp : p ∈ X.pn) (hg : Gl X x) (ha : PA X (e :: es) (cA X.K cn W mx))
    (hdb : (x == ("__debug__" : Str)) = false := by decide) (he : starEach (e :: es) X.env = (false, eval e X.env) :: starEach es X.env := by rfl) (hpl : (backTo pos (starEach es X.env)).any (·.1) = false := by rfl) :
    PE X (.Call (.Name x q) (e :: es) [] pos) (cE X.K cn W (wCall (sp p) mx)) := by
  obtain ⟨f, fd, ps, F, hm, hk, hb⟩ := C.ex
  constructor
  intro pins s σ H Q I h
  obtain ⟨E, F', ρ, g, Qu, Qx, S, hm', hk', hx⟩ := h
  refine wpAny_Call_Name_kw (ld_glob I hg hm ?_ hdb)
  refine PySem.W.callWith_K (h₀ := X.base) I.ok.mod.kin hk (thn (ha.run pos pins s σ H (fun vs H1 => LSp0 X.K cn (sp p) vs H1 Q fun _ _ _ => False) I ⟨E, F', ρ, g, _, Qx, S, hm', fun F1 H1 vs xs g1 S1 p1 r1 q1 => ?_, hx⟩) fun us s1 ⟨vs, H1, I1, r, q1⟩ => ⟨I1.kIn, ?_⟩) he hpl
  · refine ⟨F1, g1, xs, Qu, noX, S1.ext, S1.cell, r1, nx _ _ _ _ q1, fun F2 H2 v u g2 e2 c2 p2 o2 _ q2 => ?_, fun F2 H2 cls d y g2 e2 c2 p2 o2 q2 => q2⟩
    exact hk' F2 H2 v u g2 (S1.stp p2 e2 c2) (p1.trans p2) (uok_from o2 S1.trk) ((fresh_from o2).back p1) q2
  · have P1 := I1.pin p (List.mem_append_left _ hp)
    have b := hb s1 us I1.kIn (by rw [List.append_nil, ← r.length]; exact F.len _ _ _ _ _ q1)
    rw [List.append_nil] at b
    have there : PinOk X.stack H1 s1 p := ⟨P1.1, P1.2.1, fun hm => (List.mem_cons.mp (I1.stkSub p.1 hm)).elim P1.2.2.1 P1.2.2.2.1, P1.2.2.2.2⟩
    refine wpAny_call (codeAny_mono (F.run X.A X.stack s1 H1 ⟨us, []⟩ us vs Q (fun _ _ _ => False) p hr hot there I1.env0 b r q1) fun r s' hq => ?_)
    cases r with
    | error e => exact False.elim hq
    | ok fl =>
      cases fl with
      | ret u => exact I1.after hq
      | next => exact False.elim hq
      | brk => exact False.elim hq
      | cont => exact False.elim hq

/-! ### isinstance of the exception in hand, as a mirror -/
/-- the exception of the pinned object: its class, its dict -/
def HotE (cn : Str → Option Addr) (p : Addr × Obj) (dd : Addr) (x : Exn) : Prop := ∃ (C : Addr) (d : Option Addr), cn x.nm = some C ∧ ExN cn (.ref C) d dd x ∧ Zc (.ref C) d p.2 ∧ ∃ vs, p.2.data = .fields vs
@[simp] def wIsX (a dd : Addr) (x : Exn) (m : ME) (b : Bool) : ME := fun ρ g Q X => m ρ g (fun u g1 => match u with
  | .d y => y = exnD a dd x ∧ Q (.d (.bl b)) g1
  | _ => False) X
theorem re_isX {p : Addr × Obj} {dd : Addr} {x : Exn} {c : Expr} {m : ME} {v : V} {cv : Value} {b : Bool} {p0 : Pos} (hp : p ∈ X.pn) (hE : HotE cn p dd x) (T : ∀ C, cn x.nm = some C → ExcI X.K C ∧ PySem.W.kitOne X.K (.ref C) cv = some b) (hg : Gl X "isinstance") (hm : X.mg "isinstance" = none)
    (he : PE X e (cE X.K cn W m)) (hc : PE X c (tC v)) (hv : ∀ u, RelV v u → u = cv) (hse : starEach [e, c] X.env = (false, eval e X.env) :: starEach [c] X.env := by rfl) (hs2 : starEach [c] X.env = (false, eval c X.env) :: starEach [] X.env := by rfl) (hpl : (backTo pos (starEach [c] X.env)).any (·.1) = false := by rfl) :
    PE X (.Call (.Name "isinstance" p0) [e, c] [] pos) (cE X.K cn W (wIsX p.1 dd x m b)) := by
  obtain ⟨C, d, hC, hx, hz, hf⟩ := hE
  obtain ⟨TI, Tk⟩ := T C hC
  refine pe_wk (pe_callB (call_isX TI hp hz hf) hg hm PyProof.Rows.boot_isinstance (pa_cons he (pa_cons hc pa_nil (hs := hs2)) (hs := hse)) (he := hse) (hpl := hpl)) fun σ H Q h => ?_
  obtain ⟨E, F, ρ, g, Qu, Qx, S, hm', hk, hxc⟩ := h
  refine ⟨E, F, ρ, g, _, Qx, S, hm', fun F1 H1 w u g1 S1 p1 o1 f1 q1 => ?_, hxc⟩
  cases u with
  | own o => exact q1.elim
  | bor o => exact q1.elim
  | d y =>
    obtain ⟨ey, q⟩ := q1
    subst ey
    have fin := hk F1 H1 (.bl b) (.d (.bl b)) g1 S1 p1 (Rp.bl b) trivial q
    obtain ⟨nm, fs⟩ := x
    cases fs with
    | nil =>
      have o2 : Rp X.K F1 w (.exn p.1 none []) := o1
      cases o2 with
      | exn0 => exact ⟨v, cv, b, rfl, hv, Tk, .inl (hx.n rfl), fin⟩
    | cons f fs =>
      have o2 : Rp X.K F1 w (.exn p.1 (some dd) (f :: fs)) := o1
      cases o2 with
      | exn h1 h2 => exact ⟨v, cv, b, rfl, hv, Tk, .inr ⟨dd, _, hx.d (fun z => by cases z), S1.ext _ _ h1⟩, fin⟩
end
open PySem PySem.Spec L2 PyProof.Rows L2H

/-! ### exceptions with fields, their context None -/
section
variable {X : Cx} {e : Expr} {es : List Expr} {ta : TA} {pos : Pos}
theorem pmkN_oex {CXg : CXT} {x : Str} {p : Pos} {C fI : Addr} {k : Nat} {fd : FuncData} {ps : List Str} {sp : Sp} (T : OexC X.K C) (iC : PySem.W.findIn X.K (.ref C) "__init__" = some (some (.ref fI))) (tI : PySem.W.typeIn X.K (.ref fI) = some (.type "function"))
    (F1 : FnOk X.prog X.w X.K X.mg X.base CXg k fI fd ps sp) (hr : Room (k + 1) X.A) (hb : Binds X.K fd ps []) (hx : Passes CXg X (fun _ _ _ => False)) (hg : Gl X x) (hm : X.mg x = some (.ref C)) (ha : PA X (e :: es) ta)
    (hdb : (x == ("__debug__" : Str)) = false := by decide) (he : starEach (e :: es) X.env = (false, eval e X.env) :: starEach es X.env := by rfl) (hpl : (backTo pos (starEach es X.env)).any (·.1) = false := by rfl) :
    L2N.PMk X (.Call (.Name x p) (e :: es) [] pos) (tMkO C sp [] ta) := by
  intro pins s σ H Q I h
  obtain ⟨_, _, _, _, bm, _, _, _, _, _, _, _, _, _, _, hC, hbm⟩ := T.cls
  refine wpAny_Call_Name_kw (ld_glob I hg hm (PySem.W.callWith_K (h₀ := X.base) I.ok.mod.kin T.kC (thn (ha.run pos pins s σ H _ I h) fun us s1 hh => ?_) he hpl) hdb)
  obtain ⟨vs, H1, I1, r1, hz, q1⟩ := hh
  refine ⟨I1.kIn, ?_⟩
  show wpAny _ _ (call (.ref C) us) _ _ _
  obtain ⟨hp, g, dr, tk, os⟩ := s1
  generalize ea : hp.objs.size + 1 = a
  have hsz : hp.objs.size ≤ a := by omega
  have hq := q1 a (I1.hok.fresh hsz)
  rw [List.append_nil] at hq
  generalize eh : (hp.push (PySem.W.kdv_tup us)).push (PySem.HandSPX.excO C hp.objs.size) = hp2
  have more : ∀ b o, hp.get? b = some o → hp2.get? b = some o := fun b o z => by rw [← eh]; exact Heap.get?_push_of_some _ (Heap.get?_push_of_some _ z)
  have there : hp2.get? a = some (PySem.HandSPX.excO C hp.objs.size) := by rw [← eh, ← ea]; heap_get
  have I2 : Inv X pins σ (upd H1 a (exo a C none)) ⟨hp2, g, dr, tk, os⟩ := I1.laid (t' := tk) (o := exo a C none) more hsz (exo_ok there)
  have r2 : Vals (V.ref a :: vs) (Value.ref a :: us) := .cons rfl r1
  have hl : (Value.ref a :: us).length = ps.length := r2.length.symm.trans (F1.len _ _ _ _ hq)
  have b2 := hb ⟨hp2, g, dr, tk, os⟩ (Value.ref a :: us) I2.kIn (by rw [List.append_nil]; exact hl)
  rw [List.append_nil] at b2
  have hus : us.length ≤ sizeLine := by rw [← Paired.length r1, sizeLine_eq]; omega
  refine wpAny_call (PySem.HandSPX.call_own F.excBase_ValueError (fun Y => PySem.HandSPX.refsVE_contains Y bm hbm) (I1.kIn _ _ hC) (PySem.W.looks_findIn I1.kIn iC) (fun self => PySem.W.bind_fn I1.kIn self tI) hus ?_)
  rw [eh, ea]
  refine codeAny_mono (F1.run _ X.stack ⟨hp2, g, dr, tk, os⟩ _ ⟨Value.ref a :: us, []⟩ (Value.ref a :: us) _ _ (fun _ _ _ => False) (hr.make C us []) (I2.env0.make C us []) b2 r2 hq) fun r s' hq' => ?_
  cases r with
  | error er => exact hx pins σ _ _ er s' I2 hq'
  | ok fl =>
    cases fl with
    | ret u =>
      obtain ⟨v, H2, os2, bare2, un2, hok2, rv, ev, d, fs, e1, e2, hd1, q2⟩ := hq'
      subst ev
      obtain ⟨h2, g2, d2, t2, os'⟩ := s'
      subst ea eh
      obtain ⟨t0, G, J, kG, ge, hoe, na⟩ := mk_end0 (d2 := d2) (t2 := t2) I1 hsz more un2 hok2 os2 bare2 e1 e2 hd1
      exact ⟨rv, hp.objs.size + 1, _, _, ⟨G, g2, d2, t2, os'⟩, _, .ref C, some d, rfl, J, kG, ge, hoe, ⟨rfl, rfl, fun vs hv => by cases hv; rfl⟩, rfl, rfl, na, rfl, bare2, raises_own T.exC T.tyC, q2⟩
    | next => exact False.elim hq'
    | brk => exact False.elim hq'
    | cont => exact False.elim hq'
variable {K : PySem.W.Frag} {cn : Str → Option Addr} {W : WX}
theorem rs_raiseFN {x : Str} {fl : List Str} {mx : MA} {k : Nat} {p p2 p3 : Pos} (T : ExcF X.prog X.w X.K X.mg X.base cn x fl) (hc : X.calm = true) (tk : L2N.Takes X W) (hr : Room k X.A) (hk : 2 ≤ k) (hg : Gl X x) (ha : PA X (e :: es) (cA X.K cn W mx)) (hz : 1 ≤ fl.length ∧ fl.length ≤ 1000 := by decide)
    (hdb : (x == ("__debug__" : Str)) = false := by decide) (he : starEach (e :: es) X.env = (false, eval e X.env) :: starEach es X.env := by rfl) (hpl : (backTo p2 (starEach es X.env)).any (·.1) = false := by rfl) :
    PS X (.Raise (some (.Call (.Name x p) (e :: es) [] p2)) none p3) (cS X.K cn W (wRaiseA x fl mx)) := by
  obtain ⟨C, fI, fd, ps, hC, gC, TO, iC, tI, hn, F1, _, hb⟩ := T.ex
  exact ps_wk (L2N.ps_raise hc tk (pmkN_oex (k := 1) TO iC tI F1 (hr.mono hk) hb (fun _ _ _ _ _ _ _ h => h.elim) hg gC ha hdb he hpl)) fun D σ H h => mkF_ok hC TO hn h hz
theorem takesN0 {X : Cx} : L2N.Takes X W0 := fun _ _ x => by
  obtain ⟨_, _, _, _, _, _, _, _, _, _, _, _, _, _, _, _, z⟩ := x
  exact z.elim

/-! ### try .. except C as n, the suite calling defs -/
theorem rs_tryAs {body su : List Stmt} {b0 : Stmt} {x n : Str} {np q pos : Pos} {h : Hd} {j : Nat} {mb : MS} (hst : X.stack = X.env :: X.outer) (hfr : X.env.frame = some X.env.locals) (hc : ∃ c, Names X x c ∧ ∀ nm b, h.cat.lookup nm = some b → ∃ C, cn nm = some C ∧ PySem.W.exmOne X.K (.ref C) c = some b) (tk : L2N.Takes X W)
    (hi : h.i = some j) (hN : X.N.Nodup) (hj : X.N[j]? = some n) (hl : X.env.kindOf n = some .local)
    (hb : ∀ (W' : WX) (pn : List (Addr × Obj)) (xe : Value → Shared → Prop), L2N.Takes (X.tr pn xe) W' → PassesOwn (model X.prog X.w) X.A X.env xe → PSs (X.tr pn xe) body (cS X.K cn W' mb))
    (ht : ∀ (a : Addr) (oe : Obj) (cls : Value) (d : Option Addr) (pn : List (Addr × Obj)) (dd : Addr) (e : Exn), Zc cls d oe → (∃ vs, oe.data = .fields vs) → ExN cn cls d dd e → Hot1 (X.suite a ((a, oe) :: pn)).A (a, oe) → (∃ C, cn e.nm = some C) → PSs (X.suite a ((a, oe) :: pn)) (b0 :: su) (cS X.K cn W0 (h.su a dd e))) :
    PS X (.Try body [.ExceptHandler (some (.Name x np)) (some n) (b0 :: su) q] [] [] pos) (cS X.K cn W (wTry mb [h])) := by
  obtain ⟨c, hnm, hs⟩ := hc
  refine ps_wk (L2N.ps_try_as hst hfr hN hj hl hnm tk (tb := fun W' => cS X.K cn W' mb) (ts := fun a cls d D σ H => ∃ p : Addr × Exn, (ExN cn cls d p.1 p.2 ∧ ∃ C, cn p.2.nm = some C) ∧ cS X.K cn W0 (h.su a p.1 p.2) D σ H) hb
    fun a oe cls d pn z f => pss_ex fun p hp => ht a oe cls d pn p.1 p.2 z.zc f hp.1 ⟨rfl, f.elim fun vs e => ⟨vs, e, z.2.2 vs e⟩⟩ hp.2) fun D σ H hh => ?_
  obtain ⟨E, F, ρ, g, P, S, hm, C⟩ := hh
  refine ⟨E, F, ρ, g, _, S, hm, ⟨C.nx, C.bk, C.ct, C.rt, fun F' H' σ' ρ' g' cls d e S' ok hq => ?_⟩⟩
  obtain ⟨b, hlk, hy, hn⟩ := hq
  obtain ⟨C1, hc1, he⟩ := hs _ _ hlk
  have hcl := (ok C1 hc1).1
  refine ⟨b, by rw [hcl]; exact he, fun eb a ha => ?_, fun eb => C.ex F' H' σ' ρ' g' cls d e S' ok (hn eb)⟩
  obtain ⟨dd, hx, rp⟩ := exn_rp (a := a) hc1 ok
  refine ⟨(dd, e), ⟨hx, C1, hc1⟩, E, F', inI h.i (exnD a dd e) ρ', g', outI h.i P, ?_, hy eb a dd, ?_⟩
  · rw [hi]
    exact S'.setD j rp
  · rw [hi]
    exact out_conn (i := some j) C
end
open PySem PySem.Spec L2 PyProof.Rows L2H

/-! ### _law_is: which of five classes an exception is of -/
abbrev names5 : List Str := ["BadRow", "NotTurned", "NoSide", "BadStep", "BadText"]
abbrev words5 : List Str := ["row", "turned", "side", "step", "text"]
def isB (nm w : Str) : Bool := eqD (.lst (names5.map fun n => .bl (nm == n))) (.lst (words5.map fun v => .bl (eqD (.str w) (.str v))))
@[simp] def m_law_is (a dd : Addr) (x : Exn) : MS := wSeq (wSet 2 (wLst (wCons (wIsX a dd x (wVar 0) (x.nm == "BadRow")) (wCons (wIsX a dd x (wVar 0) (x.nm == "NotTurned")) (wCons (wIsX a dd x (wVar 0) (x.nm == "NoSide")) (wCons (wIsX a dd x (wVar 0) (x.nm == "BadStep")) (wNil)))))))
  (wSeq (wSet 2 (wBin addU (wVar 2) (wLst (wCons (wIsX a dd x (wVar 0) (x.nm == "BadText")) (wNil)))))
  (wSeq (wSet 3 (wLst (wCons (wC (.str "row")) (wCons (wC (.str "turned")) (wCons (wC (.str "side")) (wCons (wC (.str "step")) (wCons (wC (.str "text")) (wNil))))))))
  (wRet (wAnd (wIsX a dd x (wVar 0) true) (wBin eqU (wVar 2) (wLc (wItL (wVar 3)) (gN 4) (wYes) (wBin eqU (wVar 1) (wVar 4)) [4]))))))
def sp_law_is (cn : Str → Option Addr) (R : List Str) (p : Addr × Obj) : SpU := fun xs g Q _ => ∃ (dd : Addr) (x : Exn) (w : Str), xs = [exnD p.1 dd x, .str w] ∧ HotE cn p dd x ∧ x.nm ∈ R ∧ PyData.strOk w = true ∧ Q (.d (.bl (isB x.nm w))) g
structure IsAll (K : PySem.W.Frag) (mg : Str → Option Value) (cn : Str → Option Addr) (R : List Str) : Prop where
  y : ∀ y ∈ names5, ∃ D : Addr, mg y = some (.ref D) ∧ ∀ nm ∈ R, ∀ C, cn nm = some C → PySem.W.kitOne K (.ref C) (.ref D) = some (nm == y)
  v : ∀ nm ∈ R, ∀ C, cn nm = some C → PySem.W.kitOne K (.ref C) (.type "ValueError") = some true
  e : ∀ nm ∈ R, ∀ C, cn nm = some C → ExcI K C
theorem kitOne_of {K : PySem.W.Frag} {C D : Addr} {b : Bool} (h1 : PySem.W.hasDictIn K D = true) (h2 : PySem.W.typeIn K (.ref D) = some (.type "type")) (h3 : PySem.W.subIn K (.ref C) (.ref D) = some b) (h4 : b = false → PySem.W.subIn K (.ref C) (.ref C) = some true) : PySem.W.kitOne K (.ref C) (.ref D) = some b := by
  obtain ⟨cd, hc, _⟩ := PySem.W.any_some h1
  have e2 : ((PySem.W.clsIn K D).isSome && PySem.W.typeIn K (.ref D) == some (.type "type")) = true := by rw [hc, h2] <;> rfl
  have e3 : PySem.W.kitCls K (.ref C) (.ref D) = some b := by
    show (if ((PySem.W.clsIn K D).isSome && PySem.W.typeIn K (.ref D) == some (.type "type")) = true then PySem.W.subIn K (.ref C) (.ref D) else none) = some b
    rw [if_pos e2]
    exact h3
  unfold PySem.W.kitOne
  split
  · rename_i q
    have ed : C = D := Value.ref.inj (beq_iff_eq.mp q)
    cases b with
    | true => rfl
    | false =>
      have z := h4 rfl
      rw [← ed] at h3
      rw [h3] at z
      cases z
  · exact e3
/-- the class of an exception of a name in R -/
theorem lk_nm {cn : Str → Option Addr} {p : Str → Addr → Prop} {R : List Str} (h : ∀ nm ∈ R, ∃ C, cn nm = some C ∧ p nm C) : ∀ nm ∈ R, ∀ C, cn nm = some C → p nm C := fun nm hm C hC => by
  obtain ⟨C', h1, h2⟩ := h nm hm
  rw [hC] at h1
  cases h1
  exact h2
theorem hasDict_cls {K : PySem.W.Frag} {C : Addr} (h : PySem.W.hasDictIn K C = true) : (PySem.W.clsIn K C).isSome = true := by
  obtain ⟨cd, hc, _⟩ := PySem.W.any_some h
  rw [hc]
  rfl
theorem boot_VE : bootBuiltins "ValueError" = some (.type "ValueError") := by decide +kernel
theorem hotE_of {cn : Str → Option Addr} {a : Addr} {oe : Obj} {cls : Value} {d : Option Addr} {dd : Addr} {x : Exn} (hz : Zc cls d oe) (hf : ∃ vs, oe.data = .fields vs) (hx : ExN cn cls d dd x) (hC : ∃ C, cn x.nm = some C) : HotE cn (a, oe) dd x := by
  obtain ⟨C, h⟩ := hC
  have e := hx.c C h
  subst e
  exact ⟨C, d, h, hx, hz, hf⟩
theorem room64H {k : Nat} {A : Around} (hr : RoomH k A) : A.units + 64 < cLine := by have := hr.un; omega
theorem room65H {k : Nat} {A : Around} (hr : RoomH k A) : A.units + 65 < cLine := by have := hr.un; omega
section
variable {X : Cx} {cn : Str → Option Addr} {W : WX} {pos : Pos}
/-- the call in the suite -/
@[simp] def wIs (R : List Str) (i : Nat) (a dd : Addr) (x : Exn) (w : Str) : ME := fun ρ g Q X => ρ[i]? = some (some (.d (exnD a dd x))) ∧ x.nm ∈ R ∧ PyData.strOk w = true ∧ Q (.d (.bl (isB x.nm w))) g
theorem re_is {p : Addr × Obj} {dd : Addr} {x : Exn} {k i : Nat} {R : List Str} {n w : Str} {q p1 p2 : Pos} {kk : Nat} (C : ClH X.prog X.w X.K X.mg X.base cn k "_law_is" (sp_law_is cn R)) (hr : RoomH k X.A) (hot : Hot1 X.A p) (hp : p ∈ X.pn) (hE : HotE cn p dd x) (hg : Gl X "_law_is")
    (ha : PA X [.Name n p1, .Constant (.str w) kk p2] (cA X.K cn W (wCons (wVar i) (wCons (wC (.str w)) wNil))))
    (he : starEach [.Name n p1, .Constant (.str w) kk p2] X.env = (false, eval (.Name n p1) X.env) :: starEach [.Constant (.str w) kk p2] X.env := by rfl) (hpl : (backTo pos (starEach [.Constant (.str w) kk p2] X.env)).any (·.1) = false := by rfl) :
    PE X (.Call (.Name "_law_is" q) [.Name n p1, .Constant (.str w) kk p2] [] pos) (cE X.K cn W (wIs R i p.1 dd x w)) :=
  pe_wk (re_callH C (fun _ _ _ _ h => h) hr hot hp hg ha (by decide) he hpl) fun σ H Q h => by
    obtain ⟨E, F, ρ, g, Qu, Qx, S, ⟨h1, h2, h3, h4⟩, hk, hx⟩ := h
    refine ⟨E, F, ρ, g, Qu, Qx, S, ?_, hk, hx⟩
    show match ρ[i]? with | some (some u) => _ | _ => False
    rw [h1]
    exact ⟨dd, x, w, rfl, hE, h2, h3, h4⟩
end
open PySem PySem.Spec PyProof.Rows L2 LamX

/-! ### lambdas: the making touches one table only -/
/-- the table at P: its code objects bear the name q -/
def TabAt (H : Hp) (P : Addr) (q : Str) : Prop := ∃ ps : Array Value, H P = some (.tbl ps) ∧ TriplesOk ps.toList ∧ ∀ (pos : Pos) (cv : Value), codeAmong pos ps.toList = some cv → ∃ c, cv = .ref c ∧ H c = some (CodeO c q)
/-- the table at P has grown by one code object at most, all else stays -/
structure LamStep (P : Addr) (q : Str) (H H1 : Hp) : Prop where
  stay : ∀ b o, b ≠ P → H b = some o → H1 b = some o
  ex : ∃ ps ps1 : Array Value, H P = some (.tbl ps) ∧ H1 P = some (.tbl ps1) ∧ TriplesOk ps1.toList ∧
    ∀ (pos : Pos) (cv : Value), codeAmong pos ps1.toList = some cv → codeAmong pos ps.toList = some cv ∨ ∃ c, cv = .ref c ∧ H c = none ∧ H1 c = some (CodeO c q)
section
variable {X : Cx} {pins : List (Addr × Obj)} {σ : L2.St} {H : Hp} {s : Shared}
theorem lam_made {c P : Addr} {params : Arguments} {body : Expr} {scope : Scope} {pos : Pos} {E Q : Value → Shared → Prop} (I : Inv X pins σ H s) (TB : TabB X.base X.mg c P) (hcode : X.env.code = .ref c) (hT : TabAt H P (X.env.qual ++ "<lambda>"))
    (hdef : defaultsOf params X.env = ([], [])) (hfree : ∀ y ∈ scope.names, y.2 = .free → ∃ c, X.env.cells.lookup y.1 = some c)
    (h : ∀ (f c' : Addr) (pm ctv : Value) (H1 : Hp) (s' : Shared), Inv X pins σ H1 s' → LamStep P (X.env.qual ++ "<lambda>") H H1 →
      s'.heap.get? f = some (PySem.W.kla_obj "<lambda>" (X.env.qual ++ "<lambda>") params body scope (cloFrom X.env.cells scope.names []) pm c' ctv) → H1 f = none → f ∉ frs X.stack → H1 c' = some (CodeO c' (X.env.qual ++ "<lambda>")) → Q (.ref f) s') :
    wpAny (model X.prog X.w) X.A (eval (.Lambda params body scope pos) X.env) Q E s := by
  obtain ⟨ps, hP, ht, ha⟩ := hT
  have tabP : s.heap.get? P = some { cls := .none, data := .fields ps } := I.hok P _ hP
  have bmP : s.heap.BuiltinsAt X.mg P := TB.bm.keeps I.bk
  have above : ∀ f, s.heap.objs.size ≤ f → f ∉ frs X.stack := fun f hf z => (List.mem_cons.mp (I.stkSub _ z)).elim (fun e => by
    have h1 := I.lt
    rw [← e] at h1
    exact absurd (Nat.lt_of_lt_of_le h1 hf) (Nat.lt_irrefl _)) (I.nofs hf)
  refine PySem.W.kla_eval hdef ?_
  cases hcA : codeAmong pos ps.toList with
  | some cv =>
    obtain ⟨c', rfl, hco⟩ := ha pos cv hcA
    refine PySem.W.kla_makeFunctionHit (mg := X.mg) (c := c) (P := P) (ps := ps) (closure_ok hfree) I.ok.glob (I.mod.glob.keeps I.bk) hcode (TB.code.keeps I.bk) tabP ht hcA bmP fun ctv h' tk hx hsz => ?_
    have J : Inv X pins σ H { s with heap := h'.push (PySem.W.kla_obj "<lambda>" (X.env.qual ++ "<lambda>") params body scope (cloFrom X.env.cells scope.names []) ((X.mg "__name__").getD .none) c' ctv), toks := tk } := I.kept fun b o e => Heap.get?_push_of_some _ (hx b o e)
    exact h h'.objs.size c' ((X.mg "__name__").getD .none) ctv H _ J ⟨fun _ _ _ e => e, ps, ps, hP, hP, ht, fun _ _ hc => .inl hc⟩ (Heap.get?_push_size _ rfl) (I.hok.fresh hsz) (above _ hsz) hco
  | none =>
    refine PySem.W.kla_makeFunction (mg := X.mg) (c := c) (P := P) (ps := ps) (closure_ok hfree) I.ok.glob (I.mod.glob.keeps I.bk) hcode (TB.code.keeps I.bk) tabP ht hcA TB.gP bmP fun c' ctv h' tk hx hge hlt hrec htb => ?_
    obtain ⟨c2, oc, vs, t, e2, hoc, hd, hv⟩ := hrec
    cases e2
    have grown : s.heap.objs.size ≤ h'.objs.size := Nat.le_trans hge (Nat.le_of_lt hlt)
    have nC : H c' = none := I.hok.fresh hge
    have J := inv_table (q := X.env.qual ++ "<lambda>") (t' := tk) (more := #[rawInt pos.line, rawInt pos.col, .ref c']) (h' := h'.push (PySem.W.kla_obj "<lambda>" (X.env.qual ++ "<lambda>") params body scope (cloFrom X.env.cells scope.names []) ((X.mg "__name__").getD .none) c' ctv)) I hP
      (fun b o hb e => Heap.get?_push_of_some _ (hx b o hb e)) (Heap.get?_push_of_some _ htb) hge ⟨oc, vs, t, Heap.get?_push_of_some _ hoc, hd, hv⟩
    have nPc : P ≠ c' := ne_of_none hP nC
    have stay : ∀ b o, b ≠ P → H b = some o → (upd (upd H P (.tbl (ps ++ #[rawInt pos.line, rawInt pos.col, .ref c']))) c' (CodeO c' (X.env.qual ++ "<lambda>"))) b = some o := fun b o hb e => by rw [upd_ne (ne_of_none e nC), upd_ne hb]; exact e
    have split : (ps ++ #[rawInt pos.line, rawInt pos.col, .ref c']).toList = ps.toList ++ [rawInt pos.line, rawInt pos.col, .ref c'] := by simp
    refine h h'.objs.size c' ((X.mg "__name__").getD .none) ctv _ _ J ⟨stay, ps, _, hP, by rw [upd_ne nPc, upd_same], by rw [split]; exact PySem.TriplesOk_snoc _ _ _ _ ht, fun p' cv hcv => ?_⟩ (Heap.get?_push_size _ rfl) ?_ (above _ grown) upd_same
    · rw [split] at hcv
      rcases among_app _ ht hcv with z | z
      · exact .inl z
      · exact .inr ⟨c', z, nC, upd_same⟩
    · rw [upd_ne (Nat.ne_of_gt hlt), upd_ne (Nat.ne_of_gt (Nat.lt_of_lt_of_le (Heap.lt_size tabP) grown))]
      exact I.hok.fresh grown
def tLamP (P : Addr) (q : Str) (TT : (XK → Hp → VK → Prop) → Hp → VK → Prop) (t : XK → TE) : TE := fun σ H Q => TabAt H P q ∧ ∀ H1, LamStep P q H H1 → TT (fun E H' Q' => t E σ H' Q') H1 Q
end
open PySem PySem.Spec PyProof.Rows L2 LamX

/-! ### the lambda called, its exceptions told at the caller's slots -/
section
variable {X : Cx} {pins : List (Addr × Obj)} {σ : L2.St} {H : Hp} {s : Shared}
theorem pe_actS {Ng : List Str} {qg : Str} {sg : Scope} {g f c' : Addr} {cdg pm ctv : Value} {params : Arguments} {body : Expr} {scope : Scope} {k i : Nat} {a : Str} {pn : List (Addr × Obj)} {xe : Value → Shared → Prop} {W : WX} {tb : XK → TE} {p1 p2 : Pos}
    (I : Inv X pins σ H s) (L : LamS X.env.scope scope) (hf : s.heap.get? f = some (PySem.W.kla_obj "<lambda>" (X.env.qual ++ "<lambda>") params body scope (cloFrom X.env.cells scope.names []) pm c' ctv)) (hfn : H f = none) (hfr : f ∉ frs X.stack)
    (hbind : bindArgs (PySem.W.kla_fn "<lambda>" (X.env.qual ++ "<lambda>") params body scope (cloFrom X.env.cells scope.names []) pm (.ref c') ctv) ⟨[], []⟩ = pure [])
    (tk : Takes ((cxOf C8.CX0 X.prog X.w X.K X.mg X.base Ng qg sg g cdg X.A X.stack s H C8.E0).tr pn xe) W) (hr : Room (k + 1) (X.A.deeper (envOfC qg sg s.heap.objs.size g cdg)))
    (hbody : ∀ (A : Around) (outer : List PySem.Env) (s : Shared) (H : Hp) (E : XK), Room k (A.deeper (lamEnv X scope s.heap.objs.size f c')) → PE (lamCx X A outer s H E scope f c') body (tb E))
    (hN : Ng[i]? = some a) (hv : Vis sg a) (hd : (a == ("__debug__" : Str)) = false := by decide) (hcd : (a == ("__classdict__" : Str)) = false := by decide) :
    PE ((cxOf C8.CX0 X.prog X.w X.K X.mg X.base Ng qg sg g cdg X.A X.stack s H C8.E0).tr pn xe) (.Call (.Name a p1) [] [] p2)
      (fun σZ HZ Q => σZ[i]? = some (some (.ref f)) ∧ HZ c' = some (CodeO c' (X.env.qual ++ "<lambda>")) ∧ ∃ Ech : XK, (∀ cls d H', Ech cls d H' → W cls d σZ H') ∧ tb Ech σ HZ Q) := by
  constructor
  intro pinsZ sZ σZ HZ Q IZ h
  obtain ⟨hs, hc, Ech, hE, ht⟩ := h
  refine wpAny_Call_Name_kw (thn ((pe_var (pos := p1) (i := i) hN hv hd hcd).run pinsZ sZ σZ HZ (fun v H1 => v = .ref f ∧ H1 = HZ) IZ ⟨.ref f, hs, rfl, rfl⟩) fun u s1 hh => ?_)
  obtain ⟨v, H1, I1, r1, ev, eH⟩ := hh
  subst ev
  rw [eH] at I1
  obtain rfl : u = Value.ref f := r1
  have there : s1.heap.get? f = some (PySem.W.kla_obj "<lambda>" (X.env.qual ++ "<lambda>") params body scope (cloFrom X.env.cells scope.names []) pm c' ctv) := I1.base.keep f _ hf hfn hfr (fun z => nomatch (show f ∈ ([] : List Addr) from z))
  refine PySem.W.callWith_F0 ⟨_, _, _, _, there⟩ ?_
  obtain ⟨⟨oc, vs, t, hoc, hdc, hvc⟩, _, _⟩ := I1.hok c' _ hc
  have rc : codeAny (model X.prog X.w) (X.A.deeper (envOfC qg sg s.heap.objs.size g cdg)) (.call (.ref f) ⟨[], []⟩) (CR (L2.CX X.prog X.w) (envOfC qg sg s.heap.objs.size g cdg :: X.stack) X.prog X.w HZ s1 Q Ech) s1 := by
    refine PySem.W.kla_callFunE hr.depth there rfl L.co L.gen rfl ⟨c', oc, vs, t, rfl, hoc, hdc, hvc⟩ ?_
    rw [hbind]
    refine wpAny_pure (wpAny_newFunctionEnv (fun y hy => (L.own y hy).2) (fun y hy => absurd hy (by simp)) (fun h₁ hns hsb => ⟨I1.nolimit.fresh _ hsb, ?_⟩) L.kind)
    show codeAny _ _ (.expr body (lamEnv X scope s1.heap.objs.size f c')) _ _
    have J : Inv (lamCx X (X.A.deeper (envOfC qg sg s.heap.objs.size g cdg)) (envOfC qg sg s.heap.objs.size g cdg :: X.stack) s1 HZ Ech scope f c') [] σ HZ { s1 with heap := h₁, toks := s1.toks + ([] : List (Str × Value)).length } :=
      lam_start2 I L I1.env0 hr.hd I1.base hns fun b o e => hsb.extBut b o (Nat.ne_of_lt (Heap.lt_size e)) (Heap.get?_push_of_some _ e)
    refine PySem.W.kla_codeExpr (wpAny_mono ((hbody _ _ s1 HZ _ (hr.deeper _)).run [] _ _ HZ Q J ht) (fun v s' hq => ?_) fun e s' hq => hq)
    obtain ⟨w', H', J', rv, q⟩ := hq
    exact ⟨w', H', J'.os, J'.bare, J'.base, J'.hok, rv, q⟩
  refine wpAny_call (codeAny_mono rc fun r s' hq => ?_)
  cases r with
  | error e =>
    obtain ⟨a1, B1, H3, cls, d, e1, fl, hok, ub, na, os, ag, hw⟩ := hq
    exact L2.passAt tk σZ pinsZ HZ s1 e s' I1 ⟨a1, B1, H3, cls, d, e1, fl, hok, ub, na, os, ag, hE cls d H3 hw⟩
  | ok fl =>
    cases fl with
    | ret u => exact I1.after hq
    | next => exact False.elim hq
    | brk => exact False.elim hq
    | cont => exact False.elim hq
/-- the def that calls what it got -/
def GivesS (X : Cx) (Ng : List Str) (x : Str) (sg : Scope) (g : Addr) (cdg : Value) (bg : List Stmt) (a : Str) (q : Str) (TT : (XK → Hp → VK → Prop) → Hp → VK → Prop) : Prop :=
  ∀ (f c' : Addr) (s : Shared) (H : Hp) (Q : VK) (tl : XK → Hp → VK → Prop),
    (∀ (W : WX) (pn : List (Addr × Obj)) (xe : Value → Shared → Prop) (p1 p2 : Pos), Takes ((cxOf C8.CX0 X.prog X.w X.K X.mg X.base Ng x sg g cdg X.A X.stack s H C8.E0).tr pn xe) W →
      PE ((cxOf C8.CX0 X.prog X.w X.K X.mg X.base Ng x sg g cdg X.A X.stack s H C8.E0).tr pn xe) (.Call (.Name a p1) [] [] p2) (fun σZ HZ Q => σZ[0]? = some (some (.ref f)) ∧ HZ c' = some (CodeO c' q) ∧ ∃ Ech : XK, (∀ cls d H', Ech cls d H' → W cls d σZ H') ∧ tl Ech HZ Q)) →
    H c' = some (CodeO c' q) → TT tl H Q →
    ∃ t, PSs (cxOf C8.CX0 X.prog X.w X.K X.mg X.base Ng x sg g cdg X.A X.stack s H C8.E0).nox bg t ∧ t { nx := fun _ H' => Q .non H', rt := Q } (L2.start Ng [.ref f]) H
/-- x(lambda: body), x a def of one parameter -/
theorem pe_lam {TT : (XK → Hp → VK → Prop) → Hp → VK → Prop} {x a : Str} {g c P : Addr} {k : Nat} {pg : Arguments} {bg : List Stmt} {sg : Scope} {dV kV doc pm cdv ct oc : Value} {an od : Option Addr} {osl : Array (Option Value)} {Ng : List Str}
    {params : Arguments} {body : Expr} {scope : Scope} {t : XK → TE} {p lpos pos : Pos} (hg : Gl X x) (hm : X.mg x = some (.ref g)) (hk : PySem.W.keepIn X.K (.ref g) = true)
    (lk : X.K.lookup g = some ⟨oc, od, .func (PySem.W.fnOf x x pg bg sg dV kV doc pm an cdv ct), osl⟩) (hcg : PySem.W.codeIn X.K cdv x = true) (hb : L2.Binds X.K (PySem.W.fnOf x x pg bg sg dV kV doc pm an cdv ct) [a] []) (Sg : FnScope Ng [a] sg) (hNg : Ng[0]? = some a) (hva : Vis sg a)
    (hG : GivesS X Ng x sg g cdv bg a (X.env.qual ++ "<lambda>") TT)
    (TB : TabB X.base X.mg c P) (hcode : X.env.code = .ref c) (hr : Room (k + 2) X.A) (L : LamS X.env.scope scope) (hdef : defaultsOf params X.env = ([], []))
    (hbind : ∀ (q : Str) (cl : List (Str × Addr)) (pm cv ctv : Value), bindArgs (PySem.W.kla_fn "<lambda>" q params body scope cl pm cv ctv) ⟨[], []⟩ = pure [])
    (hbody : ∀ (A : Around) (outer : List PySem.Env) (s : Shared) (H : Hp) (E : XK) (f c' : Addr), Room k (A.deeper (lamEnv X scope s.heap.objs.size f c')) → PE (lamCx X A outer s H E scope f c') body (t E))
    (hdb : (x == ("__debug__" : Str)) = false := by decide) (hd : (a == ("__debug__" : Str)) = false := by decide) (hcd : (a == ("__classdict__" : Str)) = false := by decide) :
    PE X (.Call (.Name x p) [.Lambda params body scope lpos] [] pos) (tLamP P (X.env.qual ++ "<lambda>") TT t) := by
  constructor
  intro pins s σ H Q I hh
  obtain ⟨hT, h⟩ := hh
  refine wpAny_Call_Name_kw (ld_glob I hg hm (PySem.W.callWith_K (h₀ := X.base) I.ok.mod.kin hk ?_ (by rfl) (by rfl)) hdb)
  show wpAny _ _ (spliced ((false, eval (.Lambda params body scope lpos) X.env) :: backTo pos (starEach [] X.env))) _ _ s
  refine Calls.spliced_cons (lam_made I TB hcode hT hdef (L.has I.ok) fun f c' pm' ctv H1 s' I1 st hf hfn hfr hco => Calls.spliced_nil ⟨I1.kIn, ?_⟩)
  have rc : codeAny (model X.prog X.w) X.A (.call (.ref g) ⟨[.ref f], []⟩) (CR C8.CX0 X.stack X.prog X.w H1 s' Q C8.E0) s' := by
    refine run_ofS (N := Ng) (ps := [a]) (us := [.ref f]) (vs := [.ref f]) lk hcg Sg hr I1.env0 (hb s' [.ref f] I1.kIn rfl) (.cons rfl .nil) rfl fun hr' => ?_
    obtain ⟨t', ht', hq'⟩ := hG f c' s' H1 Q (fun E H' Q' => t E σ H' Q') (fun W pn xe p1 p2 tk => pe_actS (i := 0) I1 L hf hfn hfr (hbind _ _ _ _ _) tk hr' (fun A outer s H E hr2 => hbody A outer s H E f c' hr2) hNg hva hd hcd) hco (h H1 st)
    exact ⟨t', ht'.nox, hq'⟩
  refine wpAny_call (codeAny_mono rc fun r s2 hq => ?_)
  cases r with
  | error e => exact False.elim hq
  | ok fl =>
    cases fl with
    | ret u => exact I1.after hq
    | next => exact False.elim hq
    | brk => exact False.elim hq
    | cont => exact False.elim hq
end
open PySem PySem.Spec PyProof.Rows L2 LamX

/-! ### a lambda made, in the readings -/
/-- what is new is frozen -/
def froz (F H H1 : Hp) : Hp := fun b => match H b with
  | none => H1 b
  | some _ => F b
section
variable {K : PySem.W.Frag} {cn : Str → Option Addr} {E : Ent} {F H H1 : Hp} {σ : L2.St} {ρ : Env} {g : G} {P : Addr}
theorem froz_none {b : Addr} (h : H b = none) : froz F H H1 b = H1 b := by unfold froz; rw [h]
theorem froz_some {b : Addr} {o : HO} (h : H b = some o) : froz F H H1 b = F b := by unfold froz; rw [h]
theorem lam_stp (S : Stt K E F H σ ρ g) (hP : g P = some .tbl) (st : LamStep P lamQ H H1) : Stp g F H g (froz F H H1) H1 ∧ Same (froz F H H1) H1 ∧ Cells K (froz F H H1) H1 g := by
  have FP : F P = none := (S.cell P _ hP).2
  obtain ⟨ps, ps1, p1, p2, p3, p4⟩ := st.ex
  have ext : Same F (froz F H H1) := fun b u h => by rw [froz_some (S.ext b u h)]; exact h
  have keep : ∀ b o, b ≠ P → H b = some o → F b = none → H1 b = some o ∧ froz F H H1 b = none := fun b o nb h f => ⟨st.stay b o nb h, by rw [froz_some h]; exact f⟩
  have nP : ∀ b, g b = none → b ≠ P := fun b h e => by rw [e, hP] at h; cases h
  refine ⟨⟨ext, fun b o h f z => ⟨(keep b o (nP b z) h f).1, (keep b o (nP b z) h f).2, z⟩, fun b h => ?_⟩, fun b u h => ?_, fun b c hc => ?_⟩
  · cases e : H b with
    | none => rfl
    | some o =>
      by_cases z : b = P
      · rw [z, p2] at h; cases h
      · rw [st.stay b o z e] at h; cases h
  · cases e : H b with
    | none => rw [froz_none e] at h; exact h
    | some o =>
      rw [froz_some e] at h
      have hb := S.ext b u h
      exact st.stay b u (fun z => by rw [z, FP] at h; cases h) hb
  · obtain ⟨c1, c2⟩ := S.cell b c hc
    obtain ⟨o, ho⟩ := c1.there
    refine ⟨?_, by rw [froz_some ho]; exact c2⟩
    by_cases z : b = P
    · subst z
      rw [hP] at hc
      cases hc
      obtain ⟨ps', q1, q2, q3⟩ := c1
      rw [p1] at q1
      cases q1
      refine ⟨ps1, p2, p3, fun pos cv hcv => ?_⟩
      rcases p4 pos cv hcv with w | ⟨c, e1, e2, e3⟩
      · obtain ⟨c, e1, e2⟩ := q3 pos cv w
        exact ⟨c, e1, ext _ _ e2⟩
      · exact ⟨c, e1, by rw [froz_none e2]; exact e3⟩
    · cases c with
      | lst xs => obtain ⟨vs, t1, t2⟩ := c1; exact ⟨vs, (keep b _ z t1 c2).1, t2.mono ext⟩
      | ins C fs =>
        obtain ⟨dx, vs, t1, t2, t3, t4⟩ := c1
        have nd : dx ≠ P := fun y => by rw [y, p1] at t2; cases t2
        exact ⟨dx, vs, (keep b _ z t1 c2).1, (keep dx _ nd t2 t3).1, (keep dx _ nd t2 t3).2, t4.mono ext⟩
      | dct xs => obtain ⟨vs, t1, t2⟩ := c1; exact ⟨vs, (keep b _ z t1 c2).1, t2.mono ext⟩
      | ext ψ xs cs => obtain ⟨vs, t1, t2, t3⟩ := c1; exact ⟨vs, (keep b _ z t1 c2).1, t2.mono ext, fun c hc => ext c _ (t3 c hc)⟩
      | tbl =>
        obtain ⟨ps', q1, q2, q3⟩ := c1
        exact ⟨ps', (keep b _ z q1 c2).1, q2, fun pos cv hcv => (q3 pos cv hcv).imp fun c q => ⟨q.1, ext _ _ q.2⟩⟩
theorem lam_tab (S : Stt K E F H σ ρ g) (hP : g P = some .tbl) : TabAt H P lamQ := by
  obtain ⟨ps, q1, q2, q3⟩ := (S.cell P _ hP).1
  exact ⟨ps, q1, q2, fun pos cv hcv => (q3 pos cv hcv).imp fun c q => ⟨q.1, S.ext _ _ q.2⟩⟩
end

/-! ### a def that calls what it got, in a try -/
@[simp] def retP (Qu : KU) : Post := { nx := fun _ _ => False, rt := Qu, bk := fun _ _ => False, ct := fun _ _ => False, ex := fun _ _ _ => False }
/-- how an exception of the work is told -/
def WishU (K : PySem.W.Frag) (cn : Str → Option Addr) (hs : List Hd) (n : Nat) (Q : VK) : XK := fun cls d H' => ∃ (F' : Hp) (g' : G) (x : Exn) (Qu : KU), Same F' H' ∧ Cells K F' H' g' ∧ ExOk K cn F' cls d x ∧ (∀ f : Addr, hdsU hs x (startU n [.ref f]) g' (retP Qu)) ∧
  ∀ F2 H2 v u g2, Same F2 H2 → Cells K F2 H2 g2 → Stp g' F' H' g2 F2 H2 → UOk K ⟨F', H', g'⟩ F2 H2 g2 v u → NoBor u → Qu u g2 → Q v H2
def TTU (K : PySem.W.Frag) (cn : Str → Option Addr) (hs : List Hd) (n : Nat) : (XK → Hp → VK → Prop) → Hp → VK → Prop := fun tl H Q => ∃ Ech : XK, (∀ cls d H', Ech cls d H' → WishU K cn hs n Q cls d H') ∧ tl Ech H Q
section
variable {X : Cx} {cn : Str → Option Addr}
theorem word_gives {Ng : List Str} {x a q : Str} {sg : Scope} {g : Addr} {cdg : Value} {h0 : ExceptHandler} {hds : List ExceptHandler} {hs : List Hd} {p1 p2 p3 p8 : Pos} (hl : 0 < Ng.length)
    (hh : ∀ (s : Shared) (H : Hp), HdsR (cxOf C8.CX0 X.prog X.w X.K X.mg X.base Ng x sg g cdg X.A X.stack s H C8.E0).nox cn (h0 :: hds) hs) :
    GivesS X Ng x sg g cdg [.Try [.Return (some (.Call (.Name a p1) [] [] p2)) p3] (h0 :: hds) [] [] p8] a q (TTU X.K cn hs Ng.length) := by
  intro f c' s H Q tl act hc ⟨Ech, hE, ht⟩
  refine ⟨_, pss_one (ps_tryG (X := (cxOf C8.CX0 X.prog X.w X.K X.mg X.base Ng x sg g cdg X.A X.stack s H C8.E0).nox) rfl rfl takes00
    (tb := fun W D σ H => σ[0]? = some (some (.ref f)) ∧ H c' = some (CodeO c' q) ∧ ∃ Ech : XK, (∀ cls d H', Ech cls d H' → W cls d σ H') ∧ tl Ech H D.rt)
    (fun W pn xe tk _ => pss_one (ps_ret (act W pn xe p1 p2 tk))) (hdsR_ok (hh s H))), ?_⟩
  refine ⟨?_, hc, Ech, fun cls d H' he => ?_, ht⟩
  · unfold L2.start
    rfl
  · obtain ⟨F', g', y, Qu, e1, c1, ok, hq, hk⟩ := hE cls d H' he
    refine hds_wish (hh s H) (E := ⟨F', H', g'⟩) (P := retP Qu) ⟨fun _ _ _ _ _ _ z => z.elim, fun _ _ _ _ _ _ z => z.elim, fun _ _ _ _ _ _ z => z.elim, fun F2 H2 σ2 ρ2 g2 v u S2 o nb qv => ?_, fun _ _ _ _ _ _ _ _ _ _ z => z.elim⟩ (stt_start (N := Ng) e1 c1 (.cons (.ref f) .nil)) ok (hq f)
    exact hk F2 H2 v u g2 S2.ext S2.cell (S2.out (SubG.refl g2)) o nb qv
/-- the slots that a lambda's body may read -/
@[simp] def cleanU : Option U → Option U
  | some (.d x) => some (.d x)
  | _ => none
theorem Stt.anew {K : PySem.W.Frag} {E : Ent} {F H : Hp} {σ : L2.St} {ρ : Env} {g : G} (S : Stt K E F H σ ρ g) : Stt K ⟨F, H, g⟩ F H σ (ρ.map cleanU) g where
  ext := S.ext
  ext0 := Same.refl F
  len := by rw [List.length_map]; exact S.len
  slot := fun i u h => by
    rw [List.getElem?_map] at h
    cases q : ρ[i]? with
    | none => rw [q] at h; cases h
    | some w =>
      rw [q] at h
      cases w with
      | none => cases h
      | some w =>
        cases w with
        | d x => cases h; exact S.slot i (.d x) q
        | own o => cases h
        | bor o => cases h
  sep := fun i j o p h => by
    rw [List.getElem?_map] at h
    cases q : ρ[i]? with
    | none => rw [q] at h; cases h
    | some w =>
      rw [q] at h
      cases w with
      | none => cases h
      | some w => cases w <;> cases h
  cell := S.cell
  keep := fun b o h1 h2 h3 => ⟨h1, h2, h3⟩
  trk := fun b h => h
@[simp] def wWord (P : Addr) (hs : List Hd) (n : Nat) (m : ME) : ME := fun ρ g Q _ => g P = some .tbl ∧ m (ρ.map cleanU) g Q fun x g' => ∀ f : Addr, hdsU hs x (startU n [.ref f]) g' (retP Q)
theorem re_word {W : WX} {hs : List Hd} {m : ME} {x a : Str} {g c P : Addr} {k : Nat} {pg : Arguments} {bg : List Stmt} {sg : Scope} {dV kV doc pm cdv ct oc : Value} {an od : Option Addr} {osl : Array (Option Value)} {Ng : List Str}
    {params : Arguments} {body : Expr} {scope : Scope} {p lpos pos : Pos} (hq : X.env.qual ++ "<lambda>" = lamQ) (hg : Gl X x) (hm : X.mg x = some (.ref g)) (hk : PySem.W.keepIn X.K (.ref g) = true)
    (lk : X.K.lookup g = some ⟨oc, od, .func (PySem.W.fnOf x x pg bg sg dV kV doc pm an cdv ct), osl⟩) (hcg : PySem.W.codeIn X.K cdv x = true) (hb : L2.Binds X.K (PySem.W.fnOf x x pg bg sg dV kV doc pm an cdv ct) [a] []) (Sg : FnScope Ng [a] sg) (hNg : Ng[0]? = some a) (hva : Vis sg a)
    (hG : GivesS X Ng x sg g cdv bg a (X.env.qual ++ "<lambda>") (TTU X.K cn hs Ng.length))
    (TB : TabB X.base X.mg c P) (hcode : X.env.code = .ref c) (hr : Room (k + 2) X.A) (L : LamS X.env.scope scope) (hdef : defaultsOf params X.env = ([], []))
    (hbind : ∀ (q : Str) (cl : List (Str × Addr)) (pm cv ctv : Value), bindArgs (PySem.W.kla_fn "<lambda>" q params body scope cl pm cv ctv) ⟨[], []⟩ = pure [])
    (hbody : ∀ (A : Around) (outer : List PySem.Env) (s : Shared) (H : Hp) (E : XK) (f c' : Addr), Room k (A.deeper (lamEnv X scope s.heap.objs.size f c')) → PE (lamCx X A outer s H E scope f c') body (cE X.K cn (fun cls d _ H => E cls d H) m))
    (hdb : (x == ("__debug__" : Str)) = false := by decide) (hd : (a == ("__debug__" : Str)) = false := by decide) (hcd : (a == ("__classdict__" : Str)) = false := by decide) :
    PE X (.Call (.Name x p) [.Lambda params body scope lpos] [] pos) (cE X.K cn W (wWord P hs Ng.length m)) :=
  pe_wk (pe_lam (TT := TTU X.K cn hs Ng.length) (t := fun E => cE X.K cn (fun cls d _ H => E cls d H) m) hg hm hk lk hcg hb Sg hNg hva hG TB hcode hr L hdef hbind hbody hdb hd hcd) fun σ H Q h => by
    obtain ⟨E, F, ρ, g, Qu, Qx, S, ⟨hP, hm⟩, hk, hx⟩ := h
    refine ⟨by rw [hq]; exact lam_tab S hP, fun H1 st => ?_⟩
    rw [hq] at st
    obtain ⟨p0, s1, c1⟩ := lam_stp S hP st
    have S1 := S.stp p0 s1 c1
    have S1' := S1.anew
    have trk1 : ∀ b, H1 b = none → E.H b = none := S1.trk
    refine ⟨WishU X.K cn hs Ng.length Q, fun _ _ _ h => h, ⟨froz F H H1, H1, g⟩, froz F H H1, ρ.map cleanU, g, Qu, _, S1', hm, fun F2 H2 v u g2 S2 p2 o2 f2 q2 => ?_, fun F' H' cls d y g' S' ok q => ?_⟩
    · exact hk F2 H2 v u g2 (S1.stp p2 S2.ext S2.cell) (p0.trans p2) (uok_from o2 trk1) (f2.back p0) q2
    · have p' : Stp g (froz F H H1) H1 g' F' H' := S'.out (SubG.refl g')
      refine ⟨F', g', y, Qu, S'.ext, S'.cell, ok, q, fun F2 H2 v u g2 e2 c2 p2 o2 nb qv => ?_⟩
      have pp := p'.trans p2
      exact hk F2 H2 v u g2 (S1.stp pp e2 c2) (p0.trans pp) (uok_from o2 fun b hb => trk1 b (p'.trk b hb)) ((fresh_from o2).back (p0.trans p')) qv
end
open PySem PySem.Spec PyProof.Rows L2 LamX

/-! ### the end of a law whose def makes lambdas: P the table of its code object -/
def spLawT (P : Addr) : SpU := fun xs g Q _ => ∃ ns : List Int, xs = [.ro (ns.map D.int)] ∧ ns.length ≤ 63 ∧ g = (fun b => if b = P then some .tbl else none) ∧ ∀ g', Q (.d (.bl true)) g'
theorem law_spT {K : PySem.W.Frag} {cn : Str → Option Addr} {H : Hp} {a P : Addr} {ns : List Int} (hl : ns.length ≤ 63) (hP : H P = some (.tbl #[])) (h : SqL K H a (ns.map V.int)) : LSp0 K cn (spLawT P) [.ref a] H (fun v _ => v = .bl true) fun _ _ _ => False := by
  have sm : Same (fun b => if b = P then none else H b) H := fun b u z => by
    dsimp only at z
    by_cases e : b = P
    · rw [if_pos e] at z; cases z
    · rw [if_neg e] at z; exact z
  have at_ : ∀ b u, H b = some u → (∀ ps, u ≠ .tbl ps) → (if b = P then none else H b) = some u := fun b u z n => by
    rw [if_neg (fun e => n #[] (by rw [e, hP] at z; exact (Option.some.inj z).symm))]
    exact z
  have h' : SqL K (fun b => if b = P then none else H b) a (ns.map V.int) := by
    rcases h with (h | ⟨o, h⟩) | h
    · exact .inl (.inl (at_ _ _ h fun ps z => by cases z))
    · exact .inl (.inr ⟨o, at_ _ _ h fun ps z => by cases z⟩)
    · exact .inr h
  refine ⟨fun b => if b = P then none else H b, fun b => if b = P then some .tbl else none, [.ro (ns.map D.int)], fun u _ => u = .d (.bl true), fun _ _ => False, sm, fun b c q => ?_, .cons (.ro h' (RpL.of_ints ns)) .nil, ⟨ns, rfl, hl, rfl, fun _ => rfl⟩, ?_, ?_⟩
  · dsimp only at q
    by_cases e : b = P
    · subst e
      rw [if_pos rfl] at q
      cases q
      exact ⟨⟨#[], hP, True.intro, fun pos cv hc => by simp [codeAmong] at hc⟩, if_pos rfl⟩
    · rw [if_neg e] at q; cases q
  · rintro F' H' v u g' _ _ _ o _ rfl
    have o' : Rp K F' v (.bl true) := o
    cases o'
    rfl
  · rintro F' H' cls d x g' _ _ _ _ q
    exact q
theorem law_walkT {l : PySem.W.OpenLaw} {k : Nat} {q : Program} {loose : List Str} {XP : (Str → Option Value) → Heap → Prop} {YP : World → Heap → Prop} {d : DefRec} {K : Params → PySem.W.Frag} {x : Str} (hn : l.most = some 63) (hdf : d.params.defaults = []) (hr : Room k callerA)
    (hrec : ((recsOf q).any fun e => e.name == d.name) = true) (hY : ∀ (w : World) (h : Heap), YP w h → (K w.params).In h)
    (F : ∀ (w : World) (mg : Str → Option Value) (fa : Addr) (h : Heap), (K w.params).In h → h.Ns mainGlobals mg → mg d.name = some (.ref fa) →
      ∃ (cn : Str → Option Addr) (fd : FuncData) (o : Obj) (c P : Addr) (e : Value) (dd : Option Addr) (vs : Array Value) (sl : Array (Option Value)), (∀ (s : Shared) (u : Value), BindsTo s fd ⟨[u], []⟩ [(x, u)]) ∧
        (K w.params).lookup fa = some o ∧ o.data = .func fd ∧ fd.code = .ref c ∧ (K w.params).lookup c = some ⟨e, dd, .fields vs, sl⟩ ∧ vs[11]? = some (.ref P) ∧ (K w.params).lookup P = none ∧ PySem.W.codeHdIn (K w.params) c P = true ∧
        ∀ base : Heap, (K w.params).In base → base.Ns mainGlobals mg → TabB base mg c P → FnOk l.prog w (K w.params) mg base CX0 k fa fd [x] (LSp0 (K w.params) cn (spLawT P))) : PySem.W.WalkO q loose XP YP l.row.toRowW d [] (fun f vs => PySem.call f vs) := by
  refine LamX.walk_ofOwn (n := 63) (k := k) (x := x) (CX := fun _ => CX0) hn (by decide) hdf hr hrec hY (fun w mg fa h _ KX G hm own => ?_) fun _ _ _ _ _ z => z
  obtain ⟨cn, fd, o, c, P, e, dd, vs, sl, hb, k1, k2, k3, k4, k5, k6, k7, hF⟩ := F w mg fa h KX G hm
  have one : ∀ {p : Addr × Addr}, p ∈ [(c, P)] → p = (c, P) := fun hp => by simpa using hp
  refine ⟨fd, [(c, P)], LSp0 (K w.params) cn (spLawT P), fun p hp => ?_, fun p hp => ?_, fun p hp => ?_, hb, fun H a ns hl _ hH hS => law_spT hl (hH (c, P) (List.mem_singleton.mpr rfl)) hS, fun base h1 h2 h3 => hF base h1 h2 (h3 (c, P) (List.mem_singleton.mpr rfl))⟩
  · rw [one hp]; exact own c P o fd e dd vs sl k1 k2 k3 k4 k5
  · rw [one hp]; exact k6
  · rw [one hp]; exact PySem.W.codeHd_of_K KX k7
open PySem PySem.Spec PyProof.Rows L2 LamX

/-! ### a def's promise, its code object told -/
theorem fn_ok0T {K : PySem.W.Frag} {cn : Str → Option Addr} {P : Program} {w : World} {mg : Str → Option Value} {base : Heap} {x qual : Str} {st : Stmt} {f : Addr} {fd : FuncData} {N ps : List Str} {k : Nat} {sp : SpU} {ms : MS} (F : Fun K x qual st f fd) (S : FnScope N ps (defScope st))
    (len : ∀ xs g Qu Qx, sp xs g Qu Qx → xs.length = ps.length) (hsp : ∀ xs g Qu Qx, sp xs g Qu Qx → ms (startU N.length xs) g (fnPost Qu Qx))
    (hbody : ∀ (cdv : Value) (A : Around) (outer : List PySem.Env) (s : Shared) (H : Hp) (E : XK), fd.code = cdv → Room k (A.deeper (envOfC qual (defScope st) s.heap.objs.size f cdv)) →
      PSs (cxOf CX0 P w K mg base N qual (defScope st) f cdv A outer s H E).nox (defBody st) (cS K cn W0 ms)) : FnOk P w K mg base CX0 (k + 1) f fd ps (LSp0 K cn sp) := by
  obtain ⟨oc, od, kV, doc, pm, an, cdv, ct, osl, rfl, lk, hcd⟩ := F.ex
  refine fn_of lk hcd S (fun vs H Q E h => ?_) fun A outer s H vs Q E hr h => ?_
  · obtain ⟨F, g, xs, Qu, Qx, _, _, r, q, _⟩ := h
    rw [r.len]
    exact len xs g Qu Qx q
  · obtain ⟨F, g, xs, Qu, Qx, e, c, r, q, hk, hx⟩ := h
    refine ⟨_, (hbody cdv A outer s H E rfl hr).nox, ⟨F, H, g⟩, F, startU N.length xs, g, fnPost Qu Qx, stt_start e c r, hsp xs g Qu Qx q, ⟨?_, fun _ _ _ _ _ _ q => q.elim, fun _ _ _ _ _ _ q => q.elim, ?_, ?_⟩⟩
    · rintro F' H' σ' ρ' g' S' ⟨g1, hg, q'⟩
      exact hk F' H' .non (.d .non) g1 S'.ext (hg.cells S'.cell) (S'.out hg) Rp.non trivial q'
    · rintro F' H' σ' ρ' g' v u S' o nb ⟨g1, hg, q'⟩
      exact hk F' H' v u g1 S'.ext (hg.cells S'.cell) (S'.out hg) (hg.uok o) nb q'
    · rintro F' H' σ' ρ' g' cls d y S' o ⟨g1, hg, q'⟩
      exact hx F' H' cls d y g1 S'.ext (hg.cells S'.cell) (S'.out hg) o q'
/-- the def's qualified name within which lambdas stand -/
theorem lam_q {sc : Scope} {l f : Addr} {cd : Value} : (envOfC "law" sc l f cd).qual ++ "<lambda>" = lamQ := by rfl
open PySem PySem.Spec PyProof.Rows L2

/-! ### dicts with names as keys -/
def dget : List (Str × D) → Str → Option D
  | [], _ => none
  | (k, x) :: r, s => if k = s then some x else dget r s
def dput (kvs : List (Str × D)) (s : Str) (x : D) : List (Str × D) :=
  if (kvs.any fun kv => decide (kv.1 = s)) = true then kvs.map fun kv => if kv.1 = s then (kv.1, x) else kv else kvs ++ [(s, x)]
section
variable {K : PySem.W.Frag} {F F' H : Hp}
theorem inr_ne {k s : Str} (e : ¬ k = s) : ¬ (Sum.inr k : Key) = .inr s := fun z => e (Sum.inr.inj z)
theorem RpD.val {s : Str} {x : D} : ∀ {ks : List (Key × V)} {kvs : List (Str × D)}, RpD K F ks kvs → dget kvs s = some x → ∃ v, valV ks (.inr s) = some v ∧ Rp K F v x
  | _, _, .nil, h => by cases h
  | _, _, .cons (s := k) r t, h => by
    unfold dget at h
    by_cases e : k = s
    · rw [if_pos e] at h
      cases h
      exact ⟨_, valV_pos (by rw [e]), r⟩
    · rw [if_neg e] at h
      obtain ⟨v, h1, h2⟩ := RpD.val t h
      exact ⟨v, by rw [valV_neg (inr_ne e)]; exact h1, h2⟩
theorem RpD.valO {s : Str} : ∀ {ks : List (Key × V)} {kvs : List (Str × D)}, RpD K F ks kvs → (valV ks (.inr s)).isSome = (dget kvs s).isSome
  | _, _, .nil => rfl
  | _, _, .cons (s := k) r t => by
    unfold dget
    by_cases e : k = s
    · rw [if_pos e, valV_pos (by rw [e])]
      rfl
    · rw [if_neg e, valV_neg (inr_ne e)]
      exact RpD.valO t
theorem RpD.len : ∀ {ks : List (Key × V)} {kvs : List (Str × D)}, RpD K F ks kvs → ks.length = kvs.length
  | _, _, .nil => rfl
  | _, _, .cons _ t => by rw [List.length_cons, List.length_cons, RpD.len t]
theorem RpD.any {s : Str} : ∀ {ks : List (Key × V)} {kvs : List (Str × D)}, RpD K F ks kvs → (ks.any fun kv => decide (kv.1 = .inr s)) = (kvs.any fun kv => decide (kv.1 = s))
  | _, _, .nil => rfl
  | _, _, .cons (s := k) r t => by
    rw [List.any_cons, List.any_cons, RpD.any t]
    congr 1
    by_cases e : k = s
    · rw [decide_eq_true (by rw [e]), decide_eq_true e]
    · rw [decide_eq_false (inr_ne e), decide_eq_false e]
theorem RpD.repl {s : Str} {v : V} {x : D} (h : Rp K F v x) : ∀ {ks : List (Key × V)} {kvs : List (Str × D)}, RpD K F ks kvs → RpD K F (ks.map fun kv => if kv.1 = .inr s then (kv.1, v) else kv) (kvs.map fun kv => if kv.1 = s then (kv.1, x) else kv)
  | _, _, .nil => .nil
  | _, _, .cons (s := k) r t => by
    rw [List.map_cons, List.map_cons]
    dsimp only
    by_cases e : k = s
    · rw [if_pos (by rw [e]), if_pos e]
      exact .cons h (RpD.repl h t)
    · rw [if_neg (inr_ne e), if_neg e]
      exact .cons r (RpD.repl h t)
theorem RpD.snoc {s : Str} {v : V} {x : D} (h : Rp K F v x) : ∀ {ks : List (Key × V)} {kvs : List (Str × D)}, RpD K F ks kvs → RpD K F (ks ++ [(.inr s, v)]) (kvs ++ [(s, x)])
  | _, _, .nil => .cons h .nil
  | _, _, .cons r t => .cons r (RpD.snoc h t)
theorem RpD.put {s : Str} {v : V} {x : D} {ks : List (Key × V)} {kvs : List (Str × D)} (t : RpD K F ks kvs) (h : Rp K F v x) : RpD K F (putK ks (.inr s) v) (dput kvs s x) := by
  unfold putK dput
  rw [t.any]
  by_cases e : (kvs.any fun kv => decide (kv.1 = s)) = true
  · rw [if_pos e, if_pos e]; exact t.repl h
  · rw [if_neg e, if_neg e]; exact t.snoc h
end
section
variable {X : Cx} {K : PySem.W.Frag} {cn : Str → Option Addr} {W : WX} {e a b c : Expr} {es : List Expr} {pos : Pos} {m ma mb mc : ME} {st : Stmt} {rest : List Stmt} {ms mr : MS}
theorem rc_newOD {E : Ent} {F H : Hp} {σ : L2.St} {ρ : Env} {g : G} {k : U → Prop} {Q : VK} {vs : List (Key × V)} {xs : List (Str × D)} {p : Addr} (h : RC K E F H σ ρ g k Q) (S : Stt K E F H σ ρ g) (hp : H p = none) (r : RpD K F vs xs) (q : k (.own (.dct xs))) : Q (.ref p) (upd H p (.dK vs)) :=
  h _ _ (.ref p) (.own (.dct xs)) (S.newO hp) (Stp.newO hp) ⟨p, rfl, ⟨vs, upd_same, r⟩, S.freeF hp, S.freeG hp, S.trk p hp⟩ (fun a e => by cases e; exact hp) q
@[simp] def wDnew : ME := fun _ g Q _ => Q (.own (.dct [])) g
theorem re_dnew : PE X (.Dict [] [] pos) (cE X.K cn W wDnew) := pe_wk pe_dnewK fun σ H Q h => by
  obtain ⟨E, F, ρ, g, Qu, Qx, S, hm, hk, _⟩ := h
  exact fun p hp => hk _ _ (.ref p) (.own (.dct [])) g (S.newO hp) (Stp.newO hp) ⟨p, rfl, ⟨[], upd_same, .nil⟩, S.freeF hp, S.freeG hp, S.trk p hp⟩ (fun a e => by cases e; exact hp) hm
@[simp] def dictU : D → (U → Prop) → Prop
  | .dct kvs, k => k (.own (.dct kvs))
  | _, _ => False
theorem cs_dict : CallS X.K (fun xs H Q => ∃ (a : Addr) (kvs : List (Key × V)), xs = [.ref a] ∧ Rd H a (.dK kvs) ∧ ∀ p, H p = none → Q (.ref p) (upd H p (.dK kvs))) dictU := fun E F H σ ρ g v x k Q S hv hk rc => by
  unfold dictU at hk
  split at hk
  · obtain ⟨a, vs, rfl, ha, ra⟩ := hv.dct S.ext
    exact ⟨a, vs, rfl, ha, fun p hp => rc_newOD rc S hp ra hk⟩
  · exact hk.elim
/-! d[k] -/
@[simp] def dgetU : D → D → (U → Prop) → Prop
  | .dct kvs, .str s, k => ∃ x, dget kvs s = some x ∧ k (.d x)
  | _, _, _ => False
theorem os_dget : OpS K (fun x y H Q => ∃ a v, x = .ref a ∧ DGet H a y (some v) ∧ Q v H) dgetU := by
  intro E F H σ ρ g v1 v2 x1 x2 k Q S h1 h2 hk rc
  unfold dgetU at hk
  split at hk
  · obtain ⟨x, hx, q⟩ := hk
    obtain ⟨a, vs, rfl, ha, ra⟩ := h1.dct S.ext
    obtain ⟨v, hv, rv⟩ := ra.val hx
    rw [h2.str]
    exact ⟨a, v, rfl, by rw [← hv]; exact .inl ⟨vs, .inr _, ha, rfl, rfl⟩, rc_same rc S rv q⟩
  · exact hk.elim
theorem re_dget (hu : X.A.units + 64 < cLine) (ha : PE X a (cE X.K cn W ma)) (hb : PE X b (cE X.K cn W mb)) (hs : NoSl b := by exact fun _ _ => rfl) : PE X (.Subscript a b pos) (cE X.K cn W (wBin dgetU ma mb)) :=
  pe_wk (pe_dget (by omega) ha hb hs) (bin_ok os_dget)
/-! k in d -/
@[simp] def dinU (neg : Bool) : D → D → (U → Prop) → Prop
  | .str s, .dct kvs, k => k (.d (.bl (neg != (dget kvs s).isSome)))
  | _, _, _ => False
def rDIn (neg : Bool) : R2 := fun y x H Q => ∃ a o, x = .ref a ∧ DGet H a y o ∧ Q (.bl (neg != o.isSome)) H
theorem op_din (hu : X.A.units + 64 < cLine) : OpR X (compareOp .In) (rDIn false) := fun pins s σ H y x u v Q I ry rx h => by
  obtain ⟨a, o, rfl, g, q⟩ := h
  cases (show v = Value.ref a from rx)
  exact d_in (by omega) I g ry fun s3 I3 => ⟨.bl o.isSome, H, I3, rfl, by rwa [Bool.false_bne] at q⟩
theorem op_dnin (hu : X.A.units + 64 < cLine) : OpR X (compareOp .NotIn) (rDIn true) := fun pins s σ H y x u v Q I ry rx h => by
  obtain ⟨a, o, rfl, g, q⟩ := h
  cases (show v = Value.ref a from rx)
  exact d_notIn (by omega) I g ry fun s3 I3 => ⟨.bl (!o.isSome), H, I3, rfl, by rwa [Bool.true_bne] at q⟩
theorem os_din {neg : Bool} : OpS K (rDIn neg) (dinU neg) := by
  intro E F H σ ρ g v1 v2 x1 x2 k Q S h1 h2 hk rc
  unfold dinU at hk
  split at hk
  · obtain ⟨a, vs, rfl, ha, ra⟩ := h2.dct S.ext
    rw [h1.str]
    refine ⟨a, _, rfl, .inl ⟨vs, .inr _, ha, rfl, rfl⟩, ?_⟩
    rw [ra.valO]
    exact rc_same rc S (.bl _) hk
  · exact hk.elim

/-! ### an own object in a slot is changed -/
theorem Stt.slotO {E : Ent} {F H : Hp} {σ : L2.St} {ρ : Env} {g : G} {i : Nat} {o : O} (S : Stt K E F H σ ρ g) (h : ρ[i]? = some (some (.own o))) : ∃ a, σ[i]? = some (some (.ref a)) ∧ OOk K F H a o ∧ F a = none ∧ g a = none ∧ E.H a = none := by
  obtain ⟨v, h1, a, e, q1, q3, q4, q5⟩ := S.slot i _ h
  exact ⟨a, by rw [h1, e], q1, q3, q4, q5⟩
theorem Stt.mutO {E : Ent} {F H : Hp} {σ : L2.St} {ρ : Env} {g : G} {i : Nat} {o o' : O} {a : Addr} {w : HO} (S : Stt K E F H σ ρ g) (h : ρ[i]? = some (some (.own o))) (ha : σ[i]? = some (some (.ref a))) (r : OOk K F (upd H a w) a o') :
    Stt K E F (upd H a w) σ (ρ.set i (some (.own o'))) g := by
  obtain ⟨a', h1, h2, h4, h5, h6⟩ := S.slotO h
  rw [ha] at h1
  cases h1
  have S' := S.unset i
  have ns : ∀ (j : Nat) (p : O), (ρ.set i none)[j]? = some (some (.own p)) → j ≠ i ∧ σ[j]? ≠ some (some (.ref a)) := fun j p hj => by
    rw [List.getElem?_set] at hj
    by_cases e : i = j
    · rw [if_pos e] at hj
      by_cases l : i < ρ.length
      · rw [if_pos l] at hj; cases hj
      · rw [if_neg l] at hj; cases hj
    · rw [if_neg e] at hj
      exact ⟨fun z => e z.symm, fun hs => S.sep i j _ p h hj e (by rw [ha, hs])⟩
  have S2 := S'.poke (o := w) h4 h5 h6 (fun y e => by
    cases o with
    | lst xs => obtain ⟨vs, t, _⟩ := h2; rw [t] at e; cases e
    | dct xs => obtain ⟨vs, t, _⟩ := h2; rw [t] at e; cases e) fun j p hj hs => by
    obtain ⟨n1, n2⟩ := ns j p hj
    rw [List.getElem?_set_ne (fun z => n1 z.symm)] at hs
    exact n2 hs
  have S3 := S2.set (i := i) (v := .ref a) (u := .own o') ⟨a, rfl, r, h4, h5, h6⟩ fun o eo j p hj hne hs => by
    obtain ⟨n1, n2⟩ := ns j p hj
    rw [List.getElem?_set_ne (fun z => n1 z.symm)] at hs
    exact n2 hs
  rw [List.set_set, List.set_set, set_back ha] at S3
  exact S3
/-- x[k] = e, x an own dict -/
@[simp] def strK (u : U) (k : Str → Prop) : Prop := match u with
  | .d (.str s) => k s
  | _ => False
theorem strK_ok {E : Ent} {F H : Hp} {g : G} {v : V} {u : U} {k : Str → Prop} (o : UOk K E F H g v u) (h : strK u k) : ∃ s, v = .str s ∧ k s := by
  unfold strK at h
  split at h
  · have o' : Rp K F v (.str _) := o
    cases o'
    exact ⟨_, rfl, h⟩
  · exact h.elim
@[simp] def wStoD (j : Nat) (mi me : ME) : MS := fun ρ g P => match ρ[j]? with
  | some (some (.own (.dct kvs))) => me ρ g (fun u g1 => fzU u fun y => mi ρ g1 (fun w g2 => strK w fun s => kvs.length < sizeLine ∧ P.nx (ρ.set j (some (.own (.dct (dput kvs s y))))) g2) (xOf P ρ)) (xOf P ρ)
  | _ => False
theorem rs_stoD (j : Nat) {x : Str} {xpos tpos : Pos} {mi me : ME} (hu : X.A.units + 64 < cLine) (hi : PE X a (cE X.K cn W mi)) (he : PE X e (cE X.K cn W me)) (hN : X.N[j]? = some x := by rfl) (hv : Vis X.env.scope x := by first | exact Or.inl rfl | exact Or.inr (Or.inl rfl) | exact Or.inr (Or.inr rfl)) (hd : (x == ("__debug__" : Str)) = false := by decide)
    (hcd : (x == ("__classdict__" : Str)) = false := by decide) (hs : swapsWith e (some (.Subscript (.Name x xpos) a tpos)) pos.line X.env = pure false := by rfl) :
    PS X (.Assign [.Subscript (.Name x xpos) a tpos] e pos) (cS X.K cn W (wStoD j mi me)) := ps_wk (ps_dput (by omega) (pe_var (i := j) hN hv hd hcd) hi he hs) fun D σ H h => by
  obtain ⟨E, F, ρ, g, P, S, hm, C⟩ := h
  unfold wStoD at hm
  split at hm
  case h_2 => exact hm.elim
  rename_i kvs hj
  obtain ⟨l, ho, _⟩ := S.slotO hj
  refine ⟨E, F, ρ, g, _, _, S, hm, fun F1 H1 v u g1 S1 p1 o1 f1 q1 => ?_, C.xc σ ρ⟩
  obtain ⟨F2, y, S2, p2, r2, q2, _⟩ := fz_ok S S1 p1 o1 f1 q1
  refine ⟨.ref l, ho, E, F2, ρ, g1, _, _, S2, q2, fun F3 H3 w z g3 S3 p3 o3 f3 q3 => ?_, C.xc σ ρ⟩
  obtain ⟨s, rfl, hz, q⟩ := strK_ok o3 q3
  obtain ⟨l', k1, ⟨vs, k2, k3⟩, k4, k5, k6⟩ := S3.slotO hj
  rw [ho] at k1
  cases k1
  exact ⟨l, _, rfl, DPut.k (k := .inr s) k2 (by rw [k3.len]; exact hz), C.nx F3 _ σ _ g3 (S3.mutO (o' := .dct _) hj ho ⟨_, upd_same, k3.put (r2.mono p3.ext)⟩) q⟩

/-! ### an own object of an expression is shared; a shared one is frozen -/
@[simp] def O.cell : O → Cell
  | .lst xs => .lst xs
  | .dct kvs => .dct kvs
theorem Stt.toCell {E : Ent} {F H : Hp} {σ : L2.St} {ρ : Env} {g : G} {a : Addr} {o : O} (S : Stt K E F H σ ρ g) (h : OOk K F H a o) (f : F a = none) (z : g a = none) (fe : E.H a = none)
    (ns : ∀ (i : Nat) (p : O), ρ[i]? = some (some (.own p)) → σ[i]? ≠ some (some (.ref a))) : Stt K E F H σ ρ (setG g a o.cell) := by
  have gne : ∀ b, b ≠ a → setG g a o.cell b = g b := fun b hb => by unfold setG; rw [if_neg hb]
  refine ⟨S.ext, S.ext0, S.len, fun j u hj => ?_, S.sep, fun b c hc => ?_, fun b w k1 k2 k3 => ?_, S.trk⟩
  · obtain ⟨v, q1, q2⟩ := S.slot j u hj
    refine ⟨v, q1, ?_⟩
    cases u with
    | d x => exact q2
    | own p =>
      obtain ⟨b, eb, t1, t2, t3, t4⟩ := q2
      have hb : b ≠ a := fun y => ns j p hj (by rw [q1, eb, y])
      exact ⟨b, eb, t1, t2, by rw [gne b hb]; exact t3, t4⟩
    | bor p => exact q2
  · by_cases hb : b = a
    · subst hb
      unfold setG at hc
      rw [if_pos rfl] at hc
      cases hc
      refine ⟨?_, f⟩
      cases o with
      | lst xs => exact h
      | dct xs => exact h
    · rw [gne b hb] at hc
      exact S.cell b c hc
  · obtain ⟨t1, t2, t3⟩ := S.keep b w k1 k2 k3
    have hb : b ≠ a := fun y => by rw [y, fe] at k1; cases k1
    exact ⟨t1, t2, by rw [gne b hb]; exact t3⟩
/-- an object that comes from an expression is put into the store -/
@[simp] def wShr (m : ME) : ME := fun ρ g Q X => m ρ g (fun u g1 => match u with
  | .own o => ∀ a, g1 a = none → Q (.d (.ref a)) (setG g1 a o.cell)
  | _ => False) X
theorem re_shr (h : PE X e (cE X.K cn W m)) : PE X e (cE X.K cn W (wShr m)) := pe_wk h fun σ H Q hh => by
  obtain ⟨E, F, ρ, g, Qu, Qx, S, hm, hk, hx⟩ := hh
  refine ⟨E, F, ρ, g, _, Qx, S, hm, fun F1 H1 v u g1 S1 p1 o1 f1 q1 => ?_, hx⟩
  cases u with
  | d x => exact q1.elim
  | bor o => exact q1.elim
  | own o =>
    obtain ⟨a, rfl, h1, h2, h3, h4⟩ := o1
    have hn : H a = none := f1 a rfl
    have S2 := S1.toCell h1 h2 h3 h4 fun i p hp hs => by
      obtain ⟨v0, k1, b0, eb0, r1, _⟩ := S.slot i _ hp
      obtain ⟨w0, hw0⟩ := r1.there
      rw [k1] at hs
      cases hs
      cases eb0
      rw [hn] at hw0
      cases hw0
    refine hk F1 H1 (.ref a) (.d (.ref a)) _ S2 ⟨p1.ext, fun b o h1 h2 h3 => ?_, p1.trk⟩ (Rp.ref a) trivial (q1 a h3)
    obtain ⟨t1, t2, t3⟩ := p1.keep b o h1 h2 h3
    have hb : b ≠ a := fun y => by rw [y, hn] at h1; cases h1
    exact ⟨t1, t2, by unfold setG; rw [if_neg hb]; exact t3⟩
def unG (g : G) (a : Addr) : G := fun b => if b = a then none else g b
/-- a shared list or dict is frozen -/
theorem Stt.frzC {E : Ent} {F H : Hp} {σ : L2.St} {ρ : Env} {g : G} {a : Addr} {o : O} (S : Stt K E F H σ ρ g) (hg : g a = some o.cell) :
    ∃ u, H a = some u ∧ Stt K E (upd F a u) H σ ρ (unG g a) ∧ Rp K (upd F a u) (.ref a) o.fz ∧ Same F (upd F a u) := by
  obtain ⟨c1, f⟩ := S.cell a _ hg
  have h : OOk K F H a o := by cases o <;> exact c1
  obtain ⟨u, hu⟩ := h.there
  have e2 : Same F (upd F a u) := same_upd f
  have ne : ∀ b, b ≠ a → upd F a u b = F b := fun b hb => upd_ne hb
  have gne : ∀ b, b ≠ a → unG g a b = g b := fun b hb => by unfold unG; rw [if_neg hb]
  refine ⟨u, hu, ⟨fun b w q => ?_, S.ext0.trans e2, S.len, fun i x hx => ?_, S.sep, fun b c hc => ?_, fun b w h1 h2 h3 => ?_, S.trk⟩, h.rp e2 hu upd_same, e2⟩
  · by_cases hb : b = a
    · subst hb; rw [upd_same] at q; cases q; exact hu
    · rw [ne b hb] at q; exact S.ext b w q
  · obtain ⟨v, h1, h2⟩ := S.slot i x hx
    refine ⟨v, h1, ?_⟩
    cases x with
    | d y => exact h2.mono e2
    | own p =>
      obtain ⟨b, eb, q1, q2, q3, q4⟩ := h2
      have hba : b ≠ a := fun y => by rw [y, hg] at q3; cases q3
      exact ⟨b, eb, q1.at e2 fun w hw => hw, by rw [ne b hba]; exact q2, by rw [gne b hba]; exact q3, q4⟩
    | bor p => exact h2
  · have hba : b ≠ a := fun y => by
      unfold unG at hc
      rw [if_pos y] at hc
      cases hc
    rw [gne b hba] at hc
    obtain ⟨h1, h2⟩ := S.cell b c hc
    refine ⟨?_, by rw [ne b hba]; exact h2⟩
    cases c with
    | lst xs => obtain ⟨vs, t1, t2⟩ := h1; exact ⟨vs, t1, t2.mono e2⟩
    | dct xs => obtain ⟨vs, t1, t2⟩ := h1; exact ⟨vs, t1, t2.mono e2⟩
    | ins C fs =>
      obtain ⟨dx, vs, t1, t2, t3, t4⟩ := h1
      refine ⟨dx, vs, t1, t2, ?_, t4.mono e2⟩
      have hd : dx ≠ a := fun y => by
        rw [y] at t2
        cases o with
        | lst xs => obtain ⟨_, t5, _⟩ := h; rw [t2] at t5; cases t5
        | dct xs => obtain ⟨_, t5, _⟩ := h; rw [t2] at t5; cases t5
      rw [ne dx hd]; exact t3
    | ext ψ xs cs => obtain ⟨vs, t1, t2, t3⟩ := h1; exact ⟨vs, t1, t2.mono e2, fun c hc => e2 c _ (t3 c hc)⟩
    | tbl =>
      obtain ⟨ps, t1, t2, t3⟩ := h1
      exact ⟨ps, t1, t2, fun pos cv hc => (t3 pos cv hc).imp fun c q => ⟨q.1, e2 c _ q.2⟩⟩
  · obtain ⟨k1, k2, k3⟩ := S.keep b w h1 h2 h3
    have hba : b ≠ a := fun y => by rw [y, hg] at k3; cases k3
    exact ⟨k1, by rw [ne b hba]; exact k2, by rw [gne b hba]; exact k3⟩
/-- the shared list or dict that an expression gives is frozen -/
@[simp] def wIce (m : ME) : ME := fun ρ g Q X => m ρ g (fun u g1 => match u with
  | .d (.ref a) => ∃ o : O, g1 a = some o.cell ∧ Q (.d o.fz) (unG g1 a)
  | _ => False) X
theorem re_ice (h : PE X e (cE X.K cn W m)) : PE X e (cE X.K cn W (wIce m)) := pe_wk h fun σ H Q hh => by
  obtain ⟨E, F, ρ, g, Qu, Qx, S, hm, hk, hx⟩ := hh
  refine ⟨E, F, ρ, g, _, Qx, S, hm, fun F1 H1 v u g1 S1 p1 o1 f1 q1 => ?_, hx⟩
  dsimp only at q1
  split at q1
  · rename_i a
    obtain ⟨o, hg, q⟩ := q1
    have o1' : Rp X.K F1 v (.ref a) := o1
    cases o1'
    obtain ⟨w, hw, S2, r, e2⟩ := S1.frzC hg
    refine hk _ H1 (.ref a) (.d o.fz) _ S2 ⟨p1.ext.trans e2, fun b o' h1 h2 h3 => ?_, p1.trk⟩ r trivial q
    obtain ⟨k1, k2, k3⟩ := p1.keep b o' h1 h2 h3
    have hba : b ≠ a := fun y => by rw [y, hg] at k3; cases k3
    exact ⟨k1, by rw [upd_ne hba]; exact k2, by unfold unG; rw [if_neg hba]; exact k3⟩
  · exact q1.elim
end
open PySem PySem.Spec PyProof.Rows L2

/-! ### instances -/
def putFD (f : Str) (x : D) : List (Str × D) → List (Str × D)
  | [] => [(f, x)]
  | (k, y) :: r => if k = f then (k, x) :: r else (k, y) :: putFD f x r
section
variable {K : PySem.W.Frag} {F H : Hp}
theorem lk_pos {α : Type} {k f : Str} {v : α} {r : List (Str × α)} (e : k = f) : List.lookup f ((k, v) :: r) = some v := by
  rw [List.lookup_cons, e, beq_self_eq_true]
theorem lk_neg {α : Type} {k f : Str} {v : α} {r : List (Str × α)} (e : ¬ k = f) : List.lookup f ((k, v) :: r) = List.lookup f r := by
  rw [List.lookup_cons, beq_eq_false_iff_ne.mpr (fun z => e z.symm)]
theorem RpF.val {s : Str} {x : D} : ∀ {ks : List (Str × V)} {kvs : List (Str × D)}, RpF K F ks kvs → dget kvs s = some x → ∃ v, ks.lookup s = some v ∧ Rp K F v x
  | _, _, .nil, h => by cases h
  | _, _, .cons (s := k) r t, h => by
    unfold dget at h
    by_cases e : k = s
    · rw [if_pos e] at h
      cases h
      exact ⟨_, lk_pos e, r⟩
    · rw [if_neg e] at h
      obtain ⟨v, h1, h2⟩ := RpF.val t h
      exact ⟨v, by rw [lk_neg e]; exact h1, h2⟩
theorem RpF.valN {s : Str} : ∀ {ks : List (Str × V)} {kvs : List (Str × D)}, RpF K F ks kvs → dget kvs s = none → ks.lookup s = none
  | _, _, .nil, _ => rfl
  | _, _, .cons (s := k) r t, h => by
    unfold dget at h
    by_cases e : k = s
    · rw [if_pos e] at h
      cases h
    · rw [if_neg e] at h
      rw [lk_neg e]
      exact RpF.valN t h
theorem RpF.put {s : Str} {v : V} {x : D} (h : Rp K F v x) : ∀ {ks : List (Str × V)} {kvs : List (Str × D)}, RpF K F ks kvs → RpF K F (putF s v ks) (putFD s x kvs)
  | _, _, .nil => .cons h .nil
  | _, _, .cons (s := k) r t => by
    unfold putF putFD
    by_cases e : k = s
    · rw [if_pos e, if_pos e]; exact .cons h t
    · rw [if_neg e, if_neg e]; exact .cons r (RpF.put h t)
theorem RpF.len : ∀ {ks : List (Str × V)} {kvs : List (Str × D)}, RpF K F ks kvs → ks.length = kvs.length
  | _, _, .nil => rfl
  | _, _, .cons _ t => by rw [List.length_cons, List.length_cons, RpF.len t]
end
@[simp] def refU (u : U) (k : Addr → Prop) : Prop := match u with
  | .d (.ref a) => k a
  | _ => False
section
variable {X : Cx} {K : PySem.W.Frag} {cn : Str → Option Addr} {W : WX} {e a b c o : Expr} {es : List Expr} {pos : Pos} {m ma mb mc mo : ME} {st : Stmt} {rest : List Stmt} {ms mr : MS} {C : Addr} {f : Str}
theorem refU_ok {E : Ent} {F H : Hp} {g : G} {v : V} {u : U} {k : Addr → Prop} (o : UOk K E F H g v u) (h : refU u k) : ∃ a, v = .ref a ∧ u = .d (.ref a) ∧ k a := by
  unfold refU at h
  split at h
  · have o' : Rp K F v (.ref _) := o
    cases o'
    exact ⟨_, rfl, rfl, h⟩
  · exact h.elim
@[simp] def wFld (C : Addr) (f : Str) (m : ME) : ME := fun ρ g Q X => m ρ g (fun u g1 => refU u fun a => ∃ fs x, g1 a = some (.ins C fs) ∧ dget fs f = some x ∧ Q (.d x) g1) X
theorem re_fld (cl : Cls X.K C) (n : NoAttr X.K C f) (he : PE X e (cE X.K cn W m)) (hb : attributeBase e f X.env (eval e X.env) = eval e X.env := by rfl) : PE X (.Attribute e f pos) (cE X.K cn W (wFld C f m)) := pe_wk (pe_fld he hb) fun σ H Q h => by
  obtain ⟨E, F, ρ, g, Qu, Qx, S, hm, hk, hx⟩ := h
  refine ⟨E, F, ρ, g, _, Qx, S, hm, fun F1 H1 v u g1 S1 p1 o1 f1 q1 => ?_, hx⟩
  obtain ⟨a, rfl, _, fs, x, hg, hl, q⟩ := refU_ok o1 q1
  obtain ⟨⟨dx, vs, t1, t2, t3, t4⟩, t5⟩ := S1.cell a _ hg
  obtain ⟨v, hv, rv⟩ := t4.val hl
  exact ⟨a, C, dx, vs, v, rfl, t1, cl, n, hv, hk F1 H1 v (.d x) g1 S1 p1 rv trivial q⟩
theorem Stt.mutI {E : Ent} {F H : Hp} {σ : L2.St} {ρ : Env} {g : G} {l dx : Addr} {fs fs' : List (Str × D)} {vs ws : List (Str × V)} (S : Stt K E F H σ ρ g) (hg : g l = some (.ins C fs)) (t1 : H l = some (.ins C dx vs)) (t2 : H dx = some (.own l)) (r : RpF K F ws fs') : Stt K E F (upd H l (.ins C dx ws)) σ ρ (setG g l (.ins C fs')) := by
  obtain ⟨⟨dx', vs', u1, u2, u3, u4⟩, t3⟩ := S.cell l _ hg
  rw [t1] at u1
  cases u1
  have gne : ∀ b, b ≠ l → setG g l (.ins C fs') b = g b := fun b hb => by unfold setG; rw [if_neg hb]
  have hne : ∀ b, b ≠ l → upd H l (.ins C dx ws) b = H b := fun b hb => upd_ne hb
  have dl : ∀ b y, H b = some (.own y) → b ≠ l := fun b y hb z => by rw [z, t1] at hb; cases hb
  refine ⟨fun b w' hb => ?_, S.ext0, S.len, fun i' u' hi' => ?_, S.sep, fun b c' hc => ?_, fun b o' e1 e2 e3 => ?_, fun b hb => S.trk b (upd_free hb)⟩
  · rw [hne b (fun z => by rw [z, t3] at hb; cases hb)]; exact S.ext b w' hb
  · obtain ⟨v2, s1, s2⟩ := S.slot i' u' hi'
    refine ⟨v2, s1, ?_⟩
    cases u' with
    | d x => exact s2
    | own p =>
      obtain ⟨b, eb, y1, y2, y3, y4⟩ := s2
      have hb : b ≠ l := fun z => by rw [z, hg] at y3; cases y3
      exact ⟨b, eb, y1.at (Same.refl F) fun w1 hw1 => by rw [hne b hb]; exact hw1, y2, by rw [gne b hb]; exact y3, y4⟩
    | bor p => exact s2
  · by_cases hb : b = l
    · subst hb
      unfold setG at hc
      rw [if_pos rfl] at hc
      cases hc
      exact ⟨⟨dx, ws, upd_same, by rw [hne dx (dl _ _ t2)]; exact t2, u3, r⟩, t3⟩
    · rw [gne b hb] at hc
      obtain ⟨y1, y2⟩ := S.cell b c' hc
      refine ⟨?_, y2⟩
      cases c' with
      | lst zs => obtain ⟨ws', z1, z2⟩ := y1; exact ⟨ws', by rw [hne b hb]; exact z1, z2⟩
      | dct zs => obtain ⟨ws', z1, z2⟩ := y1; exact ⟨ws', by rw [hne b hb]; exact z1, z2⟩
      | ins C' fs2 =>
        obtain ⟨dx2, ws', z1, z2, z3, z4⟩ := y1
        exact ⟨dx2, ws', by rw [hne b hb]; exact z1, by rw [hne dx2 (dl _ _ z2)]; exact z2, z3, z4⟩
      | ext ψ zs cs => obtain ⟨ws', z1, z2⟩ := y1; exact ⟨ws', by rw [hne b hb]; exact z1, z2⟩
      | tbl =>
        obtain ⟨ps, z1, z2, z3⟩ := y1
        exact ⟨ps, by rw [hne b hb]; exact z1, z2, z3⟩
  · obtain ⟨y1, y2, y3⟩ := S.keep b o' e1 e2 e3
    have hb : b ≠ l := fun z => by rw [z, hg] at y3; cases y3
    exact ⟨by rw [hne b hb]; exact y1, y2, by rw [gne b hb]; exact y3⟩
/-- o.f = v -/
@[simp] def wOst (C : Addr) (f : Str) (mo mv : ME) : MS := fun ρ g P => mv ρ g (fun u g1 => fzU u fun y => mo ρ g1 (fun w g2 => refU w fun a => ∃ fs, g2 a = some (.ins C fs) ∧ fs.length < 1000 ∧ P.nx ρ (setG g2 a (.ins C (putFD f y fs)))) (xOf P ρ)) (xOf P ρ)
theorem rs_ost {value : Expr} {pos' : Pos} {mv : ME} (cl : Cls X.K C) (n : NoAttr X.K C f) (ha : PE X o (cE X.K cn W mo)) (hv : PE X value (cE X.K cn W mv)) (hs : swapsWith value (some (.Attribute o f pos')) pos.line X.env = pure false := by rfl) :
    PS X (.Assign [.Attribute o f pos'] value pos) (cS X.K cn W (wOst C f mo mv)) := ps_wk (ps_fld ha hv hs) fun D σ H h => by
  obtain ⟨E, F, ρ, g, P, S, hm, Cn⟩ := h
  refine ⟨E, F, ρ, g, _, _, S, hm, fun F1 H1 v u g1 S1 p1 o1 f1 q1 => ?_, Cn.xc σ ρ⟩
  obtain ⟨F2, y, S2, p2, r2, q2, _⟩ := fz_ok S S1 p1 o1 f1 q1
  refine ⟨E, F2, ρ, g1, _, _, S2, q2, fun F3 H3 w z g3 S3 p3 o3 f3 q3 => ?_, Cn.xc σ ρ⟩
  obtain ⟨a, rfl, _, fs, hg, hl, q⟩ := refU_ok o3 q3
  obtain ⟨⟨dx, vs, t1, t2, t3, t4⟩, t5⟩ := S3.cell a _ hg
  exact ⟨a, C, dx, vs, rfl, t1, cl, n, by rw [t4.len]; exact hl, Cn.nx F3 _ σ ρ _ (S3.mutI hg t1 t2 (t4.put (r2.mono p3.ext))) q⟩
/-- o.m(..) -/
@[simp] def wMeth (C : Addr) (m : Str) (sp : SpU) (mo : ME) (ma : MA) : ME := fun ρ g Q X => mo ρ g (fun u g1 => refU u fun a => ∃ fs, g1 a = some (.ins C fs) ∧ dget fs m = none ∧ ma ρ g1 (fun xs g2 => sp (.ref a :: xs) g2 Q noX) X) X
theorem re_meth {k : Nat} {sp : SpU} {x : Str} {apos : Pos} {fa : Addr} {fd : FuncData} {ps : List Str} {mx : MA} {pl : Sem Bool} (cl : Cls X.K C) (hm : Meth X.K C x fa) (F : FnOk X.prog X.w X.K X.mg X.base CX0 k fa fd ps (LSp0 X.K cn sp)) (hb : Binds X.K fd ps []) (hr : Room k X.A) (he : PE X o (cE X.K cn W mo)) (ha : PA X (e :: es) (cA X.K cn W mx))
    (hst : starEach (e :: es) X.env = (false, eval e X.env) :: starEach es X.env := by rfl) (hpl : (backTo pos (starEach es X.env)).any (·.1) = false := by rfl)
    (ht : eval (.Call (.Attribute o x apos) (e :: es) [] pos) X.env = (do
      let ov ← eval o X.env
      standAt apos.atName
      let (f, first) ← holding [ov] (getMethod ov x pl)
      callWith pos f first (backTo pos (starEach (e :: es) X.env)) (backToKw pos (keywordEach [] X.env))) := by rfl) :
    PE X (.Call (.Attribute o x apos) (e :: es) [] pos) (cE X.K cn W (wMeth C x sp mo mx)) :=
  pe_wk (pe_meth (E := fun _ _ _ => False) (dvs := []) (pl := pl) he cl hm F hr hb .nil (fun _ _ _ _ _ _ _ h => h.elim) ha hst hpl ht) fun σ H Q h => by
    obtain ⟨E, F', ρ, g, Qu, Qx, S, hm', hk, hx⟩ := h
    refine ⟨E, F', ρ, g, _, Qx, S, hm', fun F1 H1 v u g1 S1 p1 o1 f1 q1 => ?_, hx⟩
    obtain ⟨a, rfl, _, fs, hg, hl, q⟩ := refU_ok o1 q1
    obtain ⟨⟨dx, vs, t1, t2, t3, t4⟩, t5⟩ := S1.cell a _ hg
    refine ⟨a, dx, vs, rfl, t1, t4.valN hl, E, F1, ρ, g1, _, Qx, S1, q, fun F2 H2 us xs g2 S2 p2 r2 q2 => ?_, hx⟩
    dsimp only
    rw [List.append_nil]
    refine ⟨F2, g2, .ref a :: xs, Qu, noX, S2.ext, S2.cell, .cons (.ref a) r2, q2, fun F3 H3 w z g3 e3 c3 p3 o3 _ q3 => ?_, fun _ _ _ _ _ _ _ _ _ _ q3 => q3⟩
    exact hk F3 H3 w z g3 (S2.stp p3 e3 c3) ((p1.trans p2).trans p3) (uok_from o3 S2.trk) ((fresh_from o3).back (p1.trans p2)) q3
/-- C(..) -/
@[simp] def wMake (C : Addr) (sp : SpU) (ma : MA) : ME := fun ρ g Q X => ma ρ g (fun xs g1 => ∀ a, g1 a = none → sp (.ref a :: xs) (setG g1 a (.ins C [])) (fun u g2 => u = .d .non ∧ Q (.d (.ref a)) g2) noX) X
theorem Stt.newI {E : Ent} {F H : Hp} {σ : L2.St} {ρ : Env} {g : G} {x dx : Addr} (S : Stt K E F H σ ρ g) (hx : H x = none) (hd : H dx = none) (ne : dx ≠ x) :
    Stt K E F (upd (upd H dx (.own x)) x (.ins C dx [])) σ ρ (setG g x (.ins C [])) ∧ Stp g F H (setG g x (.ins C [])) F (upd (upd H dx (.own x)) x (.ins C dx [])) := by
  have hx2 : upd H dx (.own x) x = none := by rw [upd_ne (fun z => ne z.symm)]; exact hx
  have S2 := (S.newO (o := .own x) hd).newO (o := .ins C dx []) hx2
  have gne : ∀ b, b ≠ x → setG g x (.ins C []) b = g b := fun b hb => by unfold setG; rw [if_neg hb]
  have hne : ∀ b o, H b = some o → upd (upd H dx (.own x)) x (.ins C dx []) b = some o := fun b o hb => by
    rw [upd_ne (ne_of_none hb hx), upd_ne (ne_of_none hb hd)]; exact hb
  have p0 : Stp g F H (setG g x (.ins C [])) F (upd (upd H dx (.own x)) x (.ins C dx [])) := ⟨Same.refl F, fun b o h1 h2 h3 => ⟨hne b o h1, h2, by rw [gne b (ne_of_none h1 hx)]; exact h3⟩, fun b h => upd_free (upd_free h)⟩
  refine ⟨⟨S2.ext, S2.ext0, S2.len, fun j u hj => ?_, S2.sep, fun b c hc => ?_, fun b w k1 k2 k3 => ?_, S2.trk⟩, p0⟩
  · obtain ⟨v, q1, q2⟩ := S2.slot j u hj
    refine ⟨v, q1, ?_⟩
    cases u with
    | d y => exact q2
    | own p =>
      obtain ⟨v', r1, b', eb', s1, _⟩ := S.slot j _ hj
      rw [q1] at r1
      cases r1
      obtain ⟨b, eb, t1, t2, t3, t4⟩ := q2
      rw [eb] at eb'
      cases eb'
      obtain ⟨w, hw⟩ := s1.there
      exact ⟨b', eb, t1, t2, by rw [gne b' (ne_of_none hw hx)]; exact t3, t4⟩
    | bor p => exact q2
  · by_cases hb : b = x
    · subst hb
      unfold setG at hc
      rw [if_pos rfl] at hc
      cases hc
      exact ⟨⟨dx, [], upd_same, by rw [upd_ne ne, upd_same], S.freeF hd, .nil⟩, S.freeF hx⟩
    · rw [gne b hb] at hc
      exact S2.cell b c hc
  · obtain ⟨t1, t2, t3⟩ := S2.keep b w k1 k2 k3
    have hb : b ≠ x := fun y => by rw [y, S.trk x hx] at k1; cases k1
    exact ⟨t1, t2, by rw [gne b hb]; exact t3⟩
theorem re_make {k : Nat} {sp : SpU} {x : Str} {p : Pos} {fa : Addr} {fd : FuncData} {ps : List Str} {mx : MA} (M : Mk X.K C fa) (F : FnOk X.prog X.w X.K X.mg X.base CX0 k fa fd ps (LSp0 X.K cn sp)) (hb : Binds X.K fd ps []) (hr : Room (k + 1) X.A) (hg : Gl X x) (hm : X.mg x = some (.ref C)) (ha : PA X (e :: es) (cA X.K cn W mx)) (hdb : (x == ("__debug__" : Str)) = false := by decide)
    (he : starEach (e :: es) X.env = (false, eval e X.env) :: starEach es X.env := by rfl) (hpl : (backTo pos (starEach es X.env)).any (·.1) = false := by rfl) : PE X (.Call (.Name x p) (e :: es) [] pos) (cE X.K cn W (wMake C sp mx)) :=
  pe_wk (pe_make (E := fun _ _ _ => False) (dvs := []) M F hr hg hm hb .nil (fun _ _ _ _ _ _ _ h => h.elim) ha hdb he hpl) fun σ H Q h => by
    obtain ⟨E, F', ρ, g, Qu, Qx, S, hm', hk, hx⟩ := h
    refine ⟨E, F', ρ, g, _, Qx, S, hm', fun F1 H1 us xs g1 S1 p1 r1 q1 => fun x dx h1 h2 ne => ?_, hx⟩
    rw [List.append_nil]
    obtain ⟨S2, p2⟩ := S1.newI (C := C) h1 h2 ne
    refine ⟨F1, _, .ref x :: xs, _, noX, S2.ext, S2.cell, .cons (.ref x) r1, q1 x (S1.freeG h1), fun F3 H3 w z g3 e3 c3 p3 o3 _ q3 => ?_, fun _ _ _ _ _ _ _ _ _ _ q3 => q3⟩
    obtain ⟨rfl, q⟩ := q3
    have o3' : Rp X.K F3 w .non := o3
    cases o3'
    exact ⟨rfl, hk F3 H3 (.ref x) (.d (.ref x)) g3 (S2.stp p3 e3 c3) ((p1.trans p2).trans p3) (Rp.ref x) trivial q⟩
/-- o.append(e), o a shared list -/
@[simp] def wAppE (mo m : ME) : MS := fun ρ g P => mo ρ g (fun u g1 => refU u fun a => (∃ xs, g1 a = some (.lst xs)) ∧ m ρ g1 (fun w g2 => fzU w fun y => ∃ xs, g2 a = some (.lst xs) ∧ xs.length < sizeLine ∧ P.nx ρ (setG g2 a (.lst (xs ++ [y])))) (xOf P ρ)) (xOf P ρ)
theorem rs_appE {apos cpos : Pos} (ho : PE X o (cE X.K cn W mo)) (he : PE X e (cE X.K cn W m)) (hbase : attributeBase o "append" X.env (eval o X.env) = eval o X.env := by rfl)
    (hfew : ((backTo cpos (starEach [e] X.env)).all (fun x => !x.1) && (backToKw cpos (keywordEach [] X.env)).all (fun x => x.1.isSome) && decide ([e].length + ([] : List Keyword).length + (if ([] : List Keyword).isEmpty then 0 else 1) < 30)) = true := by rfl)
    (hline : (apos.endLine == cpos.line) = true := by rfl) (hs1 : starEach [e] X.env = (false, eval e X.env) :: starEach [] X.env := by rfl) (hplain : (backTo cpos (starEach [] X.env)).any (·.1) = false := by rfl)
    (hs : swapsWith (.Call (.Attribute o "append" apos) [e] [] cpos) none pos.line X.env = pure false := by rfl) :
    PS X (.Expr (.Call (.Attribute o "append" apos) [e] [] cpos) pos) (cS X.K cn W (wAppE mo m)) :=
  ps_wk (ps_expr (pe_bm PySem.F.plainAttrs_list PySem.F.slot_list_append PySem.F.type_list_append mt_append ho (pa_cons he pa_nil (hs := hs1)) hbase hfew hline hs1 hplain) hs) fun D σ H h => by
    obtain ⟨E, F, ρ, g, P, S, hm, Cn⟩ := h
    refine ⟨E, F, ρ, g, _, _, S, hm, fun F0 H0 v0 u0 g0 S0 p0 o0 f0 q0 => ?_, Cn.xc σ ρ⟩
    obtain ⟨a, rfl, _, ⟨xs0, hg0⟩, q0⟩ := refU_ok o0 q0
    obtain ⟨⟨vs0, h0, _⟩, _⟩ := S0.cell a _ hg0
    refine ⟨.inl ⟨rfl, vs0, .inl (.inl h0)⟩, ?_⟩
    refine ⟨E, F0, ρ, g0, _, _, S0, q0, fun F1 H1 v u g1 S1 p1 o1 f1 q1 => ?_, Cn.xc σ ρ⟩
    obtain ⟨F2, y, S2, p2, r2, q2, _⟩ := fz_ok S0 S1 p1 o1 f1 q1
    obtain ⟨xs, hg, hl, q⟩ := q2
    obtain ⟨⟨ws, t1, t2⟩, t3⟩ := S2.cell a _ hg
    exact ⟨_, ws, v, rfl, rfl, t1, by rw [t2.len]; exact hl, Cn.nx F2 _ σ ρ _ (S2.mutC hg (t2.app (.cons r2 .nil))) q⟩
/-! for over a shared list, which stays as it is -/
@[simp] def forLoopC (a : Addr) (xs0 : List D) (mg : MG) (mb : MS) : List D → Env → G → Post → Prop
  | [], ρ, g, P => P.nx ρ g
  | x :: xs, ρ, g, P => mg x ρ fun ρ1 => mb ρ1 g (loopP (fun ρ' g' => g' a = some (.lst xs0) ∧ forLoopC a xs0 mg mb xs ρ' g' P) P)
@[simp] def wForC (m : ME) (mg : MG) (mb : MS) : MS := fun ρ g P => m ρ g (fun u g1 => refU u fun a => ∃ xs, g1 a = some (.lst xs) ∧ forLoopC a xs mg mb xs ρ g1 P) (xOf P ρ)
theorem walk_cell {a : Addr} (n : Nat) : Walk (Itl K a) n (fun H => ∃ vs, H a = some (.lst vs) ∧ vs.length = n) (fun i H v H' => H' = H ∧ ∃ vs, H a = some (.lst vs) ∧ vs[i]? = some v) where
  goes := fun i H hi ⟨vs, h, e⟩ => (walk_list (K := K) (a := a) (xs := vs)).goes i H (by rw [e]; exact hi) (.inl (.inl h))
  stops := fun H ⟨vs, h, e⟩ => by
    have := (walk_list (K := K) (a := a) (xs := vs)).stops H (.inl (.inl h))
    rwa [e] at this
  yields := fun i H x H' hi ⟨vs, h, e⟩ y => by
    obtain ⟨e1, e2⟩ := (walk_list (K := K) (a := a) (xs := vs)).yields i H x H' (by rw [e]; exact hi) (.inl (.inl h)) y
    exact ⟨e1, vs, h, e2⟩
theorem rs_forC {tg iter : Expr} {body : List Stmt} {t : TG} {mg : MG} {is : List Nat} (hp : PassesOwn (model X.prog X.w) X.A X.env X.xe) (hc : X.calm = true) (hi : PE X iter (cE X.K cn W m)) (hg : PG X tg t) (to : TgOk X.K is t mg) (hb : PSs X body (cS X.K cn W ms))
    (hs : ∀ x, foldedSetIterable iter X.env x = pure x := by intro _; rfl) : PS X (.For tg iter body [] pos) (cS X.K cn W (wForC m mg ms)) := ps_wk (ps_for hp hc (pi_seq hi) hg hb hs) fun D σ H h => by
  obtain ⟨E, F, ρ, g, P, S, hm, Cn⟩ := h
  refine ⟨E, F, ρ, g, _, _, S, hm, fun F1 H1 v u g1 S1 p1 o1 f1 q1 => ?_, Cn.xc σ ρ⟩
  obtain ⟨a, rfl, _, xs, hga, lp⟩ := refU_ok o1 q1
  obtain ⟨⟨vs, t1, t2⟩, t3⟩ := S1.cell a _ hga
  refine .inl ⟨a, rfl, ⟨vs, .inl (.inl t1)⟩, ?_⟩
  refine for_it (walk_cell xs.length) (fun i σ' H' => ∃ F' ρ' g', Stt X.K ⟨F1, E.H, E.g⟩ F' H' σ' ρ' g' ∧ g' a = some (.lst xs) ∧ forLoopC a xs mg ms (xs.drop i) ρ' g' P) ⟨F1, ρ, g1, S1.up S1 (Same.refl F1), hga, lp⟩ (fun i σ' H' _ ⟨F', ρ', g', S', hg', _⟩ => ?_) ?_ ?_
  · obtain ⟨⟨ws, u1, u2⟩, _⟩ := S'.cell a _ hg'
    exact ⟨ws, u1, u2.len⟩
  · rintro i x σ2 H2 H3 hi2 ⟨F2, ρ2, g2, S2, hg2, lp2⟩ ⟨rfl, ws, w1, w2⟩
    obtain ⟨⟨ws', u1, u2⟩, _⟩ := S2.cell a _ hg2
    rw [w1] at u1
    cases u1
    obtain ⟨d, hd, r3⟩ := u2.got w2
    have drop_i : xs.drop i = d :: xs.drop (i + 1) := by
      obtain ⟨hi', e'⟩ := List.getElem?_eq_some_iff.mp hd
      rw [List.drop_eq_getElem_cons hi', e']
    rw [drop_i] at lp2
    refine to _ F2 H3 σ2 ρ2 g2 x d _ _ S2 r3 lp2 fun σ4 ρ4 S4 _ _ q4 => ?_
    refine ⟨⟨F1, E.H, E.g⟩, F2, ρ4, g2, _, S4, q4, ⟨fun F' H' σ' ρ' g' S' q => ⟨F', ρ', g', S', q⟩, fun F' H' σ' ρ' g' S' q => Cn.nx F' H' σ' ρ' g' (S1.down S') q, fun F' H' σ' ρ' g' S' q => ⟨F', ρ', g', S', q⟩, ?_, ?_⟩⟩
    · exact fun F' H' σ' ρ' g' v u S' o n q => Cn.rt F' H' σ' ρ' g' v u (S1.down S') (uok_E o) n q
    · exact fun F' H' σ' ρ' g' cls d x S' o q => Cn.ex F' H' σ' ρ' g' cls d x (S1.down S') o q
  · rintro σ2 H2 ⟨F2, ρ2, g2, S2, hg2, lp2⟩
    rw [List.drop_length] at lp2
    exact Cn.nx F2 H2 σ2 ρ2 g2 (S1.down S2) lp2
end
end Y

/-! != of lists within one model -/
namespace Y
open PySem PySem.Spec PyProof.Rows L2
section
open PySem.SeqAt AutoSeq1 MeetsSeq MeetsSeq2 MeetsSeq3 SeqRoads2
variable {prog : Program} {w : World}
theorem ne_loopP (l b : Addr) (us ws : Array Value) (n n2 : Nat) (d1 d2 : Option Addr) (s1 s2 : Array (Option Value)) (hz : us.size = ws.size) (e : Nat → Bool) (k : Nat) :
    ∀ i : Nat, us.size - i = k → MeetsIn prog w (Builtin.«list.__eq__.loop» ⟨[.ref l, .ref b, rawInt i, rawInt 3], []⟩)
      (fun A R s => s.heap.get? l = some { cls := .type "list", dict := d1, data := .seq us n, slots := s1 } ∧ s.heap.get? b = some { cls := .type "list", dict := d2, data := .seq ws n2, slots := s2 } ∧
        (∀ j (h1 : j < us.size) (h2 : j < ws.size), SeqAt.EqP prog w A.in1 s us[j] ws[j] (e j)) ∧ R (.ok (.ret (.bool (!((List.range us.size).drop i).all e)))) s) := by
  induction k with
  | zero =>
    intro i hk A R s hq
    obtain ⟨hp, gg, dr, tk, os⟩ := s; obtain ⟨hL, hB, hE, hq⟩ := hq
    wp_walk using AutoSeq1.wpAny_loadPart' hL, AutoSeq1.wpAny_loadPart' hB
    have u1 : us[((i : Nat) : Int).toNat]? = none := by simp; omega
    have u2 : ws[((i : Nat) : Int).toNat]? = none := by simp; omega
    have hd : (List.range us.size).drop i = [] := by simp; omega
    rw [hd] at hq
    rw [u1, u2]
    wp_walk using AutoSeq1.wpAny_loadPart' hL, AutoSeq1.wpAny_loadPart' hB
    show R (.ok (.ret (.bool (us.size != ws.size)))) _
    rw [hz]
    simpa using hq
  | succ k ih =>
    intro i hk A R s hq
    obtain ⟨hp, gg, dr, tk, os⟩ := s; obtain ⟨hL, hB, hE, hq⟩ := hq
    wp_walk using AutoSeq1.wpAny_loadPart' hL, AutoSeq1.wpAny_loadPart' hB
    have l1 : i < us.size := by omega
    have l2 : i < ws.size := by omega
    have u1 : us[((i : Nat) : Int).toNat]? = some us[i] := by simp [l1]
    have u2 : ws[((i : Nat) : Int).toNat]? = some ws[i] := by simp [l2]
    have hd : (List.range us.size).drop i = i :: (List.range us.size).drop (i + 1) := by simp [List.drop_eq_getElem_cons, l1]
    have hc : ((i : Int) + 1) = ((i + 1 : Nat) : Int) := by push_cast; rfl
    rw [hd, List.all_cons] at hq
    rw [u1, u2]
    refine wpAny_bind (hE i l1 l2 _ _ ?_)
    cases hb' : e i with
    | true =>
      rw [hb'] at hq
      wp_walk
      rw [hc]
      exact ⟨plainId_quiet plain_eq_loop _, codeAny_builtin entry_eq_loop (by
        rw [Around.under_plainId plain_eq_loop _]
        exact ih (i + 1) (by omega) A R _ ⟨hL, hB, hE, by simpa using hq⟩)⟩
    | false =>
      rw [hb'] at hq
      wp_walk using AutoSeq1.wpAny_loadPart' hL, AutoSeq1.wpAny_loadPart' hB
      rw [u1, u2]
      wp_walk
      simpa using hq
theorem list_neP (l b : Addr) (us ws : Array Value) (n n2 : Nat) (d1 d2 : Option Addr) (s1 s2 : Array (Option Value)) (hz : us.size = ws.size) (e : Nat → Bool) :
    MeetsIn prog w (Builtin.«list.__ne__» ⟨[.ref l, .ref b], []⟩)
      (fun A R s => s.heap.get? l = some { cls := .type "list", dict := d1, data := .seq us n, slots := s1 } ∧ s.heap.get? b = some { cls := .type "list", dict := d2, data := .seq ws n2, slots := s2 } ∧
        (∀ j (h1 : j < us.size) (h2 : j < ws.size), SeqAt.EqP prog w A.in1 s us[j] ws[j] (e j)) ∧ R (.ok (.ret (.bool (!(List.range us.size).all e)))) s) := by
  intro A R s hq
  obtain ⟨hp, gg, dr, tk, os⟩ := s; obtain ⟨hL, hB, hE, hq⟩ := hq
  have f3 := AutoSeq1.sub_list_list
  have hne : ¬ (us.size != ws.size) = true := by simp [hz]
  wp_walk using AutoSeq1.wpAny_loadPart' hL, AutoSeq1.wpAny_loadPart' hB
  exact ⟨plainId_quiet plain_eq_loop _, codeAny_builtin entry_eq_loop (by
    rw [Around.under_plainId plain_eq_loop _]
    exact ne_loopP l b us ws n n2 d1 d2 s1 s2 hz e _ 0 rfl A R _ ⟨hL, hB, hE, by simpa using hq⟩)⟩
theorem rcN_lists {A : Around} {s : Shared} {l b : Addr} {us ws : Array Value} {e : Nat → Bool} (hl : s.heap.IsList l us) (hb : s.heap.IsList b ws) (hz : us.size = ws.size) (hu : A.units < cLine)
    (he : ∀ j (h1 : j < us.size) (h2 : j < ws.size), SeqAt.EqP prog w A.in1 s us[j] ws[j] (e j)) (E Q : Value → Shared → Prop) (h : Q (.bool (!(List.range us.size).all e)) s) : wpAny (model prog w) A (richCompare .NotEq (.ref l) (.ref b)) Q E s := by
  obtain ⟨⟨c1, dd, data, sl⟩, ho, hc, n, hd⟩ := id hl
  obtain ⟨⟨c2, dd2, data2, sl2⟩, ho2, hc2, n2, hd2⟩ := id hb
  simp only at hc hd hc2 hd2
  subst hc hd hc2 hd2
  have ta : s.TypeIs (.ref l) "list" := ⟨_, ho, rfl⟩
  have tb : s.TypeIs (.ref b) "list" := ⟨_, ho2, rfl⟩
  exact wpAny_richCompare_same_room (op := .NotEq) ta tb F.slot_list_ne (call_meetsIn F.slot_list_ne ta F.entry_list_ne (F.args_list_ne_2 _ _) (list_neP l b us ws n n2 dd dd2 sl sl2 hz e)
    ⟨ho, ho2, he, show Value.bool (!(List.range us.size).all e) ≠ Value.notImplemented ∧ Q (.bool (!(List.range us.size).all e)) s from ⟨(fun x => nomatch x), h⟩⟩) hu
end

/-! ### == and != of dicts, of lists of dicts -/
def okV (kvs : List (Str × D)) : Bool := kvs.all fun p => okD p.2
def dictEq (a b : List (Str × D)) : Bool := (a.length == b.length) && a.all fun p => match dget b p.1 with
  | some y => eqD p.2 y
  | none => false
def okDct : D → Bool
  | .dct kvs => okV kvs
  | _ => false
def dctEq : D → D → Bool
  | .dct a, .dct b => dictEq a b
  | _, _ => false
def lstEq : List D → List D → Bool
  | [], [] => true
  | x :: xs, y :: ys => dctEq x y && lstEq xs ys
  | _, _ => false
@[simp] def qeqU (neg : Bool) : D → D → (U → Prop) → Prop
  | .dct a, .dct b, k => (okV a = true ∧ okV b = true) ∧ k (.d (.bl (neg != dictEq a b)))
  | .lst xs, .lst ys, k => (xs.all okDct = true ∧ ys.all okDct = true) ∧ ((lstEq xs ys = true ∧ k (.d (.bl (neg != true)))) ∨ (xs.length ≠ ys.length ∧ k (.d (.bl (neg != false)))))
  | _, _, _ => False
section
variable {X : Cx} {pins : List (Addr × Obj)} {σ : L2.St} {H F : Hp} {s : Shared}
theorem rp_eqP (I : Inv X pins σ H s) (e : Same F H) {v1 v2 : V} {x y : D} {u1 u2 : Value} {A : Around} (h1 : Rp X.K F v1 x) (h2 : Rp X.K F v2 y) (c1 : okD x = true) (c2 : okD y = true) (r1 : RelV v1 u1) (r2 : RelV v2 u2) (hu : A.units + 64 < cLine) :
    SeqAt.EqP X.prog X.w A s u1 u2 (eqD x y) := by
  have k1 := SeqAt.canLay_of_shaped c1
  have k2 := SeqAt.canLay_of_shaped c2
  obtain ⟨as, q1⟩ := Dp.reads I (toPy x) v1 u1 (h1.dp e k1) r1
  obtain ⟨bs, q2⟩ := Dp.reads I (toPy y) v2 u2 (h2.dp e k2) r2
  exact (SeqAt.eqAt_reads _ _ A s u1 u2 as bs q1 q2 k1 k2 (SeqAt.room_of_shaped c1 hu)).eqP
theorem hits_D (I : Inv X pins σ H s) (e : Same F H) {A : Around} (hu : A.units + 64 < cLine) {ls : List (Key × V)} {lvs : List (Str × D)} {vb : List (Key × Value)} (rb : KV ls vb) (rl : RpD X.K F ls lvs) (ol : okV lvs = true) :
    ∀ {ks : List (Key × V)} {kvs : List (Str × D)} {va : List (Key × Value)}, KV ks va → RpD X.K F ks kvs → okV kvs = true → PySem.W.KeqHitsP X.prog X.w A s vb va (kvs.all fun p => match dget lvs p.1 with
      | some y => eqD p.2 y
      | none => false)
  | _, _, _, .nil, .nil, _ => .nil
  | (_, v) :: ks, (sk, x) :: kvs, (k', u) :: va, .cons h t, .cons r rt, o => by
    obtain ⟨h1, h2⟩ := h
    have h1' : k' = .inr sk := h1.symm
    subst h1'
    unfold okV at o
    rw [List.all_cons, Bool.and_eq_true] at o
    have rest := hits_D I e hu rb rl ol t rt o.2
    rw [List.all_cons]
    dsimp only
    have rr : RelO (valV ls (.inr sk)) (valueAt vb (.inr sk)) := rb.val (.inr sk)
    cases q : dget lvs sk with
    | none =>
      have z := rl.valO (s := sk)
      rw [q] at z
      have z' : valV ls (.inr sk) = none := Option.isNone_iff_eq_none.mp (by rw [← Option.not_isSome, z]; rfl)
      rw [z'] at rr
      dsimp only
      rw [Bool.false_and]
      exact .miss (RelO.none_of rr)
    | some y =>
      obtain ⟨v2, z1, z2⟩ := rl.val q
      rw [z1] at rr
      obtain ⟨u2, hy, ry⟩ := rr.some_of
      have oy : okD y = true := by
        have : ∀ {l : List (Str × D)}, okV l = true → dget l sk = some y → okD y = true := fun {l} => by
          induction l with
          | nil => intro _ h; cases h
          | cons p r ih =>
            intro h1 h2
            unfold okV at h1
            rw [List.all_cons, Bool.and_eq_true] at h1
            unfold dget at h2
            by_cases e : p.1 = sk
            · rw [if_pos e] at h2; cases h2; exact h1.1
            · rw [if_neg e] at h2; exact ih h1.2 h2
        exact this ol q
      exact .hit hy (rp_eqP I e r z2 o.1 oy h2 ry hu) rest
theorem dk_ok {ks : List (Key × V)} {a : Addr} (I : Inv X pins σ H s) (h : Rd H a (.dK ks)) : ObjOk X.prog X.w H s.heap a (.dK ks) := by
  rcases h with h | ⟨o, h⟩
  · exact I.hok a _ h
  · exact (I.hok a _ h).2
theorem rc_dicts_eq (I : Inv X pins σ H s) (e : Same F H) {A : Around} (hu : A.units + 65 < cLine) {a b : Addr} {ks ls : List (Key × V)} {kvs lvs : List (Str × D)} (ha : Rd H a (.dK ks)) (hb : Rd H b (.dK ls)) (ra : RpD X.K F ks kvs) (rb : RpD X.K F ls lvs) (oa : okV kvs = true) (ob : okV lvs = true)
    (E Q : Value → Shared → Prop) (q : Q (.bool (dictEq kvs lvs)) s) : wpAny (model X.prog X.w) A (richCompare .Eq (.ref a) (.ref b)) Q E s := by
  obtain ⟨_, ya, va, ra', da⟩ := (show ObjOk X.prog X.w H s.heap a (.dK ks) from dk_ok I ha)
  obtain ⟨_, yb, vb, rb', db⟩ := (show ObjOk X.prog X.w H s.heap b (.dK ls) from dk_ok I hb)
  refine PySem.W.rcP_dicts (knd := mixKind X.prog X.w) ya yb da db (by omega) (fun _ => hits_D I e (show A.in1.units + 64 < cLine by show A.units + 1 + 64 < cLine; omega) rb' rb ob ra' ra oa) E Q ?_
  unfold dictEq at q
  rw [← ra.len, ← rb.len, ra'.length, rb'.length] at q
  exact q
theorem rc_dicts_ne (I : Inv X pins σ H s) (e : Same F H) {A : Around} (hu : A.units + 65 < cLine) {a b : Addr} {ks ls : List (Key × V)} {kvs lvs : List (Str × D)} (ha : Rd H a (.dK ks)) (hb : Rd H b (.dK ls)) (ra : RpD X.K F ks kvs) (rb : RpD X.K F ls lvs) (oa : okV kvs = true) (ob : okV lvs = true)
    (E Q : Value → Shared → Prop) (q : Q (.bool (!dictEq kvs lvs)) s) : wpAny (model X.prog X.w) A (richCompare .NotEq (.ref a) (.ref b)) Q E s := by
  obtain ⟨_, ya, va, ra', da⟩ := (show ObjOk X.prog X.w H s.heap a (.dK ks) from dk_ok I ha)
  obtain ⟨_, yb, vb, rb', db⟩ := (show ObjOk X.prog X.w H s.heap b (.dK ls) from dk_ok I hb)
  unfold dictEq at q
  rw [← ra.len, ← rb.len, ra'.length, rb'.length] at q
  refine wpAny_richCompare_same_room (op := .NotEq) da.typeIs db.typeIs PySem.F.slot_dict_ne (wpAny_call_entry PySem.F.slot_dict_ne da.typeIs PySem.F.entry_dict_ne ?_ (PySem.F.args_dict_ne_2 _ _)) (by omega)
  show wpAny _ _ (Builtin.Dict.dictSlotArgs "__ne__" ⟨[.ref a, .ref b], []⟩ >>= _) _ _ s
  refine wpAny_bind ?_
  unfold Builtin.Dict.dictSlotArgs
  refine wpAny_bind (wpAny_notOrdered_dict da.typeIs ?_)
  show wpAny _ _ (pure (Value.ref a, Value.ref b)) _ _ s
  refine wpAny_pure (wpAny_bind (wpAny_isInstance (T := "dict") db.typeIs PySem.F.sub_dict_dict ?_))
  simp only [Bool.not_true, Bool.false_eq_true, if_false]
  refine wpAny_bind (wpAny_pure (wpAny_bind (wpAny_pure (wpAny_bind (PySem.W.samePairsP (knd := mixKind X.prog X.w) ya yb da db (fun _ => hits_D I e (show A.in1.units + 64 < cLine by show A.units + 1 + 64 < cLine; omega) rb' rb ob ra' ra oa) ?_)))))
  refine wpAny_pure ⟨_, rfl, (fun x => nomatch x), ?_⟩
  simpa using q
theorem dct_eqP (I : Inv X pins σ H s) (e : Same F H) {A : Around} (hu : A.units + 65 < cLine) {v1 v2 : V} {x y : D} {u1 u2 : Value} (h1 : Rp X.K F v1 x) (h2 : Rp X.K F v2 y) (c1 : okDct x = true) (c2 : okDct y = true) (q : dctEq x y = true) (r1 : RelV v1 u1) (r2 : RelV v2 u2) : SeqAt.EqP X.prog X.w A s u1 u2 true := by
  cases x with
  | dct kvs =>
    cases y with
    | dct lvs =>
      cases h1 with
      | dct ha ra =>
        cases h2 with
        | dct hb rb =>
          rename_i a ks b ls
          cases (show u1 = Value.ref _ from r1)
          cases (show u2 = Value.ref _ from r2)
          by_cases z : a = b
          · subst z
            exact (SeqAt.EqAt.same _).eqP
          · refine SeqAt.eqP_refs z fun E Q hq => rc_dicts_eq I e hu (rd_mono e ha) (rd_mono e hb) ra rb c1 c2 E Q ?_
            rw [show dictEq kvs lvs = true from q]
            exact hq
    | _ => cases c2
  | _ => cases c1
theorem dcts_eqP (I : Inv X pins σ H s) (e : Same F H) {A : Around} (hu : A.units + 65 < cLine) : ∀ {vs ws : List V} {xs ys : List D} {us zs : List Value}, RpL X.K F vs xs → RpL X.K F ws ys → xs.all okDct = true → ys.all okDct = true → lstEq xs ys = true → Vals vs us → Vals ws zs →
    us.length = zs.length ∧ ∀ j (h1 : j < us.length) (h2 : j < zs.length), SeqAt.EqP X.prog X.w A s us[j] zs[j] true
  | _, _, _, _, _, _, .nil, .nil, _, _, _, .nil, .nil => ⟨rfl, fun j h1 => absurd h1 (Nat.not_lt_zero j)⟩
  | _, _, _, _, _, _, .nil, .cons _ _, _, _, q, _, _ => by cases q
  | _, _, _, _, _, _, .cons _ _, .nil, _, _, q, _, _ => by cases q
  | _, _, _, _, _, _, .cons a1 b1, .cons a2 b2, c1, c2, q, .cons r1 t1, .cons r2 t2 => by
    rw [List.all_cons, Bool.and_eq_true] at c1 c2
    unfold lstEq at q
    rw [Bool.and_eq_true] at q
    obtain ⟨hl, hj⟩ := dcts_eqP I e hu b1 b2 c1.2 c2.2 q.2 t1 t2
    refine ⟨by rw [List.length_cons, List.length_cons, hl], fun j h1 h2 => ?_⟩
    cases j with
    | zero => exact dct_eqP I e hu a1 a2 c1.1 c2.1 q.1 r1 r2
    | succ j => exact hj j (Nat.lt_of_succ_lt_succ h1) (Nat.lt_of_succ_lt_succ h2)
end
def rQ (K : PySem.W.Frag) (neg : Bool) : R2 := fun x y H Q => ∃ (F : Hp) (a b : Addr), Same F H ∧ x = .ref a ∧ y = .ref b ∧
  ((∃ ks ls kvs lvs, Rd H a (.dK ks) ∧ Rd H b (.dK ls) ∧ RpD K F ks kvs ∧ RpD K F ls lvs ∧ okV kvs = true ∧ okV lvs = true ∧ Q (.bl (neg != dictEq kvs lvs)) H) ∨
   (∃ vs ws xs ys, H a = some (.lst vs) ∧ H b = some (.lst ws) ∧ RpL K F vs xs ∧ RpL K F ws ys ∧ xs.all okDct = true ∧ ys.all okDct = true ∧ ((lstEq xs ys = true ∧ Q (.bl (neg != true)) H) ∨ (xs.length ≠ ys.length ∧ Q (.bl (neg != false)) H))))
section
variable {X : Cx} {K : PySem.W.Frag}
theorem op_qeq (hu : X.A.units + 80 < cLine) : OpR X (compareOp .Eq) (rQ X.K false) := by
  intro pins s σ H x y v u Q I rx ry h
  obtain ⟨F, a, b, e, rfl, rfl, h⟩ := h
  cases (show v = Value.ref a from rx)
  cases (show u = Value.ref b from ry)
  rcases h with ⟨ks, ls, kvs, lvs, ha, hb, ra, rb, oa, ob, q⟩ | ⟨vs, ws, xs, ys, ha, hb, ra, rb, oa, ob, q⟩
  · exact rc_dicts_eq I e (by omega) ha hb ra rb oa ob _ _ ⟨.bl _, H, I, by rw [Bool.false_bne]; rfl, q⟩
  · obtain ⟨us, r1, p1, _⟩ := I.list (.inl (.inl ha))
    obtain ⟨zs, r2, p2, _⟩ := I.list (.inl (.inl hb))
    rcases q with ⟨q1, q2⟩ | ⟨q1, q2⟩
    · obtain ⟨hl, hj⟩ := dcts_eqP I e (A := X.A.in1) (show X.A.units + 1 + 65 < cLine by omega) ra rb oa ob q1 r1 r2
      refine SeqAt.rcP_lists (e := fun _ => true) p1.isList p2.isList (by simpa using hl) (by omega) (fun j h1 h2 => by
        have k := hj j (by simpa using h1) (by simpa using h2)
        simpa using k) _ _ ?_
      rw [show ((List.range us.toArray.size).all fun _ => true) = true from List.all_eq_true.mpr fun _ _ => rfl]
      exact ⟨.bl true, H, I, rfl, q2⟩
    · refine SeqAt.RcAt.lists_lengths p1.isList p2.isList ?_ (by omega) _ _ _ _ ⟨.bl false, H, I, rfl, q2⟩
      rw [List.size_toArray, List.size_toArray, ← r1.length, ← r2.length, ra.len, rb.len]
      simpa using q1
theorem op_qne (hu : X.A.units + 80 < cLine) : OpR X (compareOp .NotEq) (rQ X.K true) := by
  intro pins s σ H x y v u Q I rx ry h
  obtain ⟨F, a, b, e, rfl, rfl, h⟩ := h
  cases (show v = Value.ref a from rx)
  cases (show u = Value.ref b from ry)
  rcases h with ⟨ks, ls, kvs, lvs, ha, hb, ra, rb, oa, ob, q⟩ | ⟨vs, ws, xs, ys, ha, hb, ra, rb, oa, ob, q⟩
  · exact rc_dicts_ne I e (by omega) ha hb ra rb oa ob _ _ ⟨.bl _, H, I, by rw [Bool.true_bne]; rfl, q⟩
  · obtain ⟨us, r1, p1, _⟩ := I.list (.inl (.inl ha))
    obtain ⟨zs, r2, p2, _⟩ := I.list (.inl (.inl hb))
    rcases q with ⟨q1, q2⟩ | ⟨q1, q2⟩
    · obtain ⟨hl, hj⟩ := dcts_eqP I e (A := X.A.in1) (show X.A.units + 1 + 65 < cLine by omega) ra rb oa ob q1 r1 r2
      refine rcN_lists (e := fun _ => true) p1.isList p2.isList (by simpa using hl) (by omega) (fun j h1 h2 => by
        have k := hj j (by simpa using h1) (by simpa using h2)
        simpa using k) _ _ ?_
      rw [show ((List.range us.toArray.size).all fun _ => true) = true from List.all_eq_true.mpr fun _ _ => rfl]
      exact ⟨.bl false, H, I, rfl, q2⟩
    · refine SeqAt.RcNeAt.lists_lengths p1.isList p2.isList ?_ (by omega) _ _ _ _ ⟨.bl true, H, I, rfl, q2⟩
      rw [List.size_toArray, List.size_toArray, ← r1.length, ← r2.length, ra.len, rb.len]
      simpa using q1
theorem os_q {neg : Bool} : OpS K (rQ K neg) (qeqU neg) := by
  intro E F H σ ρ g v1 v2 x1 x2 k Q S h1 h2 hk rc
  unfold qeqU at hk
  split at hk
  · obtain ⟨a, vs, rfl, ha, ra⟩ := h1.dct S.ext
    obtain ⟨b, ws, rfl, hb, rb⟩ := h2.dct S.ext
    exact ⟨F, a, b, S.ext, rfl, rfl, .inl ⟨vs, ws, _, _, ha, hb, ra, rb, hk.1.1, hk.1.2, rc_same rc S (.bl _) hk.2⟩⟩
  · obtain ⟨a, vs, rfl, ha, ra⟩ := h1.lst S.ext
    obtain ⟨b, ws, rfl, hb, rb⟩ := h2.lst S.ext
    refine ⟨F, a, b, S.ext, rfl, rfl, .inr ⟨vs, ws, _, _, ha, hb, ra, rb, hk.1.1, hk.1.2, ?_⟩⟩
    rcases hk.2 with ⟨q1, q2⟩ | ⟨q1, q2⟩
    · exact .inl ⟨q1, rc_same rc S (.bl _) q2⟩
    · exact .inr ⟨q1, rc_same rc S (.bl _) q2⟩
  · exact hk.elim
theorem room80 {k : Nat} {A : Around} (hr : Room k A) : A.units + 80 < cLine := by have := hr.un; omega
end
open PySem PySem.Spec PyProof.Rows L2

/-! ### a written dict of the module -/
/-- at the name x: a dict of texts to flat values -/
def KTab (K : PySem.W.Frag) (w : World) (mg : Str → Option Value) (x : Str) (tab : List (Str × D)) : Prop :=
  ∃ (a : Addr) (es : Array DictEntry) (n : Nat), mg x = some (.ref a) ∧ KDict K w a es n ∧ ∀ p ∈ tab, ∃ (u : Value) (v : V), PySem.W.nsIn K a p.1 = some (some u) ∧ RelV v u ∧ ∀ F, Rp K F v p.2
theorem dget_mem {s : Str} {x : D} : ∀ {kvs : List (Str × D)}, dget kvs s = some x → (s, x) ∈ kvs
  | [], h => by cases h
  | (k, y) :: r, h => by
    unfold dget at h
    by_cases e : k = s
    · rw [if_pos e] at h; cases h; rw [e]; exact List.mem_cons_self
    · rw [if_neg e] at h; exact List.mem_cons_of_mem _ (dget_mem h)
@[simp] def kinU (neg : Bool) (tab : List (Str × D)) : D → (U → Prop) → Prop
  | .str s, k => ∃ x, dget tab s = some x ∧ k (.d (.bl (neg != true)))
  | _, _ => False
@[simp] def kgetU (tab : List (Str × D)) : D → (U → Prop) → Prop
  | .str s, k => ∃ x, dget tab s = some x ∧ k (.d x)
  | _, _ => False
section
variable {X : Cx} {cn : Str → Option Addr} {W : WX} {e a b c o : Expr} {pos : Pos} {m ma mb mc mo : ME} {tab : List (Str × D)} {x : Str} {p : Pos}
theorem os_kin {f : Bool → Bool} {neg : Bool} (hf : f true = (neg != true)) {d : Addr} (h : ∀ p ∈ tab, ∃ (u : Value) (v : V), PySem.W.nsIn X.K d p.1 = some (some u) ∧ RelV v u ∧ ∀ F, Rp X.K F v p.2) :
    UnS X.K (fun x H Q => ∃ (z : Str) (r : Option Value), x = .str z ∧ (V.ref d) = .ref d ∧ PySem.W.nsIn X.K d z = some r ∧ Q (.bl (f r.isSome)) H) (kinU neg tab) := fun E F H σ ρ g v x k Q S hv hk rc => by
  unfold kinU at hk
  split at hk
  · obtain ⟨y, hy, q⟩ := hk
    obtain ⟨u, v', h1, h2, h3⟩ := h _ (dget_mem hy)
    rw [hv.str]
    exact ⟨_, some u, rfl, rfl, h1, by rw [Option.isSome_some, hf]; exact rc_same rc S (.bl _) q⟩
  · exact hk.elim
theorem re_kin (T : KTab X.K X.w X.mg x tab) (hg : Gl X x) (ha : PE X e (cE X.K cn W m)) (hd : (x == ("__debug__" : Str)) = false := by decide) : PE X (.Compare e [.In] [.Name x p] pos) (cE X.K cn W (wUn (kinU false tab) m)) := by
  obtain ⟨d, es, n, hm, D, h⟩ := T
  exact pe_wk (pe_cmpR (op_in_kd D) ha (pe_glob (v := .ref d) hg hm rfl hd) rfl) fun σ H Q hh => un_ok (os_kin (f := fun b => b) rfl h) σ H Q hh
theorem re_knin (T : KTab X.K X.w X.mg x tab) (hg : Gl X x) (ha : PE X e (cE X.K cn W m)) (hd : (x == ("__debug__" : Str)) = false := by decide) : PE X (.Compare e [.NotIn] [.Name x p] pos) (cE X.K cn W (wUn (kinU true tab) m)) := by
  obtain ⟨d, es, n, hm, D, h⟩ := T
  exact pe_wk (pe_cmpR (op_notIn_kd D) ha (pe_glob (v := .ref d) hg hm rfl hd) rfl) fun σ H Q hh => un_ok (os_kin (f := fun b => !b) rfl h) σ H Q hh
theorem rt_kin (T : KTab X.K X.w X.mg x tab) (hg : Gl X x) (ha : PE X e (cE X.K cn W m)) (hd : (x == ("__debug__" : Str)) = false := by decide) : PT X (.Compare e [.In] [.Name x p] pos) (cT X.K cn W (wT (wUn (kinU false tab) m))) := by
  obtain ⟨d, es, n, hm, D, h⟩ := T
  exact pt_wk (pt_cmpR (op_in_kd D) ha (pe_glob (v := .ref d) hg hm rfl hd) rfl) (t_ok fun σ H Q hh => un_ok (os_kin (f := fun b => b) rfl h) σ H Q hh)
theorem rt_knin (T : KTab X.K X.w X.mg x tab) (hg : Gl X x) (ha : PE X e (cE X.K cn W m)) (hd : (x == ("__debug__" : Str)) = false := by decide) : PT X (.Compare e [.NotIn] [.Name x p] pos) (cT X.K cn W (wT (wUn (kinU true tab) m))) := by
  obtain ⟨d, es, n, hm, D, h⟩ := T
  exact pt_wk (pt_cmpR (op_notIn_kd D) ha (pe_glob (v := .ref d) hg hm rfl hd) rfl) (t_ok fun σ H Q hh => un_ok (os_kin (f := fun b => !b) rfl h) σ H Q hh)
theorem re_kget (T : KTab X.K X.w X.mg x tab) (hg : Gl X x) (hb : PE X b (cE X.K cn W m)) (hd : (x == ("__debug__" : Str)) = false := by decide) (hs : PlainIx b := by exact fun _ _ => rfl) : PE X (.Subscript (.Name x p) b pos) (cE X.K cn W (wUn (kgetU tab) m)) := by
  obtain ⟨d, es, n, hm, D, h⟩ := T
  exact pe_wk (pe_ix ix_kdict (pe_glob (v := .ref d) hg hm rfl hd) hb hs) fun σ H Q hh => un_ok (r := fun y H Q => ∃ (p : Addr) (z : Str) (v : V), (V.ref d) = .ref p ∧ y = .str z ∧ KDct X.K X.w p z v ∧ Q v H) (fun E F H σ ρ g v x k Q S hv hk rc => by
    unfold kgetU at hk
    split at hk
    · obtain ⟨y, hy, q⟩ := hk
      obtain ⟨u, v', h1, h2, h3⟩ := h _ (dget_mem hy)
      rw [hv.str]
      exact ⟨d, _, v', rfl, rfl, ⟨es, n, u, D.at_, D.lit, h1, h2⟩, rc_same rc S (h3 F) q⟩
    · exact hk.elim) σ H Q hh
end
/-! ### what a class is for its callers -/
structure ClM (P : Program) (w : World) (K : PySem.W.Frag) (mg : Str → Option Value) (base : Heap) (cn : Str → Option Addr) (k : Nat) (C : Addr) (m : Str) (sp : SpU) : Prop where
  ex : ∃ (f : Addr) (fd : FuncData) (ps : List Str), FnOk P w K mg base CX0 k f fd ps (LSp0 K cn sp) ∧ Meth K C m f ∧ Binds K fd ps []
structure ClI (P : Program) (w : World) (K : PySem.W.Frag) (mg : Str → Option Value) (base : Heap) (cn : Str → Option Addr) (k : Nat) (C : Addr) (sp : SpU) : Prop where
  ex : ∃ (f : Addr) (fd : FuncData) (ps : List Str), FnOk P w K mg base CX0 k f fd ps (LSp0 K cn sp) ∧ Mk K C f ∧ Binds K fd ps []
structure ClsF (K : PySem.W.Frag) (mg : Str → Option Value) (x : Str) (C : Addr) (fs : List Str) : Prop where
  c : Cls K C
  g : mg x = some (.ref C)
  n : ∀ f ∈ fs, NoAttr K C f
section
variable {X : Cx} {cn : Str → Option Addr} {W : WX} {e a b c o : Expr} {es : List Expr} {pos : Pos} {m ma mb mc mo : ME} {C : Addr}
theorem re_methC {k : Nat} {sp : SpU} {x : Str} {apos : Pos} {mx : MA} {pl : Sem Bool} (M : ClM X.prog X.w X.K X.mg X.base cn k C x sp) (cl : Cls X.K C) (hr : Room k X.A) (he : PE X o (cE X.K cn W mo)) (ha : PA X (e :: es) (cA X.K cn W mx))
    (hst : starEach (e :: es) X.env = (false, eval e X.env) :: starEach es X.env := by rfl) (hpl : (backTo pos (starEach es X.env)).any (·.1) = false := by rfl)
    (ht : eval (.Call (.Attribute o x apos) (e :: es) [] pos) X.env = (do
      let ov ← eval o X.env
      standAt apos.atName
      let (f, first) ← holding [ov] (getMethod ov x pl)
      callWith pos f first (backTo pos (starEach (e :: es) X.env)) (backToKw pos (keywordEach [] X.env))) := by rfl) :
    PE X (.Call (.Attribute o x apos) (e :: es) [] pos) (cE X.K cn W (wMeth C x sp mo mx)) := by
  obtain ⟨f, fd, ps, F, hm, hb⟩ := M.ex
  exact re_meth cl hm F hb hr he ha hst hpl ht
theorem re_makeC {k : Nat} {sp : SpU} {x : Str} {p : Pos} {mx : MA} (M : ClI X.prog X.w X.K X.mg X.base cn k C sp) (hm : X.mg x = some (.ref C)) (hr : Room (k + 1) X.A) (hg : Gl X x) (ha : PA X (e :: es) (cA X.K cn W mx)) (hdb : (x == ("__debug__" : Str)) = false := by decide)
    (he : starEach (e :: es) X.env = (false, eval e X.env) :: starEach es X.env := by rfl) (hpl : (backTo pos (starEach es X.env)).any (·.1) = false := by rfl) : PE X (.Call (.Name x p) (e :: es) [] pos) (cE X.K cn W (wMake C sp mx)) := by
  obtain ⟨f, fd, ps, F, M', hb⟩ := M.ex
  exact re_make M' F hb hr hg hm ha hdb he hpl
end
open PySem PySem.Spec PyProof.Rows L2

/-! ### // of numbers of any size: nobody hears when _pylong is loaded -/
section
variable {P : Program} {w : World} {K : PySem.W.Frag} {mg mb : Str → Option Value}
theorem Hide.seer {t : Heap} {H : Hp} {a : Addr} {us : List Value} (ha : t.get? a = some { cls := .type "list", data := .seq us.toArray }) (only : ∀ b, H b ≠ none → b = a) (n : t.NoSeer) : (hidT t H).NoSeer := by
  have free : ∀ {b : Addr} {o : Obj}, t.get? b = some o → (∀ ys k, o.data ≠ .seq ys k) → H b = none := fun {b o} e d => by
    cases q : H b with
    | none => rfl
    | some u =>
      have e' : b = a := only b (by rw [q]; simp)
      subst e'
      rw [ha] at e
      cases e
      exact absurd rfl (d us.toArray _)
  have up : ∀ {b : Addr} {m : Str → Option Value}, t.Ns b m → (hidT t H).Ns b m := fun {b m} ⟨o, es, ep, e, d, r⟩ => ⟨o, es, ep, hidT_get e (free e fun ys k z => by rw [d] at z; cases z), d, r⟩
  refine ⟨let ⟨mc, x, y⟩ := n.statics; ⟨mc, up x, y⟩, let ⟨mm, x, y⟩ := n.mods; ⟨mm, up x, y⟩, let ⟨mc, x, y⟩ := n.imp; ⟨mc, up x, y⟩, ?_⟩
  obtain ⟨mg', bm, ob, x1, x2, x3, x4, x5⟩ := n.main
  refine ⟨mg', bm, ob, up x1, x2, hidT_get x3 ?_, x4, x5⟩
  cases q : H bm with
  | none => rfl
  | some u =>
    have e' : bm = a := only bm (by rw [q]; simp)
    subst e'
    rw [ha] at x3
    cases x3
    have z : Value.type "list" = Value.type "module" := x4
    injection z with z
    exact absurd z (by decide)
theorem law_callN {CX : CXT} {k : Nat} {fa a : Addr} {fd : FuncData} {x : Str} {sp : Sp} {t : Shared} {us : List Value} {ns : List Int}
    (kin : K.In t.heap) (n1 : t.heap.Ns mainGlobals mg) (n2 : t.heap.Ns builtinsNs mb) (n3 : ∀ x : Str, x ≠ "__name__" → mb x = bootBuiltins x) (n4 : t.heap.NoLimit) (n5 : t.heap.NoSeer) (gens : t.gens = #[])
    (ha : t.heap.get? a = some { cls := .type "list", data := .seq us.toArray }) (ia : IntsAre us ns) (hl : ns.length ≤ sizeLine) (hr : Room k callerA)
    (F : ∀ base : Heap, K.In base → base.Ns mainGlobals mg → base.NoSeer → FnOk P w K mg base CX k fa fd [x] sp) (bind : ∀ (s : Shared) (u : Value), BindsTo s fd ⟨[u], []⟩ [(x, u)])
    (spec : ∀ H : Hp, Only H → SqL K H a (ns.map V.int) → sp [.ref a] H (fun v _ => v = .bl true) fun _ _ _ => False)
    (noEx : ∀ H e s', CX [] H t (fun _ _ _ => False) e s' → False) :
    codeAny (model P w) callerA (.call (.ref fa) ⟨[.ref a], []⟩) (fun r s' => r = .ok (.ret (.bool true)) ∧ OldK t.heap s'.heap ∧ s'.os = t.os ∧ AllBare s'.gens) t := by
  have rv := vals_ints ia
  have lv := ia.length
  have main : ∀ H : Hp, Only H → SqL K H a (ns.map V.int) → HOk P w H t.heap → (∀ b, H b ≠ none → b = a) → (H a ≠ none → K.lookup a = none) →
      codeAny (model P w) callerA (.call (.ref fa) ⟨[.ref a], []⟩) (fun r s' => r = .ok (.ret (.bool true)) ∧ OldK t.heap s'.heap ∧ s'.os = t.os ∧ AllBare s'.gens) t := by
    intro H hO hS hok only hK
    have up : ∀ {b : Addr} {o : Obj}, t.heap.get? b = some o → H b = none → (hidT t.heap H).get? b = some o := fun e n => hidT_get e n
    have dictFree : ∀ {b : Addr} {o : Obj} {es : Array DictEntry} {ep : Nat}, t.heap.get? b = some o → o.data = .dict es ep → H b = none := fun {b o es ep} e d => by
      cases q : H b with
      | none => rfl
      | some u =>
        have e' : b = a := only b (by rw [q]; simp)
        subst e'
        rw [ha] at e
        cases e
        exact absurd (show Data.seq us.toArray _ = Data.dict es ep from d) (fun z => by cases z)
    have ns' : ∀ {b : Addr} {m : Str → Option Value}, t.heap.Ns b m → (hidT t.heap H).Ns b m := fun {b m} ⟨o, es, ep, e, d, r⟩ => ⟨o, es, ep, up e (dictFree e d), d, r⟩
    have kin' : K.In (hidT t.heap H) := fun b o e => up (kin b o e) (by
      cases q : H b with
      | none => rfl
      | some u =>
        have e' : b = a := only b (by rw [q]; simp)
        subst e'
        rw [hK (by rw [q]; simp)] at e
        cases e)
    have md : Mod K mg (hidT t.heap H) := ⟨kin', ns' n1, ⟨mb, ns' n2, n3⟩, let ⟨mc, h1, h2⟩ := n4; ⟨mc, ns' h1, h2⟩⟩
    have en : Env0 P w K mg (hidT t.heap H) callerA [] t H := ⟨rfl, md, fun b o e => of_hidT e, Nat.le_of_eq (hidT_size _ _), trivial, fun b hb => absurd (show b ∈ ([] : List Addr) from hb) (by simp), hok, .of_eq gens⟩
    refine codeAny_mono ((F _ kin' (ns' n1) (Hide.seer ha only n5)).run callerA [] t H ⟨[.ref a], []⟩ [.ref a] [.ref a] _ _ hr en (bind t (.ref a)) (.cons rfl .nil) (spec H hO hS)) fun r s' h => ?_
    cases r with
    | error e => exact (noEx H e s' h).elim
    | ok fl =>
      cases fl with
      | next => exact False.elim h
      | brk => exact False.elim h
      | cont => exact False.elim h
      | ret u =>
        obtain ⟨v, H', os, bare, un, hok', r', q⟩ := h
        have qt : v = .bl true := q
        subst qt
        obtain rfl : u = Value.bool true := r'
        refine ⟨rfl, OldK.of_keep fun b o e => ?_, os, bare⟩
        cases q : H b with
        | none => exact un.keep b o e q (by intro z; cases z) (by simp)
        | some u =>
          rcases hO b with z | ⟨ob, xs, z⟩
          · rw [q] at z; cases z
          · obtain ⟨e1, _⟩ := hok b _ z
            obtain ⟨e2, _⟩ := hok' b _ (un.frzs b ob _ z)
            rw [e] at e1
            cases e1
            exact e2
  cases hk : K.lookup a with
  | some o =>
    have e := kin a o hk
    rw [ha] at e
    cases e
    exact main (fun _ => none) (fun _ => .inl rfl) (.inr ⟨_, us.toArray, _, hk, rfl, rfl, rfl, by rw [List.size_toArray, lv]; exact hl, by simpa using rv⟩) (fun b u z => by cases (show (none : Option HO) = some u from z)) (fun b z => absurd rfl z) fun z => absurd rfl z
  | none =>
    refine main (fun b => if b = a then some (.frz { cls := .type "list", data := .seq us.toArray } (.lst (ns.map V.int))) else none) (fun b => ?_) (.inl (.inr ⟨{ cls := .type "list", data := .seq us.toArray }, if_pos rfl⟩)) (fun b u z => ?_) (fun b z => ?_) fun _ => hk
    · by_cases hb : b = a
      · exact .inr ⟨_, _, if_pos hb⟩
      · exact .inl (if_neg hb)
    · by_cases hb : b = a
      · have zz := (if_pos hb).symm.trans z
        cases zz
        subst hb
        exact ⟨ha, by rw [List.length_map]; exact hl, us, _, rv, ha⟩
      · cases (if_neg hb).symm.trans z
    · by_cases hb : b = a
      · exact hb
      · exact absurd (if_neg hb) z
end
theorem law_walkN {l : PySem.W.OpenLaw} {k : Nat} {q : Program} {loose : List Str} {XP : (Str → Option Value) → Heap → Prop} {YP : World → Heap → Prop} {d : DefRec} {K : Params → PySem.W.Frag} {x : Str} (hn : l.most = some 63) (hdf : d.params.defaults = []) (hr : Room k callerA) (imp : importsNone q = true)
    (hY : ∀ (w : World) (h : Heap), YP w h → (K w.params).In h)
    (F : ∀ (w : World) (mg : Str → Option Value) (fa : Addr) (h : Heap), (K w.params).In h → h.Ns mainGlobals mg → mg d.name = some (.ref fa) →
      ∃ (cn : Str → Option Addr) (fd : FuncData), (∀ (s : Shared) (u : Value), BindsTo s fd ⟨[u], []⟩ [(x, u)]) ∧
        ∀ base : Heap, (K w.params).In base → base.Ns mainGlobals mg → base.NoSeer → FnOk l.prog w (K w.params) mg base CX0 k fa fd [x] (LSp0 (K w.params) cn spLaw)) : PySem.W.WalkO q loose XP YP l.row.toRowW d [] (fun f vs => PySem.call f vs) := by
  refine Att.attach_call (n := 63) hn hdf fun w s₀ t mg mb fa o pm cd doc a us ns G Y ho hd hcd hmg hobj hin hlen hg => ?_
  have kin := hY w _ Y
  obtain ⟨cn, fd, hb, hF⟩ := F w mg fa _ kin G.T.g hmg
  exact law_callN kin G.T.g G.T.b G.T.builtins G.T.nolimit (G.T.seer imp) hg hobj hin (Nat.le_trans hlen (by decide)) hr hF hb (fun H hO hS => law_sp hlen hS) fun H e s' z => z
/-- // by any divisor above nought -/
@[simp] def divX : D → D → (U → Prop) → Prop
  | .int i, .int j, k => 0 < j ∧ k (.d (.int (i / j)))
  | _, _, _ => False
theorem os_divX {K : PySem.W.Frag} : OpS K (rI (fun _ j => 0 < j) fun i j => .int (i / j)) divX := os_I fun x y k h => by
  unfold divX at h
  split at h
  · exact ⟨_, _, rfl, rfl, h.1, h.2⟩
  · exact h.elim
theorem op_divX {X : Cx} (hs : X.base.NoSeer) (ht : X.prog.given.tree = none) (hst : X.stack = X.env :: X.outer) (hgen : X.env.scope.isGenerator = false) (hco : X.env.scope.isCoroutine = false) (hd : X.A.depth + 101 < recursionLimit) : OpR X (binaryOp .FloorDiv) (rI (fun _ j => 0 < j) fun i j => .int (i / j)) := by
  intro pins s σ H x y v u Q I rx ry h
  obtain ⟨i, j, rfl, rfl, hj, q⟩ := h
  obtain ⟨t1, rfl⟩ := rx
  obtain ⟨t2, rfl⟩ := ry
  refine floordiv_int (by omega) ?_ (.inr (PySem.PylongRoom.of I.nolimit (by show X.A.depth + 100 < recursionLimit; omega) ?_))
  · rw [Int.fdiv_eq_ediv_of_nonneg i (by omega)]
    exact ⟨.int (i / j), H, I.tok _, ⟨_, rfl⟩, q⟩
  · exact PySem.SeerAt.of (env := X.env) (l := X.outer) (hs.keeps I.bk) ht (by rw [I.ok.frames, hst]) hgen hco I.ok.blt I.ok.glob
theorem room101 {k : Nat} {A : Around} (hr : Room k A) (h : 40 ≤ k) : A.depth + 101 < recursionLimit := by have := hr.dp; omega
open PySem PySem.Spec PyProof.Rows L2

/-! ### dict of a list of pairs -/
def pairL (ps : List (Str × D)) : List D := ps.map fun p => .tup [.str p.1, p.2]
def dputs (acc ps : List (Str × D)) : List (Str × D) := ps.foldl (fun a p => dput a p.1 p.2) acc
def dictPU : D → (U → Prop) → Prop
  | .lst xs, k => ∃ ps, xs = pairL ps ∧ k (.own (.dct (dputs [] ps)))
  | _, _ => False
section
variable {K : PySem.W.Frag}
theorem pairs_in {F H : Hp} (e : Same F H) : ∀ {vs : List V} {ps : List (Str × D)}, RpL K F vs (pairL ps) →
    ∃ (as : List Addr) (kvs : List (Key × V)), vs = as.map V.ref ∧ Paired (fun p (kv : Key × V) => SqT K H p [kV kv.1, kv.2]) as kvs ∧ RpD K F kvs ps
  | vs, [], r => by
    cases r
    exact ⟨[], [], rfl, .nil, .nil⟩
  | vs, (s, x) :: ps, r => by
    cases r with
    | cons h t =>
      obtain ⟨as, kvs, rfl, hp, rd⟩ := pairs_in e t
      cases h with
      | tup hq hr =>
        cases hr with
        | cons h1 t1 =>
          cases t1 with
          | cons h2 t2 =>
            cases t2
            cases h1
            exact ⟨_ :: as, (.inr s, _) :: kvs, rfl, .cons (sqt_same e hq) hp, .cons h2 rd⟩
theorem RpD.puts {F : Hp} : ∀ {ks : List (Key × V)} {ps acc : List (Str × D)} {aks : List (Key × V)}, RpD K F ks ps → RpD K F aks acc → RpD K F (mergeK aks ks) (dputs acc ps)
  | _, _, _, _, .nil, h => h
  | _, _, _, _, .cons (s := s) r t, h => by
    have := RpD.puts t (RpD.put (s := s) h r)
    exact this
theorem cs_dictP : CallS K (fun xs H Q => ∃ (a : Addr) (ps : List Addr) (kvs : List (Key × V)), xs = [.ref a] ∧ SqL K H a (ps.map V.ref) ∧ Paired (fun p kv => SqT K H p [kV kv.1, kv.2]) ps kvs ∧
    ∀ p, H p = none → Q (.ref p) (upd H p (.dK (mergeK [] kvs)))) dictPU := fun E F H σ ρ g v x k Q S hv hk rc => by
  unfold dictPU at hk
  split at hk
  · obtain ⟨ps, rfl, q⟩ := hk
    obtain ⟨a, vs, rfl, ha, ra⟩ := hv.lst S.ext
    obtain ⟨as, kvs, rfl, hp, rd⟩ := pairs_in S.ext ra
    exact ⟨a, as, kvs, rfl, .inl (.inl ha), hp, fun p hp => rc_newOD rc S hp (RpD.puts rd .nil) q⟩
  · exact hk.elim
end
open PySem PySem.Spec PyProof.Rows L2
open PySem.SeqAt (dataPlace remove_list_data)

/-! ### x.remove(y) of a shared list -/
/-- what can be looked for in a list: no dict, not deep -/
def remOk (xs : List D) (y : D) : Bool := PyData.plainAll (toPyL xs) && (PyData.plain (toPy y) && (PyData.canLayAll0 (toPyL xs) && ((toPy y).canLay0 && decide ((toPy y).depth ≤ 60))))
def placeD (xs : List D) (y : D) : Option Nat := dataPlace (toPyL xs) (toPy y)
def rRemD (K : PySem.W.Frag) : V → List V → Hp → VK → Prop := fun x vs H Q => ∃ (F : Hp) (l : Addr) (ws : List V) (xs : List D) (v : V) (y : D) (j : Nat), x = .ref l ∧ vs = [v] ∧ Same F H ∧ H l = some (.lst ws) ∧ RpL K F ws xs ∧ Rp K F v y ∧ remOk xs y = true ∧ placeD xs y = some j ∧ Q .non (upd H l (.lst (ws.eraseIdx j)))
section
variable {X : Cx}
theorem mt_removeD (hu : X.A.units + 64 < cLine) : MtR X "list.remove" (rRemD X.K) := by
  intro pins s σ H x xs v us Q I rx rxs h
  obtain ⟨F, l, ws, ds, v1, y, j, rfl, rfl, sm, hH, rl, ry, ok, hp, q⟩ := h
  cases rx
  obtain ⟨u, rfl, ru⟩ := rxs.one
  obtain ⟨z, its, n, r, hl, e⟩ := I.lstM hH
  unfold remOk at ok
  simp only [Bool.and_eq_true, decide_eq_true_eq] at ok
  obtain ⟨o1, o2, o3, o4, o5⟩ := ok
  obtain ⟨as, q1⟩ := Dp.readsAll I (toPyL ds) ws its (rl.dp sm o3) r
  obtain ⟨bs, q2⟩ := Dp.reads I (toPy y) v1 u (ry.dp sm o4) ru
  refine remove_list_data (vs := its.toArray) ⟨_, e, rfl, n, rfl⟩ q1 q2 o1 o2 (by omega) hp (by rw [List.size_toArray]; omega) ?_
  refine ⟨.non, _, I.lset (its' := its.eraseIdx j) (t' := s.toks) hH e ?_ (r.eraseIdx j) ?_, rfl, q⟩
  · show its.toArray.eraseIdxIfInBounds j = (its.eraseIdx j).toArray
    rw [List.eraseIdxIfInBounds_toArray]
  · have z2 := len_erase ws j
    omega
variable {K : PySem.W.Frag} {cn : Str → Option Addr} {W : WX} {e : Expr} {pos : Pos} {m : ME}
@[simp] def remU (a : Addr) (y : D) (ρ : Env) (g : G) (P : Post) : Prop := ∃ xs j, g a = some (.lst xs) ∧ remOk xs y = true ∧ placeD xs y = some j ∧ P.nx ρ (setG g a (.lst (xs.eraseIdx j)))
@[simp] def wRem (i : Nat) (m : ME) : MS := fun ρ g P => match ρ[i]? with
  | some (some (.d (.ref a))) => (∃ xs, g a = some (.lst xs)) ∧ m ρ g (fun u g1 => fzU u fun y => remU a y ρ g1 P) (xOf P ρ)
  | _ => False
theorem rs_rem (i : Nat) {x : Str} {xpos apos cpos : Pos} (hu : X.A.units + 64 < cLine) (he : PE X e (cE X.K cn W m)) (hN : X.N[i]? = some x := by rfl) (hv : Vis X.env.scope x := by first | exact Or.inl rfl | exact Or.inr (Or.inl rfl) | exact Or.inr (Or.inr rfl)) (hd : (x == ("__debug__" : Str)) = false := by decide)
    (hcd : (x == ("__classdict__" : Str)) = false := by decide) (hbase : attributeBase (.Name x xpos) "remove" X.env (eval (.Name x xpos) X.env) = eval (.Name x xpos) X.env := by rfl)
    (hfew : ((backTo cpos (starEach [e] X.env)).all (fun x => !x.1) && (backToKw cpos (keywordEach [] X.env)).all (fun x => x.1.isSome) && decide ([e].length + ([] : List Keyword).length + (if ([] : List Keyword).isEmpty then 0 else 1) < 30)) = true := by rfl)
    (hline : (apos.endLine == cpos.line) = true := by rfl) (hs1 : starEach [e] X.env = (false, eval e X.env) :: starEach [] X.env := by rfl) (hplain : (backTo cpos (starEach [] X.env)).any (·.1) = false := by rfl)
    (hs : swapsWith (.Call (.Attribute (.Name x xpos) "remove" apos) [e] [] cpos) none pos.line X.env = pure false := by rfl) :
    PS X (.Expr (.Call (.Attribute (.Name x xpos) "remove" apos) [e] [] cpos) pos) (cS X.K cn W (wRem i m)) :=
  ps_wk (ps_expr (pe_bm PySem.F.plainAttrs_list PySem.F.slot_list_remove PySem.F.type_list_remove (mt_removeD hu) (pe_var (i := i) hN hv hd hcd) (pa_cons he pa_nil (hs := hs1)) hbase hfew hline hs1 hplain) hs) fun D σ H h => by
    obtain ⟨E, F, ρ, g, P, S, hm, C⟩ := h
    unfold wRem at hm
    split at hm
    case h_2 => exact hm.elim
    rename_i l hi
    obtain ⟨⟨xs, hg⟩, hm⟩ := hm
    obtain ⟨⟨vs, t1, t2⟩, t3⟩ := S.cell l _ hg
    obtain ⟨v', k1, k2⟩ := S.slot i _ hi
    cases k2
    refine ⟨.ref l, k1, .inl ⟨rfl, vs, .inl (.inl t1)⟩, ?_⟩
    refine ⟨E, F, ρ, g, _, _, S, hm, fun F1 H1 v u g1 S1 p1 o1 f1 q1 => ?_, C.xc σ ρ⟩
    obtain ⟨F2, y, S2, p2, r2, q2, _⟩ := fz_ok S S1 p1 o1 f1 q1
    obtain ⟨xs1, j, hg1, ok, hp, q⟩ := q2
    obtain ⟨v', k1', k2'⟩ := S2.slot i _ hi
    rw [k1] at k1'
    cases k1'
    obtain ⟨⟨ws, w1, w2⟩, w3⟩ := S2.cell l _ hg1
    exact ⟨F2, l, ws, xs1, v, y, j, rfl, rfl, S2.ext, w1, w2, r2, ok, hp, C.nx F2 _ σ ρ _ (S2.mutC hg1 (w2.erase j)) q⟩
end
open PySem PySem.Spec PyProof.Rows L2

/-! ### dicts in a list that are changed by X[-1] -/
section
variable {K : PySem.W.Frag}
theorem Stt.mutK {E : Ent} {F H : Hp} {σ : L2.St} {ρ : Env} {g : G} {l : Addr} {xs ys : List (Str × D)} {ws : List (Key × V)} (S : Stt K E F H σ ρ g) (hg : g l = some (.dct xs)) (r : RpD K F ws ys) : Stt K E F (upd H l (.dK ws)) σ ρ (setG g l (.dct ys)) := by
  obtain ⟨⟨vs, t1, t2⟩, t3⟩ := S.cell l _ hg
  have gne : ∀ b, b ≠ l → setG g l (.dct ys) b = g b := fun b hb => by unfold setG; rw [if_neg hb]
  have hne : ∀ b, b ≠ l → upd H l (.dK ws) b = H b := fun b hb => upd_ne hb
  refine ⟨fun b w' hb => ?_, S.ext0, S.len, fun i' u' hi' => ?_, S.sep, fun b c' hc => ?_, fun b o' e1 e2 e3 => ?_, fun b hb => S.trk b (upd_free hb)⟩
  · rw [hne b (fun z => by rw [z, t3] at hb; cases hb)]; exact S.ext b w' hb
  · obtain ⟨v2, s1, s2⟩ := S.slot i' u' hi'
    refine ⟨v2, s1, ?_⟩
    cases u' with
    | d x => exact s2
    | own p =>
      obtain ⟨b, eb, y1, y2, y3, y4⟩ := s2
      have hb : b ≠ l := fun z => by rw [z, hg] at y3; cases y3
      exact ⟨b, eb, y1.at (Same.refl F) fun w1 hw1 => by rw [hne b hb]; exact hw1, y2, by rw [gne b hb]; exact y3, y4⟩
    | bor p => exact s2
  · by_cases hb : b = l
    · subst hb
      unfold setG at hc
      rw [if_pos rfl] at hc
      cases hc
      exact ⟨⟨_, upd_same, r⟩, t3⟩
    · rw [gne b hb] at hc
      obtain ⟨y1, y2⟩ := S.cell b c' hc
      refine ⟨?_, y2⟩
      cases c' with
      | lst zs => obtain ⟨ws', z1, z2⟩ := y1; exact ⟨ws', by rw [hne b hb]; exact z1, z2⟩
      | ins C fs =>
        obtain ⟨dx, ws', z1, z2, z3, z4⟩ := y1
        have hd : dx ≠ l := fun z => by rw [z, t1] at z2; cases z2
        exact ⟨dx, ws', by rw [hne b hb]; exact z1, by rw [hne dx hd]; exact z2, z3, z4⟩
      | dct zs => obtain ⟨ws', z1, z2⟩ := y1; exact ⟨ws', by rw [hne b hb]; exact z1, z2⟩
      | ext ψ zs cs => obtain ⟨ws', z1, z2⟩ := y1; exact ⟨ws', by rw [hne b hb]; exact z1, z2⟩
      | tbl =>
        obtain ⟨ps, z1, z2, z3⟩ := y1
        exact ⟨ps, by rw [hne b hb]; exact z1, z2, z3⟩
  · obtain ⟨y1, y2, y3⟩ := S.keep b o' e1 e2 e3
    have hb : b ≠ l := fun z => by rw [z, hg] at y3; cases y3
    exact ⟨by rw [hne b hb]; exact y1, y2, by rw [gne b hb]; exact y3⟩
end
section
variable {X : Cx} {K : PySem.W.Frag} {cn : Str → Option Addr} {W : WX} {e a b c : Expr} {es : List Expr} {pos : Pos} {ms : MS}
/-- x[k] = e, x an expression that gives a shared dict -/
@[simp] def wStoE (mc mi me : ME) : MS := fun ρ g P => me ρ g (fun u g1 => fzU u fun y => mc ρ g1 (fun w0 g2 => refU w0 fun p => mi ρ g2 (fun w g3 => strK w fun s => ∃ kvs, g3 p = some (.dct kvs) ∧ kvs.length < sizeLine ∧ P.nx ρ (setG g3 p (.dct (dput kvs s y)))) (xOf P ρ)) (xOf P ρ)) (xOf P ρ)
theorem rs_stoE {tpos : Pos} {mc mi me : ME} (hu : X.A.units + 64 < cLine) (hc : PE X c (cE X.K cn W mc)) (hi : PE X a (cE X.K cn W mi)) (he : PE X e (cE X.K cn W me)) (hs : swapsWith e (some (.Subscript c a tpos)) pos.line X.env = pure false := by rfl) :
    PS X (.Assign [.Subscript c a tpos] e pos) (cS X.K cn W (wStoE mc mi me)) := ps_wk (ps_dput (by omega) hc hi he hs) fun D σ H h => by
  obtain ⟨E, F, ρ, g, P, S, hm, C⟩ := h
  unfold wStoE at hm
  refine ⟨E, F, ρ, g, _, _, S, hm, fun F1 H1 v u g1 S1 p1 o1 f1 q1 => ?_, C.xc σ ρ⟩
  obtain ⟨F2, y, S2, p2, r2, q2, _⟩ := fz_ok S S1 p1 o1 f1 q1
  refine ⟨E, F2, ρ, g1, _, _, S2, q2, fun F3 H3 w0 u0 g2 S3 p3 o3 f3 q3 => ?_, C.xc σ ρ⟩
  obtain ⟨p, rfl, rfl, q4⟩ := refU_ok o3 q3
  refine ⟨E, F3, ρ, g2, _, _, S3, q4, fun F4 H4 w z g3 S4 p4 o4 f4 q5 => ?_, C.xc σ ρ⟩
  obtain ⟨s, rfl, kvs, hg, hz, q⟩ := strK_ok o4 q5
  obtain ⟨⟨vs, t1, t2⟩, t3⟩ := S4.cell p _ hg
  exact ⟨p, _, rfl, DPut.k (k := .inr s) t1 (by rw [t2.len]; exact hz), C.nx F4 _ σ ρ _ (S4.mutK hg (t2.put ((r2.mono p3.ext).mono p4.ext))) q⟩
/-- the last item of an own list, a shared object, is frozen -/
@[simp] def wFrzL (i : Nat) (m : MS) : MS := fun ρ g P => ∃ (xs : List D) (p : Addr) (o : O), ρ[i]? = some (some (.own (.lst (xs ++ [.ref p])))) ∧ g p = some o.cell ∧ m (ρ.set i (some (.own (.lst (xs ++ [o.fz]))))) (unG g p) P
theorem RpL.last {F : Hp} : ∀ {xs : List D} {vs : List V} {x y : D}, RpL K F vs (xs ++ [x]) → (∀ v, Rp K F v x → Rp K F v y) → RpL K F vs (xs ++ [y])
  | [], _, _, _, .cons h .nil, f => .cons (f _ h) .nil
  | _ :: _, _, _, _, .cons h t, f => .cons h (RpL.last t f)
theorem rs_frzL (i : Nat) {sts : List Stmt} (h : PSs X sts (cS X.K cn W ms)) : PSs X sts (cS X.K cn W (wFrzL i ms)) := pss_wk h fun D σ H hh => by
  obtain ⟨E, F, ρ, g, P, S, hm, C⟩ := hh
  obtain ⟨xs, p, o, hi, hg, hm⟩ := hm
  obtain ⟨u, hu, S', r, e2⟩ := S.frzC hg
  obtain ⟨l, vs, h1, h2, h3, h4, h5, h6⟩ := S'.slotL hi
  have h3' := RpL.last h3 (y := o.fz) fun v rv => by cases rv; exact r
  have S2 := (S'.unset i).set (i := i) (v := .ref l) (u := .own (.lst (xs ++ [o.fz]))) ⟨l, rfl, ⟨vs, h2, h3'⟩, h4, h5, h6⟩ fun o' eo j q hj hne hs => by
    rw [List.getElem?_set_ne (fun z => hne z.symm)] at hj hs
    exact S'.sep i j _ q hi hj (fun z => hne z.symm) (by rw [h1, hs])
  rw [List.set_set, List.set_set, set_back h1] at S2
  exact ⟨E, _, _, _, P, S2, hm, C⟩
end
open PySem PySem.Spec PyProof.Rows L2

/-! ### for a, b in zip(xs, ys); for i, x in enumerate(xs) -/
@[simp] def itZ : D → (List D → Prop) → Prop
  | .lst xs, k => k xs
  | .ro xs, k => k xs
  | _, _ => False
def zipD (xs ys : List D) : List D := List.zipWith (fun x y => .tup [x, y]) xs ys
@[simp] theorem zipD_nil {ys : List D} : zipD [] ys = [] := rfl
@[simp] theorem zipD_cons {x y : D} {xs ys : List D} : zipD (x :: xs) (y :: ys) = .tup [x, y] :: zipD xs ys := rfl
def enumD : Int → List D → List D
  | _, [] => []
  | i, x :: xs => .tup [.int i, x] :: enumD (i + 1) xs
theorem enumD_len : ∀ (i : Int) (xs : List D), (enumD i xs).length = xs.length
  | _, [] => rfl
  | i, x :: xs => by show (enumD (i + 1) xs).length + 1 = xs.length + 1; rw [enumD_len]
theorem enumD_at : ∀ (i : Int) (xs : List D) (j : Nat), (enumD i xs)[j]? = xs[j]?.map fun x => .tup [.int (i + j), x]
  | _, [], _ => rfl
  | i, x :: xs, 0 => by show some _ = some _; rw [show i + ((0 : Nat) : Int) = i by omega]
  | i, x :: xs, j + 1 => by
    show (enumD (i + 1) xs)[j]? = xs[j]?.map _
    rw [enumD_at (i + 1) xs j, show i + 1 + (j : Int) = i + ((j + 1 : Nat) : Int) by omega]
section
variable {K : PySem.W.Frag} {F : Hp}
theorem itZ_ok {v : V} {x : D} {k : List D → Prop} (r : Rp K F v x) (h : itZ x k) : ∃ a vs xs, v = .ref a ∧ SqL K F a vs ∧ RpL K F vs xs ∧ k xs := by
  unfold itZ at h
  split at h
  · cases r with
    | lst ha t => exact ⟨_, _, _, rfl, .inl (.inl ha), t, h⟩
  · cases r with
    | ro ha t => exact ⟨_, _, _, rfl, ha, t, h⟩
  · exact h.elim
theorem rp_pair {F2 H2 : Hp} {T : Addr} {v w : V} {x y : D} (e : Same F2 H2) (hT : H2 T = none) (r : Rp K F2 v x) (s : Rp K F2 w y) : Rp K (upd F2 T (.tup [v, w])) (.ref T) (.tup [x, y]) := by
  have f : F2 T = none := by
    cases q : F2 T with
    | none => rfl
    | some o => rw [e T o q] at hT; cases hT
  exact .tup (.inl (.inl upd_same)) (.cons (r.mono (same_upd f)) (.cons (s.mono (same_upd f)) .nil))
theorem itok_z {a b : Addr} {vs ws : List V} {xs ys : List D} (ha : SqL K F a vs) (hb : SqL K F b ws) (ra : RpL K F vs xs) (rb : RpL K F ws ys) : ItOk K F (Itz K a b) (zipD xs ys) := by
  have hl : (zipD xs ys).length = min vs.length ws.length := by unfold zipD; rw [List.length_zipWith, ra.len, rb.len]
  refine ⟨fun H => SqL K H a vs ∧ SqL K H b ws, _, walk_zip hl, fun F2 H2 e1 e2 => ⟨e2.seq (e1.seq ha), e2.seq (e1.seq hb)⟩, fun i F2 H2 v H3 hi e1 e2 y => ?_⟩
  obtain ⟨T, p, q, rfl, hT, rfl, h1, h2⟩ := y
  obtain ⟨x, hx, rx⟩ := ra.got h1
  obtain ⟨z, hz, rz⟩ := rb.got h2
  refine ⟨.tup [x, z], ?_, .inr ⟨T, _, rfl, hT, rfl, rp_pair e2 hT (rx.mono e1) (rz.mono e1)⟩⟩
  unfold zipD
  rw [List.getElem?_zipWith, hx, hz]
theorem itok_e {a : Addr} {vs : List V} {xs : List D} (ha : SqL K F a vs) (ra : RpL K F vs xs) : ItOk K F (Ite K a) (enumD 0 xs) := by
  refine ⟨fun H => SqL K H a vs, _, by rw [enumD_len, ← ra.len]; exact walk_enum, fun F2 H2 e1 e2 => e2.seq (e1.seq ha), fun i F2 H2 v H3 hi e1 e2 y => ?_⟩
  obtain ⟨T, p, q, rfl, hT, rfl, h1, h2⟩ := y
  obtain ⟨z, hz, rz⟩ := ra.got h2
  cases h1
  refine ⟨.tup [.int i, z], ?_, .inr ⟨T, _, rfl, hT, rfl, rp_pair e2 hT (.int _) (rz.mono e1)⟩⟩
  rw [enumD_at, hz, show (0 : Int) + (i : Int) = i by omega]
  rfl
@[simp] def wZip (ma : MA) : MI := fun ρ g Q X => ma ρ g (fun xs g1 => match xs with
  | [a, b] => itZ a fun us => itZ b fun ws => Q (zipD us ws) g1
  | _ => False) X
@[simp] def wEnum (ma : MA) : MI := fun ρ g Q X => ma ρ g (fun xs g1 => match xs with
  | [a] => itZ a fun us => Q (enumD 0 us) g1
  | _ => False) X
end
section
variable {X : Cx} {cn : Str → Option Addr} {W : WX} {e e2 : Expr} {mr : MA} {p pos tpos : Pos} {elts : List Expr} {kk : Nat}
theorem ri_zip (hg : Gl X "zip") (hm : X.mg "zip" = none) (ha : PA X [e, e2] (cA X.K cn W mr)) (hs : starEach [e, e2] X.env = (false, eval e X.env) :: starEach [e2] X.env := by rfl) (hpl : (backTo pos (starEach [e2] X.env)).any (·.1) = false := by rfl) :
    PI X (.Tuple elts kk tpos) (.Call (.Name "zip" p) [e, e2] [] pos) (cI X.K cn W (wZip mr)) := pi_wk (pi_zip hg hm ha hs hpl) fun σ H R h => by
  obtain ⟨E, F, ρ, g, Qu, Qx, S, hm, hk, hx⟩ := h
  refine ⟨E, F, ρ, g, _, Qx, S, hm, fun F1 H1 vs xs g1 S1 p1 r1 q1 => ?_, hx⟩
  dsimp only at q1
  split at q1
  · cases r1 with
    | cons h1 t =>
      cases t with
      | cons h2 t =>
        cases t
        obtain ⟨a, va, xa, rfl, sa, ra, q2⟩ := itZ_ok h1 q1
        obtain ⟨b, vb, xb, rfl, sb, rb, q3⟩ := itZ_ok h2 q2
        exact ⟨a, b, va, vb, rfl, S1.ext.seq sa, S1.ext.seq sb, hk F1 H1 _ _ g1 S1 p1 (itok_z sa sb ra rb) q3⟩
  · exact q1.elim
theorem ri_enum (hg : Gl X "enumerate") (hm : X.mg "enumerate" = none) (ha : PA X [e] (cA X.K cn W mr)) (hs : starEach [e] X.env = [(false, eval e X.env)] := by rfl) :
    PI X (.Tuple elts kk tpos) (.Call (.Name "enumerate" p) [e] [] pos) (cI X.K cn W (wEnum mr)) := pi_wk (pi_enum hg hm ha hs) fun σ H R h => by
  obtain ⟨E, F, ρ, g, Qu, Qx, S, hm, hk, hx⟩ := h
  refine ⟨E, F, ρ, g, _, Qx, S, hm, fun F1 H1 vs xs g1 S1 p1 r1 q1 => ?_, hx⟩
  dsimp only at q1
  split at q1
  · cases r1 with
    | cons h1 t =>
      cases t
      obtain ⟨a, va, xa, rfl, sa, ra, q2⟩ := itZ_ok h1 q1
      exact ⟨a, va, rfl, S1.ext.seq sa, hk F1 H1 _ _ g1 S1 p1 (itok_e sa ra) q2⟩
  · exact q1.elim
end
open PySem PySem.Spec PyProof.Rows L2

/-! ### a dict locked while its keys are walked -/
def Lk (F F' : Hp) : Prop := ∀ a o, F a = some o → F' a = some o ∨ (∃ ob ks, o = .dK ks ∧ F' a = some (.frz ob (.dK ks))) ∨ ∃ ob ks, o = .frz ob (.dK ks) ∧ F' a = some (.dK ks)
section
variable {K : PySem.W.Frag} {F F' H H' : Hp}
theorem Lk.dk (e : Lk F F') {a : Addr} {ks : List (Key × V)} (h : Rd F a (.dK ks)) : Rd F' a (.dK ks) := by
  rcases h with h | ⟨o, h⟩
  · rcases e _ _ h with z | ⟨ob, ks', e1, z⟩ | ⟨ob, ks', e1, z⟩
    · exact .inl z
    · cases e1; exact .inr ⟨_, z⟩
    · cases e1
  · rcases e _ _ h with z | ⟨ob, ks', e1, z⟩ | ⟨ob, ks', e1, z⟩
    · exact .inr ⟨_, z⟩
    · cases e1
    · cases e1; exact .inl z
theorem Lk.at (e : Lk F F') {a : Addr} {o : HO} (h : F a = some o) (n1 : ∀ ks, o ≠ .dK ks) (n2 : ∀ ob ks, o ≠ .frz ob (.dK ks)) : F' a = some o := by
  rcases e _ _ h with z | ⟨ob, ks', e1, z⟩ | ⟨ob, ks', e1, z⟩
  · exact z
  · exact absurd e1 (n1 _)
  · exact absurd e1 (n2 _ _)
theorem Lk.rd (e : Lk F F') {a : Addr} {u : HO} (h : Rd F a u) (n : ∀ ks, u ≠ .dK ks) (n2 : ∀ ob ks, u ≠ .frz ob (.dK ks)) : Rd F' a u := by
  rcases h with h | ⟨o, h⟩
  · exact .inl (e.at h n n2)
  · exact .inr ⟨o, e.at h (fun _ z => by cases z) (fun ob ks z => by cases z; exact n _ rfl)⟩
theorem Lk.sqt (e : Lk F F') {a : Addr} {vs : List V} (h : SqT K F a vs) : SqT K F' a vs := h.imp (fun h => e.rd h (fun _ z => by cases z) fun _ _ z => by cases z) id
theorem Lk.sql (e : Lk F F') {a : Addr} {vs : List V} (h : SqL K F a vs) : SqL K F' a vs := h.imp (fun h => e.rd h (fun _ z => by cases z) fun _ _ z => by cases z) id
mutual
theorem Rp.lk (e : Lk F F') : ∀ {v : V} {x : D}, Rp K F v x → Rp K F' v x
  | _, _, .non => .non
  | _, _, .bl b => .bl b
  | _, _, .int i => .int i
  | _, _, .str x => .str x
  | _, _, .ref a => .ref a
  | _, _, .ty n => .ty n
  | _, _, .tup h t => .tup (e.sqt h) (RpL.lk e t)
  | _, _, .lst h t => .lst (e.at h (fun _ z => by cases z) fun _ _ z => by cases z) (RpL.lk e t)
  | _, _, .dct h t => .dct (e.dk h) (RpD.lk e t)
  | _, _, .ro h t => .ro (e.sql h) (RpL.lk e t)
  | _, _, .exn0 a => .exn0 a
  | _, _, .exn h t => .exn (e.at h (fun _ z => by cases z) fun _ _ z => by cases z) (RpF.lk e t)
theorem RpL.lk (e : Lk F F') : ∀ {vs : List V} {xs : List D}, RpL K F vs xs → RpL K F' vs xs
  | _, _, .nil => .nil
  | _, _, .cons h t => .cons (Rp.lk e h) (RpL.lk e t)
theorem RpD.lk (e : Lk F F') : ∀ {ks : List (Key × V)} {kvs : List (Str × D)}, RpD K F ks kvs → RpD K F' ks kvs
  | _, _, .nil => .nil
  | _, _, .cons h t => .cons (Rp.lk e h) (RpD.lk e t)
theorem RpF.lk (e : Lk F F') : ∀ {ks : List (Str × V)} {kvs : List (Str × D)}, RpF K F ks kvs → RpF K F' ks kvs
  | _, _, .nil => .nil
  | _, _, .cons h t => .cons (Rp.lk e h) (RpF.lk e t)
end
theorem CellOk.lk {a : Addr} {c : Cell} (e : Lk F F') (h : CellOk K F H a c) (k : ∀ b o, H b = some o → F b = none → H' b = some o ∧ F' b = none) (f : F a = none) : CellOk K F' H' a c := by
  cases c with
  | lst xs => obtain ⟨vs, h1, h2⟩ := h; exact ⟨vs, (k a _ h1 f).1, h2.lk e⟩
  | ins C fs => obtain ⟨dx, vs, t1, t2, t3, t4⟩ := h; exact ⟨dx, vs, (k _ _ t1 f).1, (k _ _ t2 t3).1, (k _ _ t2 t3).2, t4.lk e⟩
  | dct xs => obtain ⟨vs, h1, h2⟩ := h; exact ⟨vs, (k a _ h1 f).1, h2.lk e⟩
  | ext ψ xs cs => obtain ⟨vs, h1, h2, h3⟩ := h; exact ⟨vs, (k a _ h1 f).1, h2.lk e, fun c hc => e.at (h3 c hc) (fun _ z => by cases z) fun _ _ z => by cases z⟩
  | tbl =>
    obtain ⟨ps, q1, q2, q3⟩ := h
    exact ⟨ps, (k a _ q1 f).1, q2, fun pos cv hcv => (q3 pos cv hcv).imp fun c q => ⟨q.1, e.at q.2 (fun _ z => by cases z) fun _ _ z => by cases z⟩⟩
theorem lk_lock {d : Addr} {ob : Obj} {ks : List (Key × V)} (h : F d = some (.dK ks)) : Lk F (upd F d (.frz ob (.dK ks))) := fun a o q => by
  by_cases z : a = d
  · subst z
    rw [h] at q
    cases q
    exact .inr (.inl ⟨ob, ks, rfl, upd_same⟩)
  · exact .inl (by rw [upd_ne z]; exact q)
theorem lk_unlock {d : Addr} {ob : Obj} {ks : List (Key × V)} (h : F d = some (.frz ob (.dK ks))) : Lk F (upd F d (.dK ks)) := fun a o q => by
  by_cases z : a = d
  · subst z
    rw [h] at q
    cases q
    exact .inr (.inr ⟨ob, ks, rfl, upd_same⟩)
  · exact .inl (by rw [upd_ne z]; exact q)
theorem Stt.lock {E : Ent} {σ : L2.St} {ρ : Env} {g : G} {d : Addr} {ks : List (Key × V)} (ob : Obj) (S : Stt K E F H σ ρ g) (h : F d = some (.dK ks)) :
    Stt K ⟨upd F d (.frz ob (.dK ks)), upd H d (.frz ob (.dK ks)), g⟩ (upd F d (.frz ob (.dK ks))) (upd H d (.frz ob (.dK ks))) σ (ρ.map cleanU) g where
  ext := same_both S.ext
  ext0 := Same.refl _
  len := by rw [List.length_map]; exact S.len
  slot := fun i u q => by
    obtain ⟨v, h1, h2⟩ := S.anew.slot i u q
    refine ⟨v, h1, ?_⟩
    cases u with
    | d x => exact h2.lk (lk_lock h)
    | own o =>
      rw [List.getElem?_map] at q
      cases q2 : ρ[i]? with
      | none => rw [q2] at q; cases q
      | some w =>
        rw [q2] at q
        cases w with
        | none => cases q
        | some w => cases w <;> cases q
    | bor o => exact h2
  sep := S.anew.sep
  cell := fun a c q => by
    obtain ⟨c1, c2⟩ := S.cell a c q
    have ne : ∀ b, F b = none → b ≠ d := fun b z e => by rw [e, h] at z; cases z
    refine ⟨c1.lk (lk_lock h) (fun b o q1 q2 => ⟨by rw [upd_ne (ne b q2)]; exact q1, by rw [upd_ne (ne b q2)]; exact q2⟩) c2, by rw [upd_ne (ne a c2)]; exact c2⟩
  keep := fun b o h1 h2 h3 => ⟨h1, h2, h3⟩
  trk := fun b h => h
/-- back behind the lock -/
theorem unlock_stp {E1 : Ent} {σ : L2.St} {ρ1 : Env} {g g5 : G} {d : Addr} {ob : Obj} {ks : List (Key × V)} {F5 H5 : Hp} (hF : F d = some (.dK ks)) (hH : H d = some (.dK ks)) (S5 : Stt K E1 F5 H5 σ ρ1 g5) (p5 : Stp g (upd F d (.frz ob (.dK ks))) (upd H d (.frz ob (.dK ks))) g5 F5 H5) :
    H5 d = some (.frz ob (.dK ks)) ∧ Lk F5 (upd F5 d (.dK ks)) ∧ Stp g F H g5 (upd F5 d (.dK ks)) (upd H5 d (.dK ks)) ∧ Same (upd F5 d (.dK ks)) (upd H5 d (.dK ks)) ∧ Cells K (upd F5 d (.dK ks)) (upd H5 d (.dK ks)) g5 := by
  have f5 : F5 d = some (.frz ob (.dK ks)) := p5.ext _ _ upd_same
  have h5 : H5 d = some (.frz ob (.dK ks)) := S5.ext _ _ f5
  have lk := lk_unlock f5
  have ne : ∀ b, F b = none → b ≠ d := fun b z e => by rw [e, hF] at z; cases z
  have ne5 : ∀ b, F5 b = none → b ≠ d := fun b z e => by rw [e, f5] at z; cases z
  refine ⟨h5, lk, ⟨fun a o q => ?_, fun a o q1 q2 q3 => ?_, fun a q => ?_⟩, same_both S5.ext, fun a c q => ?_⟩
  · by_cases z : a = d
    · subst z; rw [hF] at q; cases q; exact upd_same
    · rw [upd_ne z]; exact p5.ext a o (by rw [upd_ne z]; exact q)
  · have z := ne a q2
    obtain ⟨k1, k2, k3⟩ := p5.keep a o (by rw [upd_ne z]; exact q1) (by rw [upd_ne z]; exact q2) q3
    exact ⟨by rw [upd_ne z]; exact k1, by rw [upd_ne z]; exact k2, k3⟩
  · have z : a ≠ d := fun e => by rw [e, upd_same] at q; cases q
    rw [upd_ne z] at q
    have := p5.trk a q
    rw [upd_ne z] at this
    exact this
  · obtain ⟨c1, c2⟩ := S5.cell a c q
    exact ⟨c1.lk lk (fun b o q1 q2 => ⟨by rw [upd_ne (ne5 b q2)]; exact q1, by rw [upd_ne (ne5 b q2)]; exact q2⟩) c2, by rw [upd_ne (ne5 a c2)]; exact c2⟩
/-- the walk of a comprehension -/
theorem lc_tail {cn : Str → Option Addr} {J : It} {tg : MG} {t : TG} {is : List Nat} {mt : MT} {me : ME} {vs : List Nat} {E : Ent} {F1 H1 : Hp} {σ : L2.St} {ρ : Env} {g1 : G} {xs : List D} {Q : VK} {kf : List D → G → Prop} (ht : TgOk K is t tg) (hv : ∀ i ∈ is, i ∈ vs)
    (S1 : Stt K E F1 H1 σ ρ g1) (io : ItOk K F1 J xs) (hq : lcLoop tg mt me (wipeU ρ vs) xs [] g1 kf) (hz : xs.length ≤ sizeLine) (Dl : Addr) (hD : H1 Dl = none)
    (hk : ∀ F' H' va acc g', Stt K E F' H' σ ρ g' → Stp g1 F1 H1 g' F' H' → H' Dl = some (.lst va) → F' Dl = none → g' Dl = none → RpL K F' va acc → kf acc g' → Q (.ref Dl) H') :
    ∃ Wf : Nat → Nat → Hp → Prop, (∃ m, Wf 0 m (upd H1 Dl (.lst []))) ∧ ∀ i m H, Wf i m H →
  (J.stop i H ∧ Q (.ref Dl) H) ∨ (J.go i H ∧ ∃ Nx : Hp → Prop, (∀ H', Nx H' → ∃ m', m' < m ∧ Wf (i + 1) m' H') ∧ ∀ x H', J.yld i H x H' → t x (wipe σ vs) H' fun σ2 H2 => wipe σ2 vs = wipe σ vs ∧ cT K cn W0 mt σ2 H2 fun b H3 =>
    if b = true then cE K cn W0 me σ2 H3 fun y H4 => ∃ acc, H4 Dl = some (.lst acc) ∧ acc.length < sizeLine ∧ Nx (upd H4 Dl (.lst (acc ++ [y]))) else Nx H3) := by
  obtain ⟨Gd, Y, wk, gd, yl⟩ := io
  have xno : ∀ (E : Ent) (σ : L2.St) (ρ : Env), XC K cn W0 E σ ρ noX := fun _ _ _ _ _ _ _ _ _ _ _ q => q
  refine lc_it wk (fun i H' => ∃ (F' : Hp) (g' : G) (acc : List D) (va : List V), Stt K E F' H' σ ρ g' ∧ Stp g1 F1 H1 g' F' H' ∧ H' Dl = some (.lst va) ∧ F' Dl = none ∧ g' Dl = none ∧ RpL K F' va acc ∧ acc.length ≤ i ∧
      lcLoop tg mt me (wipeU ρ vs) (xs.drop i) acc g' kf) ?_ ?_ ?_ ?_
  · exact ⟨F1, g1, [], [], S1.newO hD, Stp.newO hD, upd_same, S1.freeF hD, S1.freeG hD, .nil, Nat.le_refl _, hq⟩
  · rintro i H' _ ⟨F', g', acc, va, S', p', _⟩
    exact gd F' H' p'.ext S'.ext
  · rintro i x H2 H3 hi ⟨F', g', acc, va, S', p', hDl, hFD, hgD, ra, hl, hlp⟩ y
    have hne : ∀ p : Addr, H2 p = none → p ≠ Dl := fun p hp e => by rw [e, hDl] at hp; cases hp
    obtain ⟨d, hd, hy⟩ := yl i F' H2 x H3 hi p'.ext S'.ext y
    have drop_i : xs.drop i = d :: xs.drop (i + 1) := by
      obtain ⟨hi', e'⟩ := List.getElem?_eq_some_iff.mp hd
      rw [List.drop_eq_getElem_cons hi', e']
    rw [drop_i] at hlp
    obtain ⟨F3, S3, p3, r3, hD3, hF3⟩ : ∃ F3, Stt K E F3 H3 σ ρ g' ∧ Stp g' F' H2 g' F3 H3 ∧ Rp K F3 x d ∧ H3 Dl = some (.lst va) ∧ F3 Dl = none := by
      rcases hy with ⟨e, r⟩ | ⟨T, o, e1, hT, e2, r⟩
      · rw [e]
        exact ⟨F', S', Stp.refl _ _ _, r, hDl, hFD⟩
      · rw [e2]
        exact ⟨upd F' T o, S'.newF hT, Stp.newF S' hT, r, by rw [upd_ne (hne T hT).symm]; exact hDl, by rw [upd_ne (hne T hT).symm]; exact hFD⟩
    refine ht E F3 H3 (L2.wipe σ vs) (wipeU ρ vs) g' x d _ _ (S3.wipe vs) r3 hlp fun σ2 ρ2 S4 keepj hlen q2 => ⟨?_, ?_⟩
    · rw [wipe_same hlen fun j hj => keepj j fun z => hj (hv j z)]
      exact wipe_wipe σ vs
    refine ⟨E, F3, ρ2, g', _, noX, S4, q2, fun F5 H5 bb g5 S5 p5 q5 => ?_, xno _ _ _⟩
    have hD5 := p5.keep Dl _ hD3 hF3 hgD
    have S5' : Stt K E F5 H5 σ ρ g5 := S3.stp p5 S5.ext S5.cell
    cases bb with
    | false =>
      refine iteF ?_
      exact ⟨F5, g5, acc, va, S5', (p'.trans p3).trans p5, hD5.1, hD5.2.1, hD5.2.2, (ra.mono p3.ext).mono p5.ext, by omega, q5.2 rfl⟩
    | true =>
      refine iteT ?_
      refine ⟨E, F5, ρ2, g5, _, noX, S5, q5.1 rfl, fun F6 H6 v u g6 S6 p6 o6 f6 q6 => ?_, xno _ _ _⟩
      obtain ⟨F7, z, S7, p7, r7, q7, _⟩ := fz_ok S5 S6 p6 o6 f6 q6
      have hD7 := p7.keep Dl _ hD5.1 hD5.2.1 hD5.2.2
      have S7' : Stt K E F7 H6 σ ρ g6 := S5'.stp p7 S7.ext S7.cell
      have pAll := (((p'.trans p3).trans p5).trans p7)
      refine ⟨va, hD7.1, by have := ra.len; omega, F7, g6, acc ++ [z], va ++ [v], ?_, ⟨pAll.ext, fun b o h1 h2 h3 => ?_, fun b hb => pAll.trk b (upd_free hb)⟩, upd_same, hD7.2.1, hD7.2.2, (((ra.mono p3.ext).mono p5.ext).mono p7.ext).app (.cons r7 .nil), by rw [List.length_append, List.length_singleton]; omega, q7⟩
      · refine S7'.poke hD7.2.1 hD7.2.2 (S1.trk Dl hD) (fun y e => by rw [hD7.1] at e; cases e) fun j q hj hs => ?_
        obtain ⟨v0, k1, b0, eb0, r1, _⟩ := S1.slot j _ hj
        obtain ⟨w0, hw0⟩ := r1.there
        rw [k1] at hs
        cases hs
        cases eb0
        rw [hD] at hw0
        cases hw0
      · obtain ⟨k1, k2, k3⟩ := pAll.keep b o h1 h2 h3
        have hb : b ≠ Dl := fun e => by rw [e, hD] at h1; cases h1
        exact ⟨by rw [upd_ne hb]; exact k1, k2, k3⟩
  · rintro H' ⟨F', g', acc, va, S', p', hDl, hFD, hgD, ra, hl, hlp⟩
    rw [List.drop_length] at hlp
    exact hk F' H' va acc g' S' p' hDl hFD hgD ra hlp
def keysD (kvs : List (Str × D)) : List D := kvs.map fun p => .str p.1
theorem keys_at : ∀ {ks : List (Key × V)} {kvs : List (Str × D)} {i : Nat} {k : Key} {v : V}, RpD K F ks kvs → ks[i]? = some (k, v) → ∃ s, kV k = .str s ∧ (keysD kvs)[i]? = some (.str s)
  | _, _, _, _, _, .nil, h => by simp at h
  | _, _, 0, _, _, .cons (s := s) _ _, h => by
    simp at h
    obtain ⟨rfl, _⟩ := h
    exact ⟨s, rfl, rfl⟩
  | _, _, i + 1, k, v, .cons _ t, h => by
    obtain ⟨s, e1, e2⟩ := keys_at (i := i) (k := k) (v := v) t (by simpa using h)
    exact ⟨s, e1, by unfold keysD at e2 ⊢; simpa using e2⟩
theorem itok_k {d : Addr} {o : Obj} {ks : List (Key × V)} {kvs : List (Str × D)} (h : F d = some (.frz o (.dK ks))) (r : RpD K F ks kvs) : ItOk K F (Itk d o ks) (keysD kvs) := by
  have hl : (keysD kvs).length = ks.length := by unfold keysD; rw [List.length_map, r.len]
  refine ⟨fun H => H d = some (.frz o (.dK ks)), _, by rw [hl]; exact walk_keys, fun F2 H2 e1 e2 => e2 _ _ (e1 _ _ h), fun i F2 H2 v H3 hi e1 e2 y => ?_⟩
  obtain ⟨e3, k, w, hk, rfl⟩ := y
  obtain ⟨s, es, e4⟩ := keys_at r hk
  exact ⟨.str s, e4, .inl ⟨e3, by rw [es]; exact .str s⟩⟩
@[simp] def wLcK (i : Nat) (tg : MG) (mt : MT) (me : ME) (vs : List Nat) : ME := fun ρ g Q X => match ρ[i]? with
  | some (some (.d (.dct kvs))) => kvs.length ≤ sizeLine ∧ lcLoop tg mt me (wipeU (ρ.map cleanU) vs) (keysD kvs) [] g fun acc g2 => Q (.own (.lst acc)) g2
  | _ => False
end
section
variable {X : Cx} {cn : Str → Option Addr} {W : WX} {pos : Pos}
theorem re_lcK (i : Nat) {y : Str} {py : Pos} {elt tg : Expr} {ifs : List Expr} {scope : Scope} {own : List (Str × Nat)} {g : MG} {t : TG} {is : List Nat} {mt : MT} {me : ME} (hc : X.calm = true) (hN : X.N.Nodup) (ok : BlkOk X.N X.env.scope scope own) (to : TgOk X.K is t g) (hv : ∀ i ∈ is, i ∈ own.map (·.2))
    (hg : ∀ (s : Shared) (H : Hp) (C : Addr) (cl : List (Str × Addr)) (fp : List Addr), PG (X.blk s H scope (compEnvC scope cl C X.env) fp) tg t) (ht : ∀ (s : Shared) (H : Hp) (C : Addr) (cl : List (Str × Addr)) (fp : List Addr), PTs (X.blk s H scope (compEnvC scope cl C X.env) fp) ifs (cT X.K cn W0 mt))
    (he : ∀ (s : Shared) (H : Hp) (C : Addr) (cl : List (Str × Addr)) (fp : List Addr), PE (X.blk s H scope (compEnvC scope cl C X.env) fp) elt (cE X.K cn W0 me)) (hs : ∀ x, foldedSetIterable (.Name y py) X.env x = pure x := by intro _; rfl)
    (hNi : X.N[i]? = some y := by rfl) (hvi : Vis X.env.scope y := by first | exact Or.inl rfl | exact Or.inr (Or.inl rfl) | exact Or.inr (Or.inr rfl)) (hd : (y == ("__debug__" : Str)) = false := by decide) (hcd : (y == ("__classdict__" : Str)) = false := by decide) :
    PE X (.ListComp elt [⟨tg, .Name y py, ifs, 0⟩] scope pos) (cE X.K cn W (wLcK i g mt me (own.map (·.2)))) := by
  have base := pe_lc (pos := pos) hc hN (pi_keys (tg := tg) (pe_var (pos := py) hNi hvi hd hcd)) ok hg ht he hs
  have both := pe_lock base
  refine ⟨fun pins s σ H Q I h => ?_⟩
  obtain ⟨E, F, ρ, g0, Qu, Qx, S, hm, hk, hx⟩ := h
  unfold wLcK at hm
  cases q : ρ[i]? with
  | none => rw [q] at hm; exact hm.elim
  | some w =>
    rw [q] at hm
    split at hm
    · rename_i kvs e
      cases e
      obtain ⟨v, hσ, rv⟩ := S.slot i _ q
      have rv' : Rp X.K F v (.dct kvs) := rv
      cases rv' with
      | @dct d ks _ hr rk =>
        have hl : (keysD kvs).length ≤ sizeLine := by unfold keysD; rw [List.length_map]; exact hm.1
        rcases hr with hF | ⟨o, hF⟩
        · have hH := S.ext _ _ hF
          refine both.run pins s σ H Q I ⟨d, .dK ks, hH, trivial, fun od => ⟨_, hσ, d, od, rfl, .inl ⟨ks, upd_same, fun Dl hD => ?_⟩⟩⟩
          have S1 := S.lock od hF
          refine lc_tail (cn := cn) (Q := fun v H' => H' d = some (.frz od (.dK ks)) ∧ Q v (upd H' d (.dK ks))) (kf := fun acc g2 => Qu (.own (.lst acc)) g2) to hv S1 (itok_k upd_same (rk.lk (lk_lock hF))) hm.2 hl Dl hD fun F' H' va acc g' S' p' hDl hFD hgD ra kq => ?_
          obtain ⟨h5, lk, p6, e6, c6⟩ := unlock_stp hF hH S' p'
          have hne : Dl ≠ d := fun z => by rw [z, upd_same] at hD; cases hD
          have hD0 : H Dl = none := by rw [upd_ne hne] at hD; exact hD
          refine ⟨h5, hk _ _ (.ref Dl) (.own (.lst acc)) g' (S.stp p6 e6 c6) p6 ⟨Dl, rfl, ⟨va, by rw [upd_ne hne]; exact hDl, ra.lk lk⟩, by rw [upd_ne hne]; exact hFD, hgD, S.trk Dl hD0⟩ (fun a ea => by cases ea; exact hD0) kq⟩
        · have hH := S.ext _ _ hF
          refine base.run pins s σ H Q I ⟨_, hσ, d, o, rfl, .inl ⟨ks, hH, fun Dl hD => ?_⟩⟩
          have S1 := S.anew
          refine lc_tail (cn := cn) (Q := Q) (kf := fun acc g2 => Qu (.own (.lst acc)) g2) to hv S1 (itok_k hF rk) hm.2 hl Dl hD fun F' H' va acc g' S' p' hDl hFD hgD ra kq => ?_
          exact hk _ _ (.ref Dl) (.own (.lst acc)) g' (S.stp p' S'.ext S'.cell) p' ⟨Dl, rfl, ⟨va, hDl, ra⟩, hFD, hgD, S.trk Dl hD⟩ (fun a ea => by cases ea; exact hD) kq
    · exact hm.elim
end
open PySem PySem.Spec PyProof.Rows L2

/-! ### X[-1].update(d): a shared dict gets another one's pairs -/
def rDUpd : V → List V → Hp → VK → Prop := fun x vs H Q => ∃ (a b : Addr) (kvs more : List (Key × V)), x = .ref a ∧ vs = [.ref b] ∧ H a = some (.dK kvs) ∧ Rd H b (.dK more) ∧ a ≠ b ∧ kvs.length + more.length ≤ sizeLine ∧ Q .non (upd H a (.dK (mergeK kvs more)))
theorem putK_le (kvs : List (Key × V)) (k : Key) (v : V) : (putK kvs k v).length ≤ kvs.length + 1 := by
  unfold putK
  split
  · rw [List.length_map]; omega
  · rw [List.length_append]; exact Nat.le_refl _
theorem mergeK_le : ∀ (more kvs : List (Key × V)), (mergeK kvs more).length ≤ kvs.length + more.length
  | [], kvs => Nat.le_refl _
  | p :: more, kvs => by
    have := mergeK_le more (putK kvs p.1 p.2)
    have := putK_le kvs p.1 p.2
    show (mergeK (putK kvs p.1 p.2) more).length ≤ _
    rw [List.length_cons]
    omega
section
variable {X : Cx}
theorem mtd_update : MtR X "dict.update" rDUpd := by
  intro pins s σ H x vs v us Q I rx rv h
  obtain ⟨a, b, kvs, more, rfl, rfl, ha, hb, ne, hz, q⟩ := h
  obtain rfl : v = Value.ref a := rx
  obtain ⟨u, rfl, ru⟩ := rv.one
  obtain rfl : u = Value.ref b := ru
  obtain ⟨z1, hd, va, ra, da⟩ := dk_of I.hok ha
  obtain ⟨z2, hs2, vb, rb, db⟩ := dk_rd I.hok hb
  refine call_meetsIn PySem.F.slot_dict_update da.typeIs PySem.F.entry_dict_update (PySem.F.args_dict_update_2 _ _) (meets_dict_update (mixKind X.prog X.w) a b ne hs2)
    ⟨va, vb, da, db, by rw [← ra.length, ← rb.length]; exact hz, fun h' da' _ sb => ?_⟩
  have he : ∃ q, h'.get? a = some q := let ⟨q, _, _, hq, _⟩ := da'; ⟨q, hq⟩
  exact ⟨.non, _, d_write (t' := s.toks) I (by rw [ha]; exact True.intro) sb he (dk_new (Nat.le_trans (mergeK_le ..) hz) hd (KV.merge rb ra) da'), rfl, q⟩
variable {cn : Str → Option Addr} {W : WX} {e c : Expr} {pos : Pos}
@[simp] def wUpdE (mc me : ME) : MS := fun ρ g P => mc ρ g (fun w0 g1 => refU w0 fun p => (∃ kvs, g1 p = some (.dct kvs)) ∧ me ρ g1 (fun u g2 => fzU u fun y => ∃ kvs more, y = .dct more ∧ g2 p = some (.dct kvs) ∧ kvs.length + more.length ≤ sizeLine ∧ P.nx ρ (setG g2 p (.dct (dputs kvs more)))) (xOf P ρ)) (xOf P ρ)
theorem rs_updE {apos cpos : Pos} {mc me : ME} (hc : PE X c (cE X.K cn W mc)) (he : PE X e (cE X.K cn W me)) (hbase : attributeBase c "update" X.env (eval c X.env) = eval c X.env := by rfl)
    (hfew : ((backTo cpos (starEach [e] X.env)).all (fun x => !x.1) && (backToKw cpos (keywordEach [] X.env)).all (fun x => x.1.isSome) && decide ([e].length + ([] : List Keyword).length + (if ([] : List Keyword).isEmpty then 0 else 1) < 30)) = true := by rfl)
    (hline : (apos.endLine == cpos.line) = true := by rfl) (hs1 : starEach [e] X.env = (false, eval e X.env) :: starEach [] X.env := by rfl) (hplain : (backTo cpos (starEach [] X.env)).any (·.1) = false := by rfl)
    (hs : swapsWith (.Call (.Attribute c "update" apos) [e] [] cpos) none pos.line X.env = pure false := by rfl) :
    PS X (.Expr (.Call (.Attribute c "update" apos) [e] [] cpos) pos) (cS X.K cn W (wUpdE mc me)) :=
  ps_wk (ps_expr (pe_bm PySem.F.plainAttrs_dict PySem.F.slot_dict_update PySem.F.type_dict_update mtd_update hc (pa_cons he pa_nil (hs := hs1)) hbase hfew hline hs1 hplain) hs) fun D σ H h => by
    obtain ⟨E, F, ρ, g, P, S, hm, C⟩ := h
    unfold wUpdE at hm
    refine ⟨E, F, ρ, g, _, _, S, hm, fun F1 H1 v u g1 S1 p1 o1 f1 q1 => ?_, C.xc σ ρ⟩
    obtain ⟨p, rfl, rfl, ⟨kvs0, hg0⟩, hm2⟩ := refU_ok o1 q1
    obtain ⟨⟨vs0, t1, t2⟩, t3⟩ := S1.cell p _ hg0
    refine ⟨.inr (.inr (.inl ⟨rfl, .inl ⟨vs0, t1⟩⟩)), ?_⟩
    refine ⟨E, F1, ρ, g1, _, _, S1, hm2, fun F2 H2 v2 u2 g2 S2 p2 o2 f2 q2 => ?_, C.xc σ ρ⟩
    obtain ⟨F3, y, S3, p3, r3, q3, _⟩ := fz_ok S1 S2 p2 o2 f2 q2
    obtain ⟨kvs, more, rfl, hg, hz, q⟩ := q3
    obtain ⟨⟨ws, w1, w2⟩, w3⟩ := S3.cell p _ hg
    cases r3 with
    | @dct b ks _ hr rk =>
      have ne : p ≠ b := fun z => by
        subst z
        rcases hr with h | ⟨o, h⟩ <;> (rw [w3] at h; cases h)
      exact ⟨p, b, ws, ks, rfl, rfl, w1, rd_mono S3.ext hr, ne, by rw [w2.len, rk.len]; exact hz, C.nx F3 _ σ ρ _ (S3.mutK hg (RpD.puts rk w2)) q⟩
end
/-! ### a, b, c = x, y, z, plain local names, own lists kept -/
section
variable {X : Cx} {cn : Str → Option Addr} {W : WX}
theorem rs_asgO3 (i j l : Nat) {x y z : Str} {a b c : Expr} {px py pz pt pos : Pos} {kt k2 pt2} {mx : MAU} (hc : X.calm = true) (hN : X.N.Nodup) (ha : PA X [a, b, c] (cAU X.K cn W mx)) (hij : i ≠ j := by decide) (hil : i ≠ l := by decide) (hjl : j ≠ l := by decide) (hi : X.N[i]? = some x := by rfl) (hj : X.N[j]? = some y := by rfl) (hl : X.N[l]? = some z := by rfl)
    (hx : X.env.scope.names.lookup x = some .local := by rfl) (hy : X.env.scope.names.lookup y = some .local := by rfl) (hz : X.env.scope.names.lookup z = some .local := by rfl)
    (hw : swappedStores [.Tuple [.Name x px, .Name y py, .Name z pz] kt pt] (.Tuple [a, b, c] k2 pt2) X.env = pure (some [x, y, z]) := by rfl)
    (hs : swapsWithSole [.Tuple [.Name x px, .Name y py, .Name z pz] kt pt] (.Tuple [a, b, c] k2 pt2) pos.line X.env = pure false := by rfl) :
    PS X (.Assign [.Tuple [.Name x px, .Name y py, .Name z pz] kt pt] (.Tuple [a, b, c] k2 pt2) pos) (cS X.K cn W (wAsgO [i, j, l] mx)) := ps_wk (ps_par3 hc hN hi hj hl hij hil hjl hx hy hz ha hw hs) fun D σ H h => by
  obtain ⟨E, F, ρ, g, P, S, hm, C⟩ := h
  refine ⟨E, F, ρ, g, _, _, S, hm, fun F1 H1 vs us g1 S1 p1 r1 q1 => ?_, C.xc σ ρ⟩
  have t := tg_us [i, j, l] (Q := fun σ' H' => D.nx σ' H') S1 r1 q1.1.1 (fun j o v hj hv i q hi hs => by
    obtain ⟨a, ea, ha⟩ := r1.at hj hv
    obtain ⟨v0, k1, b0, eb0, o1, _⟩ := S.slot i _ hi
    obtain ⟨w0, hw0⟩ := o1.there
    rw [k1] at hs
    cases hs
    rw [ea] at eb0
    cases eb0
    rw [hw0] at ha
    cases ha) fun σ' S' => C.nx F1 _ σ' _ g1 S' q1.2
  obtain ⟨u, vs1, rfl, v, vs2, rfl, w, vs3, rfl, e, q⟩ := t
  subst e
  exact ⟨u, v, w, rfl, q⟩
end
open PySem PySem.Spec PyProof.Rows L2

/-! ### for word in a written dict of the module -/
def KKeys (K : PySem.W.Frag) (mg : Str → Option Value) (x : Str) (ks : List Str) : Prop :=
  ∃ (a : Addr) (es : Array DictEntry) (n : Nat), mg x = some (.ref a) ∧ K.lookup a = some ⟨.type "dict", none, .dict es n, #[]⟩ ∧ (a == sysModules) = false ∧ Vals (ks.map V.str) (es.toList.map (·.key))
/-- words that are not in it -/
def KOut (K : PySem.W.Frag) (w : World) (mg : Str → Option Value) (x : Str) (outs : List Str) : Prop :=
  ∃ (a : Addr) (es : Array DictEntry) (n : Nat), mg x = some (.ref a) ∧ KDict K w a es n ∧ ∀ s ∈ outs, PySem.W.nsIn K a s = some none
/-- the keys, their order fixed -/
def Itq (vs : List V) : It := ⟨fun i _ => i < vs.length, fun i H x H' => H' = H ∧ vs[i]? = some x, fun i _ => vs.length ≤ i⟩
theorem turn_q {P : Program} {w : World} {K : PySem.W.Frag} {tg : Expr} {d it : Addr} {es : Array DictEntry} {n : Nat} {vs : List V} (lk : K.lookup d = some ⟨.type "dict", none, .dict es n, #[]⟩) (hv : Vals vs (es.toList.map (·.key))) :
    Turn P w K tg (Itq vs) [it] it (fun i h => h.IsKeyIter it d i es.size n) where
  mem := by simp
  obj := fun i h st b hb => by
    have e : b = it := by simpa using hb
    subst e
    obtain ⟨oi, e, c, dd⟩ := st
    exact ⟨oi, e, fun v z => by rw [dd] at z; cases z⟩
  keep := fun i h h' st k => st.at fun oi e => k it (by simp) oi e
  item := by
    intro X hP hw hK hc i pins s σ H E I hf st hg
    subst hP hw hK
    have hi : i < vs.length := hg
    obtain ⟨f0, f1, f2, f3, f4, f5⟩ := hf it (by simp)
    have hgd := I.kIn d _ lk
    have hl : vs.length = es.size := by simpa using hv.length
    obtain ⟨en, hen⟩ : ∃ en, es[i]? = some en := ⟨es[i]'(by omega), Array.getElem?_eq_getElem (by omega)⟩
    obtain ⟨u, hu, ru⟩ := hv.get (List.getElem?_eq_getElem hi)
    rw [List.getElem?_map, Array.getElem?_toList, hen] at hu
    have hu' : en.key = u := Option.some.inj hu
    refine next_key_item st hgd rfl rfl hen fun h' st' sb => ?_
    have I1 : Inv X pins σ H { s with heap := h' } := I.turned (t' := s.toks) (fun b ob hb e => (sb.2 b hb).trans e) f0 f1 f3 f4 f5
    obtain ⟨oi, e, c, dd⟩ := id st'
    refine ⟨en.key, rfl, go_of (s := { s with heap := h' }) e c dd (by decide) ⟨vs[i], H, I1, by rw [hu']; exact ru, ⟨rfl, List.getElem?_eq_getElem hi⟩, st', fun b hb => (hf b hb).1⟩⟩
  done := by
    intro X hP hw hK hc i pins s σ H E I hf st hg
    subst hP hw hK
    have hi : vs.length ≤ i := hg
    obtain ⟨f0, f1, f2, f3, f4, f5⟩ := hf it (by simp)
    have hgd := I.kIn d _ lk
    have hl : vs.length = es.size := by simpa using hv.length
    exact next_key_end (I.ok.hd hc) st hgd rfl rfl (by omega) fun h' eb => ⟨rfl, I.turned (t' := s.toks) (fun b ob hb e => eb b ob hb e) f0 f1 f3 f4 f5⟩
  self := fun A i s Q E st h => wpAny_pyIter_keyiter st h
theorem walk_q {vs : List V} : Walk (Itq vs) vs.length (fun _ => True) (YAt vs) := ⟨fun _ _ hi _ => hi, fun _ _ => Nat.le_refl _, fun _ _ _ _ _ _ y => y⟩
theorem itok_q {K : PySem.W.Frag} {F : Hp} {ks : List Str} : ItOk K F (Itq (ks.map V.str)) (ks.map D.str) := by
  refine ⟨fun _ => True, _, by rw [List.length_map, ← List.length_map (f := V.str)]; exact walk_q, fun _ _ _ _ => trivial, fun i F2 H2 v H3 hi e1 e2 y => ?_⟩
  obtain ⟨x, hx, rx⟩ := (RpL.of_strs (K := K) (F := F2) ks).got y.2
  exact ⟨x, hx, .inl ⟨y.1, rx⟩⟩
@[simp] def wKeys (ks : List Str) : MI := fun _ g Q _ => Q (ks.map D.str) g
section
variable {X : Cx} {cn : Str → Option Addr} {W : WX} {e : Expr} {pos : Pos} {m : ME} {x : Str} {p : Pos} {ks : List Str}
theorem ri_keys {tg : Expr} (T : KKeys X.K X.mg x ks) (hg : Gl X x) (hd : (x == ("__debug__" : Str)) = false := by decide) : PI X tg (.Name x p) (cI X.K cn W (wKeys ks)) := by
  obtain ⟨d, es, n, hm, lk, lo, hv⟩ := T
  refine ⟨fun pins s σ H R I h => ?_⟩
  obtain ⟨E, F, ρ, g, Qu, Qx, S, hm2, hk, hx⟩ := h
  refine thn ((pe_glob (v := .ref d) hg hm rfl hd).run pins s σ H (fun v H1 => v = .ref d ∧ H1 = H) I ⟨rfl, rfl⟩) fun u s1 hh => ?_
  obtain ⟨v, H1, I1, r1, ev, eH⟩ := hh
  subst ev eH
  obtain rfl : u = Value.ref d := r1
  have hgd := I1.kIn d _ lk
  exact iter_keys lo hgd ⟨rfl, rfl, rfl⟩ rfl (pi_one (tk := s1.toks) I1 _ (turn_q lk hv) ⟨_, Heap.get?_push_size _ rfl, rfl, rfl⟩ (hk F _ _ _ g S (Stp.refl _ _ _) itok_q hm2))
/-! a word in it, or not -/
@[simp] def kinO (tab : List (Str × D)) (outs : List Str) : D → (U → Prop) → Prop
  | .str s, k => (∃ x, dget tab s = some x ∧ k (.d (.bl true))) ∨ (s ∈ outs ∧ k (.d (.bl false)))
  | _, _ => False
theorem rt_kinO {tab : List (Str × D)} {outs : List Str} (T : KTab X.K X.w X.mg x tab) (O : KOut X.K X.w X.mg x outs) (hg : Gl X x) (ha : PE X e (cE X.K cn W m)) (hd : (x == ("__debug__" : Str)) = false := by decide) : PT X (.Compare e [.In] [.Name x p] pos) (cT X.K cn W (wT (wUn (kinO tab outs) m))) := by
  obtain ⟨d, es, n, hm, D, h⟩ := T
  obtain ⟨d', es', n', hm', _, ho⟩ := O
  rw [hm] at hm'
  cases hm'
  refine pt_wk (pt_cmpR (op_in_kd D) ha (pe_glob (v := .ref d) hg hm rfl hd) rfl) (t_ok fun σ H Q hh => un_ok (r := fun x H Q => ∃ (z : Str) (r : Option Value), x = .str z ∧ (V.ref d) = .ref d ∧ PySem.W.nsIn X.K d z = some r ∧ Q (.bl r.isSome) H) (fun E F H σ ρ g v x k Q S hv hk rc => ?_) σ H Q hh)
  unfold kinO at hk
  split at hk
  · rw [hv.str]
    rcases hk with ⟨y, hy, q⟩ | ⟨hs, q⟩
    · obtain ⟨u, v', h1, h2, h3⟩ := h _ (dget_mem hy)
      exact ⟨_, some u, rfl, rfl, h1, rc_same rc S (.bl _) q⟩
    · exact ⟨_, none, rfl, rfl, ho _ hs, rc_same rc S (.bl _) q⟩
  · exact hk.elim
/-! {"a": "b", ..} -/
abbrev litT (kvs : List (Str × Str)) : List (TE × TE) := kvs.map fun p => (fun _ H Q => Q (.str p.1) H, fun _ H Q => Q (.str p.2) H)
def litD (kvs : List (Str × Str)) : List (Str × D) := kvs.map fun p => (p.1, .str p.2)
theorem lit_pairs {σ : L2.St} : ∀ {kvs : List (Str × Str)} {H : Hp} {Q : List (V × V) → Hp → Prop}, Q (kvs.map fun p => (V.str p.1, V.str p.2)) H → tPairs (litT kvs) σ H Q
  | [], _, _, h => h
  | p :: kvs, H, Q, h => lit_pairs (kvs := kvs) (Q := fun ps H3 => Q ((V.str p.1, V.str p.2) :: ps) H3) h
theorem lit_rp {K : PySem.W.Frag} {F : Hp} : ∀ {kvs : List (Str × Str)}, RpD K F (kvs.map fun p => ((.inr p.1 : Key), V.str p.2)) (litD kvs)
  | [] => .nil
  | p :: kvs => .cons (.str p.2) (lit_rp (kvs := kvs))
@[simp] def wDlit (kvs : List (Str × Str)) : ME := fun _ g Q _ => kvs.length ≤ 15 ∧ Q (.own (.dct (dputs [] (litD kvs)))) g
theorem re_dlit {keys : List (Option Expr)} {values : List Expr} (kvs : List (Str × Str)) (h : PPs X pos keys values (litT kvs)) (hall : keys.all (·.isSome) = true := by rfl) (hl : keys.length = values.length := by rfl) (h0 : keys ≠ [] := by simp) (h15 : keys.length ≤ 15 := by decide) :
    PE X (.Dict keys values pos) (cE X.K cn W (wDlit kvs)) := pe_wk (pe_disp h hall hl h0 h15) fun σ H Q hh => by
  obtain ⟨E, F, ρ, g, Qu, Qx, S, hm, hk, _⟩ := hh
  intro p hp
  refine lit_pairs ⟨upd_same, kvs.map fun p => ((.inr p.1 : Key), V.str p.2), by rw [List.map_map]; rfl, by rw [List.length_map]; exact hm.1, ?_⟩
  have e : upd (upd H p (.dK [])) p (.dK (mergeK [] (kvs.map fun p => ((.inr p.1 : Key), V.str p.2)))) = upd H p (.dK (mergeK [] (kvs.map fun p => ((.inr p.1 : Key), V.str p.2)))) := by
    funext b
    by_cases z : b = p
    · rw [z, upd_same, upd_same]
    · rw [upd_ne z, upd_ne z, upd_ne z]
  rw [e]
  have r : RpD X.K F (mergeK [] (kvs.map fun p => ((.inr p.1 : Key), V.str p.2))) (dputs [] (litD kvs)) := RpD.puts lit_rp .nil
  exact hk _ _ (.ref p) (.own (.dct (dputs [] (litD kvs)))) g (S.newO hp) (Stp.newO hp) ⟨p, rfl, ⟨_, upd_same, r⟩, S.freeF hp, S.freeG hp, S.trk p hp⟩ (fun a e => by cases e; exact hp) hm.2
end
open PySem PySem.Spec PyProof.Rows L2 LamX

/-! ### lambdas with one parameter that has a default, called without it -/
/-- one name of its own, which the law does not have -/
structure LamD (sc : Scope) (N : List Str) (y : Str) (scope : Scope) : Prop where
  kind : scope.kind = .function
  co : scope.isCoroutine = false
  gen : scope.isGenerator = false
  own : ∀ z ∈ scope.names, z.2 ≠ .cell ∧ (z.2 = .local → z.1 ∉ N)
  free : ∀ z ∈ scope.names, z.2 = .free → sc.names.lookup z.1 = some .cell ∨ sc.names.lookup z.1 = some .free
  loc : scope.names.lookup y = some .local
def lamDB (sc : Scope) (N : List Str) (y : Str) (scope : Scope) : Bool :=
  decide (scope.kind = .function) && !scope.isCoroutine && !scope.isGenerator && (scope.names.all fun z => !decide (z.2 = .cell) && (!decide (z.2 = .local) || decide (z.1 ∉ N)) && (!decide (z.2 = .free) || decide (sc.names.lookup z.1 = some .cell) || decide (sc.names.lookup z.1 = some .free))) && decide (scope.names.lookup y = some .local)
theorem lamD_by {sc scope : Scope} {N : List Str} {y : Str} (h : lamDB sc N y scope = true) : LamD sc N y scope := by
  unfold lamDB at h
  simp only [Bool.and_eq_true, Bool.or_eq_true, Bool.not_eq_true', decide_eq_true_eq, decide_eq_false_iff_not, List.all_eq_true] at h
  obtain ⟨⟨⟨⟨h1, h2⟩, h3⟩, h4⟩, h5⟩ := h
  refine ⟨h1, h2, h3, fun y hy => ⟨(h4 y hy).1.1, fun e => ?_⟩, fun y hy e => ?_, h5⟩
  · rcases (h4 y hy).1.2 with z | z
    · exact absurd e z
    · exact z
  · rcases (h4 y hy).2 with (z | z) | z
    · exact absurd e z
    · exact .inl z
    · exact .inr z
theorem LamD.has {X : Cx} {scope : Scope} {y : Str} (L : LamD X.env.scope X.N y scope) (ok : X.Ok) : ∀ y ∈ scope.names, y.2 = .free → ∃ c, X.env.cells.lookup y.1 = some c := fun y hy e => by
  rcases L.free y hy e with k | k
  · exact ok.has _ (.inl k)
  · exact ok.has _ (.inr k)
section
variable {X : Cx} {pins : List (Addr × Obj)} {σ : L2.St} {H HZ : Hp} {s s1 : Shared}
theorem lam_startD {A : Around} {outer : List PySem.Env} {E : XK} {scope : Scope} {y0 : Str} {f c' : Addr} {h₁ : Heap} {tk : Nat} {m : Str → Option Value} (I : Inv X pins σ H s) (L : LamD X.env.scope X.N y0 scope) (e0 : Env0 X.prog X.w X.K X.mg X.base A outer s1 HZ) (hd : A.handled = none)
    (un : Un (frs X.stack) [] H HZ s.heap s1.heap) (hns : h₁.Ns s1.heap.objs.size m) (kp : ∀ b o, s1.heap.get? b = some o → h₁.get? b = some o) :
    Inv (lamCx X A outer s1 HZ E scope f c') [] σ HZ { s1 with heap := h₁, toks := tk } := by
  have hfree := L.has I.ok
  have cm : ∀ {y c}, (cloFrom X.env.cells scope.names []).lookup y = some c → X.env.cells.lookup y = some c := fun {y c} e => by
    rcases cloFrom_mem (PySem.mem_of_lookup e) with hm | ⟨h1, h2⟩
    · cases hm
    · obtain ⟨c1, hc⟩ := hfree _ h1 rfl
      have hc : X.env.cells.lookup y = some c1 := hc
      have e2 : c = c1 := by
        rw [h2, hc] <;> rfl
      rw [e2]
      exact hc
  have look : ∀ {y}, scope.names.lookup y = some .free → ∃ c, (cloFrom X.env.cells scope.names []).lookup y = some c := fun {y} hl => by
    have hy : (y, NameKind.free) ∈ scope.names := PySem.mem_of_lookup hl
    exact mem_lookup (cloFrom_has (cells := X.env.cells) (acc := []) hy)
  have cellK : ∀ {c : Addr} {v : Option Value}, H c = none → s.heap.IsCell c v → h₁.IsCell c v := fun {c v} n ⟨o, ho, hd⟩ => by
    obtain ⟨sl, q⟩ := un.any ho n (by simp)
    exact ⟨_, kp _ _ q, hd⟩
  have noA : ∀ b : Addr, b ∉ (lamCx X A outer s1 HZ E scope f c').ex := fun b z => absurd (show b ∈ ([] : List Addr) from z) (by simp)
  refine ⟨⟨e0.mod, L.kind, rfl, rfl, Nat.le_refl _, fun y z c e1 e2 => I.ok.inj y z c (cm e1) (cm e2), fun y hy => ?_, fun y c z _ => ?_, fun _ => hd, Around.frames_deeper e0.frames, .inr ⟨rfl, rfl⟩, fun b z => absurd z (noA b), e0.bs, e0.bsz, fun b _ _ => noA b,
      fun b z => absurd z (noA b), e0.funs, e0.frf⟩,
    rfl, e0.bare, Un.kept kp, ⟨_, hns, fun i y v e1 e2 e3 => ?_⟩, fun y c e => ?_, e0.hok.fresh (Nat.le_refl _), fun y c e => ?_, fun q hq => absurd (show q ∈ ([] : List (Addr × Obj)) ++ [] from hq) (by simp), e0.hok.kept kp, I.len⟩
  · have hy : scope.names.lookup y = some .cell ∨ scope.names.lookup y = some .free := hy
    rcases hy with hy | hy
    · exact absurd rfl (L.own _ (PySem.mem_of_lookup hy)).1
    · exact look hy
  · have z : false = true := z
    cases z
  · have e3 : Vis scope y := e3
    have e1 : X.N[i]? = some y := e1
    rcases e3 with k | k | k
    · exact absurd (List.mem_of_getElem? e1) ((L.own _ (PySem.mem_of_lookup k)).2 rfl)
    · exact absurd rfl (L.own _ (PySem.mem_of_lookup k)).1
    · obtain ⟨m, hn, hl⟩ := I.loc
      have hvis : Vis X.env.scope y := (L.free _ (PySem.mem_of_lookup k) rfl).elim (fun k => .inr (.inl k)) (fun k => .inr (.inr k))
      obtain ⟨w', r, q⟩ := hl i y v e1 e2 hvis
      obtain ⟨c2, h2⟩ := look k
      refine ⟨w', r, .inr ⟨.inr k, c2, h2, ?_⟩⟩
      have c1 := cm h2
      rcases q with ⟨k', _⟩ | ⟨_, c3, e', z⟩
      · have k' : X.env.scope.names.lookup y = some .local := k'
        rcases L.free _ (PySem.mem_of_lookup k) rfl with k2 | k2 <;> rw [show X.env.scope.names.lookup y = _ from k2] at k' <;> cases k'
      · rw [c1] at e'
        cases e'
        exact cellK (I.freeC y _ c1) z
  · obtain ⟨w', z⟩ := I.cell y c (cm e)
    exact ⟨w', cellK (I.freeC y c (cm e)) z⟩
  · obtain ⟨v, o, ho, hd⟩ := I.cell y c (cm e)
    exact un.free c o ho (I.freeC y c (cm e)) (by simp)
theorem lam_madeD {c P : Addr} {params : Arguments} {body : Expr} {scope : Scope} {pos : Pos} {E Q : Value → Shared → Prop} (I : Inv X pins σ H s) (TB : TabB X.base X.mg c P) (hcode : X.env.code = .ref c) (hT : TabAt H P (X.env.qual ++ "<lambda>"))
    (hne : params.defaults.isEmpty = false) (hk0 : params.kw_defaults = []) (hdv : ∀ Q : List Value → Shared → Prop, (∀ (u : Value) (tk : Nat), Q [u] { s with toks := tk }) → wpAny (model X.prog X.w) X.A (evalAll (evalEach params.defaults X.env)) Q E s)
    (hfree : ∀ y ∈ scope.names, y.2 = .free → ∃ c, X.env.cells.lookup y.1 = some c)
    (h : ∀ (f c' T : Addr) (u0 doc pm ctv : Value) (H1 : Hp) (s' : Shared), Inv X pins σ H1 s' → LamStep P (X.env.qual ++ "<lambda>") H H1 →
      s'.heap.get? f = some (PySem.W.kdv_obj "<lambda>" (X.env.qual ++ "<lambda>") params (.expr body) scope (cloFrom X.env.cells scope.names []) (.ref T) doc pm c' ctv) → H1 f = none → f ∉ frs X.stack →
      s'.heap.get? T = some (PySem.W.kdv_tup [u0]) → H1 T = none → T ∉ frs X.stack → H1 c' = some (CodeO c' (X.env.qual ++ "<lambda>")) → Q (.ref f) s') :
    wpAny (model X.prog X.w) X.A (eval (.Lambda params body scope pos) X.env) Q E s := by
  obtain ⟨ps, hP, ht, ha⟩ := hT
  have above : ∀ f, s.heap.objs.size ≤ f → f ∉ frs X.stack := fun f hf z => (List.mem_cons.mp (I.stkSub _ z)).elim (fun e => by
    have h1 := I.lt
    rw [← e] at h1
    exact absurd (Nat.lt_of_lt_of_le h1 hf) (Nat.lt_irrefl _)) (I.nofs hf)
  refine PySem.W.kdv_lam hne hk0 (hdv _ fun u0 tk0 => ?_)
  rw [makeFunction_eq]
  simp only [List.zip_nil_right, List.filterMap_nil, List.isEmpty_nil, List.isEmpty_cons, Bool.false_eq_true, if_true, if_false, pure_bind]
  refine wpAny_bind (wpAny_newTextTuple ?_)
  have k2 : ∀ b o, s.heap.get? b = some o → (s.heap.push (PySem.W.kdv_tup [u0])).get? b = some o := fun b o e => Heap.get?_push_of_some _ e
  have I2 : Inv X pins σ H { s with heap := s.heap.push (PySem.W.kdv_tup [u0]), toks := tk0 } := I.kept k2
  have tT : (s.heap.push (PySem.W.kdv_tup [u0])).get? s.heap.objs.size = some (PySem.W.kdv_tup [u0]) := Heap.get?_push_size _ rfl
  have sT : s.heap.objs.size < (s.heap.push (PySem.W.kdv_tup [u0])).objs.size := by rw [Heap.size_push]; omega
  have nT : H s.heap.objs.size = none := I.hok.fresh (Nat.le_refl _)
  have aT := above _ (Nat.le_refl s.heap.objs.size)
  have tabP : (s.heap.push (PySem.W.kdv_tup [u0])).get? P = some { cls := .none, data := .fields ps } := I2.hok P _ hP
  have bmP : (s.heap.push (PySem.W.kdv_tup [u0])).BuiltinsAt X.mg P := TB.bm.keeps I2.bk
  cases hcA : codeAmong pos ps.toList with
  | some cv =>
    obtain ⟨c', rfl, hco⟩ := ha pos cv hcA
    refine PySem.W.kdv_makeTailHit (mg := X.mg) (c := c) (P := P) (ps := ps) (s := { s with heap := s.heap.push (PySem.W.kdv_tup [u0]), toks := tk0 }) (closure_ok hfree) I.ok.glob (I2.mod.glob.keeps I2.bk) hcode (TB.code.keeps I2.bk) tabP ht hcA bmP fun ctv doc h' tk hx hsz => ?_
    have J : Inv X pins σ H { s with heap := h'.push (PySem.W.kdv_obj "<lambda>" (X.env.qual ++ "<lambda>") params (.expr body) scope (cloFrom X.env.cells scope.names []) (.ref s.heap.objs.size) doc ((X.mg "__name__").getD .none) c' ctv), toks := tk } := I.kept fun b o e => Heap.get?_push_of_some _ (hx b o (k2 b o e))
    have hsz' : s.heap.objs.size ≤ h'.objs.size := Nat.le_trans (Nat.le_of_lt sT) hsz
    exact h h'.objs.size c' s.heap.objs.size u0 doc ((X.mg "__name__").getD .none) ctv H _ J ⟨fun _ _ _ e => e, ps, ps, hP, hP, ht, fun _ _ hc => .inl hc⟩ (Heap.get?_push_size _ rfl) (I.hok.fresh hsz') (above _ hsz') (Heap.get?_push_of_some _ (hx _ _ tT)) nT aT hco
  | none =>
    refine PySem.W.kdv_makeTail (mg := X.mg) (c := c) (P := P) (ps := ps) (s := { s with heap := s.heap.push (PySem.W.kdv_tup [u0]), toks := tk0 }) (closure_ok hfree) I.ok.glob (I2.mod.glob.keeps I2.bk) hcode (TB.code.keeps I2.bk) tabP ht hcA TB.gP bmP fun c' ctv doc h' tk hx hge hlt hrec htb => ?_
    obtain ⟨c2, oc, vs, t, e2, hoc, hd, hv⟩ := hrec
    cases e2
    have hge' : s.heap.objs.size < c' := Nat.lt_of_lt_of_le sT hge
    have grown : s.heap.objs.size ≤ h'.objs.size := Nat.le_trans (Nat.le_of_lt hge') (Nat.le_of_lt hlt)
    have nC : H c' = none := I.hok.fresh (Nat.le_of_lt hge')
    have nTP : s.heap.objs.size ≠ P := fun z => by rw [z, hP] at nT; cases nT
    have J := inv_table (q := X.env.qual ++ "<lambda>") (t' := tk) (more := #[rawInt pos.line, rawInt pos.col, .ref c']) (h' := h'.push (PySem.W.kdv_obj "<lambda>" (X.env.qual ++ "<lambda>") params (.expr body) scope (cloFrom X.env.cells scope.names []) (.ref s.heap.objs.size) doc ((X.mg "__name__").getD .none) c' ctv)) I hP
      (fun b o hb e => Heap.get?_push_of_some _ (hx b o hb (k2 b o e))) (Heap.get?_push_of_some _ htb) (Nat.le_of_lt hge') ⟨oc, vs, t, Heap.get?_push_of_some _ hoc, hd, hv⟩
    have nPc : P ≠ c' := ne_of_none hP nC
    have stay : ∀ b o, b ≠ P → H b = some o → (upd (upd H P (.tbl (ps ++ #[rawInt pos.line, rawInt pos.col, .ref c']))) c' (CodeO c' (X.env.qual ++ "<lambda>"))) b = some o := fun b o hb e => by rw [upd_ne (ne_of_none e nC), upd_ne hb]; exact e
    have split : (ps ++ #[rawInt pos.line, rawInt pos.col, .ref c']).toList = ps.toList ++ [rawInt pos.line, rawInt pos.col, .ref c'] := by simp
    refine h h'.objs.size c' s.heap.objs.size u0 doc ((X.mg "__name__").getD .none) ctv _ _ J ⟨stay, ps, _, hP, by rw [upd_ne nPc, upd_same], by rw [split]; exact PySem.TriplesOk_snoc _ _ _ _ ht, fun p' cv hcv => ?_⟩ (Heap.get?_push_size _ rfl) ?_ (above _ grown) (Heap.get?_push_of_some _ (hx _ _ nTP tT)) ?_ aT upd_same
    · rw [split] at hcv
      rcases among_app _ ht hcv with z | z
      · exact .inl z
      · exact .inr ⟨c', z, nC, upd_same⟩
    · rw [upd_ne (Nat.ne_of_gt hlt), upd_ne (Nat.ne_of_gt (Nat.lt_of_lt_of_le (Heap.lt_size tabP) (Nat.le_trans hge (Nat.le_of_lt hlt))))]
      exact I.hok.fresh grown
    · rw [upd_ne (Nat.ne_of_lt hge'), upd_ne nTP]
      exact nT
theorem pe_actD {Ng : List Str} {qg : Str} {sg : Scope} {g f c' T : Addr} {cdg doc pm ctv : Value} {params : Arguments} {body : Expr} {scope : Scope} {k i : Nat} {a y0 : Str} {pn : List (Addr × Obj)} {xe : Value → Shared → Prop} {W : WX} {tb : XK → TE} {p1 p2 : Pos}
    (I : Inv X pins σ H s) (L : LamD X.env.scope X.N y0 scope) (hf : s.heap.get? f = some (PySem.W.kdv_obj "<lambda>" (X.env.qual ++ "<lambda>") params (.expr body) scope (cloFrom X.env.cells scope.names []) (.ref T) doc pm c' ctv)) (hfn : H f = none) (hfr : f ∉ frs X.stack)
    (hT : s.heap.get? T = some (PySem.W.kdv_tup [u0])) (hTn : H T = none) (hTr : T ∉ frs X.stack)
    (hbind : ∃ k, bindArgs (PySem.W.kdv_fn "<lambda>" (X.env.qual ++ "<lambda>") params (.expr body) scope (cloFrom X.env.cells scope.names []) (.ref T) doc pm (.ref c') ctv) ⟨[], []⟩ = seqItems? (.ref T) >>= k ∧ k (some #[u0]) = pure [(y0, u0)])
    (tk : Takes ((cxOf C8.CX0 X.prog X.w X.K X.mg X.base Ng qg sg g cdg X.A X.stack s H C8.E0).tr pn xe) W) (hr : Room (k + 1) (X.A.deeper (envOfC qg sg s.heap.objs.size g cdg)))
    (hbody : ∀ (A : Around) (outer : List PySem.Env) (s : Shared) (H : Hp) (E : XK), Room k (A.deeper (lamEnv X scope s.heap.objs.size f c')) → PE (lamCx X A outer s H E scope f c') body (tb E))
    (hN : Ng[i]? = some a) (hv : Vis sg a) (hd : (a == ("__debug__" : Str)) = false := by decide) (hcd : (a == ("__classdict__" : Str)) = false := by decide) :
    PE ((cxOf C8.CX0 X.prog X.w X.K X.mg X.base Ng qg sg g cdg X.A X.stack s H C8.E0).tr pn xe) (.Call (.Name a p1) [] [] p2)
      (fun σZ HZ Q => σZ[i]? = some (some (.ref f)) ∧ HZ c' = some (CodeO c' (X.env.qual ++ "<lambda>")) ∧ ∃ Ech : XK, (∀ cls d H', Ech cls d H' → W cls d σZ H') ∧ tb Ech σ HZ Q) := by
  constructor
  intro pinsZ sZ σZ HZ Q IZ h
  obtain ⟨hs, hc, Ech, hE, ht⟩ := h
  refine wpAny_Call_Name_kw (thn ((pe_var (pos := p1) (i := i) hN hv hd hcd).run pinsZ sZ σZ HZ (fun v H1 => v = .ref f ∧ H1 = HZ) IZ ⟨.ref f, hs, rfl, rfl⟩) fun u s1 hh => ?_)
  obtain ⟨v, H1, I1, r1, ev, eH⟩ := hh
  subst ev
  rw [eH] at I1
  obtain rfl : u = Value.ref f := r1
  have there : s1.heap.get? f = some (PySem.W.kdv_obj "<lambda>" (X.env.qual ++ "<lambda>") params (.expr body) scope (cloFrom X.env.cells scope.names []) (.ref T) doc pm c' ctv) := I1.base.keep f _ hf hfn hfr (fun z => nomatch (show f ∈ ([] : List Addr) from z))
  have thereT : s1.heap.get? T = some (PySem.W.kdv_tup [u0]) := I1.base.keep T _ hT hTn hTr (fun z => nomatch (show T ∈ ([] : List Addr) from z))
  refine PySem.W.callWith_F0 ⟨_, _, _, _, there⟩ ?_
  obtain ⟨⟨oc, vs, t, hoc, hdc, hvc⟩, _, _⟩ := I1.hok c' _ hc
  obtain ⟨kk, hb1, hb2⟩ := hbind
  have rc : codeAny (model X.prog X.w) (X.A.deeper (envOfC qg sg s.heap.objs.size g cdg)) (.call (.ref f) ⟨[], []⟩) (CR (L2.CX X.prog X.w) (envOfC qg sg s.heap.objs.size g cdg :: X.stack) X.prog X.w HZ s1 Q Ech) s1 := by
    refine PySem.W.kla_callFunE hr.depth there rfl L.co L.gen rfl ⟨c', oc, vs, t, rfl, hoc, hdc, hvc⟩ ((BindsTo.of_defaults rfl thereT rfl hb1 hb2) _ _ _ _ ?_)
    refine wpAny_newFunctionEnv (fun y hy => (L.own y hy).1) (fun y hy => by rw [List.mem_singleton.mp hy]; exact L.loc) (fun h₁ hns hsb => ⟨I1.nolimit.fresh _ hsb, ?_⟩) L.kind
    show codeAny _ _ (.expr body (lamEnv X scope s1.heap.objs.size f c')) _ _
    have J : Inv (lamCx X (X.A.deeper (envOfC qg sg s.heap.objs.size g cdg)) (envOfC qg sg s.heap.objs.size g cdg :: X.stack) s1 HZ Ech scope f c') [] σ HZ { s1 with heap := h₁, toks := s1.toks + ([(y0, u0)] : List (Str × Value)).length } :=
      lam_startD I L I1.env0 hr.hd I1.base hns fun b o e => hsb.extBut b o (Nat.ne_of_lt (Heap.lt_size e)) (Heap.get?_push_of_some _ e)
    refine PySem.W.kla_codeExpr (wpAny_mono ((hbody _ _ s1 HZ _ (hr.deeper _)).run [] _ _ HZ Q J ht) (fun v s' hq => ?_) fun e s' hq => hq)
    obtain ⟨w', H', J', rv, q⟩ := hq
    exact ⟨w', H', J'.os, J'.bare, J'.base, J'.hok, rv, q⟩
  refine wpAny_call (codeAny_mono rc fun r s' hq => ?_)
  cases r with
  | error e =>
    obtain ⟨a1, B1, H3, cls, d, e1, fl, hok, ub, na, os, ag, hw⟩ := hq
    exact L2.passAt tk σZ pinsZ HZ s1 e s' I1 ⟨a1, B1, H3, cls, d, e1, fl, hok, ub, na, os, ag, hE cls d H3 hw⟩
  | ok fl =>
    cases fl with
    | ret u => exact I1.after hq
    | next => exact False.elim hq
    | brk => exact False.elim hq
    | cont => exact False.elim hq
end
open PySem PySem.Spec PyProof.Rows L2 LamX

/-! ### x(lambda y0=0: body) -/
section
variable {X : Cx} {pins : List (Addr × Obj)} {σ : L2.St} {H : Hp} {s : Shared}
theorem pe_lamD {TT : (XK → Hp → VK → Prop) → Hp → VK → Prop} {x a y0 : Str} {g c P : Addr} {k : Nat} {pg : Arguments} {bg : List Stmt} {sg : Scope} {dV kV doc pm cdv ct oc : Value} {an od : Option Addr} {osl : Array (Option Value)} {Ng : List Str}
    {params : Arguments} {body : Expr} {scope : Scope} {t : XK → TE} {p lpos pos : Pos} (hg : Gl X x) (hm : X.mg x = some (.ref g)) (hk : PySem.W.keepIn X.K (.ref g) = true)
    (lk : X.K.lookup g = some ⟨oc, od, .func (PySem.W.fnOf x x pg bg sg dV kV doc pm an cdv ct), osl⟩) (hcg : PySem.W.codeIn X.K cdv x = true) (hb : L2.Binds X.K (PySem.W.fnOf x x pg bg sg dV kV doc pm an cdv ct) [a] []) (Sg : FnScope Ng [a] sg) (hNg : Ng[0]? = some a) (hva : Vis sg a)
    (hG : GivesS X Ng x sg g cdv bg a (X.env.qual ++ "<lambda>") TT)
    (TB : TabB X.base X.mg c P) (hcode : X.env.code = .ref c) (hr : Room (k + 2) X.A) (L : LamD X.env.scope X.N y0 scope) (hne : params.defaults.isEmpty = false) (hk0 : params.kw_defaults = [])
    (hdv : ∀ (s : Shared) (E : Value → Shared → Prop) (Q : List Value → Shared → Prop), (∀ (u : Value) (tk : Nat), Q [u] { s with toks := tk }) → wpAny (model X.prog X.w) X.A (evalAll (evalEach params.defaults X.env)) Q E s)
    (hbind : ∀ (q : Str) (cl : List (Str × Addr)) (T : Addr) (u0 doc pm cv ctv : Value), ∃ kk, bindArgs (PySem.W.kdv_fn "<lambda>" q params (.expr body) scope cl (.ref T) doc pm cv ctv) ⟨[], []⟩ = seqItems? (.ref T) >>= kk ∧ kk (some #[u0]) = pure [(y0, u0)])
    (hbody : ∀ (A : Around) (outer : List PySem.Env) (s : Shared) (H : Hp) (E : XK) (f c' : Addr), Room k (A.deeper (lamEnv X scope s.heap.objs.size f c')) → PE (lamCx X A outer s H E scope f c') body (t E))
    (hdb : (x == ("__debug__" : Str)) = false := by decide) (hd : (a == ("__debug__" : Str)) = false := by decide) (hcd : (a == ("__classdict__" : Str)) = false := by decide) :
    PE X (.Call (.Name x p) [.Lambda params body scope lpos] [] pos) (tLamP P (X.env.qual ++ "<lambda>") TT t) := by
  constructor
  intro pins s σ H Q I hh
  obtain ⟨hT, h⟩ := hh
  refine wpAny_Call_Name_kw (ld_glob I hg hm (PySem.W.callWith_K (h₀ := X.base) I.ok.mod.kin hk ?_ (by rfl) (by rfl)) hdb)
  show wpAny _ _ (spliced ((false, eval (.Lambda params body scope lpos) X.env) :: backTo pos (starEach [] X.env))) _ _ s
  refine Calls.spliced_cons (lam_madeD I TB hcode hT hne hk0 (hdv s _) (L.has I.ok) fun f c' T u0 doc' pm' ctv H1 s' I1 st hf hfn hfr hT' hTn hTr hco => Calls.spliced_nil ⟨I1.kIn, ?_⟩)
  have rc : codeAny (model X.prog X.w) X.A (.call (.ref g) ⟨[.ref f], []⟩) (CR C8.CX0 X.stack X.prog X.w H1 s' Q C8.E0) s' := by
    refine run_ofS (N := Ng) (ps := [a]) (us := [.ref f]) (vs := [.ref f]) lk hcg Sg hr I1.env0 (hb s' [.ref f] I1.kIn rfl) (.cons rfl .nil) rfl fun hr' => ?_
    obtain ⟨t', ht', hq'⟩ := hG f c' s' H1 Q (fun E H' Q' => t E σ H' Q') (fun W pn xe p1 p2 tk => pe_actD (i := 0) I1 L hf hfn hfr hT' hTn hTr (hbind _ _ _ _ _ _ _ _) tk hr' (fun A outer s H E hr2 => hbody A outer s H E f c' hr2) hNg hva hd hcd) hco (h H1 st)
    exact ⟨t', ht'.nox, hq'⟩
  refine wpAny_call (codeAny_mono rc fun r s2 hq => ?_)
  cases r with
  | error e => exact False.elim hq
  | ok fl =>
    cases fl with
    | ret u => exact I1.after hq
    | next => exact False.elim hq
    | brk => exact False.elim hq
    | cont => exact False.elim hq
end
section
variable {X : Cx} {cn : Str → Option Addr}
theorem re_wordD {W : WX} {hs : List Hd} {m : ME} {x a y0 : Str} {g c P : Addr} {k : Nat} {pg : Arguments} {bg : List Stmt} {sg : Scope} {dV kV doc pm cdv ct oc : Value} {an od : Option Addr} {osl : Array (Option Value)} {Ng : List Str}
    {params : Arguments} {body : Expr} {scope : Scope} {p lpos pos : Pos} (hq : X.env.qual ++ "<lambda>" = lamQ) (hg : Gl X x) (hm : X.mg x = some (.ref g)) (hk : PySem.W.keepIn X.K (.ref g) = true)
    (lk : X.K.lookup g = some ⟨oc, od, .func (PySem.W.fnOf x x pg bg sg dV kV doc pm an cdv ct), osl⟩) (hcg : PySem.W.codeIn X.K cdv x = true) (hb : L2.Binds X.K (PySem.W.fnOf x x pg bg sg dV kV doc pm an cdv ct) [a] []) (Sg : FnScope Ng [a] sg) (hNg : Ng[0]? = some a) (hva : Vis sg a)
    (hG : GivesS X Ng x sg g cdv bg a (X.env.qual ++ "<lambda>") (TTU X.K cn hs Ng.length))
    (TB : TabB X.base X.mg c P) (hcode : X.env.code = .ref c) (hr : Room (k + 2) X.A) (L : LamD X.env.scope X.N y0 scope) (hne : params.defaults.isEmpty = false) (hk0 : params.kw_defaults = [])
    (hdv : ∀ (s : Shared) (E : Value → Shared → Prop) (Q : List Value → Shared → Prop), (∀ (u : Value) (tk : Nat), Q [u] { s with toks := tk }) → wpAny (model X.prog X.w) X.A (evalAll (evalEach params.defaults X.env)) Q E s)
    (hbind : ∀ (q : Str) (cl : List (Str × Addr)) (T : Addr) (u0 doc pm cv ctv : Value), ∃ kk, bindArgs (PySem.W.kdv_fn "<lambda>" q params (.expr body) scope cl (.ref T) doc pm cv ctv) ⟨[], []⟩ = seqItems? (.ref T) >>= kk ∧ kk (some #[u0]) = pure [(y0, u0)])
    (hbody : ∀ (A : Around) (outer : List PySem.Env) (s : Shared) (H : Hp) (E : XK) (f c' : Addr), Room k (A.deeper (lamEnv X scope s.heap.objs.size f c')) → PE (lamCx X A outer s H E scope f c') body (cE X.K cn (fun cls d _ H => E cls d H) m))
    (hdb : (x == ("__debug__" : Str)) = false := by decide) (hd : (a == ("__debug__" : Str)) = false := by decide) (hcd : (a == ("__classdict__" : Str)) = false := by decide) :
    PE X (.Call (.Name x p) [.Lambda params body scope lpos] [] pos) (cE X.K cn W (wWord P hs Ng.length m)) :=
  pe_wk (pe_lamD (TT := TTU X.K cn hs Ng.length) (t := fun E => cE X.K cn (fun cls d _ H => E cls d H) m) hg hm hk lk hcg hb Sg hNg hva hG TB hcode hr L hne hk0 hdv hbind hbody hdb hd hcd) fun σ H Q h => by
    obtain ⟨E, F, ρ, g, Qu, Qx, S, ⟨hP, hm⟩, hk, hx⟩ := h
    refine ⟨by rw [hq]; exact lam_tab S hP, fun H1 st => ?_⟩
    rw [hq] at st
    obtain ⟨p0, s1, c1⟩ := lam_stp S hP st
    have S1 := S.stp p0 s1 c1
    have S1' := S1.anew
    have trk1 : ∀ b, H1 b = none → E.H b = none := S1.trk
    refine ⟨WishU X.K cn hs Ng.length Q, fun _ _ _ h => h, ⟨froz F H H1, H1, g⟩, froz F H H1, ρ.map cleanU, g, Qu, _, S1', hm, fun F2 H2 v u g2 S2 p2 o2 f2 q2 => ?_, fun F' H' cls d y g' S' ok q => ?_⟩
    · exact hk F2 H2 v u g2 (S1.stp p2 S2.ext S2.cell) (p0.trans p2) (uok_from o2 trk1) (f2.back p0) q2
    · have p' : Stp g (froz F H H1) H1 g' F' H' := S'.out (SubG.refl g')
      refine ⟨F', g', y, Qu, S'.ext, S'.cell, ok, q, fun F2 H2 v u g2 e2 c2 p2 o2 nb qv => ?_⟩
      have pp := p'.trans p2
      exact hk F2 H2 v u g2 (S1.stp pp e2 c2) (p0.trans pp) (uok_from o2 fun b hb => trk1 b (p'.trk b hb)) ((fresh_from o2).back (p0.trans p')) qv
end
open PySem PySem.Spec PyProof.Rows L2 LamX

/-! ### a def that calls the lambda it got, by the facts of the text -/
section
variable {X : Cx} {cn : Str → Option Addr}
theorem re_wordF {W : WX} {hs : List Hd} {m : ME} {x a : Str} {st : Stmt} {g c P : Addr} {fd : FuncData} {k : Nat} {Ng : List Str} {h0 : ExceptHandler} {hds : List ExceptHandler} {p1 p2 p3 p8 : Pos}
    {params : Arguments} {body : Expr} {scope : Scope} {p lpos pos : Pos} (Fw : Fun X.K x x st g fd) (hm : X.mg x = some (.ref g)) (hk : PySem.W.keepIn X.K (.ref g) = true) (hb : L2.Binds X.K fd [a] [])
    (hst : defBody st = [.Try [.Return (some (.Call (.Name a p1) [] [] p2)) p3] (h0 :: hds) [] [] p8]) (Sg : FnScope Ng [a] (defScope st)) (hNg : Ng[0]? = some a) (hva : Vis (defScope st) a)
    (hh : ∀ (g : Addr) (cdg : Value) (s : Shared) (H : Hp), HdsR (cxOf C8.CX0 X.prog X.w X.K X.mg X.base Ng x (defScope st) g cdg X.A X.stack s H C8.E0).nox cn (h0 :: hds) hs)
    (hq : X.env.qual ++ "<lambda>" = lamQ) (hg : Gl X x) (TB : TabB X.base X.mg c P) (hcode : X.env.code = .ref c) (hr : Room (k + 2) X.A) (L : LamS X.env.scope scope) (hdef : defaultsOf params X.env = ([], []))
    (hbind : ∀ (q : Str) (cl : List (Str × Addr)) (pm cv ctv : Value), bindArgs (PySem.W.kla_fn "<lambda>" q params body scope cl pm cv ctv) ⟨[], []⟩ = pure [])
    (hbody : ∀ (A : Around) (outer : List PySem.Env) (s : Shared) (H : Hp) (E : XK) (f c' : Addr), Room k (A.deeper (lamEnv X scope s.heap.objs.size f c')) → PE (lamCx X A outer s H E scope f c') body (cE X.K cn (fun cls d _ H => E cls d H) m))
    (hdb : (x == ("__debug__" : Str)) = false := by decide) (hd : (a == ("__debug__" : Str)) = false := by decide) (hcd : (a == ("__classdict__" : Str)) = false := by decide) :
    PE X (.Call (.Name x p) [.Lambda params body scope lpos] [] pos) (cE X.K cn W (wWord P hs Ng.length m)) := by
  obtain ⟨oc, od, kV, doc, pm, an, cdv, ct, osl, rfl, lk, hcg⟩ := Fw.ex
  have hl : 0 < Ng.length := (List.getElem?_eq_some_iff.mp hNg).1
  rw [hst] at lk hb
  exact re_word hq hg hm hk lk hcg hb Sg hNg hva (word_gives hl fun s H => hh g cdv s H) TB hcode hr L hdef hbind hbody hdb hd hcd
theorem re_wordFD {W : WX} {hs : List Hd} {m : ME} {x a y0 : Str} {st : Stmt} {g c P : Addr} {fd : FuncData} {k : Nat} {Ng : List Str} {h0 : ExceptHandler} {hds : List ExceptHandler} {p1 p2 p3 p8 : Pos}
    {params : Arguments} {body : Expr} {scope : Scope} {p lpos pos : Pos} (Fw : Fun X.K x x st g fd) (hm : X.mg x = some (.ref g)) (hk : PySem.W.keepIn X.K (.ref g) = true) (hb : L2.Binds X.K fd [a] [])
    (hst : defBody st = [.Try [.Return (some (.Call (.Name a p1) [] [] p2)) p3] (h0 :: hds) [] [] p8]) (Sg : FnScope Ng [a] (defScope st)) (hNg : Ng[0]? = some a) (hva : Vis (defScope st) a)
    (hh : ∀ (g : Addr) (cdg : Value) (s : Shared) (H : Hp), HdsR (cxOf C8.CX0 X.prog X.w X.K X.mg X.base Ng x (defScope st) g cdg X.A X.stack s H C8.E0).nox cn (h0 :: hds) hs)
    (hq : X.env.qual ++ "<lambda>" = lamQ) (hg : Gl X x) (TB : TabB X.base X.mg c P) (hcode : X.env.code = .ref c) (hr : Room (k + 2) X.A) (L : LamD X.env.scope X.N y0 scope) (hne : params.defaults.isEmpty = false) (hk0 : params.kw_defaults = [])
    (hdv : ∀ (s : Shared) (E : Value → Shared → Prop) (Q : List Value → Shared → Prop), (∀ (u : Value) (tk : Nat), Q [u] { s with toks := tk }) → wpAny (model X.prog X.w) X.A (evalAll (evalEach params.defaults X.env)) Q E s)
    (hbind : ∀ (q : Str) (cl : List (Str × Addr)) (T : Addr) (u0 doc pm cv ctv : Value), ∃ kk, bindArgs (PySem.W.kdv_fn "<lambda>" q params (.expr body) scope cl (.ref T) doc pm cv ctv) ⟨[], []⟩ = seqItems? (.ref T) >>= kk ∧ kk (some #[u0]) = pure [(y0, u0)])
    (hbody : ∀ (A : Around) (outer : List PySem.Env) (s : Shared) (H : Hp) (E : XK) (f c' : Addr), Room k (A.deeper (lamEnv X scope s.heap.objs.size f c')) → PE (lamCx X A outer s H E scope f c') body (cE X.K cn (fun cls d _ H => E cls d H) m))
    (hdb : (x == ("__debug__" : Str)) = false := by decide) (hd : (a == ("__debug__" : Str)) = false := by decide) (hcd : (a == ("__classdict__" : Str)) = false := by decide) :
    PE X (.Call (.Name x p) [.Lambda params body scope lpos] [] pos) (cE X.K cn W (wWord P hs Ng.length m)) := by
  obtain ⟨oc, od, kV, doc, pm, an, cdv, ct, osl, rfl, lk, hcg⟩ := Fw.ex
  have hl : 0 < Ng.length := (List.getElem?_eq_some_iff.mp hNg).1
  rw [hst] at lk hb
  exact re_wordD hq hg hm hk lk hcg hb Sg hNg hva (word_gives hl fun s H => hh g cdv s H) TB hcode hr L hne hk0 hdv hbind hbody hdb hd hcd
/-- a default that is an int -/
theorem dflt_int {params : Arguments} {i : _} {j : Nat} {p : Pos} (h : params.defaults = [.Constant (.int i) j p]) (s : Shared) (E : Value → Shared → Prop) (Q : List Value → Shared → Prop) (hQ : ∀ (u : Value) (tk : Nat), Q [u] { s with toks := tk }) :
    wpAny (model X.prog X.w) X.A (evalAll (evalEach params.defaults X.env)) Q E s := by
  rw [h]
  exact PySem.W.kdv_all1 (wpAny_Constant_int (PySem.W.kdv_all0 (hQ _ _)))
end
open PySem PySem.Spec PyProof.Rows L2 LamX

/-! ### a dict whose keys are True and False -/
def bKey (b : Bool) : Value → Bool
  | .bool c => b == c
  | _ => false
theorem bKey_shape {b : Bool} : ∀ {v : Value}, bKey b v = true → v = .bool b
  | .bool c, h => by rw [show b = c from eq_of_beq h]
  | .none, h => by cases h
  | .ellipsis, h => by cases h
  | .notImplemented, h => by cases h
  | .int _ _, h => by cases h
  | .float _ _, h => by cases h
  | .str _ _, h => by cases h
  | .bytes _ _, h => by cases h
  | .ref _, h => by cases h
  | .type _, h => by cases h
  | .builtin _, h => by cases h
theorem bKey_self (b : Bool) : bKey b (.bool b) = true := by cases b <;> rfl
def bKind (P : Program) (w : World) : PySem.KeyKind P w Bool where
  is := bKey
  hash := fun b => hashInt (if b = true then 1 else 0)
  inj := fun v a b ha hb => by
    rw [bKey_shape ha] at hb
    have e := bKey_shape hb
    injection e
  byValue := fun k v h => by rw [bKey_shape h]; rfl
  pyHash := fun {A E s k v Q} hv h => by
    rw [bKey_shape hv]
    rw [← PySem.reduce_bool] at h
    refine PySem.W.pyHash_slot (T := "bool") rfl F.slot_bool_hash entry_int_hash (args_int_hash _) (beq_builtin_none _) (.inl rfl) ?_
    cases k
    · show wpAny _ _ (mkInt 0 >>= fun v => ret v) _ _ _
      exact wpAny_bind (wpAny_mkInt (wpAny_pure ⟨0, _, rfl, h⟩))
    · show wpAny _ _ (mkInt 1 >>= fun v => ret v) _ _ _
      exact wpAny_bind (wpAny_mkInt (wpAny_pure ⟨1, _, rfl, h⟩))
  eqBool := fun {A E s a b u v Q} hu hv h => by
    rw [bKey_shape hu, bKey_shape hv]
    refine SeqAt.EqAt.bool_bool a b _ _ _ _ ?_
    have e : (a == b) = decide (a = b) := by cases a <;> cases b <;> rfl
    rw [e]
    exact h
  «strs» := fun k x t v h => by
    have e := bKey_shape h
    cases e

/-- what is true of the dict at a: its keys and values in their order -/
def bdOk (a : Addr) (ks : List (Bool × V)) (h : Heap) : Prop := ks.length ≤ sizeLine ∧ (a == sysModules) = false ∧ ∃ vs, KV ks vs ∧ ∀ (P : Program) (w : World), h.DictOf (bKind P w) a vs
def BD (a : Addr) (bs : List Bool) (vs : List V) : HO := .ext (bdOk a (bs.zip vs))
theorem bd_all {P P' : Program} {w w' : World} {h : Heap} {a : Addr} {vs : List (Bool × Value)} (d : h.DictOf (bKind P w) a vs) : h.DictOf (bKind P' w') a vs := by
  obtain ⟨o, es, ep, h1, h2, h3, h4, h5, h6⟩ := d
  refine ⟨o, es, ep, h1, h2, h3, h4, ?_, h6⟩
  have all : ∀ {l : List DictEntry} {m : List (Bool × Value)}, PySem.Pairs (bKind P w) l m → PySem.Pairs (bKind P' w') l m := by
    intro l m q
    induction q with
    | nil => exact .nil
    | cons q1 q2 _ ih => exact .cons q1 q2 ih
  exact all h5
theorem bd_ok {P : Program} {w : World} {H : Hp} {h : Heap} {a : Addr} {ks : List (Bool × V)} (x : bdOk a ks h) : ObjOk P w H h a (.ext (bdOk a ks)) := by
  refine ⟨x, ?_, fun h1 h2 y k => ?_⟩
  · obtain ⟨_, _, vs, _, d⟩ := x
    obtain ⟨o, es, ep, q, _⟩ := d P w
    exact ⟨o, q⟩
  · obtain ⟨y1, y2, vs, y3, d⟩ := y
    refine ⟨y1, y2, vs, y3, fun P w => ?_⟩
    obtain ⟨o, es, ep, q, r⟩ := d P w
    exact ⟨o, es, ep, k o q, r⟩
section
variable {X : Cx} {e a c o i value : Expr} {pos tpos : Pos} {td ty tv : TE}
theorem pe_bnew : PE X (.Dict [] [] pos) (fun _ H Q => ∀ p, H p = none → Q (.ref p) (upd H p (BD p [] []))) := ⟨fun pins s σ H Q I h => by
  have new : bdOk s.heap.objs.size [] (s.heap.push { cls := .type "dict", data := .dict #[] }) :=
    ⟨Nat.zero_le _, beq_eq_false_iff_ne.mpr (Ne.symm (Nat.ne_of_lt I.big)), [], .nil, fun P w => Heap.DictOf.new s.heap⟩
  refine wpAny_Dict_empty ⟨.ref s.heap.objs.size, _, ?_, rfl, h _ (I.hok.fresh (Nat.le_refl _))⟩
  exact I.laid (t' := s.toks) (o := BD _ [] []) (fun _ _ q => Heap.get?_push_of_some _ q) (Nat.le_refl _) (bd_ok new)⟩
theorem pe_bget (ho : PE X o td) (hi : PE X i ty) (hs : NoSl i) :
    PE X (.Subscript o i pos) (fun σ H Q => td σ H fun x H1 => ty σ H1 fun y H2 => ∃ (p : Addr) (bs : List Bool) (vs : List V) (b : Bool) (v : V), x = .ref p ∧ y = .bl b ∧ H2 p = some (BD p bs vs) ∧ valV (bs.zip vs) b = some v ∧ Q v H2) := by
  constructor
  intro pins s σ H Q I h
  refine subD_of PySem.F.slot_dict_getitem.lookup hs (thn (ho.run pins s σ H _ I h) fun u s1 hh => ?_)
  obtain ⟨x, H1, I1, rx, q1⟩ := hh
  refine thn (hi.run pins s1 σ H1 _ I1 q1) fun iv s2 hh => ?_
  obtain ⟨y, H2, I2, ry, p, bs, vs, b, v, ex, ey, hp, hv, q2⟩ := hh
  subst ex ey
  obtain rfl : u = Value.ref p := rx
  obtain rfl : iv = Value.bool b := ry
  obtain ⟨_, _, us, rel, dd⟩ := (I2.hok p _ hp).1
  have d := dd X.prog X.w
  obtain ⟨w', hw, rw'⟩ := RelO.some_of (v := v) (o := valueAt us b) (by rw [← hv]; exact rel.val b)
  exact ⟨d.typeIs, wpAny_getItem_of (bKey_self b) d.mapOf hw ⟨v, H2, I2.tok _, rw', q2⟩⟩
theorem ps_bput (ho : PE X o td) (hi : PE X i ty) (hv : PE X value tv) (hs : swapsWith value (some (.Subscript o i tpos)) pos.line X.env = pure false) :
    PS X (.Assign [.Subscript o i tpos] value pos) (fun D σ H => tv σ H fun v H1 => td σ H1 fun x H2 => ty σ H2 fun y H3 => ∃ (p : Addr) (bs : List Bool) (vs : List V) (b : Bool), x = .ref p ∧ y = .bl b ∧ H3 p = some (BD p bs vs) ∧ bs.length = vs.length ∧ bs.length < 60 ∧ valV (bs.zip vs) b = none ∧ D.nx σ (upd H3 p (BD p (bs ++ [b]) (vs ++ [v])))) := by
  constructor
  intro pins s σ H D I h
  refine wpAny_Assign_Subscript (thn (hv.run pins s σ H _ I h) fun r s1 hh => ?_) hs
  obtain ⟨v, H1, I1, rv, q1⟩ := hh
  refine thn (ho.run pins s1 σ H1 _ I1 q1) fun u s2 hh => ?_
  obtain ⟨x, H2, I2, rx, q2⟩ := hh
  refine thn (hi.run pins s2 σ H2 _ I2 q2) fun iv s3 hh => ?_
  obtain ⟨y, H3, I3, ry, p, bs, vs, b, ex, ey, hp, hl, hz, hn, q3⟩ := hh
  subst ex ey
  obtain rfl : u = Value.ref p := rx
  obtain rfl : iv = Value.bool b := ry
  obtain ⟨z, hd, us, rel, dd⟩ := (I3.hok p _ hp).1
  have hzz : us.length ≤ sizeLine := by rw [← rel.length]; exact z
  refine wpAny_setItem_pairs (hsz := hzz) (bKey_self b) (dd X.prog X.w) fun h' d' sb => ⟨σ, _, ?_, q3⟩
  have hr : bdOk p ((bs ++ [b]).zip (vs ++ [v])) h' := by
    have e : (bs ++ [b]).zip (vs ++ [v]) = putK (bs.zip vs) b v := by
      rw [putK_new v hn, List.zip_append hl]
      rfl
    rw [e]
    refine ⟨?_, hd, _, rel.put b rv, fun P w => bd_all d'⟩
    have := length_putK (bs.zip vs) b v
    rw [List.length_zip] at this
    rw [sizeLine_eq]
    omega
  have he : ∃ q, h'.get? p = some q := let ⟨q, _, _, hq, _⟩ := d'; ⟨q, hq⟩
  exact d_write I3 (by rw [hp]; exact True.intro) sb he (bd_ok hr)
end
open PySem PySem.Spec PyProof.Rows L2 LamX

/-! ### .. in the store -/
def bgetL : List Bool → List D → Bool → Option D
  | b :: bs, x :: xs, k => if b = k then some x else bgetL bs xs k
  | _, _, _ => none
theorem bget_val {K : PySem.W.Frag} {F : Hp} {k : Bool} : ∀ {bs : List Bool} {vs : List V} {xs : List D}, RpL K F vs xs → ∀ {x : D}, bgetL bs xs k = some x → ∃ v, valV (bs.zip vs) k = some v ∧ Rp K F v x
  | [], _, _, _, _, h => by
    unfold bgetL at h
    cases h
  | _ :: _, _, _, .nil, _, h => by
    unfold bgetL at h
    cases h
  | b :: bs, v :: vs, y :: xs, .cons r t, x, h => by
    unfold bgetL at h
    rw [List.zip_cons_cons]
    by_cases e : b = k
    · rw [if_pos e] at h
      cases h
      exact ⟨v, valV_pos (p := (b, v)) e, r⟩
    · rw [if_neg e] at h
      obtain ⟨w, h1, h2⟩ := bget_val t h
      exact ⟨w, by rw [valV_neg (p := (b, v)) e]; exact h1, h2⟩
theorem bget_none {k : Bool} : ∀ {bs : List Bool} {vs : List V}, k ∉ bs → valV (bs.zip vs) k = none
  | [], _, _ => rfl
  | _ :: _, [], _ => rfl
  | b :: bs, v :: vs, h => by
    rw [List.zip_cons_cons, valV_neg (p := (b, v)) fun e => h (by rw [show b = k from e]; exact List.mem_cons_self)]
    exact bget_none fun z => h (List.mem_cons_of_mem _ z)
section
variable {K : PySem.W.Frag} {E : Ent} {F H : Hp} {σ : L2.St} {ρ : Env} {g : G} {a : Addr} {c : Cell} {o : HO}
/-- a new tracked object, told in the store -/
theorem Stt.newCell (S : Stt K E F H σ ρ g) (hp : H a = none) (h : CellOk K F (upd H a o) a c) : Stt K E F (upd H a o) σ ρ (setG g a c) ∧ Stp g F H (setG g a c) F (upd H a o) := by
  have gne : ∀ b, b ≠ a → setG g a c b = g b := fun b hb => by unfold setG; rw [if_neg hb]
  have S1 := S.newO (o := o) hp
  have st : Stp g F H (setG g a c) F (upd H a o) := ⟨Same.refl F, fun b u h1 h2 h3 => by
    obtain ⟨k1, k2⟩ := keep_new (o := o) hp b u h1 h2
    exact ⟨k1, k2, by rw [gne b (ne_of_none h1 hp)]; exact h3⟩, fun _ h => upd_free h⟩
  refine ⟨S.stp st S1.ext fun b c' hc => ?_, st⟩
  by_cases hb : b = a
  · subst hb
    unfold setG at hc
    rw [if_pos rfl] at hc
    cases hc
    exact ⟨h, S.freeF hp⟩
  · rw [gne b hb] at hc
    exact S1.cell b c' hc
/-- a tracked object of the store is changed -/
theorem Stt.putCell {ψ ψ' : List V → HO} {xs xs' : List D} (S : Stt K E F H σ ρ g) (hg : g a = some (.ext ψ xs [])) (no : ∀ b, H a ≠ some (.own b)) (h : ∃ vs, o = ψ' vs ∧ RpL K F vs xs') : Stt K E F (upd H a o) σ ρ (setG g a (.ext ψ' xs' [])) := by
  have gne : ∀ b, b ≠ a → setG g a (.ext ψ' xs' []) b = g b := fun b hb => by unfold setG; rw [if_neg hb]
  have hne : ∀ b, b ≠ a → upd H a o b = H b := fun b hb => upd_ne hb
  obtain ⟨_, t3⟩ := S.cell a _ hg
  refine ⟨fun b w hb => ?_, S.ext0, S.len, fun i u hi => ?_, S.sep, fun b c' hc => ?_, fun b w e1 e2 e3 => ?_, fun b hb => S.trk b (upd_free hb)⟩
  · rw [hne b (fun z => by rw [z, t3] at hb; cases hb)]; exact S.ext b w hb
  · obtain ⟨v, s1, s2⟩ := S.slot i u hi
    refine ⟨v, s1, ?_⟩
    cases u with
    | d x => exact s2
    | own p =>
      obtain ⟨b, eb, y1, y2, y3, y4⟩ := s2
      have hb : b ≠ a := fun z => by rw [z, hg] at y3; cases y3
      exact ⟨b, eb, y1.at (Same.refl F) fun w1 hw1 => by rw [hne b hb]; exact hw1, y2, by rw [gne b hb]; exact y3, y4⟩
    | bor p => exact s2
  · by_cases hb : b = a
    · subst hb
      unfold setG at hc
      rw [if_pos rfl] at hc
      cases hc
      obtain ⟨vs, e, r⟩ := h
      exact ⟨⟨vs, by rw [upd_same, e], r, fun _ z => nomatch z⟩, t3⟩
    · rw [gne b hb] at hc
      obtain ⟨y1, y2⟩ := S.cell b c' hc
      refine ⟨?_, y2⟩
      cases c' with
      | lst zs => obtain ⟨ws, z1, z2⟩ := y1; exact ⟨ws, by rw [hne b hb]; exact z1, z2⟩
      | ins C fs =>
        obtain ⟨dx, ws, z1, z2, z3, z4⟩ := y1
        exact ⟨dx, ws, by rw [hne b hb]; exact z1, by rw [hne dx fun z => no b (by rw [← z]; exact z2)]; exact z2, z3, z4⟩
      | dct zs => obtain ⟨ws, z1, z2⟩ := y1; exact ⟨ws, by rw [hne b hb]; exact z1, z2⟩
      | ext ψ zs cs => obtain ⟨ws, z1, z2⟩ := y1; exact ⟨ws, by rw [hne b hb]; exact z1, z2⟩
      | tbl =>
        obtain ⟨ps, z1, z2, z3⟩ := y1
        exact ⟨ps, by rw [hne b hb]; exact z1, z2, z3⟩
  · obtain ⟨y1, y2, y3⟩ := S.keep b w e1 e2 e3
    have hb : b ≠ a := fun z => by rw [z, hg] at y3; cases y3
    exact ⟨by rw [hne b hb]; exact y1, y2, by rw [gne b hb]; exact y3⟩
end
section
variable {X : Cx} {K : PySem.W.Frag} {cn : Str → Option Addr} {W : WX} {e a : Expr} {pos : Pos} {mi me : ME}
@[simp] def blK (u : U) (k : Bool → Prop) : Prop := match u with
  | .d (.bl b) => k b
  | _ => False
theorem blK_ok {E : Ent} {F H : Hp} {g : G} {v : V} {u : U} {k : Bool → Prop} (o : UOk X.K E F H g v u) (h : blK u k) : ∃ b, v = .bl b ∧ k b := by
  unfold blK at h
  split at h
  · have o' : Rp X.K F v (.bl _) := o
    cases o'
    exact ⟨_, rfl, h⟩
  · exact h.elim
@[simp] def wBnew : ME := fun _ g Q _ => ∀ p, g p = none → Q (.d (.ref p)) (setG g p (.ext (BD p []) [] []))
theorem re_bnew : PE X (.Dict [] [] pos) (cE X.K cn W wBnew) := pe_wk pe_bnew fun σ H Q h => by
  obtain ⟨E, F, ρ, g, Qu, Qx, S, hm, hk, _⟩ := h
  intro p hp
  obtain ⟨S1, p1⟩ := S.newCell (o := BD p [] []) (c := .ext (BD p []) [] []) hp ⟨[], upd_same, .nil, fun _ z => nomatch z⟩
  exact hk _ _ (.ref p) (.d (.ref p)) _ S1 p1 (Rp.ref p) trivial (hm p (S.freeG hp))
/-- x[k], x in a slot -/
@[simp] def wBget (i : Nat) (mk : ME) : ME := fun ρ g Q X => match ρ[i]? with
  | some (some (.d (.ref p))) => mk ρ g (fun u g1 => blK u fun b => ∃ bs xs x, g1 p = some (.ext (BD p bs) xs []) ∧ bgetL bs xs b = some x ∧ Q (.d x) g1) X
  | _ => False
theorem re_bget (i : Nat) {x : Str} {xpos : Pos} (hi : PE X a (cE X.K cn W mi)) (hN : X.N[i]? = some x := by rfl) (hv : Vis X.env.scope x := by first | exact Or.inl rfl | exact Or.inr (Or.inl rfl) | exact Or.inr (Or.inr rfl)) (hd : (x == ("__debug__" : Str)) = false := by decide)
    (hcd : (x == ("__classdict__" : Str)) = false := by decide) (hs : NoSl a := by exact fun _ _ => rfl) : PE X (.Subscript (.Name x xpos) a pos) (cE X.K cn W (wBget i mi)) := pe_wk (pe_bget (pe_var (i := i) hN hv hd hcd) hi hs) fun σ H Q h => by
  obtain ⟨E, F, ρ, g, Qu, Qx, S, hm, hk, hx⟩ := h
  unfold wBget at hm
  split at hm
  case h_2 => exact hm.elim
  rename_i p hj
  obtain ⟨v, k1, k2⟩ := S.slot i _ hj
  cases (show Rp X.K F v (.ref p) from k2)
  refine ⟨.ref p, k1, E, F, ρ, g, _, _, S, hm, fun F1 H1 w u g1 S1 p1 o1 f1 q1 => ?_, hx⟩
  obtain ⟨b, rfl, bs, xs, x, hg, hb, q⟩ := blK_ok o1 q1
  obtain ⟨⟨vs, h1, h2, _⟩, _⟩ := S1.cell p _ hg
  obtain ⟨z, h3, h4⟩ := bget_val h2 hb
  exact ⟨p, bs, vs, b, z, rfl, rfl, h1, h3, hk F1 H1 z (.d x) g1 S1 p1 h4 trivial q⟩
/-- x[k] = e, a key that is not there -/
@[simp] def wBsto (j : Nat) (mi me : ME) : MS := fun ρ g P => match ρ[j]? with
  | some (some (.d (.ref p))) => me ρ g (fun u g1 => fzU u fun y => mi ρ g1 (fun w g2 => blK w fun b => ∃ bs xs, g2 p = some (.ext (BD p bs) xs []) ∧ bs.length = xs.length ∧ bs.length < 60 ∧ b ∉ bs ∧ P.nx ρ (setG g2 p (.ext (BD p (bs ++ [b])) (xs ++ [y]) []))) (xOf P ρ)) (xOf P ρ)
  | _ => False
theorem rs_bsto (j : Nat) {x : Str} {xpos tpos : Pos} (hi : PE X a (cE X.K cn W mi)) (he : PE X e (cE X.K cn W me)) (hN : X.N[j]? = some x := by rfl) (hv : Vis X.env.scope x := by first | exact Or.inl rfl | exact Or.inr (Or.inl rfl) | exact Or.inr (Or.inr rfl)) (hd : (x == ("__debug__" : Str)) = false := by decide)
    (hcd : (x == ("__classdict__" : Str)) = false := by decide) (hs : swapsWith e (some (.Subscript (.Name x xpos) a tpos)) pos.line X.env = pure false := by rfl) :
    PS X (.Assign [.Subscript (.Name x xpos) a tpos] e pos) (cS X.K cn W (wBsto j mi me)) := ps_wk (ps_bput (pe_var (i := j) hN hv hd hcd) hi he hs) fun D σ H h => by
  obtain ⟨E, F, ρ, g, P, S, hm, C⟩ := h
  unfold wBsto at hm
  split at hm
  case h_2 => exact hm.elim
  rename_i p hj
  obtain ⟨v0, k1, k2⟩ := S.slot j _ hj
  cases (show Rp X.K F v0 (.ref p) from k2)
  refine ⟨E, F, ρ, g, _, _, S, hm, fun F1 H1 v u g1 S1 p1 o1 f1 q1 => ?_, C.xc σ ρ⟩
  obtain ⟨F2, y, S2, p2, r2, q2, _⟩ := fz_ok S S1 p1 o1 f1 q1
  refine ⟨.ref p, k1, E, F2, ρ, g1, _, _, S2, q2, fun F3 H3 w z g3 S3 p3 o3 f3 q3 => ?_, C.xc σ ρ⟩
  obtain ⟨b, rfl, bs, xs, hg, hl, hz, hb, q⟩ := blK_ok o3 q3
  obtain ⟨⟨vs, h1, h2, _⟩, _⟩ := S3.cell p _ hg
  refine ⟨p, bs, vs, b, rfl, rfl, h1, by rw [h2.len]; exact hl, hz, bget_none hb, C.nx F3 _ σ ρ _ (S3.putCell hg (fun q z => ?_) ⟨vs ++ [v], rfl, h2.app (.cons (r2.mono p3.ext) .nil)⟩) q⟩
  rw [h1] at z
  cases z
end
open PySem PySem.Spec PyProof.Rows L2

/-! ### x in (a, b, ..), whatever they hold -/
@[simp] def inTU : D → D → (U → Prop) → Prop
  | x, .tup ys, k => (okD x = true ∧ okD (.tup ys) = true) ∧ k (.d (.bl (ys.any fun z => eqD z x)))
  | _, _, _ => False
def rInT (K : PySem.W.Frag) : R2 := fun x y H Q => ∃ d ds, Dp K H x d ∧ Dp K H y (.tuple ds) ∧ SeqAt.shaped d = true ∧ SeqAt.shaped (.tuple ds) = true ∧ Q (.bl (ds.any fun z => PyData.eqv z d)) H
section
variable {X : Cx} {K : PySem.W.Frag}
theorem op_inT (hu : X.A.units + 65 < cLine) : OpR X (compareOp .In) (rInT X.K) := fun pins s σ H x y v u Q I rx ry h => by
  obtain ⟨d, ds, hd, he, sd, se, q⟩ := h
  obtain ⟨_, r1⟩ := Dp.reads I d x v hd rx
  obtain ⟨_, r2⟩ := Dp.reads I (.tuple ds) y u he ry
  exact SeqAt.in_tuple_reads r2 r1 (SeqAt.canLay_of_shaped se) (SeqAt.canLay_of_shaped sd) (room_in_shaped sd hu) ⟨.bl _, H, I, rfl, q⟩
theorem os_inT : OpS K (rInT K) inTU := by
  intro E F H σ ρ g v1 v2 x1 x2 k Q S h1 h2 hk rc
  unfold inTU at hk
  split at hk
  · rename_i ys k'
    have q := hk.2
    refine ⟨toPy x1, toPyL _, h1.dp S.ext hk.1.1, by simpa [toPy] using h2.dp S.ext hk.1.2, hk.1.1, by simpa [toPy, okD] using hk.1.2, ?_⟩
    rw [toPyL_map, any_map]
    exact rc_same rc S (.bl _) q
  · exact hk.elim
/-! ### (a, b, ..) * n -/
@[simp] def mulTU : D → D → (U → Prop) → Prop
  | .tup xs, .int j, k => (xs ≠ [] ∧ 2 ≤ j ∧ j ≤ 1000 ∧ xs.length ≤ 1000) ∧ k (.d (.tup (List.replicate j.toNat xs).flatten))
  | _, _, _ => False
theorem os_mulT : OpS K (rRepT K) mulTU := by
  intro E F H σ ρ g v1 v2 x1 x2 k Q S h1 h2 hk rc
  unfold mulTU at hk
  split at hk
  · obtain ⟨⟨q1, q2, q3, q4⟩, q⟩ := hk
    obtain ⟨a, vs, rfl, ha, ra⟩ := h1.tup
    rw [h2.int]
    refine ⟨a, _, vs, rfl, rfl, sqt_same S.ext ha, fun e => q1 ?_, q2, q3, by rw [ra.len]; exact q4, fun p hp => rc_newF rc S hp (flat_rp ra _) q⟩
    subst e
    cases ra
    rfl
  · exact hk.elim
end
open PySem PySem.Spec PyProof.Rows L2 LamX

/-! ### a lambda as a value: its function object is tracked -/
/-- what is true of the function object at f: its text, the cells that it closes over, its code object at c' -/
def lamHO (cells : List (Str × Addr)) (p : Arguments) (b : Expr) (sc : Scope) (f c' : Addr) : HO := .ext fun h => ∃ pm ctv, h.get? f = some (PySem.W.kla_obj "<lambda>" lamQ p b sc (cloFrom cells sc.names []) pm c' ctv)
section
variable {X : Cx} {pins : List (Addr × Obj)} {σ : L2.St} {H : Hp} {s : Shared}
theorem lamHO_ok {P : Program} {w : World} {H : Hp} {h : Heap} {cells : List (Str × Addr)} {p : Arguments} {b : Expr} {sc : Scope} {f c' : Addr} {pm ctv : Value} (e : h.get? f = some (PySem.W.kla_obj "<lambda>" lamQ p b sc (cloFrom cells sc.names []) pm c' ctv)) : ObjOk P w H h f (lamHO cells p b sc f c') :=
  ⟨⟨pm, ctv, e⟩, ⟨_, e⟩, fun _ _ ⟨pm, ctv, q⟩ k => ⟨pm, ctv, k _ q⟩⟩
theorem lam_madeT {c P : Addr} {params : Arguments} {body : Expr} {scope : Scope} {pos : Pos} {E Q : Value → Shared → Prop} (I : Inv X pins σ H s) (hq : X.env.qual ++ "<lambda>" = lamQ) (TB : TabB X.base X.mg c P) (hcode : X.env.code = .ref c) (hT : TabAt H P lamQ)
    (hdef : defaultsOf params X.env = ([], [])) (hfree : ∀ y ∈ scope.names, y.2 = .free → ∃ c, X.env.cells.lookup y.1 = some c)
    (h : ∀ (f c' : Addr) (H1 : Hp) (s' : Shared), Inv X pins σ (upd H1 f (lamHO X.env.cells params body scope f c')) s' → LamStep P lamQ H H1 → H1 f = none → ((∃ (pos : Pos) (ps : Array Value), H P = some (.tbl ps) ∧ codeAmong pos ps.toList = some (.ref c')) ∨ H c' = none) → H1 c' = some (CodeO c' lamQ) → Q (.ref f) s') :
    wpAny (model X.prog X.w) X.A (eval (.Lambda params body scope pos) X.env) Q E s := by
  obtain ⟨ps, hP, ht, ha⟩ := hT
  have tabP : s.heap.get? P = some { cls := .none, data := .fields ps } := I.hok P _ hP
  have bmP : s.heap.BuiltinsAt X.mg P := TB.bm.keeps I.bk
  refine PySem.W.kla_eval hdef ?_
  cases hcA : codeAmong pos ps.toList with
  | some cv =>
    obtain ⟨c', rfl, hco⟩ := ha pos cv hcA
    refine PySem.W.kla_makeFunctionHit (mg := X.mg) (c := c) (P := P) (ps := ps) (closure_ok hfree) I.ok.glob (I.mod.glob.keeps I.bk) hcode (TB.code.keeps I.bk) tabP ht hcA bmP fun ctv h' tk hx hsz => ?_
    rw [hq]
    have J : Inv X pins σ H { s with heap := h' } := I.kept (t' := s.toks) hx
    have J2 := J.laid (t' := tk) (a := h'.objs.size) (o := lamHO X.env.cells params body scope h'.objs.size c') (fun b o e => Heap.get?_push_of_some (PySem.W.kla_obj "<lambda>" lamQ params body scope (cloFrom X.env.cells scope.names []) ((X.mg "__name__").getD .none) c' ctv) e) (Nat.le_refl _) (lamHO_ok (Heap.get?_push_size _ rfl))
    exact h h'.objs.size c' H _ J2 ⟨fun _ _ _ e => e, ps, ps, hP, hP, ht, fun _ _ hc => .inl hc⟩ (I.hok.fresh hsz) (.inl ⟨pos, ps, hP, hcA⟩) hco
  | none =>
    refine PySem.W.kla_makeFunction (mg := X.mg) (c := c) (P := P) (ps := ps) (closure_ok hfree) I.ok.glob (I.mod.glob.keeps I.bk) hcode (TB.code.keeps I.bk) tabP ht hcA TB.gP bmP fun c' ctv h' tk hx hge hlt hrec htb => ?_
    rw [hq] at hrec ⊢
    obtain ⟨c2, oc, vs, t, e2, hoc, hd, hv⟩ := hrec
    cases e2
    have grown : s.heap.objs.size ≤ h'.objs.size := Nat.le_trans hge (Nat.le_of_lt hlt)
    have nC : H c' = none := I.hok.fresh hge
    have J := inv_table (q := lamQ) (t' := s.toks) (more := #[rawInt pos.line, rawInt pos.col, .ref c']) (h' := h') I hP hx htb hge ⟨oc, vs, t, hoc, hd, hv⟩
    have nPc : P ≠ c' := ne_of_none hP nC
    have stay : ∀ b o, b ≠ P → H b = some o → (upd (upd H P (.tbl (ps ++ #[rawInt pos.line, rawInt pos.col, .ref c']))) c' (CodeO c' lamQ)) b = some o := fun b o hb e => by rw [upd_ne (ne_of_none e nC), upd_ne hb]; exact e
    have split : (ps ++ #[rawInt pos.line, rawInt pos.col, .ref c']).toList = ps.toList ++ [rawInt pos.line, rawInt pos.col, .ref c'] := by simp
    have J2 := J.laid (t' := tk) (a := h'.objs.size) (o := lamHO X.env.cells params body scope h'.objs.size c') (fun b o e => Heap.get?_push_of_some (PySem.W.kla_obj "<lambda>" lamQ params body scope (cloFrom X.env.cells scope.names []) ((X.mg "__name__").getD .none) c' ctv) e) (Nat.le_refl _) (lamHO_ok (Heap.get?_push_size _ rfl))
    refine h h'.objs.size c' _ _ J2 ⟨stay, ps, _, hP, by rw [upd_ne nPc, upd_same], by rw [split]; exact PySem.TriplesOk_snoc _ _ _ _ ht, fun p' cv hcv => ?_⟩ (J.hok.fresh (Nat.le_refl _)) (.inr nC) upd_same
    rw [split] at hcv
    rcases among_app _ ht hcv with z | z
    · exact .inl z
    · exact .inr ⟨c', z, nC, upd_same⟩
end
section
variable {X : Cx} {cn : Str → Option Addr} {W : WX}
/-- lambda: .. as a value: one of those that LF tells -/
@[simp] def wLam (P : Addr) (LF : Nat → Addr → Addr → HO) (i : Nat) : ME := fun _ g Q _ => g P = some .tbl ∧ ∀ f c', g f = none → Q (.d (.ref f)) (setG g f (.ext (fun _ => LF i f c') [] [c']))
theorem re_lamV {P c : Addr} {LF : Nat → Addr → Addr → HO} {i : Nat} {params : Arguments} {body : Expr} {scope : Scope} {pos : Pos} (hq : X.env.qual ++ "<lambda>" = lamQ) (TB : TabB X.base X.mg c P) (hcode : X.env.code = .ref c) (L : LamS X.env.scope scope) (hdef : defaultsOf params X.env = ([], []))
    (hLF : LF i = lamHO X.env.cells params body scope) : PE X (.Lambda params body scope pos) (cE X.K cn W (wLam P LF i)) := by
  constructor
  intro pins s σ H Q I hh
  obtain ⟨E, F, ρ, g, Qu, Qx, S, ⟨hP, hm⟩, hk, hx⟩ := hh
  refine lam_madeT I hq TB hcode (lam_tab S hP) hdef (L.has I.ok) fun f c' H1 s' I1 st hf hc hco => ?_
  obtain ⟨p0, s1, c1⟩ := lam_stp S hP st
  have S1 := S.stp p0 s1 c1
  have hF : froz F H H1 c' = some (CodeO c' lamQ) := by
    rcases hc with ⟨p, ps, h1, h2⟩ | h1
    · obtain ⟨⟨ps', q1, q2, q3⟩, _⟩ := S.cell P _ hP
      rw [h1] at q1
      cases q1
      obtain ⟨c2, e, q4⟩ := q3 p _ h2
      cases e
      rw [froz_some (S.ext _ _ q4)]
      exact q4
    · rw [froz_none h1]
      exact hco
  obtain ⟨S2, p2⟩ := S1.newCell (o := LF i f c') (c := .ext (fun _ => LF i f c') [] [c']) hf ⟨[], upd_same, .nil, fun c hc => by rw [List.mem_singleton.mp hc]; exact hF⟩
  have gf : g f = none := S.freeG (p0.trk f hf)
  refine ⟨.ref f, _, I1, rfl, ?_⟩
  rw [← hLF]
  exact hk _ _ (.ref f) (.d (.ref f)) _ S2 (p0.trans p2) (Rp.ref f) trivial (hm f c' gf)
end
open PySem PySem.Spec PyProof.Rows L2 LamX

/-! ### such a lambda called within a def that got it, in a try -/
/-- the context of its body, what it raises having no context -/
abbrev lamCxN (X : Cx) (A : Around) (outer : List PySem.Env) (s : Shared) (H : Hp) (E : XK) (scope : Scope) (f c' : Addr) : Cx :=
  (lamCx X A outer s H E scope f c').tr [] fun e s' => wpAny (model X.prog X.w) (A.deeper (lamEnv X scope s.heap.objs.size f c')) (leaving (lamEnv X scope s.heap.objs.size f c') e) (fun _ s'' => L2N.CX X.prog X.w outer H s E e s'') (fun e' s'' => L2N.CX X.prog X.w outer H s E e' s'') s'
/-- the law's own state, whatever block of it runs -/
def LawAt (X Y : Cx) (σ0 : L2.St) : Prop := ∃ pins0 : List (Addr × Obj), ∀ (pins : List (Addr × Obj)) (τ : L2.St) (J : Hp) (t : Shared), Inv Y pins τ J t → Inv X pins0 σ0 J t
section
variable {X : Cx} {pins : List (Addr × Obj)} {σ : L2.St} {H : Hp} {s : Shared}
theorem pe_actN {Ng : List Str} {qg : Str} {sg : Scope} {g f c' : Addr} {cdg : Value} {params : Arguments} {body : Expr} {scope : Scope} {k i : Nat} {a : Str} {pn : List (Addr × Obj)} {xe : Value → Shared → Prop} {W : WX} {tb : XK → TE} {p1 p2 : Pos}
    (I : Inv X pins σ H s) (L : LamS X.env.scope scope) (hq : X.env.qual ++ "<lambda>" = lamQ)
    (hbind : ∀ pm ctv : Value, bindArgs (PySem.W.kla_fn "<lambda>" lamQ params body scope (cloFrom X.env.cells scope.names []) pm (.ref c') ctv) ⟨[], []⟩ = pure [])
    (tk : L2N.Takes ((cxOf C8.CX0 X.prog X.w X.K X.mg X.base Ng qg sg g cdg X.A X.stack s H C8.E0).tr pn xe) W) (hr : Room (k + 1) (X.A.deeper (envOfC qg sg s.heap.objs.size g cdg)))
    (hbody : ∀ (A : Around) (outer : List PySem.Env) (s : Shared) (H : Hp) (E : XK), Room k (A.deeper (lamEnv X scope s.heap.objs.size f c')) → PE (lamCxN X A outer s H E scope f c') body (tb E))
    (hN : Ng[i]? = some a) (hv : Vis sg a) (hd : (a == ("__debug__" : Str)) = false := by decide) (hcd : (a == ("__classdict__" : Str)) = false := by decide) :
    PE ((cxOf C8.CX0 X.prog X.w X.K X.mg X.base Ng qg sg g cdg X.A X.stack s H C8.E0).tr pn xe) (.Call (.Name a p1) [] [] p2)
      (fun σZ HZ Q => σZ[i]? = some (some (.ref f)) ∧ HZ f = some (lamHO X.env.cells params body scope f c') ∧ HZ c' = some (CodeO c' lamQ) ∧ ∃ Ech : XK, (∀ cls d H', Ech cls d H' → W cls d σZ H') ∧ tb Ech σ HZ Q) := by
  constructor
  intro pinsZ sZ σZ HZ Q IZ h
  obtain ⟨hs, hf, hc, Ech, hE, ht⟩ := h
  refine wpAny_Call_Name_kw (thn ((pe_var (pos := p1) (i := i) hN hv hd hcd).run pinsZ sZ σZ HZ (fun v H1 => v = .ref f ∧ H1 = HZ) IZ ⟨.ref f, hs, rfl, rfl⟩) fun u s1 hh => ?_)
  obtain ⟨v, H1, I1, r1, ev, eH⟩ := hh
  subst ev
  rw [eH] at I1
  obtain rfl : u = Value.ref f := r1
  obtain ⟨pm, ctv, there⟩ := (I1.hok f _ hf).1
  refine PySem.W.callWith_F0 ⟨_, _, _, _, there⟩ ?_
  obtain ⟨⟨oc, vs, t, hoc, hdc, hvc⟩, _, _⟩ := I1.hok c' _ hc
  rw [← hq] at there hvc hbind
  have rc : codeAny (model X.prog X.w) (X.A.deeper (envOfC qg sg s.heap.objs.size g cdg)) (.call (.ref f) ⟨[], []⟩) (CR (L2N.CX X.prog X.w) (envOfC qg sg s.heap.objs.size g cdg :: X.stack) X.prog X.w HZ s1 Q Ech) s1 := by
    refine PySem.W.kla_callFunE hr.depth there rfl L.co L.gen rfl ⟨c', oc, vs, t, rfl, hoc, hdc, hvc⟩ ?_
    rw [hbind]
    refine wpAny_pure (wpAny_newFunctionEnv (fun y hy => (L.own y hy).2) (fun y hy => absurd hy (by simp)) (fun h₁ hns hsb => ⟨I1.nolimit.fresh _ hsb, ?_⟩) L.kind)
    show codeAny _ _ (.expr body (lamEnv X scope s1.heap.objs.size f c')) _ _
    have J : Inv (lamCx X (X.A.deeper (envOfC qg sg s.heap.objs.size g cdg)) (envOfC qg sg s.heap.objs.size g cdg :: X.stack) s1 HZ Ech scope f c') [] σ HZ { s1 with heap := h₁, toks := s1.toks + ([] : List (Str × Value)).length } :=
      lam_start2 I L I1.env0 hr.hd I1.base hns fun b o e => hsb.extBut b o (Nat.ne_of_lt (Heap.lt_size e)) (Heap.get?_push_of_some _ e)
    have J2 : Inv (lamCxN X (X.A.deeper (envOfC qg sg s.heap.objs.size g cdg)) (envOfC qg sg s.heap.objs.size g cdg :: X.stack) s1 HZ Ech scope f c') [] σ HZ { s1 with heap := h₁, toks := s1.toks + ([] : List (Str × Value)).length } := J.toTry _
    refine PySem.W.kla_codeExpr (wpAny_mono ((hbody _ _ s1 HZ _ (hr.deeper _)).run [] _ _ HZ Q J2 ht) (fun v s' hq => ?_) fun e s' hq => hq)
    obtain ⟨w', H', J', rv, q⟩ := hq
    exact ⟨w', H', J'.os, J'.bare, J'.base, J'.hok, rv, q⟩
  refine wpAny_call (codeAny_mono rc fun r s' hq => ?_)
  cases r with
  | error e => exact tk _ _ (L2N.XE.of_call I1 hE hq)
  | ok fl =>
    cases fl with
    | ret u => exact I1.after hq
    | next => exact False.elim hq
    | brk => exact False.elim hq
    | cont => exact False.elim hq
end
/-- what each of the lambdas is -/
structure LamR (X : Cx) (cn : Str → Option Addr) (k : Nat) (lf : Addr → Addr → HO) (m : ME) : Prop where
  ex : ∃ (params : Arguments) (body : Expr) (scope : Scope), lf = lamHO X.env.cells params body scope ∧ LamS X.env.scope scope ∧
    (∀ (cl : List (Str × Addr)) (pm cv ctv : Value), bindArgs (PySem.W.kla_fn "<lambda>" lamQ params body scope cl pm cv ctv) ⟨[], []⟩ = pure []) ∧
    ∀ (A : Around) (outer : List PySem.Env) (s : Shared) (H : Hp) (E : XK) (f c' : Addr), Room k (A.deeper (lamEnv X scope s.heap.objs.size f c')) → PE (lamCxN X A outer s H E scope f c') body (cE X.K cn (fun cls d _ H => E cls d H) m)
def LamAll (X : Cx) (cn : Str → Option Addr) (k : Nat) (LF : Nat → Addr → Addr → HO) (ms : List ME) : Prop := ∀ i m, ms[i]? = some m → LamR X cn k (LF i) m
/-- x(v), x a def that calls what it got in a try: v a lambda of the store -/
@[simp] def wRef (LF : Nat → Addr → Addr → HO) (h : Hd) (n : Nat) (ms : List ME) (own : List Nat) (j : Nat) : ME := fun ρ g Q _ => ∃ (f c' : Addr) (i : Nat) (m : ME), ρ[j]? = some (some (.d (.ref f))) ∧ g f = some (.ext (fun _ => LF i f c') [] [c']) ∧ ms[i]? = some m ∧
  m (wipeU (ρ.map cleanU) own) g (fun _ g' => Q (.d (.bl false)) g') fun x g' => h.cat.lookup x.nm = some true ∧ ∀ a dd, h.su a dd x (inI h.i (exnD a dd x) (startU n [.ref f])) g' (outI h.i (retP Q))
/-- how an exception of the work is told -/
def WishN (K : PySem.W.Frag) (cn : Str → Option Addr) (h : Hd) (n : Nat) (f : Addr) (Q : VK) : XK := fun cls d H' => ∃ (F' : Hp) (g' : G) (x : Exn) (Qu : KU), Same F' H' ∧ Cells K F' H' g' ∧ ExOk K cn F' cls d x ∧
  (h.cat.lookup x.nm = some true ∧ ∀ a dd, h.su a dd x (inI h.i (exnD a dd x) (startU n [.ref f])) g' (outI h.i (retP Qu))) ∧
  ∀ F2 H2 v u g2, Same F2 H2 → Cells K F2 H2 g2 → Stp g' F' H' g2 F2 H2 → UOk K ⟨F', H', g'⟩ F2 H2 g2 v u → NoBor u → Qu u g2 → Q v H2
theorem Stt.lawSlots {K : PySem.W.Frag} {E : Ent} {F H : Hp} {τ σ : L2.St} {ρ : Env} {g : G} {own : List Nat} (S : Stt K E F H τ ρ g) (hw : L2.wipe τ own = L2.wipe σ own) : Stt K ⟨F, H, g⟩ F H σ (wipeU (ρ.map cleanU) own) g := by
  have S1 := S.anew.wipe own
  rw [hw] at S1
  refine ⟨S1.ext, S1.ext0, ?_, fun i u h => ?_, fun i j o p h1 h2 ne hs => ?_, S1.cell, S1.keep, S1.trk⟩
  · rw [S1.len, wipe_length]
  · obtain ⟨v, h1, h2⟩ := S1.slot i u h
    exact ⟨v, (wipe_some h1).1, h2⟩
  · obtain ⟨v, q1, q2⟩ := S1.slot i _ h1
    obtain ⟨w, q3, q4⟩ := S1.slot j _ h2
    refine S1.sep i j o p h1 h2 ne ?_
    rw [(wipe_some q1).1, (wipe_some q3).1] at hs
    rw [q1, q3, hs]
open PySem PySem.Spec PyProof.Rows L2 LamX L2H

section
variable {X Z : Cx} {cn : Str → Option Addr} {W : WX}
theorem pe_ref {LF : Nat → Addr → Addr → HO} {h : Hd} {ms : List ME} {own : List Nat} {σ0 : L2.St} {x a ex n lw : Str} {st : Stmt} {g : Addr} {fd : FuncData} {k j jj kk : Nat} {Ng : List Str} {b0 : Stmt} {su : List Stmt} {p1 p2 p3 p4 p5 p6 p8 p np q1 pos : Pos}
    (law : LawAt X Z σ0) (eZ : Z.prog = X.prog ∧ Z.w = X.w ∧ Z.K = X.K ∧ Z.mg = X.mg ∧ Z.base = X.base ∧ Z.A = X.A ∧ Z.stack = X.stack) (hq : X.env.qual ++ "<lambda>" = lamQ)
    (Fw : Fun X.K x x st g fd) (hm : X.mg x = some (.ref g)) (hk : PySem.W.keepIn X.K (.ref g) = true) (hb : L2.Binds X.K fd [a] [])
    (hst : defBody st = [.Try [.Expr (.Call (.Name a p1) [] [] p2) p3] [.ExceptHandler (some (.Name ex np)) (some n) (b0 :: su) p6] [] [] p8, .Return (some (.Constant (.bool false) kk p4)) p5]) (Sg : FnScope Ng [a] (defScope st)) (hNg : Ng[0]? = some a) (hva : Vis (defScope st) a)
    (hi : h.i = some jj) (hNj : Ng[jj]? = some n) (hln : ∀ (cdg : Value) (l : Nat), (envOfC x (defScope st) l g cdg).kindOf n = some .local)
    (hc : ∀ (cdg : Value) (s : Shared) (H : Hp), ∃ c, Names (cxOf C8.CX0 X.prog X.w X.K X.mg X.base Ng x (defScope st) g cdg X.A X.stack s H C8.E0).nox ex c ∧ ∀ nm b, h.cat.lookup nm = some b → ∃ C, cn nm = some C ∧ PySem.W.exmOne X.K (.ref C) c = some b)
    (hsu : ∀ (cdg : Value) (s : Shared) (H : Hp), Room (k + 1) (X.A.deeper (envOfC x (defScope st) s.heap.objs.size g cdg)) → ∀ (a : Addr) (oe : Obj) (cls : Value) (d : Option Addr) (pn : List (Addr × Obj)) (dd : Addr) (e : Exn), Zc cls d oe → (∃ vs, oe.data = .fields vs) → ExN cn cls d dd e →
      Hot1 ((cxOf C8.CX0 X.prog X.w X.K X.mg X.base Ng x (defScope st) g cdg X.A X.stack s H C8.E0).nox.suite a ((a, oe) :: pn)).A (a, oe) → (∃ C, cn e.nm = some C) →
      PSs ((cxOf C8.CX0 X.prog X.w X.K X.mg X.base Ng x (defScope st) g cdg X.A X.stack s H C8.E0).nox.suite a ((a, oe) :: pn)) (b0 :: su) (cS X.K cn W0 (h.su a dd e)))
    (LA : LamAll X cn k LF ms) (hr : Room (k + 2) X.A) (hg : Gl Z x) (hN : Z.N[j]? = some lw) (hv : Vis Z.env.scope lw)
    (hdb : (x == ("__debug__" : Str)) = false := by decide) (hd1 : (lw == ("__debug__" : Str)) = false := by decide) (hcd1 : (lw == ("__classdict__" : Str)) = false := by decide) (hd : (a == ("__debug__" : Str)) = false := by decide) (hcd : (a == ("__classdict__" : Str)) = false := by decide) :
    PE Z (.Call (.Name x p) [.Name lw q1] [] pos) (fun τ H Q => L2.wipe τ own = L2.wipe σ0 own ∧ cE Z.K cn W (wRef LF h Ng.length ms own j) τ H Q) := by
  obtain ⟨e1, e2, e3, e4, e5, e6, e7⟩ := eZ
  rw [e3]
  constructor
  intro pins s τ H Q I hh
  obtain ⟨hw, E, F, ρ, g0, Qu, Qx, S, ⟨f, c', i, m, h1, h2, h3, h4⟩, hk', hx⟩ := hh
  obtain ⟨v0, k1, k2⟩ := S.slot j _ h1
  cases (show Rp X.K F v0 (.ref f) from k2)
  obtain ⟨⟨vs, c1, _, c2⟩, _⟩ := S.cell f _ h2
  have hco : H c' = some (CodeO c' lamQ) := S.ext _ _ (c2 c' (List.mem_singleton.mpr rfl))
  obtain ⟨params, body, scope, eLF, L, hbind, hbody⟩ := (LA i m h3).ex
  rw [eLF] at c1
  obtain ⟨pins0, hlaw⟩ := law
  refine wpAny_Call_Name_kw (ld_glob I hg (by rw [e4]; exact hm) (PySem.W.callWith_K (h₀ := Z.base) I.ok.mod.kin (by rw [e3]; exact hk) ?_ (by rfl) (by rfl)) hdb)
  show wpAny _ _ (spliced ((false, eval (.Name lw q1) Z.env) :: backTo pos (starEach [] Z.env))) _ _ s
  refine Calls.spliced_cons (thn ((pe_var (pos := q1) (i := j) hN hv hd1 hcd1).run pins s τ H (fun v H1 => v = .ref f ∧ H1 = H) I ⟨.ref f, k1, rfl, rfl⟩) fun u s1 hh => ?_)
  obtain ⟨v, H1, I1, r1, ev, eH⟩ := hh
  subst ev
  rw [eH] at I1
  obtain rfl : u = Value.ref f := r1
  refine Calls.spliced_nil ⟨I1.kIn, ?_⟩
  have IL := hlaw _ _ _ _ I1
  obtain ⟨oc, od, kV, doc, pm, an, cdv, ct, osl, rfl, lk, hcg⟩ := Fw.ex
  rw [hst] at lk hb
  have rc : codeAny (model X.prog X.w) X.A (.call (.ref g) ⟨[.ref f], []⟩) (CR C8.CX0 X.stack X.prog X.w H s1 Q C8.E0) s1 := by
    refine run_ofS (N := Ng) (ps := [a]) (us := [.ref f]) (vs := [.ref f]) lk hcg Sg hr IL.env0 (hb s1 [.ref f] IL.kIn rfl) (.cons rfl .nil) rfl fun hr' => ?_
    obtain ⟨c, hnm, hs⟩ := hc cdv s1 H
    have T := L2N.ps_try_as (X := (cxOf C8.CX0 X.prog X.w X.K X.mg X.base Ng x (defScope st) g cdv X.A X.stack s1 H C8.E0).nox) (pos := p8) (pos' := p6) (np := np) (b₀ := b0) (suite := su) (Wout := W0) rfl rfl Sg.nd hNj (hln cdv _) hnm takesN0
      (tb := fun W' D σZ HZ => σZ[0]? = some (some (V.ref f)) ∧ HZ f = some (lamHO X.env.cells params body scope f c') ∧ HZ c' = some (CodeO c' lamQ) ∧ ∃ Ech : XK, (∀ cls d H', Ech cls d H' → W' cls d σZ H') ∧ cE X.K cn (fun cls d _ H => Ech cls d H) m σ0 HZ fun _ H' => D.nx σZ H')
      (ts := fun a cls d D σ H => ∃ p : Addr × Exn, (ExN cn cls d p.1 p.2 ∧ ∃ C, cn p.2.nm = some C) ∧ cS X.K cn W0 (h.su a p.1 p.2) D σ H)
      (fun W' pn xe tk _ => pss_one (ps_wk (ps_expr (pos := p3) (pe_actN (i := 0) (p1 := p1) (p2 := p2) IL L hq (fun pm ctv => hbind _ pm _ ctv) tk hr' (fun A outer s H E hr2 => hbody A outer s H E f c' hr2) hNg hva hd hcd)) fun D σ H hh => hh))
      fun a oe cls d pn z fz => pss_ex fun p hp => hsu cdv s1 H hr' a oe cls d pn p.1 p.2 z.zc fz hp.1 ⟨rfl, fz.elim fun vs e => ⟨vs, e, z.2.2 vs e⟩⟩ hp.2
    refine ⟨_, (pss_cons T (pss_one (ps_ret (pe_bl (b := false))))).nox, ?_⟩
    refine ⟨by unfold L2.start; rfl, c1, hco, WishN X.K cn h Ng.length f Q, fun cls d H' he => ?_, ⟨F, H, g0⟩, F, _, g0, _, _, S.lawSlots hw, h4, fun F2 H2 v u g2 S2 p2 o2 f2 q2 => ?_, fun F' H' cls d y g' S' ok q => ?_⟩
    · obtain ⟨F', g', y, Qw, s1', c1', ok, ⟨hl, hy⟩, hkk⟩ := he
      have hN' : cn y.nm ≠ none := fun z => by
        obtain ⟨C, q, _⟩ := hs _ _ hl
        rw [q] at z
        cases z
      obtain ⟨C1, hc1, hex⟩ := hs _ _ hl
      have hcl := (ok C1 hc1).1
      refine ⟨true, by rw [hcl]; exact hex, fun _ a ha => ?_, fun z => nomatch z⟩
      obtain ⟨dd, hxn, rp⟩ := exn_rp (a := a) hc1 ok
      have S' : Stt X.K ⟨F', H', g'⟩ F' H' (L2.start Ng [.ref f]) (startU Ng.length [.ref f]) g' := stt_start s1' c1' (.cons (.ref f) .nil)
      refine ⟨(dd, y), ⟨hxn, C1, hc1⟩, ⟨F', H', g'⟩, F', inI h.i (exnD a dd y) (startU Ng.length [.ref f]), g', outI h.i (retP Qw), ?_, hy a dd, ?_⟩
      · rw [hi]
        exact S'.setD jj rp
      · rw [hi]
        refine out_conn (W := W0) (i := some jj) ⟨fun _ _ _ _ _ _ z => z.elim, fun _ _ _ _ _ _ z => z.elim, fun _ _ _ _ _ _ z => z.elim, fun F2 H2 σ2 ρ2 g2 v u S2 o nb qv => ?_, fun _ _ _ _ _ _ _ _ _ _ z => z.elim⟩
        exact hkk F2 H2 v u g2 S2.ext S2.cell (S2.out (SubG.refl g2)) o nb qv
    · exact hk' F2 H2 (.bl false) (.d (.bl false)) g2 (S.stp p2 S2.ext S2.cell) p2 (Rp.bl false) trivial q2
    · have p' : Stp g0 F H g' F' H' := S'.out (SubG.refl g')
      refine ⟨F', g', y, Qu, S'.ext, S'.cell, ok, q, fun F2 H2 v u g2 e2 c2 p2 o2 nb qv => ?_⟩
      have pp := p'.trans p2
      exact hk' F2 H2 v u g2 (S.stp pp e2 c2) pp (uok_from o2 fun b hb => S.trk b (p'.trk b hb)) ((fresh_from o2).back p') qv
  have rc' : codeAny (model Z.prog Z.w) Z.A (.call (.ref g) ⟨[.ref f], []⟩) (CR C8.CX0 Z.stack Z.prog Z.w H s1 Q C8.E0) s1 := by
    rw [e1, e2, e6, e7]
    exact rc
  refine wpAny_call (codeAny_mono rc' fun r s2 hq => ?_)
  cases r with
  | error e => exact False.elim hq
  | ok fl =>
    cases fl with
    | ret u => exact I1.after hq
    | next => exact False.elim hq
    | brk => exact False.elim hq
    | cont => exact False.elim hq
end
open PySem PySem.Spec L2 PyProof.Rows LamX

/-! ### a comprehension whose test is told of the law's own state -/
section
variable {X : Cx}
theorem pe_lcI {elt tg iter : Expr} {ifs : List Expr} {scope : Scope} {own : List (Str × Nat)} {pos : Pos} {wi : TI} {g : TG} {tt : L2.St → TT} {te : TE} (hc : X.calm = true) (hN : X.N.Nodup) (hi : PI X tg iter wi) (ok : BlkOk X.N X.env.scope scope own)
    (hg : ∀ (s : Shared) (H : Hp) (C : Addr) (cl : List (Str × Addr)) (fp : List Addr), PG (X.blk s H scope (compEnvC scope cl C X.env) fp) tg g)
    (ht : ∀ (σ : L2.St) (s : Shared) (H : Hp) (C : Addr) (cl : List (Str × Addr)) (fp : List Addr), LawAt X (X.blk s H scope (compEnvC scope cl C X.env) fp) σ → PTs (X.blk s H scope (compEnvC scope cl C X.env) fp) ifs (tt σ))
    (he : ∀ (s : Shared) (H : Hp) (C : Addr) (cl : List (Str × Addr)) (fp : List Addr), PE (X.blk s H scope (compEnvC scope cl C X.env) fp) elt te) (hs : ∀ x, foldedSetIterable iter X.env x = pure x := by intro _; rfl) :
    PE X (.ListComp elt [⟨tg, iter, ifs, 0⟩] scope pos) (fun σ H Q => tLc wi g (tt σ) te (own.map (·.2)) σ H Q) := by
  constructor
  intro pins s σ H Q I h
  rw [eval_ListComp]
  have caps : ∀ y ∈ scope.names, y.2 = .free → ∃ c, X.env.cells.lookup y.1 = some c := fun y hy e => I.ok.has _ (ok.free y hy e)
  refine wpAny_comprehension_free rfl hs (closure_ok caps) ok.kind (fun y hy e => by rw [ok.uniq y hy, e]) (thn (hi.run pins s σ H _ I h) fun xv s1 hx => thn hx fun itv s2 h2 => ?_)
  obtain ⟨it, fp, tn, J, H2, rfl, I2, T, st2, f2, q⟩ := h2
  refine wpAny_newObj_type (newEnv_comp ?_) (by show 0 ≤ sizeLine; decide)
  have hDn : H2 s2.heap.objs.size = none := I2.hok.fresh (Nat.le_refl _)
  obtain ⟨W, ⟨m0, w0⟩, turn⟩ := q _ hDn
  have grow : ∀ b o, s2.heap.get? b = some o → (s2.heap.push { cls := .type "list", data := .seq ([] : List Value).toArray }).get? b = some o := fun b o e => Heap.get?_push_of_some _ e
  have I3 : Inv X pins σ (upd H2 s2.heap.objs.size (.lst [])) { s2 with heap := s2.heap.push { cls := .type "list", data := .seq ([] : List Value).toArray } } :=
    I2.laid (t' := s2.toks) grow (Nat.le_refl _) ⟨Nat.zero_le _, [], 0, .nil, Heap.get?_push_size _ rfl⟩
  have below : ∀ b ∈ fp, b < s2.heap.objs.size := fun b hb => (T.obj _ _ st2 b hb).elim fun o z => Heap.lt_size z.1
  have f3 : ∀ b ∈ fp, FpOk X pins (upd H2 s2.heap.objs.size (.lst [])) b := fun b hb => ⟨(upd_ne (Nat.ne_of_lt (below b hb))).trans (f2 b hb).1, (f2 b hb).2⟩
  have st3 := T.keep _ _ _ st2 fun b _ o e => grow b o e
  generalize hD : s2.heap.objs.size = D at *
  generalize hH3 : upd H2 D (.lst []) = H3 at *
  have below3 : ∀ b ∈ fp, b < ({ s2 with heap := s2.heap.push { cls := .type "list", data := .seq ([] : List Value).toArray } } : Shared).heap.objs.size := fun b hb => by
    show b < (s2.heap.push _).objs.size
    rw [Heap.size_push, hD]
    exact Nat.lt_succ_of_lt (below b hb)
  generalize hs3 : ({ s2 with heap := s2.heap.push { cls := .type "list", data := .seq ([] : List Value).toArray } } : Shared) = s3 at *
  have eh3 : s2.heap.push { cls := .type "list", data := .seq ([] : List Value).toArray } = s3.heap := by rw [← hs3]
  rw [eh3] at st3
  have I4 := block_start I3 ok hN fun b hb => ⟨f3 b hb, below3 b hb⟩
  generalize hcl : cellsFrom (s3.heap.objs.size + 1) scope.names (cloFrom X.env.cells scope.names []) = cl at *
  generalize hs4 : ({ s3 with heap := pushCells (s3.heap.push { cls := .type "dict", data := .dict #[] }) scope.names } : Shared) = s4 at *
  have keep4 : ∀ b o, s3.heap.get? b = some o → s4.heap.get? b = some o := fun b o e => by rw [← hs4]; exact pushCells_keeps _ _ _ _ (Heap.get?_push_of_some _ e)
  have st4 := T.keep _ _ _ st3 fun b _ o e => keep4 b o e
  have I5 : Inv (X.blk s3 H3 scope (compEnvC scope cl s3.heap.objs.size X.env) fp) [] (wipe σ (own.map (·.2))) H3 s4 := I4
  have law : LawAt X (X.blk s3 H3 scope (compEnvC scope cl s3.heap.objs.size X.env) fp) σ := ⟨pins, fun pins' τ J t K => I3.call' (ch := fp) K.os K.base K.hok K.bare fun b hb => ⟨(f3 b hb).2.2.2.1, (f3 b hb).2.1, (f3 b hb).2.2.2.2.1, (f3 b hb).2.2.2.2.2⟩⟩
  have stat : ∀ {τ : L2.St} {J' : Hp} {t : Shared}, Inv (X.blk s3 H3 scope (compEnvC scope cl s3.heap.objs.size X.env) fp) [] τ J' t → (∀ b ∈ fp, J' b = none) → ∀ b ∈ fp, FpOk (X.blk s3 H3 scope (compEnvC scope cl s3.heap.objs.size X.env) fp) [] J' b := fun K0 hn b hb =>
    ⟨hn b hb, (K0.ok.exf b hb).1, K0.ok.exfs b hb, .inl hb, fun x c e => (K0.ok.exf b hb).2 x c e, fun r hr => absurd (show r ∈ ([] : List (Addr × Obj)) ++ [] from hr) (by simp)⟩
  show codeAny _ _ (.compStart (.ListComp elt [⟨tg, iter, ifs, 0⟩] scope pos) 0 (.ref it) (.ref D) (compEnvC scope cl s3.heap.objs.size X.env)) (compPost (model X.prog X.w) X.A X.xe _ _ (.ref D) s3.heap.objs.size) s4
  have loop : codeAny (model X.prog X.w) X.A (.compLoop (.ListComp elt [⟨tg, iter, ifs, 0⟩] scope pos) 0 (.ref it) (.ref D) (compEnvC scope cl s3.heap.objs.size X.env)) (compPost (model X.prog X.w) X.A X.xe none (EP X pins σ Q) (.ref D) s3.heap.objs.size) s4 := by
    refine compLoop_any (fun n t => ∃ i J', Inv (X.blk s3 H3 scope (compEnvC scope cl s3.heap.objs.size X.env) fp) [] (wipe σ (own.map (·.2))) J' t ∧ tn i t.heap ∧ (∀ b ∈ fp, J' b = none) ∧ W i n J') ?_ m0 ⟨0, H3, I5, st4, fun b hb => (f3 b hb).1, w0⟩
    rintro n t ⟨i, J5, K5, st5, n5, w5⟩
    rcases turn i n J5 w5 with ⟨over, hQ⟩ | ⟨go, Nx, hNx, step⟩
    · refine thnF (T.done (X.blk s3 H3 scope (compEnvC scope cl s3.heap.objs.size X.env) fp) rfl rfl rfl hc i [] t _ J5 (fun _ _ => False) K5 (stat K5 n5) st5 over) fun r t6 ⟨hr, K6⟩ => ?_
      subst hr
      have K7 : Inv X pins σ J5 t6 := I3.call' (ch := fp) K6.os K6.base K6.hok K6.bare fun b hb => ⟨(f3 b hb).2.2.2.1, (f3 b hb).2.1, (f3 b hb).2.2.2.2.1, (f3 b hb).2.2.2.2.2⟩
      obtain ⟨m, hn, _⟩ := K6.loc
      obtain ⟨g0, g1, g2, g3, g4, g5⟩ := I3.fpOk (Nat.le_refl _) (show J5 s3.heap.objs.size = none from K6.free)
      exact ⟨m, hn, fun h'' sb => ⟨.ref D, J5, K7.turned (t' := t6.toks) (fun b o hb e => (sb.2 b hb).trans e) g0 g1 g3 g4 g5, rfl, hQ⟩⟩
    · refine thnF (T.item (X.blk s3 H3 scope (compEnvC scope cl s3.heap.objs.size X.env) fp) rfl rfl rfl hc i [] t _ J5 (fun _ _ => False) K5 (stat K5 n5) st5 go) fun r t6 ⟨u, hr, h6⟩ => ?_
      subst hr
      refine thnF h6 fun _ t7 ⟨x, J7, K7, r7, y7, st7, n7⟩ => ?_
      refine thnF ((hg s3 H3 s3.heap.objs.size cl fp).run _ t7 _ J7 x u _ (K7.pinned (stat K7 n7) (T.obj _ _ st7)) r7 (step x J7 y7)) fun _ t8 ⟨τ8, J8, K8, hw8, q8⟩ => ?_
      refine thnF ((ht σ s3 H3 s3.heap.objs.size cl fp law).run _ t8 τ8 J8 _ K8 q8) fun yes t85 ⟨J85, K85, q85⟩ => ?_
      have back : ∀ {t10 : Shared} {J10 : Hp}, Inv (X.blk s3 H3 scope (compEnvC scope cl s3.heap.objs.size X.env) fp) ([] ++ pinsAt fp t7.heap) τ8 J10 t10 → Nx J10 →
          ∃ m, m < n ∧ ∃ i J', Inv (X.blk s3 H3 scope (compEnvC scope cl s3.heap.objs.size X.env) fp) [] (wipe σ (own.map (·.2))) J' t10 ∧ tn i t10.heap ∧ (∀ b ∈ fp, J' b = none) ∧ W i m J' := fun {t10 J10} K10 nx => by
        obtain ⟨m', hm, w'⟩ := hNx _ nx
        have still : ∀ b ∈ fp, ∀ o, t7.heap.get? b = some o → t10.heap.get? b = some o ∧ J10 b = none := fun b hb o e =>
          have z := K10.pin (b, o) (List.mem_append_right _ (List.mem_append_right _ (mem_pinsAt hb e)))
          ⟨z.1, z.2.1⟩
        refine ⟨m', hm, i + 1, _, K10.unpinned.weak (by rw [← hw8, wipe_length]) (fun j v e => ?_), T.keep _ _ _ st7 fun b hb o e => (still b hb o e).1, fun b hb => ?_, w'⟩
        · rw [← hw8] at e
          exact (wipe_some e).1
        · obtain ⟨o, e, _⟩ := T.obj _ _ st7 b hb
          exact (still b hb o e).2
      cases yes with
      | false =>
        simp only [Bool.false_eq_true, if_false] at q85 ⊢
        exact back K85 q85
      | true =>
        simp only [if_true] at q85 ⊢
        refine thnF ((he s3 H3 s3.heap.objs.size cl fp).run _ t85 τ8 J85 _ K85 q85) fun z t9 ⟨yv, J9, K9, r9, acc, hD9, hz9, nx⟩ => ?_
        exact app_ok (X := X.blk s3 H3 scope (compEnvC scope cl s3.heap.objs.size X.env) fp) K9 hD9 hz9 r9 fun t10 K10 => back K10 nx
  exact codeAny_compStart_list loop (T.self X.A 0 _ _ _ st4 loop)
end
open PySem PySem.Spec L2 PyProof.Rows LamX

section
variable {X : Cx} {K : PySem.W.Frag} {cn : Str → Option Addr} {W : WX} {pos : Pos} {a : Expr}
theorem lc_okI {mi : MI} {tg : MG} {t : TG} {is : List Nat} {mt : MT} {me : ME} {vs : List Nat} (ht : TgOk K is t tg) (hv : ∀ i ∈ is, i ∈ vs) (σ : L2.St) (H : Hp) (Q : VK) (h : cE K cn W (wLc mi tg mt me vs) σ H Q) :
    tLc (cI K cn W mi) t (fun τ H R => L2.wipe τ vs = L2.wipe σ vs ∧ cT K cn W0 mt τ H R) (cE K cn W0 me) vs σ H Q := by
  obtain ⟨E, F, ρ, g, Qu, Qx, S, hm, hk, hx⟩ := h
  refine ⟨E, F, ρ, g, _, Qx, S, hm, fun F1 H1 J xs g1 S1 p1 io q1 => fun Dl hD => ?_, hx⟩
  obtain ⟨hz, hq⟩ := q1
  obtain ⟨Gd, Y, wk, gd, yl⟩ := io
  have xno : ∀ (E : Ent) (σ : L2.St) (ρ : Env), XC K cn W0 E σ ρ noX := fun _ _ _ _ _ _ _ _ _ _ _ q => q
  refine lc_it (tt := fun τ H R => L2.wipe τ vs = L2.wipe σ vs ∧ cT K cn W0 mt τ H R) wk (fun i H' => ∃ (F' : Hp) (g' : G) (acc : List D) (va : List V), Stt K E F' H' σ ρ g' ∧ Stp g1 F1 H1 g' F' H' ∧ H' Dl = some (.lst va) ∧ F' Dl = none ∧ g' Dl = none ∧ RpL K F' va acc ∧ acc.length ≤ i ∧
      lcLoop tg mt me (wipeU ρ vs) (xs.drop i) acc g' fun acc g2 => Qu (.own (.lst acc)) g2) ?_ ?_ ?_ ?_
  · exact ⟨F1, g1, [], [], S1.newO hD, Stp.newO hD, upd_same, S1.freeF hD, S1.freeG hD, .nil, Nat.le_refl _, hq⟩
  · rintro i H' _ ⟨F', g', acc, va, S', p', _⟩
    exact gd F' H' p'.ext S'.ext
  · rintro i x H2 H3 hi ⟨F', g', acc, va, S', p', hDl, hFD, hgD, ra, hl, hlp⟩ y
    have hne : ∀ p : Addr, H2 p = none → p ≠ Dl := fun p hp e => by rw [e, hDl] at hp; cases hp
    obtain ⟨d, hd, hy⟩ := yl i F' H2 x H3 hi p'.ext S'.ext y
    have drop_i : xs.drop i = d :: xs.drop (i + 1) := by
      obtain ⟨hi', e'⟩ := List.getElem?_eq_some_iff.mp hd
      rw [List.drop_eq_getElem_cons hi', e']
    rw [drop_i] at hlp
    -- the item's tuple, if it is a new one, is frozen
    obtain ⟨F3, S3, p3, r3, hD3, hF3⟩ : ∃ F3, Stt K E F3 H3 σ ρ g' ∧ Stp g' F' H2 g' F3 H3 ∧ Rp K F3 x d ∧ H3 Dl = some (.lst va) ∧ F3 Dl = none := by
      rcases hy with ⟨e, r⟩ | ⟨T, o, e1, hT, e2, r⟩
      · rw [e]
        exact ⟨F', S', Stp.refl _ _ _, r, hDl, hFD⟩
      · rw [e2]
        exact ⟨upd F' T o, S'.newF hT, Stp.newF S' hT, r, by rw [upd_ne (hne T hT).symm]; exact hDl, by rw [upd_ne (hne T hT).symm]; exact hFD⟩
    refine ht E F3 H3 (L2.wipe σ vs) (wipeU ρ vs) g' x d _ _ (S3.wipe vs) r3 hlp fun σ2 ρ2 S4 keepj hlen q2 => ?_
    have hw : L2.wipe σ2 vs = L2.wipe σ vs := by
      rw [wipe_same hlen fun j hj => keepj j fun z => hj (hv j z)]
      exact wipe_wipe σ vs
    refine ⟨hw, hw, ?_⟩
    refine ⟨E, F3, ρ2, g', _, noX, S4, q2, fun F5 H5 bb g5 S5 p5 q5 => ?_, xno _ _ _⟩
    have hD5 := p5.keep Dl _ hD3 hF3 hgD
    have S5' : Stt K E F5 H5 σ ρ g5 := S3.stp p5 S5.ext S5.cell
    cases bb with
    | false =>
      refine iteF ?_
      exact ⟨F5, g5, acc, va, S5', (p'.trans p3).trans p5, hD5.1, hD5.2.1, hD5.2.2, (ra.mono p3.ext).mono p5.ext, by omega, q5.2 rfl⟩
    | true =>
      refine iteT ?_
      refine ⟨E, F5, ρ2, g5, _, noX, S5, q5.1 rfl, fun F6 H6 v u g6 S6 p6 o6 f6 q6 => ?_, xno _ _ _⟩
      obtain ⟨F7, z, S7, p7, r7, q7, _⟩ := fz_ok S5 S6 p6 o6 f6 q6
      have hD7 := p7.keep Dl _ hD5.1 hD5.2.1 hD5.2.2
      have S7' : Stt K E F7 H6 σ ρ g6 := S5'.stp p7 S7.ext S7.cell
      have pAll := (((p'.trans p3).trans p5).trans p7)
      refine ⟨va, hD7.1, by have := ra.len; omega, F7, g6, acc ++ [z], va ++ [v], ?_, ⟨pAll.ext, fun b o h1 h2 h3 => ?_, fun b hb => pAll.trk b (upd_free hb)⟩, upd_same, hD7.2.1, hD7.2.2, (((ra.mono p3.ext).mono p5.ext).mono p7.ext).app (.cons r7 .nil), by rw [List.length_append, List.length_singleton]; omega, q7⟩
      · refine S7'.poke hD7.2.1 hD7.2.2 (S1.trk Dl hD) (fun y e => by rw [hD7.1] at e; cases e) fun j q hj hs => ?_
        obtain ⟨v0, k1, b0, eb0, r1, _⟩ := S1.slot j _ hj
        obtain ⟨w0, hw0⟩ := r1.there
        rw [k1] at hs
        cases hs
        cases eb0
        rw [hD] at hw0
        cases hw0
      · obtain ⟨k1, k2, k3⟩ := pAll.keep b o h1 h2 h3
        have hb : b ≠ Dl := fun e => by rw [e, hD] at h1; cases h1
        exact ⟨by rw [upd_ne hb]; exact k1, k2, k3⟩
  · rintro H' ⟨F', g', acc, va, S', p', hDl, hFD, hgD, ra, hl, hlp⟩
    rw [List.drop_length] at hlp
    exact hk F' H' (.ref Dl) (.own (.lst acc)) g' S' (p1.trans p') ⟨Dl, rfl, ⟨va, hDl, ra⟩, hFD, hgD, S1.trk Dl hD⟩ (fun a ea => by cases ea; exact p1.trk _ hD) hlp
theorem re_lcI {elt tg iter : Expr} {ifs : List Expr} {scope : Scope} {own : List (Str × Nat)} {mi : MI} {g : MG} {t : TG} {is : List Nat} {mt : MT} {me : ME} (hc : X.calm = true) (hN : X.N.Nodup) (hi : PI X tg iter (cI X.K cn W mi)) (ok : BlkOk X.N X.env.scope scope own) (to : TgOk X.K is t g) (hv : ∀ i ∈ is, i ∈ own.map (·.2))
    (hg : ∀ (s : Shared) (H : Hp) (C : Addr) (cl : List (Str × Addr)) (fp : List Addr), PG (X.blk s H scope (compEnvC scope cl C X.env) fp) tg t)
    (ht : ∀ (σ : L2.St) (s : Shared) (H : Hp) (C : Addr) (cl : List (Str × Addr)) (fp : List Addr), LawAt X (X.blk s H scope (compEnvC scope cl C X.env) fp) σ → PTs (X.blk s H scope (compEnvC scope cl C X.env) fp) ifs (fun τ H R => L2.wipe τ (own.map (·.2)) = L2.wipe σ (own.map (·.2)) ∧ cT X.K cn W0 mt τ H R))
    (he : ∀ (s : Shared) (H : Hp) (C : Addr) (cl : List (Str × Addr)) (fp : List Addr), PE (X.blk s H scope (compEnvC scope cl C X.env) fp) elt (cE X.K cn W0 me)) (hs : ∀ x, foldedSetIterable iter X.env x = pure x := by intro _; rfl) :
    PE X (.ListComp elt [⟨tg, iter, ifs, 0⟩] scope pos) (cE X.K cn W (wLc mi g mt me (own.map (·.2)))) :=
  pe_wk (pe_lcI (tt := fun σ τ H R => L2.wipe τ (own.map (·.2)) = L2.wipe σ (own.map (·.2)) ∧ cT X.K cn W0 mt τ H R) hc hN hi ok hg ht he hs) (lc_okI to hv)
/-- not x(v), such a call a test -/
theorem rts_refN {own : List Nat} {σ0 : L2.St} {m : ME} (h : PE X a (fun τ H Q => L2.wipe τ own = L2.wipe σ0 own ∧ cE X.K cn W m τ H Q)) (he : ∀ whole, isTrue a X.env whole = (do let v ← whole; standAt a.pos; holding [v] (truthy v)) := by intro _; rfl) :
    PTs X [.UnaryOp .Not a pos] (fun τ H R => L2.wipe τ own = L2.wipe σ0 own ∧ cT X.K cn W (wtNot (wT m)) τ H R) :=
  pts_one (pt_wk (pt_not (pt_val h he)) fun τ H R hh => by
    obtain ⟨hw, E, F, ρ, g, Qu, Qx, S, hm, hk, hx⟩ := hh
    refine ⟨hw, t_ok (m := m) (fun _ _ _ h => h) τ H (fun b H => R (!b) H) ?_⟩
    exact ⟨E, F, ρ, g, fun c g1 => Qu (!c) g1, Qx, S, hm, fun F1 H1 b g1 S1 p1 q1 => hk F1 H1 (!b) g1 S1 p1 q1, hx⟩)
end
/-! ### the texts of the lambdas of a def; a def's promise with them -/
def lamOf : Stmt → Option (Arguments × Expr × Scope)
  | .Assign _ (.List (.Lambda p b s _ :: _) _) _ => some (p, b, s)
  | .Expr (.Call _ (.Lambda p b s _ :: _) _ _) _ => some (p, b, s)
  | _ => none
def lamsOf (l : List Stmt) : List (Arguments × Expr × Scope) := l.filterMap lamOf
def lamLF (cells : List (Str × Addr)) (ts : List (Arguments × Expr × Scope)) (i : Nat) : Addr → Addr → HO := match ts[i]? with
  | some t => lamHO cells t.1 t.2.1 t.2.2
  | none => fun _ _ => .lst []
inductive LamL (X : Cx) (cn : Str → Option Addr) (k : Nat) : List (Arguments × Expr × Scope) → List ME → Prop
  | nil : LamL X cn k [] []
  | cons {p : Arguments} {b : Expr} {s : Scope} {ts : List (Arguments × Expr × Scope)} {m : ME} {ms : List ME} (L : LamS X.env.scope s) (hb : ∀ (cl : List (Str × Addr)) (pm cv ctv : Value), bindArgs (PySem.W.kla_fn "<lambda>" lamQ p b s cl pm cv ctv) ⟨[], []⟩ = pure [])
      (h : ∀ (A : Around) (outer : List PySem.Env) (st : Shared) (H : Hp) (E : XK) (f c' : Addr), Room k (A.deeper (lamEnv X s st.heap.objs.size f c')) → PE (lamCxN X A outer st H E s f c') b (cE X.K cn (fun cls d _ H => E cls d H) m)) (r : LamL X cn k ts ms) : LamL X cn k ((p, b, s) :: ts) (m :: ms)
theorem lamAll_of {X : Cx} {cn : Str → Option Addr} {k : Nat} {ts : List (Arguments × Expr × Scope)} {ms : List ME} (h : LamL X cn k ts ms) : LamAll X cn k (lamLF X.env.cells ts) ms := by
  induction h with
  | nil =>
    intro i m hm
    simp at hm
  | @cons p b s ts m0 ms L hb h r ih =>
    intro i m hm
    cases i with
    | zero =>
      cases hm
      exact ⟨p, b, s, rfl, L, hb, h⟩
    | succ i => exact ih i m hm
theorem fn_ok0L {K : PySem.W.Frag} {cn : Str → Option Addr} {P : Program} {w : World} {mg : Str → Option Value} {base : Heap} {x qual : Str} {st : Stmt} {f : Addr} {fd : FuncData} {N ps : List Str} {k : Nat} {sp : SpU} {ms : (Nat → Addr → Addr → HO) → MS} (F : Fun K x qual st f fd) (S : FnScope N ps (defScope st))
    (len : ∀ xs g Qu Qx, sp xs g Qu Qx → xs.length = ps.length) (hsp : ∀ LF xs g Qu Qx, sp xs g Qu Qx → ms LF (startU N.length xs) g (fnPost Qu Qx))
    (hbody : ∀ (cdv : Value) (A : Around) (outer : List PySem.Env) (s : Shared) (H : Hp) (E : XK), fd.code = cdv → Room k (A.deeper (envOfC qual (defScope st) s.heap.objs.size f cdv)) →
      ∃ LF, PSs (cxOf CX0 P w K mg base N qual (defScope st) f cdv A outer s H E).nox (defBody st) (cS K cn W0 (ms LF))) : FnOk P w K mg base CX0 (k + 1) f fd ps (LSp0 K cn sp) := by
  obtain ⟨oc, od, kV, doc, pm, an, cdv, ct, osl, rfl, lk, hcd⟩ := F.ex
  refine fn_of lk hcd S (fun vs H Q E h => ?_) fun A outer s H vs Q E hr h => ?_
  · obtain ⟨F, g, xs, Qu, Qx, _, _, r, q, _⟩ := h
    rw [r.len]
    exact len xs g Qu Qx q
  · obtain ⟨F, g, xs, Qu, Qx, e, c, r, q, hk, hx⟩ := h
    obtain ⟨LF, hB⟩ := hbody cdv A outer s H E rfl hr
    refine ⟨_, hB.nox, ⟨F, H, g⟩, F, startU N.length xs, g, fnPost Qu Qx, stt_start e c r, hsp LF xs g Qu Qx q, ⟨?_, fun _ _ _ _ _ _ q => q.elim, fun _ _ _ _ _ _ q => q.elim, ?_, ?_⟩⟩
    · rintro F' H' σ' ρ' g' S' ⟨g1, hg, q'⟩
      exact hk F' H' .non (.d .non) g1 S'.ext (hg.cells S'.cell) (S'.out hg) Rp.non trivial q'
    · rintro F' H' σ' ρ' g' v u S' o nb ⟨g1, hg, q'⟩
      exact hk F' H' v u g1 S'.ext (hg.cells S'.cell) (S'.out hg) (hg.uok o) nb q'
    · rintro F' H' σ' ρ' g' cls d y S' o ⟨g1, hg, q'⟩
      exact hx F' H' cls d y g1 S'.ext (hg.cells S'.cell) (S'.out hg) o q'
open PySem PySem.Spec L2 PyProof.Rows

/-! ### exceptions whose context is None, or a further exception whose context is None -/
/-- the context, B a part of the heap in which it stands, H what is tracked -/
def CtxM (B : Heap) (H : Hp) (o : Obj) : Prop := ∀ vs : Array Value, o.data = .fields vs → vs[2]? = some .none ∨
  ∃ (c : Addr) (oc : Obj) (vc : Array Value), vs[2]? = some (.ref c) ∧ B.get? c = some oc ∧ oc.data = .fields vc ∧ vc[2]? = some .none ∧ H c = none
def Zm (B : Heap) (H : Hp) (cls : Value) (d : Option Addr) : Obj → Prop := fun o => o.cls = cls ∧ o.dict = d ∧ CtxM B H o
theorem ctxM_steady {B : Heap} {H : Hp} : PXN.Steady1 (CtxM B H) := fun o v h vs e => by
  obtain ⟨oc, od, dt, sl⟩ := o
  cases dt with
  | fields ws =>
    cases (show (Data.fields (ws.setIfInBounds 1 v) : Data) = .fields vs from e)
    have q : (ws.setIfInBounds 1 v)[2]? = ws[2]? := by
      first
      | exact Array.getElem?_setIfInBounds_ne (by decide)
      | simp [Array.getElem?_setIfInBounds]
    rw [q]
    exact h ws rfl
  | _ => cases e
theorem Zm.steady {B : Heap} {H : Hp} {cls : Value} {d : Option Addr} : PXN.Steady1 (Zm B H cls d) := fun o v h => ⟨PXN.steady_cls o v h.1, PXN.steady_dict o v h.2.1, ctxM_steady o v h.2.2⟩
theorem Zm.of_n {B : Heap} {H : Hp} {cls : Value} {d : Option Addr} {o : Obj} (h : L2N.Zn cls d o) : Zm B H cls d o := ⟨h.1, h.2.1, fun vs e => .inl (h.2.2 vs e)⟩
/-- such an exception in the air of X -/
def XEM (X : Cx) (W : WX) (u : Value) (s' : Shared) : Prop :=
  ∃ (a : Addr) (B : Heap) (sI : Shared) (pins : List (Addr × Obj)) (σ : L2.St) (H : Hp) (cls : Value) (d : Option Addr), u = .ref a ∧ Inv X pins σ H sI ∧ (∀ b o, sI.heap.get? b = some o → b ∉ frs X.stack → B.get? b = some o) ∧
    sI.heap.UpToSlots s'.heap ∧ Sky B X.stack a (Zm B H cls d) X.env.locals s'.heap ∧ H a = none ∧ s'.os = sI.os ∧ AllBare s'.gens ∧ W cls d σ H
def TakesM (X : Cx) (W : WX) : Prop := ∀ u s', XEM X W u s' → X.xe u s'
/-- behind a call that let one out -/
def CXM (P : Program) (w : World) (outer : List PySem.Env) (H : Hp) (s : Shared) (E : XK) (u : Value) (s' : Shared) : Prop :=
  ∃ (a : Addr) (B : Heap) (H' : Hp) (cls : Value) (d : Option Addr), u = .ref a ∧ HandSPX.FlyingZ B outer a (Zm B H' cls d) s'.heap ∧ HOk P w H' B ∧ UB (frs outer) H H' s.heap B s'.heap ∧ H' a = none ∧ s'.os = s.os ∧ AllBare s'.gens ∧ E cls d H'
section
variable {X : Cx} {pins : List (Addr × Obj)} {σ : L2.St} {H : Hp} {sI s s' : Shared} {W : WX} {E : XK}
theorem TakesM.n (t : TakesM X W) : L2N.Takes X W := fun u s' x => by
  obtain ⟨a, B, sI, pins, σ, H, cls, d, rfl, I, nb, up, sky, na, os, ag, w⟩ := x
  refine t _ _ ⟨a, B, sI, pins, σ, H, cls, d, rfl, I, nb, up, ?_, na, os, ag, w⟩
  rcases sky with ⟨k1, k2, k3, oe, vs, e1, z, e2, e3⟩ | fl | hd
  · exact .inl ⟨k1, k2, k3, oe, vs, e1, Zm.of_n z, e2, e3⟩
  · exact .inr (.inl (L2H.flyingZ_imp (fun _ z => Zm.of_n z) fl))
  · exact .inr (.inr ⟨hd.1, hd.2.1, hd.2.2.1, L2H.tracedZ_imp (fun _ z => Zm.of_n z) hd.2.2.2⟩)
/-- what a call let out is in the caller's air -/
theorem XEM.of_call (I : Inv X pins σ H s) (hW : ∀ cls d H', E cls d H' → W cls d σ H') {u : Value} (c : CXM X.prog X.w X.stack H s E u s') : XEM X W u s' := by
  obtain ⟨a, B, H', cls, d, rfl, fl, hok, ub, na, os, ag, he⟩ := c
  have stay : B.StaysIn s'.heap := fl.1
  obtain ⟨N, inN, outN⟩ := restrict s'.heap fun b => decide (b ∈ frs X.stack) || (B.get? b).isSome
  have ofB : ∀ b o, B.get? b = some o → N.get? b = some o := fun b o q => by
    rw [inN b (by simp [q])]
    exact stay b o q
  have ofF : ∀ b, b ∈ frs X.stack → N.get? b = s'.heap.get? b := fun b hb => inN b (by simp [hb])
  have back : ∀ b o, N.get? b = some o → s'.heap.get? b = some o ∧ (b ∈ frs X.stack ∨ ∃ o', B.get? b = some o') := fun b o q => by
    by_cases z : (decide (b ∈ frs X.stack) || (B.get? b).isSome) = true
    · rw [inN b z] at q
      refine ⟨q, ?_⟩
      rcases Bool.or_eq_true_iff.mp z with y | y
      · exact .inl (of_decide_eq_true y)
      · exact .inr (Option.isSome_iff_exists.mp y)
    · rw [outN b (by simpa using z)] at q
      cases q
  refine ⟨a, B, { s with heap := N, gens := s'.gens, drawn := s'.drawn, toks := s'.toks }, pins, σ, H', cls, d, rfl, ?_, ?_, Heap.UpToSlots.of_keeps fun b o q => (back b o q).1, .inr (.inl fl), na, os, ag, hW _ _ _ he⟩
  · refine I.call (ch := []) ⟨fun b o q n hb _ => ofB b o (ub.keep b o q n hb), fun b o q n hb _ => ?_, fun b o q n _ => ub.free b o q n, fun b o q _ => ?_, ub.tups, ub.frzs, ub.tbls⟩ (hok.kept ofB) ag (fun _ z => nomatch z)
    · obtain ⟨sl, z⟩ := ub.slot b o q hb
      exact ⟨sl, (ofF b hb).trans z⟩
    · by_cases hb : b ∈ frs X.stack
      · obtain ⟨sl, z⟩ := ub.slot b o q hb
        exact ⟨_, (ofF b hb).trans z⟩
      · obtain ⟨o', z⟩ := ub.there b o q hb
        exact ⟨o', ofB b o' z⟩
  · intro b o q hb
    obtain ⟨q1, q2 | ⟨o', q2⟩⟩ := back b o q
    · exact absurd q2 hb
    · have z := stay b o' q2
      rw [q1] at z
      cases z
      exact q2
/-- a new one -/
theorem XEM.new {a : Addr} {oe : Obj} {vs : Array Value} {cls : Value} {d : Option Addr} (I : Inv X pins σ H sI) (k : ∀ b o, sI.heap.get? b = some o → s'.heap.get? b = some o) (hne : sI.heap.get? a = none) (he : s'.heap.get? a = some oe)
    (hz : Zm (PySem.W.hideAll sI.heap (frs X.stack)) H cls d oe) (hd : oe.data = .fields vs) (h1 : vs[1]? = some .none) (na : H a = none) (os : s'.os = sI.os) (ag : AllBare s'.gens) (w : W cls d σ H) : XEM X W (.ref a) s' := by
  have gone : (PySem.W.hideAll sI.heap (frs X.stack)).get? a = none := by
    cases q : (PySem.W.hideAll sI.heap (frs X.stack)).get? a with
    | none => rfl
    | some o =>
      have z := PySem.W.of_hideAll _ q
      rw [hne] at z
      cases z
  refine ⟨a, _, sI, pins, σ, H, cls, d, rfl, I, fun b o e hb => PySem.W.hideAll_get _ e hb, Heap.UpToSlots.of_keeps k, .inl ⟨fun b o e => k b o (PySem.W.of_hideAll _ e), gone, ?_, oe, vs, he, hz, hd, h1⟩, na, os, ag, w⟩
  exact Heap.FunFrames.of_keeps (fun b o e _ => ⟨o, k b o e, rfl⟩) (funFrames_none I.stack fun b hb => PySem.W.hideAll_none _ hb)
/-- it leaves the def -/
theorem XEM.leave (hs : X.stack = X.env :: X.outer) (hf : X.env.frame = some X.env.locals) (hex : X.ex = []) {E₁ : Value → Shared → Prop} (hW : ∀ cls d σ H, W cls d σ H → E cls d H) {u : Value} (x : XEM X W u s') :
    wpAny (model X.prog X.w) X.A (leaving X.env u) (fun _ t => CXM X.prog X.w X.outer X.H_0 X.s_0 E u t) E₁ s' := by
  obtain ⟨a, B, sI, pins, σ, H, cls, d, rfl, I, nb, up, sky, na, os, ag, w⟩ := x
  have hfr : X.A.frames = some (X.env :: X.outer) := I.ok.frames.trans (by rw [hs])
  have out : ∀ b o, X.s_0.heap.get? b = some o → b ∉ X.fs → b ∉ frs X.stack := fun b o q n hm => by
    rcases List.mem_cons.mp (I.stkSub b hm) with z | z
    · have q1 := Heap.lt_size q
      have q2 := I.ok.above
      rw [z] at q1
      exact absurd (Nat.lt_of_lt_of_le q1 q2) (Nat.lt_irrefl _)
    · exact n z
  have noex : ∀ b, b ∉ X.ex := fun b hb => by
    rw [hex] at hb
    cases hb
  have ground := I.inGround nb
  have done : ∀ h', HandSPX.FlyingZ B X.outer a (Zm B H cls d) h' → s'.heap.UpToSlots h' → CXM X.prog X.w X.outer X.H_0 X.s_0 E (.ref a) { s' with heap := h' } := fun h' fl up' => by
    refine ⟨a, B, H, cls, d, rfl, fl, ground, ⟨fun b o q n hb => nb b o (I.base.keep b o q n hb (noex b)) (out b o q hb), fun b o q hb => ?_, fun b o q n => I.base.free b o q n (noex b), fun b o q hb => ?_, I.base.tups, I.base.frzs, I.base.tbls⟩, na, os.trans I.os, ag, hW _ _ _ _ w⟩
    · obtain ⟨_, o2, q2, nf⟩ := I.ok.funs.mem hb
      rw [q] at q2
      cases q2
      obtain ⟨s1, z1⟩ := I.base.slot b o q (I.ok.frf b hb) hb (noex b)
      obtain ⟨s2, z2⟩ := up b _ z1 nf
      obtain ⟨s3, z3⟩ := up' b _ z2 nf
      exact ⟨s3, z3⟩
    · obtain ⟨o2, z⟩ := I.base.there b o q (noex b)
      exact ⟨o2, nb b o2 z (out b o q hb)⟩
  rw [hs] at sky
  rcases sky with ⟨k1, k2, k3, oe, vs, e1, z, e2, e3⟩ | fl | hd
  · exact PXN.leaving_firstZ Zm.steady hfr k3 hf e1 k1 k2 e2 e3 z done
  · exact PXN.leaves_onZ Zm.steady hfr hf fl done
  · exact HandSPX.leaves_heldZ hf hd done
theorem takes_ofM (hs : X.stack = X.env :: X.outer) (hf : X.env.frame = some X.env.locals) (hex : X.ex = []) {E₁ : Value → Shared → Prop}
    (hx : X.xe = fun e s' => wpAny (model X.prog X.w) X.A (leaving X.env e) (fun _ t => CXM X.prog X.w X.outer X.H_0 X.s_0 E e t) E₁ s') : TakesM X (fun cls d _ H => E cls d H) := fun u s' x => by
  rw [hx]
  exact XEM.leave (W := fun cls d _ H => E cls d H) (E := E) hs hf hex (fun _ _ _ _ h => h) x
end
open PySem PySem.Spec L2 PyProof.Rows L2H HotX

section
variable {X : Cx} {W : WX} {e : Expr} {t : L2.St → Hp → XK → Prop}
theorem takesM {P : Program} {w : World} {K : PySem.W.Frag} {mg : Str → Option Value} {base : Heap} {N : List Str} {qual : Str} {sc : Scope} {f : Addr} {cdv : Value} {A : Around} {outer : List PySem.Env} {s : Shared} {H : Hp} {E : XK} :
    TakesM (cxOf (CXM P w) P w K mg base N qual sc f cdv A outer s H E) (WD E) := takes_ofM rfl rfl rfl rfl
theorem hx_M (tk : TakesM X W) : ∀ σ, PassesAt (CXM X.prog X.w) X σ (WE W σ) := fun σ pins H s e s' I c => tk _ _ (XEM.of_call I (fun _ _ _ h => h) c)
/-- raise X(..) from None in an except suite: its context is the handled exception -/
theorem ps_raiseM {j : Nat} {cpos pos : Pos} (hc : HotC X) (tk : TakesM X W) (he : PMk5 X e t) :
    PS X (.Raise (some e) (some (.Constant .none j cpos)) pos) (fun _ σ H => t σ H fun cls d H' => W cls d σ H') := by
  constructor
  intro pins s σ H D I h
  obtain ⟨p, ⟨hh, v1, e1, c1⟩, hp⟩ := hc
  show wpAny _ _ (do standAt pos; raiseStmt X.env (some (do let v ← eval e X.env; standAt pos; pure v)) (some (do let v ← eval (.Constant .none j cpos) X.env; standAt pos; pure v))) _ _ _
  refine wpAny_bind (wpAny_standAt (raise_made_hotN (x1 := p.1) (fun s2 Q2 q2 => wpAny_bind (Constant_none (wpAny_bind (wpAny_standAt (wpAny_pure q2))))) (wpAny_bind (wpAny_mono (he pins s σ H _ I h) (fun u s1 hu => wpAny_bind (wpAny_standAt (wpAny_pure ?_))) fun _ _ x => x))))
  obtain ⟨⟨a, oe, vs, sI, H', cls, d, rfl, J, k, hne, ha, hz, hd, h1, na, os, ag, r, q⟩, h5⟩ := hu
  have six : 4 < vs.size := h5 a oe vs rfl ha hd
  have away : ∀ b u, sI.heap.get? b = some u → a ≠ b := fun b u z y => by
    rw [← y, hne] at z
    cases z
  have k4 : ∀ b u, sI.heap.get? b = some u → (noneFrom s1.heap a).get? b = some u := fun b u z => (noneFrom_other (away b u z)).trans (k b u z)
  have k5 : ∀ b u, sI.heap.get? b = some u → ((noneFrom s1.heap a).update a (Obj.mapFields (·.setIfInBounds 2 (.ref p.1)))).get? b = some u := fun b u z => (Heap.get?_update_other _ _ (away b u z)).trans (k4 b u z)
  obtain ⟨r1, _⟩ := r (model X.prog X.w) s1.heap (J.kIn.keeps k)
  obtain ⟨_, r2⟩ := r (model X.prog X.w) (noneFrom s1.heap a) (J.kIn.keeps k4)
  obtain ⟨P1, P2, P3, P4, _⟩ := J.pin p (List.mem_append_left _ hp)
  obtain ⟨ha4, hd4⟩ := noneFrom_at ha hd
  have h12 : (((vs.setIfInBounds 3 Value.none).setIfInBounds 4 (Value.bool true)).setIfInBounds 2 (Value.ref p.1))[1]? = some Value.none := set_other (by decide) (set_other (by decide) (set_other (by decide) h1))
  have off : p.1 ∉ frs X.stack := fun hm => (List.mem_cons.mp (J.stkSub _ hm)).elim P3 P4
  have hctx : CtxM (PySem.W.hideAll sI.heap (frs X.stack)) H' (((oe.mapFields (·.setIfInBounds 3 .none)).mapFields (·.setIfInBounds 4 (.bool true))).mapFields (·.setIfInBounds 2 (.ref p.1))) := fun ws ew => by
    have ew' := (Obj.data_mapFields hd4 (·.setIfInBounds 2 (Value.ref p.1))).symm.trans ew
    cases ew'
    refine .inr ⟨p.1, p.2, v1, ?_, PySem.W.hideAll_get _ P1 off, e1, c1, P2⟩
    have sz : 2 < ((vs.setIfInBounds 3 Value.none).setIfInBounds 4 (Value.bool true)).size := by rw [set_size, set_size]; omega
    simp [Array.getElem?_setIfInBounds]
    omega
  refine ⟨a, oe, vs, cls, rfl, ha, hz.1, hd, h1, six, fun z => away _ _ P1 z.symm, ⟨hh, p.2, v1, k _ _ P1, e1, c1⟩, r1, r2, tk _ _ (XEM.new J k5 hne (Heap.get?_update_self _ ha4 (Obj.isFreed_of_fields (Obj.data_mapFields hd4 _)))
    ⟨by rw [Obj.cls_mapFields, Obj.cls_mapFields, Obj.cls_mapFields]; exact hz.1, by rw [HandSPX.dict_mapFields, HandSPX.dict_mapFields, HandSPX.dict_mapFields]; exact hz.2.1, hctx⟩ (Obj.data_mapFields hd4 _) h12 na os ag q)⟩
end
section
variable {X : Cx} {K : PySem.W.Frag} {cn : Str → Option Addr} {W : WX} {e : Expr} {es : List Expr}
theorem rs_raiseHM {x : Str} {fl : List Str} {mx : MA} {k j : Nat} {p p2 p3 cp : Pos} (T : ExcF X.prog X.w X.K X.mg X.base cn x fl) (hc : L2H.HotC X) (tk : TakesM X W) (hr : L2H.RoomH k X.A) (hk : 2 ≤ k) (hg : Gl X x) (ha : PA X (e :: es) (cA X.K cn W mx)) (hz : 1 ≤ fl.length ∧ fl.length ≤ 1000 := by decide)
    (hdb : (x == ("__debug__" : Str)) = false := by decide) (he : starEach (e :: es) X.env = (false, eval e X.env) :: starEach es X.env := by rfl) (hpl : (backTo p2 (starEach es X.env)).any (·.1) = false := by rfl) :
    PS X (.Raise (some (.Call (.Name x p) (e :: es) [] p2)) (some (.Constant .none j cp)) p3) (cS X.K cn W (wRaiseA x fl mx)) := by
  obtain ⟨C, fI, fd, ps, hC, gC, TO, iC, tI, hn, _, F2, hb⟩ := T.ex
  exact ps_wk (ps_raiseM hc tk (L2H.pmk5_oexH (k := 1) TO iC tI F2 (hr.mono hk) hc hb (fun _ _ _ _ _ _ _ h => h.elim) hg gC ha hdb he hpl)) fun D σ H h => mkF_ok hC TO hn h hz
theorem takes_suite {a : Addr} {oe : Obj} {pn : List (Addr × Obj)} (ok : X.Ok) (hpn : X.pn = []) (tk : TakesM X W) : TakesM (L2H.suiteX X a ((a, oe) :: pn)) W := fun u s' x => by
  obtain ⟨b, B, sI, pins, σ, H, cls, d, rfl, I, nb, up, sky, na, os, ag, w⟩ := x
  have e : (a, oe) :: pn = (a, oe) :: (X.pn ++ pn) := by rw [hpn]; rfl
  rw [e] at I
  exact tk _ _ ⟨b, B, sI, pn, σ, H, cls, d, rfl, L2H.unsuiteX I ok, nb, up, sky, na, os, ag, w⟩
theorem cat_all1 {x : Str} : ∀ nm b, ([(x, true)] : List (Str × Bool)).lookup nm = some b → b = true := fun nm b h => by
  rw [List.lookup_cons] at h
  cases q : nm == x with
  | true => rw [q] at h; cases h; rfl
  | false => rw [q] at h; cases h
/-- try .. except C: a suite that raises from None -/
theorem rs_tryM {body su : List Stmt} {b0 : Stmt} {x : Str} {np q pos : Pos} {h : Hd} {mb : MS} {c : Value} (hst : X.stack = X.env :: X.outer) (hfr : X.env.frame = some X.env.locals) (hpn : X.pn = []) (hc : Names X x c) (hpa : ∀ hd : Option Value, PassesOwnAt (model X.prog X.w) (X.A.mark hd) X.A X.env X.xe) (tk : TakesM X W)
    (hs : ∀ nm b, h.cat.lookup nm = some b → ∃ C, cn nm = some C ∧ PySem.W.exmOne X.K (.ref C) c = some b) (hall : ∀ nm b, h.cat.lookup nm = some b → b = true)
    (hb : ∀ (W' : WX) (pn : List (Addr × Obj)) (xe : Value → Shared → Prop), L2N.Takes (X.tr pn xe) W' → PassesOwn (model X.prog X.w) X.A X.env xe → PSs (X.tr pn xe) body (cS X.K cn W' mb))
    (ht : ∀ (a : Addr) (oe : Obj) (cls : Value) (d : Option Addr) (pn : List (Addr × Obj)) (dd : Addr) (e : Exn), ExN cn cls d dd e → TakesM (L2H.suiteX X a ((a, oe) :: pn)) W → L2H.HotC (L2H.suiteX X a ((a, oe) :: pn)) → PSs (L2H.suiteX X a ((a, oe) :: pn)) (b0 :: su) (cS X.K cn W (h.su a dd e))) :
    PS X (.Try body [.ExceptHandler (some (.Name x np)) none (b0 :: su) q] [] [] pos) (cS X.K cn W (wTryX mb h)) := by
  constructor
  intro pins s σ H D I hh
  have ok := I.ok
  have none4 : L2.Takes X (fun _ _ _ _ => False) := fun _ _ x => by
    obtain ⟨_, _, _, _, _, _, _, _, _, _, _, _, _, _, _, _, z⟩ := x
    exact z.elim
  refine (L2H.ps_try_onlyX hst hfr hc hpa none4 (tb := fun W' => cS X.K cn W' mb) (ts := fun a cls d D σ H => ∃ p : Addr × Exn, ExN cn cls d p.1 p.2 ∧ cS X.K cn W (h.su a p.1 p.2) D σ H) (fun W' pn xe t _ po => hb W' pn xe t po)
    fun a oe cls d pn z f _ ho => pss_ex fun p hp => ht a oe cls d pn p.1 p.2 hp (takes_suite ok hpn tk) ho).run pins s σ H D I ?_
  obtain ⟨E, F, ρ, g, P, S, hm, C⟩ := hh
  refine ⟨E, F, ρ, g, _, S, hm, ⟨C.nx, C.bk, C.ct, C.rt, fun F' H' σ' ρ' g' cls d e S' ok' hq => ?_⟩⟩
  obtain ⟨b, hl, hy, _⟩ := hq
  have eb := hall _ _ hl
  subst eb
  obtain ⟨C1, hc1, he⟩ := hs _ _ hl
  have hcl := (ok' C1 hc1).1
  refine ⟨true, by rw [hcl]; exact he, fun _ a ha => ?_, fun z => nomatch z⟩
  obtain ⟨dd, hx, _⟩ := exn_rp (a := a) hc1 ok'
  exact ⟨(dd, e), hx, E, F', ρ', g', P, S', hy rfl a dd, C⟩
end
open PySem PySem.Spec L2 PyProof.Rows L2H HotX

/-! ### an exception is handled whose context is None, or has None for its own -/
def HotAt2 (A : Around) (x1 : Addr) (h : Heap) : Prop := A.handled = some (.ref x1) ∧ ∃ (o : Obj) (vs : Array Value), h.get? x1 = some o ∧ o.data = .fields vs ∧
  (vs[2]? = some .none ∨ ∃ (c : Addr) (oc : Obj) (vc : Array Value), vs[2]? = some (.ref c) ∧ h.get? c = some oc ∧ oc.data = .fields vc ∧ vc[2]? = some .none)
section
variable {prog : Program} {w : World} {A : Around} {E : Value → Shared → Prop} {s : Shared}
theorem ref_beq {a b : Addr} (h : a ≠ b) : ¬ ((Value.ref a == Value.ref b) = true) := fun z => h (Value.ref.inj (eq_of_beq z))
theorem unchained2 {x1 a c : Addr} {o1 oc : Obj} {v1 vc : Array Value} {Q : Value → Shared → Prop} (h1 : s.heap.get? x1 = some o1) (d1 : o1.data = .fields v1) (c1 : v1[2]? = some (.ref c)) (h2 : s.heap.get? c = some oc) (d2 : oc.data = .fields vc) (c2 : vc[2]? = some .none) (hne : c ≠ a) (q : Q .none s) :
    wpAny (model prog w) A (holding [Value.ref a] (runValue (.builtin "proto.unchain" ⟨[.ref a, .ref x1, .ref x1, .bool false], []⟩))) Q E s := by
  refine wpAny_holding (wpAny_runValue (codeAny_builtin HotX.entry_unchain ?_))
  show wpAny _ _ (field (.ref x1) 2 >>= _) _ _ s
  refine wpAny_bind (wpAny_field h1 d1 c1 ?_)
  show wpAny _ _ (if (Value.ref c == Value.none) = true then _ else _) _ _ s
  rw [if_neg (show ¬ ((Value.ref c == Value.none) = true) from Bool.false_ne_true)]
  show wpAny _ _ (if (Value.ref c == Value.ref a) = true then _ else _) _ _ s
  rw [if_neg (ref_beq hne)]
  by_cases z : c = x1
  · subst z
    show wpAny _ _ (if (Value.ref c == Value.ref c) = true then _ else _) _ _ s
    rw [h1] at h2
    cases h2
    rw [d1] at d2
    cases d2
    rw [c1] at c2
    cases c2
  · show wpAny _ _ (if (Value.ref c == Value.ref x1) = true then _ else _) _ _ s
    rw [if_neg (ref_beq z)]
    refine wpAny_bind (wpAny_pure (wpAny_pure ⟨Code.quiet_builtin _ (by decide +kernel), codeAny_builtin HotX.entry_unchain ?_⟩))
    show wpAny _ _ (field (.ref c) 2 >>= _) _ _ s
    refine wpAny_bind (wpAny_field h2 d2 c2 ?_)
    rw [if_pos (show (Value.none == Value.none) = true from rfl)]
    first
    | exact wpAny_bind (wpAny_pure (wpAny_pure q))
    | exact wpAny_pure q
theorem raiseNew_hot2 {α : Type} {a x1 : Addr} {oe : Obj} {vs : Array Value} {Q : α → Shared → Prop} (hot : HotAt2 A x1 s.heap) (hne : x1 ≠ a) (hnc : ∀ (o : Obj) (v : Array Value) (c : Addr), s.heap.get? x1 = some o → o.data = .fields v → v[2]? = some (.ref c) → c ≠ a) (ha : s.heap.get? a = some oe) (da : oe.data = .fields vs) (hi : 2 < vs.size)
    (hE : E (.ref a) { s with heap := s.heap.update a (Obj.mapFields (·.setIfInBounds 2 (.ref x1))) }) : wpAny (model prog w) A (raiseNew (.ref a) : Sem α) Q E s := by
  obtain ⟨hh, o1, v1, h1, d1, hc⟩ := hot
  rcases hc with c1 | ⟨c, oc, vc, c1, h2, d2, c2⟩
  · exact raiseNew_hot ⟨hh, o1, v1, h1, d1, c1⟩ hne ha da hi hE
  · have nc := hnc o1 v1 c h1 d1 c1
    unfold raiseNew
    refine wpAny_bind (wpAny_handled ?_)
    rw [hh]
    have hb : (Value.ref x1 != Value.ref a) = true := ref_bne hne
    first
    | (show wpAny _ _ (if (Value.ref x1 != Value.ref a) = true then _ else _) _ _ _
       rw [if_pos hb]
       first
       | exact wpAny_bind (unchained2 h1 d1 c1 h2 d2 c2 nc (wpAny_bind (chained ha da hi (wpAny_throw hE))))
       | exact wpAny_bind (wpAny_bind (unchained2 h1 d1 c1 h2 d2 c2 nc (chained ha da hi (wpAny_throw hE)))))
    | (refine wpAny_bind ?_
       show wpAny _ _ (if (Value.ref x1 != Value.ref a) = true then _ else _) _ _ _
       rw [if_pos hb]
       exact wpAny_bind (unchained2 h1 d1 c1 h2 d2 c2 nc (chained ha da hi (wpAny_throw hE))))
end
/-- the handled exception p and the context that it may have are among those that stand fast -/
structure Hot2 (A : Around) (p : Addr × Obj) (ps : List (Addr × Obj)) : Prop where
  hd : A.handled = some (.ref p.1)
  mem : p ∈ ps
  ctx : ∃ vs : Array Value, p.2.data = .fields vs ∧ (vs[2]? = some .none ∨ ∃ q ∈ ps, ∃ vq : Array Value, vs[2]? = some (.ref q.1) ∧ q.2.data = .fields vq ∧ vq[2]? = some .none)
theorem Hot2.of_1 {A : Around} {p : Addr × Obj} {ps : List (Addr × Obj)} (h : Hot1 A p) (hp : p ∈ ps) : Hot2 A p ps := ⟨h.1, hp, by
  obtain ⟨vs, e, c⟩ := h.2
  exact ⟨vs, e, .inl c⟩⟩
theorem Hot2.at {X : Cx} {p : Addr × Obj} (hot : Hot2 X.A p X.pn) {pins : List (Addr × Obj)} {σ : L2.St} {H : Hp} {s : Shared} (I : Inv X pins σ H s) : HotAt2 X.A p.1 s.heap := by
  obtain ⟨vs, e, c⟩ := hot.ctx
  refine ⟨hot.hd, p.2, vs, (I.pin p (List.mem_append_left _ hot.mem)).1, e, ?_⟩
  rcases c with c | ⟨q, hq, vq, c1, c2, c3⟩
  · exact .inl c
  · exact .inr ⟨q.1, q.2, vq, c1, (I.pin q (List.mem_append_left _ hq)).1, c2, c3⟩
/-- none of the pinned stands at b: b is neither the handled exception nor its context -/
theorem Hot2.apart {X : Cx} {p : Addr × Obj} (hot : Hot2 X.A p X.pn) {pins : List (Addr × Obj)} {σ : L2.St} {H : Hp} {s : Shared} (I : Inv X pins σ H s) {b : Addr} (nb : ∀ q ∈ X.pn, q.1 ≠ b) : p.1 ≠ b ∧ ∀ (o : Obj) (v : Array Value) (c : Addr), s.heap.get? p.1 = some o → o.data = .fields v → v[2]? = some (.ref c) → c ≠ b := by
  refine ⟨nb p hot.mem, fun o v c h1 h2 h3 => ?_⟩
  have z := (I.pin p (List.mem_append_left _ hot.mem)).1
  rw [h1] at z
  cases z
  obtain ⟨vs, e, k⟩ := hot.ctx
  rw [h2] at e
  cases e
  rcases k with k | ⟨q, hq, vq, k1, _, _⟩
  · rw [h3] at k
    cases k
  · rw [h3] at k1
    cases k1
    exact nb q hq
open PySem PySem.Spec L2 PyProof.Rows L2H HotX

/-! ### lists walked while such an exception is handled -/
def HotC2 (X : Cx) : Prop := ∃ p : Addr × Obj, Hot2 X.A p X.pn
section
variable {prog : Program} {w : World} {A : Around} {E : Value → Shared → Prop} {s : Shared}
theorem end_hot2 {it l x1 : Addr} {i : Nat} {items : Array Value} {Q : Option Value → Shared → Prop} (hot : HotAt2 A x1 s.heap) (hit : s.heap.IsListIter it l i) (hl : s.heap.IsList l items) (hx : items[i]? = none) (hne : x1 ≠ it) (hnc : ∀ (o : Obj) (v : Array Value) (c : Addr), s.heap.get? x1 = some o → o.data = .fields v → v[2]? = some (.ref c) → c ≠ it)
    (hQ : ∀ h', (∀ b o, b ≠ it → s.heap.get? b = some o → h'.get? b = some o) → Q none { s with heap := h' }) : wpAny (model prog w) A (pyNext (.ref it)) Q E s := by
  obtain ⟨hh, o1, v1, g1, e1, c1⟩ := hot
  have kc : ∀ c : Addr, v1[2]? = some (.ref c) → c ≠ it := fun c hc => hnc o1 v1 c g1 e1 hc
  obtain ⟨ol, hol, _, nl, hdl⟩ := hl
  obtain ⟨o, ho, hc, hd⟩ := id hit
  unfold pyNext
  have hT := hit.typeIs
  refine wpAny_bind (wpAny_attempt (wpAny_callSpecial?_slot (name := Str.ofString "__next__") hT slot_listiter_next (wpAny_call_entry slot_listiter_next hT entry_listiter_next ?_ (args_listiter_next _))))
  show wpAny _ _ (field (.ref it) 0 >>= _) _ _ s
  refine wpAny_bind (wpAny_field ho hd (x := .ref l) rfl ?_)
  show wpAny _ _ (if (Value.ref l == Value.none) = true then _ else _) _ _ s
  have nn : ¬ ((Value.ref l == Value.none) = true) := Bool.false_ne_true
  rw [if_neg nn]
  show wpAny _ _ (field (.ref it) 1 >>= _) _ _ s
  refine wpAny_bind (wpAny_field ho hd (x := .int i 0) rfl (show wpAny _ _ (seqItems? (.ref l) >>= _) _ _ s from wpAny_bind (wpAny_seqItems hol hdl ?_)))
  simp only [Int.toNat_natCast, hx]
  have sb := Heap.SameBut.update (h := s.heap) (a := it) (f := Obj.mapFields (·.setIfInBounds 0 .none))
  refine wpAny_bind (wpAny_rule (wpAny_bind (wpAny_setField ho hd (by simp) (show wpAny _ _ (newExc (.type "StopIteration") [] >>= _) _ _ _ from wpAny_bind ?_))))
  generalize hg : s.heap.update it (Obj.mapFields (·.setIfInBounds 0 .none)) = h2
  have k2 : ∀ b o, b ≠ it → s.heap.get? b = some o → h2.get? b = some o := fun b o hb e => by rw [← hg, Heap.get?_update_other _ _ (Ne.symm hb)]; exact e
  simp only [newExc, newTuple]
  refine wpAny_bind (wpAny_newObj_type ?_ (by size_fits))
  refine wpAny_bind (m := firstArgMember _ _) (wpAny_of_eq (a := Value.none) (by first | rfl | (simp only [firstArgMember]; rfl)) (wpAny_newObj_type ?_ (by size_fits)))
  have g2 := k2 _ _ hne g1
  have c2 : v1[2]? = some .none ∨ ∃ (c : Addr) (oc : Obj) (vc : Array Value), v1[2]? = some (.ref c) ∧ h2.get? c = some oc ∧ oc.data = .fields vc ∧ vc[2]? = some .none := by
    rcases c1 with z | ⟨c, oc, vc, z1, z2, z3, z4⟩
    · exact .inl z
    · exact .inr ⟨c, oc, vc, z1, k2 _ _ (kc c z1) z2, z3, z4⟩
  refine raiseNew_hot2 ⟨hh, o1, v1, Heap.get?_push_of_some _ (Heap.get?_push_of_some _ g2), e1, c2.imp id fun ⟨c, oc, vc, z1, z2, z3, z4⟩ => ⟨c, oc, vc, z1, Heap.get?_push_of_some _ (Heap.get?_push_of_some _ z2), z3, z4⟩⟩ (Nat.ne_of_lt (Heap.lt_size (Heap.get?_push_of_some _ g2))) (fun o v c z1 z2 z3 => ?_) (Heap.get?_push_size _ rfl) rfl (by first | (simp; done) | (simp; omega) | (simp only [Array.size_append]; simp; omega)) ?_
  · rw [Heap.get?_push_of_some _ (Heap.get?_push_of_some _ g2)] at z1
    cases z1
    rw [e1] at z2
    cases z2
    rcases c2 with y | ⟨c', oc, vc, y1, y2, _, _⟩
    · rw [z3] at y
      cases y
    · rw [z3] at y1
      cases y1
      exact Nat.ne_of_lt (Heap.lt_size (Heap.get?_push_of_some _ y2))
  refine wpAny_bind (wpAny_isInstance (T := "StopIteration") (b := true) ⟨_, Heap.get?_update_self _ (Heap.get?_push_size _ rfl) rfl, rfl⟩ isSubtype_stop (wpAny_pure (hQ _ fun b o hb e => ?_)))
  have e2 := k2 b o hb e
  rw [Heap.get?_update_other _ _ (Nat.ne_of_gt (Heap.lt_size (Heap.get?_push_of_some _ e2)))]
  exact Heap.get?_push_of_some _ (Heap.get?_push_of_some _ e2)
end
/-- a walk -/
structure TurnQ (P : Program) (w : World) (K : PySem.W.Frag) (tg : Expr) (J : It) (fp : List Addr) (it : Addr) (tn : Nat → Heap → Prop) : Prop where
  obj : ∀ i h, tn i h → ∀ b ∈ fp, ∃ o, h.get? b = some o ∧ ∀ v, o.data ≠ .cell v
  keep : ∀ i h h', tn i h → (∀ b ∈ fp, ∀ o, h.get? b = some o → h'.get? b = some o) → tn i h'
  item : ∀ (X : Cx), X.prog = P → X.w = w → X.K = K → ∀ (i : Nat) (pins : List (Addr × Obj)) (s : Shared) (σ : L2.St) (H : Hp) (E : Value → Shared → Prop), Inv X pins σ H s → (∀ b ∈ fp, FpOk X pins H b) → tn i s.heap → J.go i H → wpAny (model P w) X.A (pyNext (.ref it))
    (fun r s1 => ∃ u, r = some u ∧ wpAny (model P w) X.A (letOwnedTupleGo tg (.ref it) u) (fun _ s2 => ∃ x H', Inv X pins σ H' s2 ∧ RelV x u ∧ J.yld i H x H' ∧ tn (i + 1) s2.heap ∧ ∀ b ∈ fp, H' b = none) E s1) E s
  done : ∀ (X : Cx), X.prog = P → X.w = w → X.K = K → HotC2 X → ∀ (i : Nat) (pins : List (Addr × Obj)) (s : Shared) (σ : L2.St) (H : Hp) (E : Value → Shared → Prop), Inv X pins σ H s → (∀ b ∈ fp, FpOk X pins H b) → tn i s.heap → J.stop i H →
    wpAny (model P w) X.A (pyNext (.ref it)) (fun r s1 => r = none ∧ Inv X pins σ H s1) E s
  self : ∀ (A : Around) (i : Nat) (s : Shared) (Q : Value → Shared → Prop) (E : Value → Shared → Prop), tn i s.heap → Q (.ref it) s → wpAny (model P w) A (pyIter (.ref it)) Q E s
theorem turnQ_list {P : Program} {w : World} {K : PySem.W.Frag} {tg : Expr} (a it : Addr) : TurnQ P w K tg (Itl K a) [it] it (fun i h => h.IsListIter it a i) where
  obj := (turn_list (P := P) (w := w) (K := K) (tg := tg) a it).obj
  keep := (turn_list (P := P) (w := w) (K := K) (tg := tg) a it).keep
  self := (turn_list (P := P) (w := w) (K := K) (tg := tg) a it).self
  item := by
    rintro X rfl rfl rfl i pins s σ H E I hf st ⟨xs, x, hq, hx⟩
    obtain ⟨its, rv, p, _⟩ := I.list hq
    obtain ⟨u, hu, ru⟩ := rv.get hx
    have F := hf it (by simp)
    refine wpAny_pyNext_list_item st p.isList (x := u) (by simpa using hu) fun h' st' sb => ?_
    have J : Inv X pins σ H { s with heap := h' } := I.turned (t' := s.toks) (fun b o hb e => (sb.2 b hb).trans e) F.1 F.2.1 F.2.2.2.1 F.2.2.2.2.1 F.2.2.2.2.2
    obtain ⟨o, e, c, d⟩ := id st'
    exact ⟨u, rfl, go_of (s := { s with heap := h' }) e c d (by decide) ⟨x, H, J, ru, ⟨rfl, fun ys hy => by rw [I.list_inj hy hq]; exact hx⟩, st', fun b hb => (hf b hb).1⟩⟩
  done := by
    rintro X rfl rfl rfl hc i pins s σ H E I hf st ⟨xs, hq, hx⟩
    obtain ⟨its, rv, p, _⟩ := I.list hq
    have F := hf it (by simp)
    have hl := rv.length
    obtain ⟨q, hot⟩ := hc
    obtain ⟨n1, n2⟩ := hot.apart I (b := it) fun r hr => F.2.2.2.2.2 r (List.mem_append_left _ hr)
    exact end_hot2 (hot.at I) st p.isList (by simp; omega) n1 n2 fun h' eb => ⟨rfl, I.turned (t' := s.toks) (fun b o hb e => eb b o hb e) F.1 F.2.1 F.2.2.2.1 F.2.2.2.2.1 F.2.2.2.2.2⟩
def PIQ (X : Cx) (tg iter : Expr) (wi : TI) : Prop := ∀ (pins : List (Addr × Obj)) (s : Shared) (σ : L2.St) (H : Hp) (R : It → Hp → Prop), Inv X pins σ H s → wi σ H R →
  wpAny (model X.prog X.w) X.A (eval iter X.env) (fun v s1 => wpAny (model X.prog X.w) X.A (pyIter v) (fun itv s2 => ∃ (it : Addr) (fp : List Addr) (tn : Nat → Heap → Prop) (J : It) (H' : Hp), itv = .ref it ∧ Inv X pins σ H' s2 ∧ TurnQ X.prog X.w X.K tg J fp it tn ∧ tn 0 s2.heap ∧ (∀ b ∈ fp, FpOk X pins H' b) ∧ R J H') X.xe s1) X.xe s
section
variable {X : Cx}
/-- its block, the handled exception still in sight -/
abbrev hblq (X : Cx) (s : Shared) (H : Hp) (scope : Scope) (cl : List (Str × Addr)) (C : Addr) (fp : List Addr) : Cx := (X.blk s H scope (compEnvC scope cl C X.env) fp).tr X.pn fun _ _ => False
theorem pe_lcQ {elt tg iter : Expr} {ifs : List Expr} {scope : Scope} {own : List (Str × Nat)} {pos : Pos} {wi : TI} {g : TG} {tt : TT} {te : TE} (hc : HotC2 X) (hN : X.N.Nodup) (hi : PIQ X tg iter wi) (ok : BlkOk X.N X.env.scope scope own)
    (hg : ∀ (s : Shared) (H : Hp) (C : Addr) (cl : List (Str × Addr)) (fp : List Addr), PG (hblq X s H scope cl C fp) tg g)
    (ht : ∀ (s : Shared) (H : Hp) (C : Addr) (cl : List (Str × Addr)) (fp : List Addr), PTs (hblq X s H scope cl C fp) ifs tt)
    (he : ∀ (s : Shared) (H : Hp) (C : Addr) (cl : List (Str × Addr)) (fp : List Addr), PE (hblq X s H scope cl C fp) elt te) (hs : ∀ x, foldedSetIterable iter X.env x = pure x := by intro _; rfl) :
    PE X (.ListComp elt [⟨tg, iter, ifs, 0⟩] scope pos) (tLc wi g tt te (own.map (·.2))) := by
  constructor
  intro pins s σ H Q I h
  rw [eval_ListComp]
  have caps : ∀ y ∈ scope.names, y.2 = .free → ∃ c, X.env.cells.lookup y.1 = some c := fun y hy e => I.ok.has _ (ok.free y hy e)
  refine wpAny_comprehension_free rfl hs (closure_ok caps) ok.kind (fun y hy e => by rw [ok.uniq y hy, e]) (thn (hi pins s σ H _ I h) fun xv s1 hx => thn hx fun itv s2 h2 => ?_)
  obtain ⟨it, fp, tn, J, H2, rfl, I2, T, st2, f2, q⟩ := h2
  refine wpAny_newObj_type (newEnv_comp ?_) (by show 0 ≤ sizeLine; decide)
  have hDn : H2 s2.heap.objs.size = none := I2.hok.fresh (Nat.le_refl _)
  obtain ⟨W, ⟨m0, w0⟩, turn⟩ := q _ hDn
  have grow : ∀ b o, s2.heap.get? b = some o → (s2.heap.push { cls := .type "list", data := .seq ([] : List Value).toArray }).get? b = some o := fun b o e => Heap.get?_push_of_some _ e
  have I3 : Inv X pins σ (upd H2 s2.heap.objs.size (.lst [])) { s2 with heap := s2.heap.push { cls := .type "list", data := .seq ([] : List Value).toArray } } :=
    I2.laid (t' := s2.toks) grow (Nat.le_refl _) ⟨Nat.zero_le _, [], 0, .nil, Heap.get?_push_size _ rfl⟩
  have below : ∀ b ∈ fp, b < s2.heap.objs.size := fun b hb => (T.obj _ _ st2 b hb).elim fun o z => Heap.lt_size z.1
  have f3 : ∀ b ∈ fp, FpOk X pins (upd H2 s2.heap.objs.size (.lst [])) b := fun b hb => ⟨(upd_ne (Nat.ne_of_lt (below b hb))).trans (f2 b hb).1, (f2 b hb).2⟩
  have st3 := T.keep _ _ _ st2 fun b _ o e => grow b o e
  generalize hD : s2.heap.objs.size = D at *
  generalize hH3 : upd H2 D (.lst []) = H3 at *
  have below3 : ∀ b ∈ fp, b < ({ s2 with heap := s2.heap.push { cls := .type "list", data := .seq ([] : List Value).toArray } } : Shared).heap.objs.size := fun b hb => by
    show b < (s2.heap.push _).objs.size
    rw [Heap.size_push, hD]
    exact Nat.lt_succ_of_lt (below b hb)
  generalize hs3 : ({ s2 with heap := s2.heap.push { cls := .type "list", data := .seq ([] : List Value).toArray } } : Shared) = s3 at *
  have eh3 : s2.heap.push { cls := .type "list", data := .seq ([] : List Value).toArray } = s3.heap := by rw [← hs3]
  rw [eh3] at st3
  have I4 := block_start I3 ok hN fun b hb => ⟨f3 b hb, below3 b hb⟩
  generalize hcl : cellsFrom (s3.heap.objs.size + 1) scope.names (cloFrom X.env.cells scope.names []) = cl at *
  generalize hs4 : ({ s3 with heap := pushCells (s3.heap.push { cls := .type "dict", data := .dict #[] }) scope.names } : Shared) = s4 at *
  have keep4 : ∀ b o, s3.heap.get? b = some o → s4.heap.get? b = some o := fun b o e => by rw [← hs4]; exact pushCells_keeps _ _ _ _ (Heap.get?_push_of_some _ e)
  have st4 := T.keep _ _ _ st3 fun b _ o e => keep4 b o e
  -- the block's state with the handled exception pinned
  have I5 : Inv (hblq X s3 H3 scope cl s3.heap.objs.size fp) [] (wipe σ (own.map (·.2))) H3 s4 :=
    (I4.pins_of (pins' := X.pn) fun r hr => by
      have P3 := I3.pin r (List.mem_append_left _ hr)
      refine ⟨keep4 _ _ P3.1, P3.2.1, Nat.ne_of_lt (Heap.lt_size P3.1), fun hm => ?_, P3.2.2.2.2⟩
      exact (List.mem_cons.mp (I3.stkSub _ hm)).elim P3.2.2.1 P3.2.2.2.1).toTry _
  have hot5 : HotC2 (hblq X s3 H3 scope cl s3.heap.objs.size fp) := hc
  have pinp : ∀ b ∈ fp, ∀ r ∈ X.pn, r.1 ≠ b := fun b hb r hr => (f2 b hb).2.2.2.2.2 r (List.mem_append_left _ hr)
  have stat : ∀ {τ : L2.St} {J' : Hp} {t : Shared}, Inv (hblq X s3 H3 scope cl s3.heap.objs.size fp) [] τ J' t → (∀ b ∈ fp, J' b = none) → ∀ b ∈ fp, FpOk (hblq X s3 H3 scope cl s3.heap.objs.size fp) [] J' b := fun K0 hn b hb =>
    ⟨hn b hb, (K0.ok.exf b hb).1, K0.ok.exfs b hb, .inl hb, fun x c e => (K0.ok.exf b hb).2 x c e, fun r hr => pinp b hb r (by
      rw [List.append_nil] at hr
      exact hr)⟩
  show codeAny _ _ (.compStart (.ListComp elt [⟨tg, iter, ifs, 0⟩] scope pos) 0 (.ref it) (.ref D) (compEnvC scope cl s3.heap.objs.size X.env)) (compPost (model X.prog X.w) X.A X.xe _ _ (.ref D) s3.heap.objs.size) s4
  have loop : codeAny (model X.prog X.w) X.A (.compLoop (.ListComp elt [⟨tg, iter, ifs, 0⟩] scope pos) 0 (.ref it) (.ref D) (compEnvC scope cl s3.heap.objs.size X.env)) (compPost (model X.prog X.w) X.A X.xe none (EP X pins σ Q) (.ref D) s3.heap.objs.size) s4 := by
    refine compLoop_any (fun n t => ∃ i J', Inv (hblq X s3 H3 scope cl s3.heap.objs.size fp) [] (wipe σ (own.map (·.2))) J' t ∧ tn i t.heap ∧ (∀ b ∈ fp, J' b = none) ∧ W i n J') ?_ m0 ⟨0, H3, I5, st4, fun b hb => (f3 b hb).1, w0⟩
    rintro n t ⟨i, J5, K5, st5, n5, w5⟩
    rcases turn i n J5 w5 with ⟨over, hQ⟩ | ⟨go, Nx, hNx, step⟩
    · refine thnF (T.done (hblq X s3 H3 scope cl s3.heap.objs.size fp) rfl rfl rfl hot5 i [] t _ J5 (fun _ _ => False) K5 (stat K5 n5) st5 over) fun r t6 ⟨hr, K6⟩ => ?_
      subst hr
      have K7 : Inv X pins σ J5 t6 := I3.call' (ch := fp) K6.os K6.base K6.hok K6.bare fun b hb => ⟨(f3 b hb).2.2.2.1, (f3 b hb).2.1, (f3 b hb).2.2.2.2.1, (f3 b hb).2.2.2.2.2⟩
      obtain ⟨m, hn, _⟩ := K6.loc
      obtain ⟨g0, g1, g2, g3, g4, g5⟩ := I3.fpOk (Nat.le_refl _) (show J5 s3.heap.objs.size = none from K6.free)
      exact ⟨m, hn, fun h'' sb => ⟨.ref D, J5, K7.turned (t' := t6.toks) (fun b o hb e => (sb.2 b hb).trans e) g0 g1 g3 g4 g5, rfl, hQ⟩⟩
    · refine thnF (T.item (hblq X s3 H3 scope cl s3.heap.objs.size fp) rfl rfl rfl i [] t _ J5 (fun _ _ => False) K5 (stat K5 n5) st5 go) fun r t6 ⟨u, hr, h6⟩ => ?_
      subst hr
      refine thnF h6 fun _ t7 ⟨x, J7, K7, r7, y7, st7, n7⟩ => ?_
      refine thnF ((hg s3 H3 s3.heap.objs.size cl fp).run _ t7 _ J7 x u _ (K7.pinned (stat K7 n7) (T.obj _ _ st7)) r7 (step x J7 y7)) fun _ t8 ⟨τ8, J8, K8, hw8, q8⟩ => ?_
      refine thnF ((ht s3 H3 s3.heap.objs.size cl fp).run _ t8 τ8 J8 _ K8 q8) fun yes t85 ⟨J85, K85, q85⟩ => ?_
      have back : ∀ {t10 : Shared} {J10 : Hp}, Inv (hblq X s3 H3 scope cl s3.heap.objs.size fp) ([] ++ pinsAt fp t7.heap) τ8 J10 t10 → Nx J10 →
          ∃ m, m < n ∧ ∃ i J', Inv (hblq X s3 H3 scope cl s3.heap.objs.size fp) [] (wipe σ (own.map (·.2))) J' t10 ∧ tn i t10.heap ∧ (∀ b ∈ fp, J' b = none) ∧ W i m J' := fun {t10 J10} K10 nx => by
        obtain ⟨m', hm, w'⟩ := hNx _ nx
        have still : ∀ b ∈ fp, ∀ o, t7.heap.get? b = some o → t10.heap.get? b = some o ∧ J10 b = none := fun b hb o e =>
          have z := K10.pin (b, o) (List.mem_append_right _ (List.mem_append_right _ (mem_pinsAt hb e)))
          ⟨z.1, z.2.1⟩
        refine ⟨m', hm, i + 1, _, K10.unpinned.weak (by rw [← hw8, wipe_length]) (fun j v e => ?_), T.keep _ _ _ st7 fun b hb o e => (still b hb o e).1, fun b hb => ?_, w'⟩
        · rw [← hw8] at e
          exact (wipe_some e).1
        · obtain ⟨o, e, _⟩ := T.obj _ _ st7 b hb
          exact (still b hb o e).2
      cases yes with
      | false =>
        simp only [Bool.false_eq_true, if_false] at q85 ⊢
        exact back K85 q85
      | true =>
        simp only [if_true] at q85 ⊢
        refine thnF ((he s3 H3 s3.heap.objs.size cl fp).run _ t85 τ8 J85 _ K85 q85) fun z t9 ⟨yv, J9, K9, r9, acc, hD9, hz9, nx⟩ => ?_
        exact app_ok (X := hblq X s3 H3 scope cl s3.heap.objs.size fp) K9 hD9 hz9 r9 fun t10 K10 => back K10 nx
  exact codeAny_compStart_list loop (T.self X.A 0 _ _ _ st4 loop)
end
open PySem PySem.Spec L2 PyProof.Rows L2H HotX

section
variable {X : Cx} {K : PySem.W.Frag} {cn : Str → Option Addr} {W : WX} {e : Expr} {es : List Expr} {pos : Pos} {m : ME}
theorem piq_list {tg l : Expr} {tl : TE} (hl : PE X l tl) : PIQ X tg l (iList X.K tl) := by
  intro pins s σ H R I h
  refine thn (hl.run pins s σ H _ I h) fun v s1 hh => ?_
  obtain ⟨x, H1, I1, r1, z, rfl, ⟨xs, hq⟩, q⟩ := hh
  cases r1
  obtain ⟨its, _, p, _⟩ := I1.list hq
  refine wpAny_pyIter_list p.isList ⟨s1.heap.objs.size, [s1.heap.objs.size], _, _, H1, rfl, I1.kept (t' := s1.toks) fun b o e => Heap.get?_push_of_some _ e, turnQ_list z _, ⟨_, Heap.get?_push_size _ rfl, rfl, rfl⟩, fun b hb => ?_, q⟩
  rw [show b = s1.heap.objs.size by simpa using hb]
  exact I1.fpOk (Nat.le_refl _) (I1.hok.fresh (Nat.le_refl _))
theorem piq_wk {tg l : Expr} {t t' : TI} (h : PIQ X tg l t) (i : ∀ σ H Q, t' σ H Q → t σ H Q) : PIQ X tg l t' := fun pins s σ H R I q => h pins s σ H R I (i σ H R q)
theorem riq_list {tg l : Expr} (hl : PE X l (cE X.K cn W m)) : PIQ X tg l (cI X.K cn W (wItL m)) := piq_wk (piq_list hl) fun σ H R h => by
  obtain ⟨E, F, ρ, g, Qu, Qx, S, hm, hk, hx⟩ := h
  refine ⟨E, F, ρ, g, _, Qx, S, hm, fun F1 H1 v u g1 S1 p1 o1 f1 q1 => ?_, hx⟩
  obtain ⟨F2, x, S2, p2, r2, q2, _⟩ := fz_ok S S1 p1 o1 f1 q1
  unfold itL at q2
  split at q2
  · cases r2 with
    | lst h t => exact ⟨_, rfl, ⟨_, .inl (.inl (S2.ext _ _ h))⟩, hk F2 H1 _ _ g1 S2 p2 (itok_l (.inl (.inl h)) t) q2⟩
  · cases r2 with
    | ro h t => exact ⟨_, rfl, ⟨_, S2.ext.seq h⟩, hk F2 H1 _ _ g1 S2 p2 (itok_l h t) q2⟩
  · exact q2.elim
theorem re_lcQ {elt tg iter : Expr} {ifs : List Expr} {scope : Scope} {own : List (Str × Nat)} {mi : MI} {g : MG} {t : TG} {is : List Nat} {mt : MT} {me : ME} (hc : HotC2 X) (hN : X.N.Nodup) (hi : PIQ X tg iter (cI X.K cn W mi)) (ok : BlkOk X.N X.env.scope scope own) (to : TgOk X.K is t g) (hv : ∀ i ∈ is, i ∈ own.map (·.2))
    (hg : ∀ (s : Shared) (H : Hp) (C : Addr) (cl : List (Str × Addr)) (fp : List Addr), PG (hblq X s H scope cl C fp) tg t)
    (ht : ∀ (s : Shared) (H : Hp) (C : Addr) (cl : List (Str × Addr)) (fp : List Addr), PTs (hblq X s H scope cl C fp) ifs (cT X.K cn W0 mt))
    (he : ∀ (s : Shared) (H : Hp) (C : Addr) (cl : List (Str × Addr)) (fp : List Addr), PE (hblq X s H scope cl C fp) elt (cE X.K cn W0 me)) (hs : ∀ x, foldedSetIterable iter X.env x = pure x := by intro _; rfl) :
    PE X (.ListComp elt [⟨tg, iter, ifs, 0⟩] scope pos) (cE X.K cn W (wLc mi g mt me (own.map (·.2)))) := pe_wk (pe_lcQ hc hN hi ok hg ht he hs) (lc_ok to hv)
theorem pss_false {sts : List Stmt} : PSs X sts (cS X.K cn W fun _ _ _ => False) := ⟨fun _ _ _ _ _ _ h => by
  obtain ⟨_, _, _, _, _, _, hm, _⟩ := h
  exact hm.elim⟩
end
/-! ### defs called in such a suite -/
/-- the context of such a def's body -/
abbrev cxQ (P : Program) (w : World) (K : PySem.W.Frag) (mg : Str → Option Value) (base : Heap) (N : List Str) (qual : Str) (scope : Scope) (f : Addr) (cd : Value) (A : Around) (outer : List PySem.Env) (s : Shared) (H : Hp) (E : XK) (p : Addr × Obj) (ps : List (Addr × Obj)) : Cx :=
  (cxH CX0 P w K mg base N qual scope f cd A outer s H E p).tr (p :: ps) (cxH CX0 P w K mg base N qual scope f cd A outer s H E p).xe
structure FnHq (P : Program) (w : World) (K : PySem.W.Frag) (mg : Str → Option Value) (base : Heap) (CXg : CXT) (k : Nat) (f : Addr) (fd : FuncData) (ps : List Str) (sp : Addr × Obj → Sp) : Prop where
  len : ∀ p vs H Q E, sp p vs H Q E → vs.length = ps.length
  run : ∀ (A : Around) (outer : List PySem.Env) (s : Shared) (H : Hp) (args : Args) (us : List Value) (vs : List V) (Q : VK) (E : XK) (p : Addr × Obj) (qs : List (Addr × Obj)), RoomH k A → Hot2 A p (p :: qs) → PinOk outer H s p → (∀ q ∈ qs, PinOk outer H s q) → Env0 P w K mg base A outer s H → BindsTo s fd args (ps.zip us) → Vals vs us → sp p vs H Q E →
    codeAny (model P w) A (.call (.ref f) args) (CR CXg outer P w H s Q E) s
section
variable {K : PySem.W.Frag} {cn : Str → Option Addr}
theorem fn_okHq {P : Program} {w : World} {mg : Str → Option Value} {base : Heap} {x qual : Str} {st : Stmt} {f : Addr} {fd : FuncData} {N ps : List Str} {k : Nat} {sp : Addr × Obj → SpU} (F : Fun K x qual st f fd) (S : FnScope N ps (defScope st))
    (len : ∀ p xs g Qu Qx, sp p xs g Qu Qx → xs.length = ps.length)
    (hbody : ∀ (cdv : Value) (A : Around) (outer : List PySem.Env) (s : Shared) (H : Hp) (E : XK) (p : Addr × Obj) (qs : List (Addr × Obj)), Hot2 A p (p :: qs) → RoomH k (A.deeper (envOfC qual (defScope st) s.heap.objs.size f cdv)) → ∀ xs g Qu Qx, sp p xs g Qu Qx →
      ∃ ms : MS, ms (startU N.length xs) g (fnPost Qu Qx) ∧ PSs (cxQ P w K mg base N qual (defScope st) f cdv A outer s H E p qs).nox (defBody st) (cS K cn W0 ms)) : FnHq P w K mg base CX0 (k + 1) f fd ps (fun p => LSp0 K cn (sp p)) := by
  obtain ⟨oc, od, kV, doc, pm, an, cdv, ct, osl, rfl, lk, hcd⟩ := F.ex
  have hlen : ∀ p vs H Q E, LSp0 K cn (sp p) vs H Q E → vs.length = ps.length := fun p vs H Q E h => by
    obtain ⟨F1, g, xs, Qu, Qx, _, _, r, q, _⟩ := h
    exact r.len.trans (len p xs g Qu Qx q)
  refine ⟨hlen, ?_⟩
  intro A outer s H args us vs Q E p qs hr hot hpin hpins e0 hb r h
  have hl := hlen _ _ _ _ _ h
  have here : ∀ b o, base.get? b = some o → s.heap.get? b = some o := fun b o e => (e0.bs b o e).1
  have inK : K.In s.heap := e0.mod.kin.keeps here
  have lim : s.heap.NoLimit := e0.mod.nolimit.keeps here
  refine codeAny_call_function hr.depth (inK _ _ lk) rfl S.co S.gen rfl (PySem.W.codeRec_of inK hcd) (hb _ _ _ _ (wpAny_newFunctionEnv_cells S.kind (fun y hy => ?_) fun env he s1 x => ?_))
  · exact (S.par y.1 (List.of_mem_zip hy).1).elim .inl fun q => .inr ⟨q, PySem.W.cellsFrom_some _ _ _ (.inl q)⟩
  subst he
  refine ⟨lim.keeps x.toInCall.keep, codeAny_func ?_⟩
  obtain ⟨F1, g, xs, Qu, Qx, e1, c1, r1, q1, hk, hx⟩ := h
  obtain ⟨ms, hm, ht⟩ := hbody cdv A outer s H E p qs hot (hr.deeper _) xs g Qu Qx q1
  have I0 := inv_startH (CX := CX0) (E := E) S hpin e0 hl r x
  have I : Inv (cxQ P w K mg base N qual (defScope st) f cdv A outer s H E p qs) [] (L2.start N vs) H s1 := (I0.pins_of (pins' := qs) fun q hq => by
    obtain ⟨g1, g2, g3, g4⟩ := hpins q hq
    obtain ⟨h1, tk, rfl, hk'⟩ := x.done
    exact ⟨hk' _ _ g1, g2, Nat.ne_of_lt (Heap.lt_size g1), g3, g4⟩).toTry _
  have wish : cS K cn W0 ms { nx := fun _ H' => Q .non H', rt := Q } (L2.start N vs) H := by
    refine ⟨⟨F1, H, g⟩, F1, startU N.length xs, g, fnPost Qu Qx, stt_start e1 c1 r1, hm, ⟨?_, fun _ _ _ _ _ _ q => q.elim, fun _ _ _ _ _ _ q => q.elim, ?_, ?_⟩⟩
    · rintro F' H' σ' ρ' g' S' ⟨g1, hg, q'⟩
      exact hk F' H' .non (.d .non) g1 S'.ext (hg.cells S'.cell) (S'.out hg) Rp.non trivial q'
    · rintro F' H' σ' ρ' g' v u S' o nb ⟨g1, hg, q'⟩
      exact hk F' H' v u g1 S'.ext (hg.cells S'.cell) (S'.out hg) (hg.uok o) nb q'
    · rintro F' H' σ' ρ' g' cls d y S' o ⟨g1, hg, q'⟩
      exact hx F' H' cls d y g1 S'.ext (hg.cells S'.cell) (S'.out hg) o q'
  refine wpAny_mono (ht.nox.run [] s1 (L2.start N vs) H _ I wish) (fun fl s' hs => ?_) fun e s' hs => hs
  cases fl with
  | ret u => obtain ⟨v, σ', H', J, rv, q⟩ := hs; exact ⟨v, H', J.os, J.bare, J.base, J.hok, rv, q⟩
  | next => obtain ⟨σ', H', J, q⟩ := hs; exact ⟨.non, H', J.os, J.bare, J.base, J.hok, rfl, q⟩
  | brk => obtain ⟨_, _, _, q⟩ := hs; exact q.elim
  | cont => obtain ⟨_, _, _, q⟩ := hs; exact q.elim
structure ClHq (P : Program) (w : World) (K : PySem.W.Frag) (mg : Str → Option Value) (base : Heap) (cn : Str → Option Addr) (k : Nat) (x : Str) (sp : Addr × Obj → SpU) : Prop where
  ex : ∃ (f : Addr) (fd : FuncData) (ps : List Str), FnHq P w K mg base CX0 k f fd ps (fun p => LSp0 K cn (sp p)) ∧ mg x = some (.ref f) ∧ PySem.W.keepIn K (.ref f) = true ∧ Binds K fd ps []
variable {X : Cx} {W : WX} {e : Expr} {es : List Expr} {pos : Pos}
theorem re_callHq {p : Addr × Obj} {k : Nat} {sp : Addr × Obj → SpU} {sp' : SpU} {x : Str} {q : Pos} {mx : MA} (C : ClHq X.prog X.w X.K X.mg X.base cn k x sp) (hsp : ∀ xs g Q X, sp' xs g Q X → sp p xs g Q noX) (hr : RoomH k X.A) (hot : Hot2 X.A p X.pn) (hpn : ∃ qs, X.pn = p :: qs) (hg : Gl X x) (ha : PA X (e :: es) (cA X.K cn W mx))
    (hdb : (x == ("__debug__" : Str)) = false := by decide) (he : starEach (e :: es) X.env = (false, eval e X.env) :: starEach es X.env := by rfl) (hpl : (backTo pos (starEach es X.env)).any (·.1) = false := by rfl) :
    PE X (.Call (.Name x q) (e :: es) [] pos) (cE X.K cn W (wCall sp' mx)) := by
  obtain ⟨f, fd, ps, F, hm, hk, hb⟩ := C.ex
  constructor
  intro pins s σ H Q I h
  obtain ⟨E, F', ρ, g, Qu, Qx, S, hm', hk', hx⟩ := h
  refine wpAny_Call_Name_kw (ld_glob I hg hm ?_ hdb)
  refine PySem.W.callWith_K (h₀ := X.base) I.ok.mod.kin hk (thn (ha.run pos pins s σ H (fun vs H1 => LSp0 X.K cn (sp p) vs H1 Q fun _ _ _ => False) I ⟨E, F', ρ, g, _, Qx, S, hm', fun F1 H1 vs xs g1 S1 p1 r1 q1 => ?_, hx⟩) fun us s1 ⟨vs, H1, I1, r, q1⟩ => ⟨I1.kIn, ?_⟩) he hpl
  · refine ⟨F1, g1, xs, Qu, noX, S1.ext, S1.cell, r1, hsp _ _ _ _ q1, fun F2 H2 v u g2 e2 c2 p2 o2 _ q2 => ?_, fun F2 H2 cls d y g2 e2 c2 p2 o2 q2 => q2⟩
    exact hk' F2 H2 v u g2 (S1.stp p2 e2 c2) (p1.trans p2) (uok_from o2 S1.trk) ((fresh_from o2).back p1) q2
  · obtain ⟨qs, hqs⟩ := hpn
    have there : ∀ q ∈ X.pn, PinOk X.stack H1 s1 q := fun q hq => by
      have P1 := I1.pin q (List.mem_append_left _ hq)
      exact ⟨P1.1, P1.2.1, fun hm => (List.mem_cons.mp (I1.stkSub q.1 hm)).elim P1.2.2.1 P1.2.2.2.1, P1.2.2.2.2⟩
    have hot' : Hot2 X.A p (p :: qs) := by rw [← hqs]; exact hot
    have b := hb s1 us I1.kIn (by rw [List.append_nil, ← r.length]; exact F.len _ _ _ _ _ q1)
    rw [List.append_nil] at b
    refine wpAny_call (codeAny_mono (F.run X.A X.stack s1 H1 ⟨us, []⟩ us vs Q (fun _ _ _ => False) p qs hr hot' (there p (by rw [hqs]; exact List.mem_cons_self)) (fun q hq => there q (by rw [hqs]; exact List.mem_cons_of_mem _ hq)) I1.env0 b r q1) fun r s' hq => ?_)
    cases r with
    | error e => exact False.elim hq
    | ok fl =>
      cases fl with
      | ret u => exact I1.after hq
      | next => exact False.elim hq
      | brk => exact False.elim hq
      | cont => exact False.elim hq

end
open PySem PySem.Spec L2 PyProof.Rows L2H HotX

/-! ### try .. except C as n: the exception and its context pinned in the suite -/
section
variable {X : Cx} {x n : Str} {c : Value} {j : Nat} {body su : List Stmt} {b0 : Stmt} {np pos pos' : Pos} {tb : WX → TS} {ts : Addr → Value → Option Addr → TS} {Wo : WX}
theorem ps_tryM (hst : X.stack = X.env :: X.outer) (hfr : X.env.frame = some X.env.locals) (hpn0 : X.pn = []) (hN : X.N.Nodup) (hj : X.N[j]? = some n) (hl : X.env.kindOf n = some .local) (hc : Names X x c) (tk : TakesM X Wo)
    (hb : ∀ (W : WX) (pn : List (Addr × Obj)) (xe : Value → Shared → Prop), TakesM (X.tr pn xe) W → PassesOwn (model X.prog X.w) X.A X.env xe → PSs (X.tr pn xe) body (tb W))
    (ht : ∀ (a : Addr) (oe : Obj) (cls : Value) (d : Option Addr) (pn : List (Addr × Obj)), Zc cls d oe → (∃ vs, oe.data = .fields vs) → Hot2 (X.suite a ((a, oe) :: pn)).A (a, oe) ((a, oe) :: pn) → PSs (X.suite a ((a, oe) :: pn)) (b0 :: su) (ts a cls d)) :
    PS X (.Try body [.ExceptHandler (some (.Name x np)) (some n) (b0 :: su) pos'] [] [] pos) (fun D σ H => tb (wAs X.K c j ts Wo D) D σ H) := by
  constructor
  intro pins s σ H D I hq
  have okX := I.ok
  have frs' : X.A.frames = some (X.env :: X.outer) := okX.frames.trans (by rw [hst])
  refine wpAny_Try_except ?_
  refine wpAny_mono ((hb (wAs X.K c j ts Wo D) (X.pn ++ pins) (fun e t1 => wpAny (model X.prog X.w) X.A (noteFrame e X.env) (fun _ t2 => wpAny (model X.prog X.w) X.A (setFlight e none) (fun _ t3 => wpAny (model X.prog X.w) X.A (handleBy e X.env [.ExceptHandler (some (.Name x np)) (some n) (b0 :: su) pos']) (SP X pins D) X.xe t3) X.xe t2) X.xe t1)
    (fun u t xx => ?_) PassesOwn.looking).run [] s σ H D (I.toTry _) hq) (fun f t hsp => ?_) (fun e t he => he)
  · obtain ⟨a, B, sI, pins', τ, H', cls, d, rfl, J0, nb, up, sky, na, os, ag, b, hb1, hyes, hno⟩ := xx
    have J : Inv X pins τ H' sI := J0.ofTry okX
    have sky2 : Sky B (X.env :: X.outer) a (Zm B H' cls d) X.env.locals t.heap := by rw [← hst]; exact sky
    show wpAny (model X.prog X.w) X.A (noteFrame (.ref a) X.env) _ _ _
    refine L2N.Sky.land Zm.steady frs' hfr sky2 fun g1 fly1 up1 => ?_
    have free : ∀ {g : Heap} {b : Addr} {o : Obj} {vs : Array Value}, g.FunFrames B (X.env :: X.outer) → g.get? b = some o → o.data = .fields vs → b ≠ X.env.locals ∧ b ∉ X.fs := fun {g b o vs} ff e ed => by
      have off : b ∉ frs (X.env :: X.outer) := fun hm => by
        obtain ⟨_, o', e', hnf⟩ := ff.mem hm
        rw [e] at e'
        cases e'
        exact hnf _ ed
      refine ⟨fun z => off (List.mem_filterMap.mpr ⟨X.env, List.mem_cons_self, by rw [hfr, z]⟩), fun hm => ?_⟩
      obtain ⟨e2, he2, q2⟩ := List.mem_filterMap.mp hm
      exact off (List.mem_filterMap.mpr ⟨e2, List.mem_cons_of_mem _ he2, q2⟩)
    -- at any heap on the way: the suite's state, with the exception's context pinned
    have suite_inv : ∀ {g : Heap}, PySem.HandSPX.FlyingZ B (X.env :: X.outer) a (Zm B H' cls d) g → sI.heap.UpToSlots g → ∃ (oe : Obj) (pn : List (Addr × Obj)), g.get? a = some oe ∧ Zc cls d oe ∧ (∃ vs, oe.data = .fields vs) ∧
        Hot2 (X.suite a ((a, oe) :: pn)).A (a, oe) ((a, oe) :: pn) ∧ Inv (X.suite a ((a, oe) :: (X.pn ++ pn))) [] τ H' { t with heap := g } ∧ ∀ {τ6 : L2.St} {H6 : Hp} {t6 : Shared}, Inv (X.suite a ((a, oe) :: (X.pn ++ pn))) [] τ6 H6 t6 → Inv X pins τ6 H6 t6 := by
      intro g fly upg
      have K0 : Inv X pins τ H' { t with heap := g } := J.landed nb fly.1 upg os ag
      obtain ⟨oe, vs, eo, ez, ed⟩ := fly.there
      obtain ⟨f1, f2⟩ := free fly.2.2.1 eo ed
      rcases ez.2.2 vs ed with e2 | ⟨q, oq, vq, e2, e3, e4, e5, e6⟩
      · refine ⟨oe, pins, eo, ⟨ez.1, ez.2.1⟩, ⟨vs, ed⟩, ⟨rfl, List.mem_cons_self, vs, ed, .inl e2⟩, K0.suite eo ed na f1 f2, fun K => K.unsuite okX⟩
      · have gq := fly.1 _ _ e3
        obtain ⟨q1, q2⟩ := free fly.2.2.1 gq e4
        have K1 : Inv X ((q, oq) :: pins) τ H' { t with heap := g } := K0.pins_of fun p hp => by
          rcases List.mem_cons.mp hp with z | z
          · subst z
            exact ⟨gq, e6, q1, q2, fun v y => by rw [e4] at y; cases y⟩
          · exact K0.pin p (List.mem_append_right _ z)
        refine ⟨oe, (q, oq) :: pins, eo, ⟨ez.1, ez.2.1⟩, ⟨vs, ed⟩, ⟨rfl, List.mem_cons_self, vs, ed, .inr ⟨(q, oq), List.mem_cons_of_mem _ List.mem_cons_self, vq, e2, e4, e5⟩⟩, K1.suite eo ed na f1 f2, fun K => ?_⟩
        have K2 := K.unsuite okX
        exact K2.pins_of fun p hp => K2.pin p (List.mem_append_right _ (List.mem_cons_of_mem _ hp))
    have walk : ∀ {g : Heap}, PySem.HandSPX.FlyingZ B (X.env :: X.outer) a (Zm B H' cls d) g → sI.heap.UpToSlots g → wpAny (model X.prog X.w) X.A (handleBy (.ref a) X.env [.ExceptHandler (some (.Name x np)) (some n) (b0 :: su) pos']) (SP X pins D) X.xe { t with heap := g } := by
      intro g fly upg
      obtain ⟨oe, pn, eo, ez, ef, hot, S0, back0⟩ := suite_inv fly upg
      refine wpAny_handleBy_cons (codeAny_handlers_test ?_) (by intro z; cases z)
      refine clt_one hc hb1 a oe (X.pn ++ pn) τ H' _ _ _ S0 eo ez.1 fun g' more => ?_
      have fly' := fly_keep fly more
      have up' : sI.heap.UpToSlots g' := upg.trans (Heap.UpToSlots.of_keeps more)
      cases b with
      | false =>
        refine wpAny_handleBy_nil ?_
        obtain ⟨c1, c2, c3, oe, vs, T, oT, ts', eo, ez, ed, e1, er⟩ := id fly'
        have rest : wpAny (model X.prog X.w) X.A (setFlight (.ref a) X.env.frame) (fun _ t4 => wpAny (model X.prog X.w) X.A (throw (.ref a) : Sem Flow) (SP X pins D) X.xe t4) X.xe { t with heap := g' } := by
          rw [hfr]
          refine PySem.HandSPX.setFlight_upZ fly' fun g4 held4 up4 => wpAny_throw (tk _ _ ?_)
          exact ⟨a, B, sI, pins, τ, H', cls, d, rfl, J, nb, up'.trans up4, .inr (.inr (by rw [hst]; exact held4)), na, os, ag, hno rfl⟩
        unfold PySem.passOn
        refine wpAny_bind (wpAny_field eo ed e1 ?_)
        rw [if_neg (show ¬ ((Value.ref T == Value.none) = true) by simp)]
        first | exact wpAny_bind (wpAny_pure (wpAny_bind rest)) | exact wpAny_bind rest
      | true =>
        refine codeAny_handlers_suite_as (PySem.HandSPX.lands_againZ fly' fun g4 fly4 up4 => ?_)
        obtain ⟨o4, pn4, eo4, ez4, ef4, hot4, S4, back4⟩ := suite_inv fly4 (up'.trans up4)
        refine store_ok (X := X.suite a ((a, o4) :: (X.pn ++ pn4))) (v := .ref a) S4 hN hj (.inl hl) rfl (fun t5 S5 => ?_) (.inr hl)
        have hot5 : Hot2 (X.suite a ((a, o4) :: (X.pn ++ pn4))).A (a, o4) ((a, o4) :: (X.pn ++ pn4)) := by rw [hpn0]; exact hot4
        refine wpAny_mono ((ht a o4 cls d _ ez4 ef4 hot5).run [] t5 _ H' _ S5 (hyes rfl a na)) (fun f t6 hsp => ?_) (fun _ _ z => False.elim z)
        have gone : ∀ {τ6 : L2.St} {H6 : Hp} {Q : Shared → Prop}, Inv (X.suite a ((a, o4) :: (X.pn ++ pn4))) [] τ6 H6 t6 → (∀ t7, Inv X pins (τ6.set j none) H6 t7 → Q t7) → wpAny (model X.prog X.w) X.A (do bindName X.env n .none; unbindBehindTheSuite X.env n pos') (fun _ t7 => Q t7) X.xe t6 :=
          fun {τ6 H6 Q} S6 hq => gone_ok (back4 S6) hN hj hl hq
        cases f with
        | next => obtain ⟨τ6, H6, S6, q6⟩ := hsp; exact gone S6 fun t7 J7 => ⟨_, _, J7, q6⟩
        | brk => obtain ⟨τ6, H6, S6, q6⟩ := hsp; exact gone S6 fun t7 J7 => ⟨_, _, J7, q6⟩
        | cont => obtain ⟨τ6, H6, S6, q6⟩ := hsp; exact gone S6 fun t7 J7 => ⟨_, _, J7, q6⟩
        | ret u => obtain ⟨v6, τ6, H6, S6, r6, q6⟩ := hsp; exact gone S6 fun t7 J7 => ⟨_, _, _, J7, r6, q6⟩
    exact walk fly1 (up.trans up1)
  · cases f with
    | next => obtain ⟨τ, H', J', q⟩ := hsp; exact wpAny_execs_nil ⟨τ, H', J'.ofTry okX, q⟩
    | brk => obtain ⟨τ, H', J', q⟩ := hsp; exact ⟨τ, H', J'.ofTry okX, q⟩
    | cont => obtain ⟨τ, H', J', q⟩ := hsp; exact ⟨τ, H', J'.ofTry okX, q⟩
    | ret u => obtain ⟨v, τ, H', J', r, q⟩ := hsp; exact ⟨v, τ, H', J'.ofTry okX, r, q⟩
end
open PySem PySem.Spec PyProof.Rows L2 LamX

/-! ### a lambda handed to a def with further arguments, what it raises having a context perhaps -/
abbrev lamCxM (X : Cx) (A : Around) (outer : List PySem.Env) (s : Shared) (H : Hp) (E : XK) (scope : Scope) (f c' : Addr) : Cx :=
  (lamCx X A outer s H E scope f c').tr [] fun e s' => wpAny (model X.prog X.w) (A.deeper (lamEnv X scope s.heap.objs.size f c')) (leaving (lamEnv X scope s.heap.objs.size f c') e) (fun _ s'' => CXM X.prog X.w outer H s E e s'') (fun e' s'' => CXM X.prog X.w outer H s E e' s'') s'
section
variable {X : Cx} {pins : List (Addr × Obj)} {σ : L2.St} {H : Hp} {s s1 : Shared} {HZ : Hp}
theorem lam_made2 {c P : Addr} {params : Arguments} {body : Expr} {scope : Scope} {pos : Pos} {E Q : Value → Shared → Prop} (I : Inv X pins σ H s) (TB : TabB X.base X.mg c P) (hcode : X.env.code = .ref c) (hT : TabAt H P (X.env.qual ++ "<lambda>"))
    (hdef : defaultsOf params X.env = ([], [])) (hfree : ∀ y ∈ scope.names, y.2 = .free → ∃ c, X.env.cells.lookup y.1 = some c)
    (h : ∀ (f c' : Addr) (pm ctv : Value) (H1 : Hp) (s' : Shared), Inv X pins σ H1 s' → LamStep P (X.env.qual ++ "<lambda>") H H1 → ((∃ (pos : Pos) (ps : Array Value), H P = some (.tbl ps) ∧ codeAmong pos ps.toList = some (.ref c')) ∨ H c' = none) →
      s'.heap.get? f = some (PySem.W.kla_obj "<lambda>" (X.env.qual ++ "<lambda>") params body scope (cloFrom X.env.cells scope.names []) pm c' ctv) → H1 f = none → f ∉ frs X.stack → H1 c' = some (CodeO c' (X.env.qual ++ "<lambda>")) → Q (.ref f) s') :
    wpAny (model X.prog X.w) X.A (eval (.Lambda params body scope pos) X.env) Q E s := by
  obtain ⟨ps, hP, ht, ha⟩ := hT
  have tabP : s.heap.get? P = some { cls := .none, data := .fields ps } := I.hok P _ hP
  have bmP : s.heap.BuiltinsAt X.mg P := TB.bm.keeps I.bk
  have above : ∀ f, s.heap.objs.size ≤ f → f ∉ frs X.stack := fun f hf z => (List.mem_cons.mp (I.stkSub _ z)).elim (fun e => by
    have h1 := I.lt
    rw [← e] at h1
    exact absurd (Nat.lt_of_lt_of_le h1 hf) (Nat.lt_irrefl _)) (I.nofs hf)
  refine PySem.W.kla_eval hdef ?_
  cases hcA : codeAmong pos ps.toList with
  | some cv =>
    obtain ⟨c', rfl, hco⟩ := ha pos cv hcA
    refine PySem.W.kla_makeFunctionHit (mg := X.mg) (c := c) (P := P) (ps := ps) (closure_ok hfree) I.ok.glob (I.mod.glob.keeps I.bk) hcode (TB.code.keeps I.bk) tabP ht hcA bmP fun ctv h' tk hx hsz => ?_
    have J : Inv X pins σ H { s with heap := h'.push (PySem.W.kla_obj "<lambda>" (X.env.qual ++ "<lambda>") params body scope (cloFrom X.env.cells scope.names []) ((X.mg "__name__").getD .none) c' ctv), toks := tk } := I.kept fun b o e => Heap.get?_push_of_some _ (hx b o e)
    exact h h'.objs.size c' ((X.mg "__name__").getD .none) ctv H _ J ⟨fun _ _ _ e => e, ps, ps, hP, hP, ht, fun _ _ hc => .inl hc⟩ (.inl ⟨pos, ps, hP, hcA⟩) (Heap.get?_push_size _ rfl) (I.hok.fresh hsz) (above _ hsz) hco
  | none =>
    refine PySem.W.kla_makeFunction (mg := X.mg) (c := c) (P := P) (ps := ps) (closure_ok hfree) I.ok.glob (I.mod.glob.keeps I.bk) hcode (TB.code.keeps I.bk) tabP ht hcA TB.gP bmP fun c' ctv h' tk hx hge hlt hrec htb => ?_
    obtain ⟨c2, oc, vs, t, e2, hoc, hd, hv⟩ := hrec
    cases e2
    have grown : s.heap.objs.size ≤ h'.objs.size := Nat.le_trans hge (Nat.le_of_lt hlt)
    have nC : H c' = none := I.hok.fresh hge
    have J := inv_table (q := X.env.qual ++ "<lambda>") (t' := tk) (more := #[rawInt pos.line, rawInt pos.col, .ref c']) (h' := h'.push (PySem.W.kla_obj "<lambda>" (X.env.qual ++ "<lambda>") params body scope (cloFrom X.env.cells scope.names []) ((X.mg "__name__").getD .none) c' ctv)) I hP
      (fun b o hb e => Heap.get?_push_of_some _ (hx b o hb e)) (Heap.get?_push_of_some _ htb) hge ⟨oc, vs, t, Heap.get?_push_of_some _ hoc, hd, hv⟩
    have nPc : P ≠ c' := ne_of_none hP nC
    have stay : ∀ b o, b ≠ P → H b = some o → (upd (upd H P (.tbl (ps ++ #[rawInt pos.line, rawInt pos.col, .ref c']))) c' (CodeO c' (X.env.qual ++ "<lambda>"))) b = some o := fun b o hb e => by rw [upd_ne (ne_of_none e nC), upd_ne hb]; exact e
    have split : (ps ++ #[rawInt pos.line, rawInt pos.col, .ref c']).toList = ps.toList ++ [rawInt pos.line, rawInt pos.col, .ref c'] := by simp
    refine h h'.objs.size c' ((X.mg "__name__").getD .none) ctv _ _ J ⟨stay, ps, _, hP, by rw [upd_ne nPc, upd_same], by rw [split]; exact PySem.TriplesOk_snoc _ _ _ _ ht, fun p' cv hcv => ?_⟩ (.inr nC) (Heap.get?_push_size _ rfl) ?_ (above _ grown) upd_same
    · rw [split] at hcv
      rcases among_app _ ht hcv with z | z
      · exact .inl z
      · exact .inr ⟨c', z, nC, upd_same⟩
    · rw [upd_ne (Nat.ne_of_gt hlt), upd_ne (Nat.ne_of_gt (Nat.lt_of_lt_of_le (Heap.lt_size tabP) grown))]
      exact I.hok.fresh grown
theorem lam_madeD2 {c P : Addr} {params : Arguments} {body : Expr} {scope : Scope} {pos : Pos} {E Q : Value → Shared → Prop} (I : Inv X pins σ H s) (TB : TabB X.base X.mg c P) (hcode : X.env.code = .ref c) (hT : TabAt H P (X.env.qual ++ "<lambda>"))
    (hne : params.defaults.isEmpty = false) (hk0 : params.kw_defaults = []) (hdv : ∀ Q : List Value → Shared → Prop, (∀ (u : Value) (tk : Nat), Q [u] { s with toks := tk }) → wpAny (model X.prog X.w) X.A (evalAll (evalEach params.defaults X.env)) Q E s)
    (hfree : ∀ y ∈ scope.names, y.2 = .free → ∃ c, X.env.cells.lookup y.1 = some c)
    (h : ∀ (f c' T : Addr) (u0 doc pm ctv : Value) (H1 : Hp) (s' : Shared), Inv X pins σ H1 s' → LamStep P (X.env.qual ++ "<lambda>") H H1 → ((∃ (pos : Pos) (ps : Array Value), H P = some (.tbl ps) ∧ codeAmong pos ps.toList = some (.ref c')) ∨ H c' = none) →
      s'.heap.get? f = some (PySem.W.kdv_obj "<lambda>" (X.env.qual ++ "<lambda>") params (.expr body) scope (cloFrom X.env.cells scope.names []) (.ref T) doc pm c' ctv) → H1 f = none → f ∉ frs X.stack →
      s'.heap.get? T = some (PySem.W.kdv_tup [u0]) → H1 T = none → T ∉ frs X.stack → H1 c' = some (CodeO c' (X.env.qual ++ "<lambda>")) → Q (.ref f) s') :
    wpAny (model X.prog X.w) X.A (eval (.Lambda params body scope pos) X.env) Q E s := by
  obtain ⟨ps, hP, ht, ha⟩ := hT
  have above : ∀ f, s.heap.objs.size ≤ f → f ∉ frs X.stack := fun f hf z => (List.mem_cons.mp (I.stkSub _ z)).elim (fun e => by
    have h1 := I.lt
    rw [← e] at h1
    exact absurd (Nat.lt_of_lt_of_le h1 hf) (Nat.lt_irrefl _)) (I.nofs hf)
  refine PySem.W.kdv_lam hne hk0 (hdv _ fun u0 tk0 => ?_)
  rw [makeFunction_eq]
  simp only [List.zip_nil_right, List.filterMap_nil, List.isEmpty_nil, List.isEmpty_cons, Bool.false_eq_true, if_true, if_false, pure_bind]
  refine wpAny_bind (wpAny_newTextTuple ?_)
  have k2 : ∀ b o, s.heap.get? b = some o → (s.heap.push (PySem.W.kdv_tup [u0])).get? b = some o := fun b o e => Heap.get?_push_of_some _ e
  have I2 : Inv X pins σ H { s with heap := s.heap.push (PySem.W.kdv_tup [u0]), toks := tk0 } := I.kept k2
  have tT : (s.heap.push (PySem.W.kdv_tup [u0])).get? s.heap.objs.size = some (PySem.W.kdv_tup [u0]) := Heap.get?_push_size _ rfl
  have sT : s.heap.objs.size < (s.heap.push (PySem.W.kdv_tup [u0])).objs.size := by rw [Heap.size_push]; omega
  have nT : H s.heap.objs.size = none := I.hok.fresh (Nat.le_refl _)
  have aT := above _ (Nat.le_refl s.heap.objs.size)
  have tabP : (s.heap.push (PySem.W.kdv_tup [u0])).get? P = some { cls := .none, data := .fields ps } := I2.hok P _ hP
  have bmP : (s.heap.push (PySem.W.kdv_tup [u0])).BuiltinsAt X.mg P := TB.bm.keeps I2.bk
  cases hcA : codeAmong pos ps.toList with
  | some cv =>
    obtain ⟨c', rfl, hco⟩ := ha pos cv hcA
    refine PySem.W.kdv_makeTailHit (mg := X.mg) (c := c) (P := P) (ps := ps) (s := { s with heap := s.heap.push (PySem.W.kdv_tup [u0]), toks := tk0 }) (closure_ok hfree) I.ok.glob (I2.mod.glob.keeps I2.bk) hcode (TB.code.keeps I2.bk) tabP ht hcA bmP fun ctv doc h' tk hx hsz => ?_
    have J : Inv X pins σ H { s with heap := h'.push (PySem.W.kdv_obj "<lambda>" (X.env.qual ++ "<lambda>") params (.expr body) scope (cloFrom X.env.cells scope.names []) (.ref s.heap.objs.size) doc ((X.mg "__name__").getD .none) c' ctv), toks := tk } := I.kept fun b o e => Heap.get?_push_of_some _ (hx b o (k2 b o e))
    have hsz' : s.heap.objs.size ≤ h'.objs.size := Nat.le_trans (Nat.le_of_lt sT) hsz
    exact h h'.objs.size c' s.heap.objs.size u0 doc ((X.mg "__name__").getD .none) ctv H _ J ⟨fun _ _ _ e => e, ps, ps, hP, hP, ht, fun _ _ hc => .inl hc⟩ (.inl ⟨pos, ps, hP, hcA⟩) (Heap.get?_push_size _ rfl) (I.hok.fresh hsz') (above _ hsz') (Heap.get?_push_of_some _ (hx _ _ tT)) nT aT hco
  | none =>
    refine PySem.W.kdv_makeTail (mg := X.mg) (c := c) (P := P) (ps := ps) (s := { s with heap := s.heap.push (PySem.W.kdv_tup [u0]), toks := tk0 }) (closure_ok hfree) I.ok.glob (I2.mod.glob.keeps I2.bk) hcode (TB.code.keeps I2.bk) tabP ht hcA TB.gP bmP fun c' ctv doc h' tk hx hge hlt hrec htb => ?_
    obtain ⟨c2, oc, vs, t, e2, hoc, hd, hv⟩ := hrec
    cases e2
    have hge' : s.heap.objs.size < c' := Nat.lt_of_lt_of_le sT hge
    have grown : s.heap.objs.size ≤ h'.objs.size := Nat.le_trans (Nat.le_of_lt hge') (Nat.le_of_lt hlt)
    have nC : H c' = none := I.hok.fresh (Nat.le_of_lt hge')
    have nTP : s.heap.objs.size ≠ P := fun z => by rw [z, hP] at nT; cases nT
    have J := inv_table (q := X.env.qual ++ "<lambda>") (t' := tk) (more := #[rawInt pos.line, rawInt pos.col, .ref c']) (h' := h'.push (PySem.W.kdv_obj "<lambda>" (X.env.qual ++ "<lambda>") params (.expr body) scope (cloFrom X.env.cells scope.names []) (.ref s.heap.objs.size) doc ((X.mg "__name__").getD .none) c' ctv)) I hP
      (fun b o hb e => Heap.get?_push_of_some _ (hx b o hb (k2 b o e))) (Heap.get?_push_of_some _ htb) (Nat.le_of_lt hge') ⟨oc, vs, t, Heap.get?_push_of_some _ hoc, hd, hv⟩
    have nPc : P ≠ c' := ne_of_none hP nC
    have stay : ∀ b o, b ≠ P → H b = some o → (upd (upd H P (.tbl (ps ++ #[rawInt pos.line, rawInt pos.col, .ref c']))) c' (CodeO c' (X.env.qual ++ "<lambda>"))) b = some o := fun b o hb e => by rw [upd_ne (ne_of_none e nC), upd_ne hb]; exact e
    have split : (ps ++ #[rawInt pos.line, rawInt pos.col, .ref c']).toList = ps.toList ++ [rawInt pos.line, rawInt pos.col, .ref c'] := by simp
    refine h h'.objs.size c' s.heap.objs.size u0 doc ((X.mg "__name__").getD .none) ctv _ _ J ⟨stay, ps, _, hP, by rw [upd_ne nPc, upd_same], by rw [split]; exact PySem.TriplesOk_snoc _ _ _ _ ht, fun p' cv hcv => ?_⟩ (.inr nC) (Heap.get?_push_size _ rfl) ?_ (above _ grown) (Heap.get?_push_of_some _ (hx _ _ nTP tT)) ?_ aT upd_same
    · rw [split] at hcv
      rcases among_app _ ht hcv with z | z
      · exact .inl z
      · exact .inr ⟨c', z, nC, upd_same⟩
    · rw [upd_ne (Nat.ne_of_gt hlt), upd_ne (Nat.ne_of_gt (Nat.lt_of_lt_of_le (Heap.lt_size tabP) (Nat.le_trans hge (Nat.le_of_lt hlt))))]
      exact I.hok.fresh grown
    · rw [upd_ne (Nat.ne_of_lt hge'), upd_ne nTP]
      exact nT
theorem pe_actM {Ng : List Str} {qg : Str} {sg : Scope} {g f c' : Addr} {cdg pm ctv : Value} {params : Arguments} {body : Expr} {scope : Scope} {k i : Nat} {a : Str} {pn : List (Addr × Obj)} {xe : Value → Shared → Prop} {W : WX} {tb : XK → TE} {p1 p2 : Pos}
    (I : Inv X pins σ H s) (L : LamS X.env.scope scope) (hf : s.heap.get? f = some (PySem.W.kla_obj "<lambda>" (X.env.qual ++ "<lambda>") params body scope (cloFrom X.env.cells scope.names []) pm c' ctv)) (hfn : H f = none) (hfr : f ∉ frs X.stack)
    (hbind : bindArgs (PySem.W.kla_fn "<lambda>" (X.env.qual ++ "<lambda>") params body scope (cloFrom X.env.cells scope.names []) pm (.ref c') ctv) ⟨[], []⟩ = pure [])
    (tk : TakesM ((cxOf C8.CX0 X.prog X.w X.K X.mg X.base Ng qg sg g cdg X.A X.stack s H C8.E0).tr pn xe) W) (hr : Room (k + 1) (X.A.deeper (envOfC qg sg s.heap.objs.size g cdg)))
    (hbody : ∀ (A : Around) (outer : List PySem.Env) (s : Shared) (H : Hp) (E : XK), Room k (A.deeper (lamEnv X scope s.heap.objs.size f c')) → PE (lamCxM X A outer s H E scope f c') body (tb E))
    (hN : Ng[i]? = some a) (hv : Vis sg a) (hd : (a == ("__debug__" : Str)) = false := by decide) (hcd : (a == ("__classdict__" : Str)) = false := by decide) :
    PE ((cxOf C8.CX0 X.prog X.w X.K X.mg X.base Ng qg sg g cdg X.A X.stack s H C8.E0).tr pn xe) (.Call (.Name a p1) [] [] p2)
      (fun σZ HZ Q => σZ[i]? = some (some (.ref f)) ∧ HZ c' = some (CodeO c' (X.env.qual ++ "<lambda>")) ∧ ∃ Ech : XK, (∀ cls d H', Ech cls d H' → W cls d σZ H') ∧ tb Ech σ HZ Q) := by
  constructor
  intro pinsZ sZ σZ HZ Q IZ h
  obtain ⟨hs, hc, Ech, hE, ht⟩ := h
  refine wpAny_Call_Name_kw (thn ((pe_var (pos := p1) (i := i) hN hv hd hcd).run pinsZ sZ σZ HZ (fun v H1 => v = .ref f ∧ H1 = HZ) IZ ⟨.ref f, hs, rfl, rfl⟩) fun u s1 hh => ?_)
  obtain ⟨v, H1, I1, r1, ev, eH⟩ := hh
  subst ev
  rw [eH] at I1
  obtain rfl : u = Value.ref f := r1
  have there : s1.heap.get? f = some (PySem.W.kla_obj "<lambda>" (X.env.qual ++ "<lambda>") params body scope (cloFrom X.env.cells scope.names []) pm c' ctv) := I1.base.keep f _ hf hfn hfr (fun z => nomatch (show f ∈ ([] : List Addr) from z))
  refine PySem.W.callWith_F0 ⟨_, _, _, _, there⟩ ?_
  obtain ⟨⟨oc, vs, t, hoc, hdc, hvc⟩, _, _⟩ := I1.hok c' _ hc
  have rc : codeAny (model X.prog X.w) (X.A.deeper (envOfC qg sg s.heap.objs.size g cdg)) (.call (.ref f) ⟨[], []⟩) (CR (CXM X.prog X.w) (envOfC qg sg s.heap.objs.size g cdg :: X.stack) X.prog X.w HZ s1 Q Ech) s1 := by
    refine PySem.W.kla_callFunE hr.depth there rfl L.co L.gen rfl ⟨c', oc, vs, t, rfl, hoc, hdc, hvc⟩ ?_
    rw [hbind]
    refine wpAny_pure (wpAny_newFunctionEnv (fun y hy => (L.own y hy).2) (fun y hy => absurd hy (by simp)) (fun h₁ hns hsb => ⟨I1.nolimit.fresh _ hsb, ?_⟩) L.kind)
    show codeAny _ _ (.expr body (lamEnv X scope s1.heap.objs.size f c')) _ _
    have J : Inv (lamCx X (X.A.deeper (envOfC qg sg s.heap.objs.size g cdg)) (envOfC qg sg s.heap.objs.size g cdg :: X.stack) s1 HZ Ech scope f c') [] σ HZ { s1 with heap := h₁, toks := s1.toks + ([] : List (Str × Value)).length } :=
      lam_start2 I L I1.env0 hr.hd I1.base hns fun b o e => hsb.extBut b o (Nat.ne_of_lt (Heap.lt_size e)) (Heap.get?_push_of_some _ e)
    have J2 : Inv (lamCxM X (X.A.deeper (envOfC qg sg s.heap.objs.size g cdg)) (envOfC qg sg s.heap.objs.size g cdg :: X.stack) s1 HZ Ech scope f c') [] σ HZ { s1 with heap := h₁, toks := s1.toks + ([] : List (Str × Value)).length } := J.toTry _
    refine PySem.W.kla_codeExpr (wpAny_mono ((hbody _ _ s1 HZ _ (hr.deeper _)).run [] _ _ HZ Q J2 ht) (fun v s' hq => ?_) fun e s' hq => hq)
    obtain ⟨w', H', J', rv, q⟩ := hq
    exact ⟨w', H', J'.os, J'.bare, J'.base, J'.hok, rv, q⟩
  refine wpAny_call (codeAny_mono rc fun r s' hq => ?_)
  cases r with
  | error e => exact tk _ _ (XEM.of_call I1 hE hq)
  | ok fl =>
    cases fl with
    | ret u => exact I1.after hq
    | next => exact False.elim hq
    | brk => exact False.elim hq
    | cont => exact False.elim hq
theorem pe_actDM {Ng : List Str} {qg : Str} {sg : Scope} {g f c' T : Addr} {cdg doc pm ctv : Value} {params : Arguments} {body : Expr} {scope : Scope} {k i : Nat} {a y0 : Str} {pn : List (Addr × Obj)} {xe : Value → Shared → Prop} {W : WX} {tb : XK → TE} {p1 p2 : Pos}
    (I : Inv X pins σ H s) (L : LamD X.env.scope X.N y0 scope) (hf : s.heap.get? f = some (PySem.W.kdv_obj "<lambda>" (X.env.qual ++ "<lambda>") params (.expr body) scope (cloFrom X.env.cells scope.names []) (.ref T) doc pm c' ctv)) (hfn : H f = none) (hfr : f ∉ frs X.stack)
    (hT : s.heap.get? T = some (PySem.W.kdv_tup [u0])) (hTn : H T = none) (hTr : T ∉ frs X.stack)
    (hbind : ∃ k, bindArgs (PySem.W.kdv_fn "<lambda>" (X.env.qual ++ "<lambda>") params (.expr body) scope (cloFrom X.env.cells scope.names []) (.ref T) doc pm (.ref c') ctv) ⟨[], []⟩ = seqItems? (.ref T) >>= k ∧ k (some #[u0]) = pure [(y0, u0)])
    (tk : TakesM ((cxOf C8.CX0 X.prog X.w X.K X.mg X.base Ng qg sg g cdg X.A X.stack s H C8.E0).tr pn xe) W) (hr : Room (k + 1) (X.A.deeper (envOfC qg sg s.heap.objs.size g cdg)))
    (hbody : ∀ (A : Around) (outer : List PySem.Env) (s : Shared) (H : Hp) (E : XK), Room k (A.deeper (lamEnv X scope s.heap.objs.size f c')) → PE (lamCxM X A outer s H E scope f c') body (tb E))
    (hN : Ng[i]? = some a) (hv : Vis sg a) (hd : (a == ("__debug__" : Str)) = false := by decide) (hcd : (a == ("__classdict__" : Str)) = false := by decide) :
    PE ((cxOf C8.CX0 X.prog X.w X.K X.mg X.base Ng qg sg g cdg X.A X.stack s H C8.E0).tr pn xe) (.Call (.Name a p1) [] [] p2)
      (fun σZ HZ Q => σZ[i]? = some (some (.ref f)) ∧ HZ c' = some (CodeO c' (X.env.qual ++ "<lambda>")) ∧ ∃ Ech : XK, (∀ cls d H', Ech cls d H' → W cls d σZ H') ∧ tb Ech σ HZ Q) := by
  constructor
  intro pinsZ sZ σZ HZ Q IZ h
  obtain ⟨hs, hc, Ech, hE, ht⟩ := h
  refine wpAny_Call_Name_kw (thn ((pe_var (pos := p1) (i := i) hN hv hd hcd).run pinsZ sZ σZ HZ (fun v H1 => v = .ref f ∧ H1 = HZ) IZ ⟨.ref f, hs, rfl, rfl⟩) fun u s1 hh => ?_)
  obtain ⟨v, H1, I1, r1, ev, eH⟩ := hh
  subst ev
  rw [eH] at I1
  obtain rfl : u = Value.ref f := r1
  have there : s1.heap.get? f = some (PySem.W.kdv_obj "<lambda>" (X.env.qual ++ "<lambda>") params (.expr body) scope (cloFrom X.env.cells scope.names []) (.ref T) doc pm c' ctv) := I1.base.keep f _ hf hfn hfr (fun z => nomatch (show f ∈ ([] : List Addr) from z))
  have thereT : s1.heap.get? T = some (PySem.W.kdv_tup [u0]) := I1.base.keep T _ hT hTn hTr (fun z => nomatch (show T ∈ ([] : List Addr) from z))
  refine PySem.W.callWith_F0 ⟨_, _, _, _, there⟩ ?_
  obtain ⟨⟨oc, vs, t, hoc, hdc, hvc⟩, _, _⟩ := I1.hok c' _ hc
  obtain ⟨kk, hb1, hb2⟩ := hbind
  have rc : codeAny (model X.prog X.w) (X.A.deeper (envOfC qg sg s.heap.objs.size g cdg)) (.call (.ref f) ⟨[], []⟩) (CR (CXM X.prog X.w) (envOfC qg sg s.heap.objs.size g cdg :: X.stack) X.prog X.w HZ s1 Q Ech) s1 := by
    refine PySem.W.kla_callFunE hr.depth there rfl L.co L.gen rfl ⟨c', oc, vs, t, rfl, hoc, hdc, hvc⟩ ((BindsTo.of_defaults rfl thereT rfl hb1 hb2) _ _ _ _ ?_)
    refine wpAny_newFunctionEnv (fun y hy => (L.own y hy).1) (fun y hy => by rw [List.mem_singleton.mp hy]; exact L.loc) (fun h₁ hns hsb => ⟨I1.nolimit.fresh _ hsb, ?_⟩) L.kind
    show codeAny _ _ (.expr body (lamEnv X scope s1.heap.objs.size f c')) _ _
    have J : Inv (lamCx X (X.A.deeper (envOfC qg sg s.heap.objs.size g cdg)) (envOfC qg sg s.heap.objs.size g cdg :: X.stack) s1 HZ Ech scope f c') [] σ HZ { s1 with heap := h₁, toks := s1.toks + ([(y0, u0)] : List (Str × Value)).length } :=
      lam_startD I L I1.env0 hr.hd I1.base hns fun b o e => hsb.extBut b o (Nat.ne_of_lt (Heap.lt_size e)) (Heap.get?_push_of_some _ e)
    have J2 : Inv (lamCxM X (X.A.deeper (envOfC qg sg s.heap.objs.size g cdg)) (envOfC qg sg s.heap.objs.size g cdg :: X.stack) s1 HZ Ech scope f c') [] σ HZ { s1 with heap := h₁, toks := s1.toks + ([(y0, u0)] : List (Str × Value)).length } := J.toTry _
    refine PySem.W.kla_codeExpr (wpAny_mono ((hbody _ _ s1 HZ _ (hr.deeper _)).run [] _ _ HZ Q J2 ht) (fun v s' hq => ?_) fun e s' hq => hq)
    obtain ⟨w', H', J', rv, q⟩ := hq
    exact ⟨w', H', J'.os, J'.bare, J'.base, J'.hok, rv, q⟩
  refine wpAny_call (codeAny_mono rc fun r s' hq => ?_)
  cases r with
  | error e => exact tk _ _ (XEM.of_call I1 hE hq)
  | ok fl =>
    cases fl with
    | ret u => exact I1.after hq
    | next => exact False.elim hq
    | brk => exact False.elim hq
    | cont => exact False.elim hq
end
open PySem PySem.Spec PyProof.Rows L2 LamX L2H

section
variable {X : Cx} {pins : List (Addr × Obj)} {σ : L2.St} {H : Hp} {s : Shared}
/-- the lambda at f may be called while its objects ob stand as they were made -/
def ActOk (X : Cx) (k : Nat) (tb : XK → TE) (f c' : Addr) (ob : List (Addr × Obj)) : Prop :=
  ∀ {Ng : List Str} {qg : Str} {sg : Scope} {g : Addr} {cdg : Value} {i : Nat} {a : Str} {pn : List (Addr × Obj)} {xe : Value → Shared → Prop} {W : WX} {p1 p2 : Pos} {pins : List (Addr × Obj)} {σ : L2.St} {H : Hp} {s : Shared},
    Inv X pins σ H s → (∀ q ∈ ob, s.heap.get? q.1 = some q.2 ∧ H q.1 = none) → TakesM ((cxOf C8.CX0 X.prog X.w X.K X.mg X.base Ng qg sg g cdg X.A X.stack s H C8.E0).tr pn xe) W → Room (k + 1) (X.A.deeper (envOfC qg sg s.heap.objs.size g cdg)) →
    Ng[i]? = some a → Vis sg a → (a == ("__debug__" : Str)) = false → (a == ("__classdict__" : Str)) = false →
    PE ((cxOf C8.CX0 X.prog X.w X.K X.mg X.base Ng qg sg g cdg X.A X.stack s H C8.E0).tr pn xe) (.Call (.Name a p1) [] [] p2) (fun σZ HZ Q => σZ[i]? = some (some (.ref f)) ∧ HZ c' = some (CodeO c' lamQ) ∧ ∃ Ech : XK, (∀ cls d H', Ech cls d H' → W cls d σZ H') ∧ tb Ech σ HZ Q)
/-- the lambda is made -/
def MkLam (X : Cx) (P : Addr) (k : Nat) (tb : XK → TE) (lam : Expr) : Prop :=
  ∀ (pins : List (Addr × Obj)) (s : Shared) (σ : L2.St) (H : Hp) (Q E : Value → Shared → Prop), Inv X pins σ H s → TabAt H P lamQ →
    (∀ (f c' : Addr) (H1 : Hp) (s' : Shared) (ob : List (Addr × Obj)), Inv X pins σ H1 s' → LamStep P lamQ H H1 → ((∃ (pos : Pos) (ps : Array Value), H P = some (.tbl ps) ∧ codeAmong pos ps.toList = some (.ref c')) ∨ H c' = none) → H1 c' = some (CodeO c' lamQ) →
      (∀ q ∈ ob, s'.heap.get? q.1 = some q.2 ∧ H1 q.1 = none ∧ q.1 ∉ frs X.stack ∧ (∀ v, q.2.data ≠ .cell v)) → ActOk X k tb f c' ob → Q (.ref f) s') → wpAny (model X.prog X.w) X.A (eval lam X.env) Q E s
theorem mk0 {P c : Addr} {k : Nat} {tb : XK → TE} {params : Arguments} {body : Expr} {scope : Scope} {lpos : Pos} (hq : X.env.qual ++ "<lambda>" = lamQ) (TB : TabB X.base X.mg c P) (hcode : X.env.code = .ref c) (L : LamS X.env.scope scope) (hdef : defaultsOf params X.env = ([], []))
    (hbind : ∀ (q : Str) (cl : List (Str × Addr)) (pm cv ctv : Value), bindArgs (PySem.W.kla_fn "<lambda>" q params body scope cl pm cv ctv) ⟨[], []⟩ = pure [])
    (hbody : ∀ (A : Around) (outer : List PySem.Env) (s : Shared) (H : Hp) (E : XK) (f c' : Addr), Room k (A.deeper (lamEnv X scope s.heap.objs.size f c')) → PE (lamCxM X A outer s H E scope f c') body (tb E)) : MkLam X P k tb (.Lambda params body scope lpos) := by
  intro pins s σ H Q E I hT h
  rw [← hq] at hT
  refine lam_made2 I TB hcode hT hdef (L.has I.ok) fun f c' pm ctv H1 s' I1 st hdj hf hfn hfr hco => ?_
  rw [hq] at st hco
  refine h f c' H1 s' [(f, PySem.W.kla_obj "<lambda>" (X.env.qual ++ "<lambda>") params body scope (cloFrom X.env.cells scope.names []) pm c' ctv)] I1 st hdj hco (fun q hq' => ?_) ?_
  · rw [List.mem_singleton.mp hq']
    exact ⟨hf, hfn, hfr, fun v z => by cases z⟩
  · intro Ng qg sg g cdg i a pn xe W p1 p2 pins2 σ2 H2 s2 I2 hob tk hr hN hv hd hcd
    obtain ⟨o1, o2⟩ := hob _ (List.mem_singleton.mpr rfl)
    rw [← hq]
    exact pe_actM I2 L o1 o2 hfr (hbind _ _ _ _ _) tk hr (fun A outer s H E hr2 => hbody A outer s H E f c' hr2) hN hv hd hcd
theorem mkD {P c : Addr} {k : Nat} {tb : XK → TE} {y0 : Str} {params : Arguments} {body : Expr} {scope : Scope} {lpos : Pos} (hq : X.env.qual ++ "<lambda>" = lamQ) (TB : TabB X.base X.mg c P) (hcode : X.env.code = .ref c) (L : LamD X.env.scope X.N y0 scope) (hne : params.defaults.isEmpty = false) (hk0 : params.kw_defaults = [])
    (hdv : ∀ (s : Shared) (E : Value → Shared → Prop) (Q : List Value → Shared → Prop), (∀ (u : Value) (tk : Nat), Q [u] { s with toks := tk }) → wpAny (model X.prog X.w) X.A (evalAll (evalEach params.defaults X.env)) Q E s)
    (hbind : ∀ (q : Str) (cl : List (Str × Addr)) (T : Addr) (u0 doc pm cv ctv : Value), ∃ kk, bindArgs (PySem.W.kdv_fn "<lambda>" q params (.expr body) scope cl (.ref T) doc pm cv ctv) ⟨[], []⟩ = seqItems? (.ref T) >>= kk ∧ kk (some #[u0]) = pure [(y0, u0)])
    (hbody : ∀ (A : Around) (outer : List PySem.Env) (s : Shared) (H : Hp) (E : XK) (f c' : Addr), Room k (A.deeper (lamEnv X scope s.heap.objs.size f c')) → PE (lamCxM X A outer s H E scope f c') body (tb E)) : MkLam X P k tb (.Lambda params body scope lpos) := by
  intro pins s σ H Q E I hT h
  rw [← hq] at hT
  refine lam_madeD2 I TB hcode hT hne hk0 (hdv s _) (L.has I.ok) fun f c' T u0 doc' pm' ctv H1 s' I1 st hdj hf hfn hfr hT' hTn hTr hco => ?_
  rw [hq] at st hco
  refine h f c' H1 s' [(f, PySem.W.kdv_obj "<lambda>" (X.env.qual ++ "<lambda>") params (.expr body) scope (cloFrom X.env.cells scope.names []) (.ref T) doc' pm' c' ctv), (T, PySem.W.kdv_tup [u0])] I1 st hdj hco (fun q hq' => ?_) ?_
  · rcases List.mem_cons.mp hq' with z | z
    · rw [z]
      exact ⟨hf, hfn, hfr, fun v y => by cases y⟩
    · rw [List.mem_singleton.mp z]
      exact ⟨hT', hTn, hTr, fun v y => by cases y⟩
  · intro Ng qg sg g cdg i a pn xe W p1 p2 pins2 σ2 H2 s2 I2 hob tk hr hN hv hd hcd
    obtain ⟨o1, o2⟩ := hob _ List.mem_cons_self
    obtain ⟨o3, o4⟩ := hob _ (List.mem_cons_of_mem _ List.mem_cons_self)
    rw [← hq]
    exact pe_actDM I2 L o1 o2 hfr o3 o4 hTr (hbind _ _ _ _ _ _ _ _) tk hr (fun A outer s H E hr2 => hbody A outer s H E f c' hr2) hN hv hd hcd
end
open PySem PySem.Spec PyProof.Rows L2 LamX L2H

/-- how an exception of the work is told, xs the further arguments -/
def WishM (K : PySem.W.Frag) (cn : Str → Option Addr) (h : Hd) (n : Nat) (f : Addr) (ws : List V) (xs : List D) (Q : VK) : XK := fun cls d H' => ∃ (F' : Hp) (g' : G) (x : Exn) (Qu : KU), Same F' H' ∧ Cells K F' H' g' ∧ ExOk K cn F' cls d x ∧ RpL K F' ws xs ∧
  (h.cat.lookup x.nm = some true ∧ ∀ f a dd, h.su a dd x (inI h.i (exnD a dd x) (startU n (.ref f :: xs))) g' (outI h.i (retP Qu))) ∧
  ∀ F2 H2 v u g2, Same F2 H2 → Cells K F2 H2 g2 → Stp g' F' H' g2 F2 H2 → UOk K ⟨F', H', g'⟩ F2 H2 g2 v u → NoBor u → Qu u g2 → Q v H2
/-- x(lambda: .., e, ..), x a def that calls what it got first in a try .. except, and gives False behind it -/
@[simp] def wCallLam (P : Addr) (h : Hd) (n np : Nat) (m : ME) (mx : MA) : ME := fun ρ g Q X => g P = some .tbl ∧ mx ρ g (fun xs g1 => xs.length = np ∧ m (ρ.map cleanU) g1 (fun _ g' => Q (.d (.bl false)) g') fun y g' => h.cat.lookup y.nm = some true ∧
  ∀ f a dd, h.su a dd y (inI h.i (exnD a dd y) (startU n (.ref f :: xs))) g' (outI h.i (retP Q))) X
section
variable {X : Cx} {cn : Str → Option Addr} {W : WX}
theorem re_callLam {P : Addr} {h : Hd} {m : ME} {mx : MA} {lam : Expr} {es : List Expr} {x a ex n : Str} {st : Stmt} {g : Addr} {fd : FuncData} {k jj kk : Nat} {Ng ps : List Str} {b0 : Stmt} {su : List Stmt} {p1 p2 p3 p4 p5 p6 p8 p np pos : Pos}
    (hstk : X.stack = X.env :: X.outer) (hfrm : X.env.frame = some X.env.locals) (mk : MkLam X P k (fun E => cE X.K cn (fun cls d _ H => E cls d H) m) lam)
    (Fw : Fun X.K x x st g fd) (hm : X.mg x = some (.ref g)) (hk : PySem.W.keepIn X.K (.ref g) = true) (hb : L2.Binds X.K fd (a :: ps) [])
    (hst : defBody st = [.Try [.Expr (.Call (.Name a p1) [] [] p2) p3] [.ExceptHandler (some (.Name ex np)) (some n) (b0 :: su) p6] [] [] p8, .Return (some (.Constant (.bool false) kk p4)) p5]) (Sg : FnScope Ng (a :: ps) (defScope st)) (hNg : Ng[0]? = some a) (hva : Vis (defScope st) a)
    (hi : h.i = some jj) (hNj : Ng[jj]? = some n) (hln : ∀ (cdg : Value) (l : Nat), (envOfC x (defScope st) l g cdg).kindOf n = some .local)
    (hc : ∀ (cdg : Value) (s : Shared) (H : Hp), ∃ c, Names (cxOf C8.CX0 X.prog X.w X.K X.mg X.base Ng x (defScope st) g cdg X.A X.stack s H C8.E0).nox ex c ∧ ∀ nm b, h.cat.lookup nm = some b → ∃ C, cn nm = some C ∧ PySem.W.exmOne X.K (.ref C) c = some b)
    (hsu : ∀ (cdg : Value) (s : Shared) (H : Hp), Room (k + 1) (X.A.deeper (envOfC x (defScope st) s.heap.objs.size g cdg)) → ∀ (a : Addr) (oe : Obj) (cls : Value) (d : Option Addr) (pn : List (Addr × Obj)) (dd : Addr) (e : Exn), Zc cls d oe → (∃ vs, oe.data = .fields vs) → ExN cn cls d dd e →
      Hot2 ((cxOf C8.CX0 X.prog X.w X.K X.mg X.base Ng x (defScope st) g cdg X.A X.stack s H C8.E0).nox.suite a ((a, oe) :: pn)).A (a, oe) ((a, oe) :: pn) → (∃ C, cn e.nm = some C) →
      PSs ((cxOf C8.CX0 X.prog X.w X.K X.mg X.base Ng x (defScope st) g cdg X.A X.stack s H C8.E0).nox.suite a ((a, oe) :: pn)) (b0 :: su) (cS X.K cn W0 (h.su a dd e)))
    (hr : Room (k + 2) X.A) (hg : Gl X x) (ha : PA X es (cA X.K cn W mx))
    (hdb : (x == ("__debug__" : Str)) = false := by decide) (hd : (a == ("__debug__" : Str)) = false := by decide) (hcd : (a == ("__classdict__" : Str)) = false := by decide)
    (he : starEach (lam :: es) X.env = (false, eval lam X.env) :: starEach es X.env := by rfl) (hpl : (backTo pos (starEach es X.env)).any (·.1) = false := by rfl) :
    PE X (.Call (.Name x p) (lam :: es) [] pos) (cE X.K cn W (wCallLam P h Ng.length ps.length m mx)) := by
  constructor
  intro pins s σ H Q I hh
  obtain ⟨E, F, ρ, g0, Qu, Qx, S, ⟨hP, hmx⟩, hk', hx⟩ := hh
  refine wpAny_Call_Name_kw (ld_glob I hg hm (PySem.W.callWith_K (h₀ := X.base) I.ok.mod.kin hk ?_ he hpl) hdb)
  rw [he]
  show wpAny _ _ (spliced ((false, eval lam X.env) :: backTo pos (starEach es X.env))) _ _ s
  refine Calls.spliced_cons (mk pins s σ H _ _ I (lam_tab S hP) fun f c' H1 s' ob I1 stp hdj hco hob act => ?_)
  obtain ⟨p0, s1, c1⟩ := lam_stp S hP stp
  have S1 := S.stp p0 s1 c1
  have hF : froz F H H1 c' = some (CodeO c' lamQ) := by
    rcases hdj with ⟨q, qs, h1, h2⟩ | h1
    · obtain ⟨⟨ps', q1, q2, q3⟩, _⟩ := S.cell P _ hP
      rw [h1] at q1
      cases q1
      obtain ⟨c2, e, q4⟩ := q3 q _ h2
      cases e
      rw [froz_some (S.ext _ _ q4)]
      exact q4
    · rw [froz_none h1]
      exact hco
  have off : ∀ b, b ∉ frs X.stack → b ≠ X.env.locals ∧ b ∉ X.fs := fun b nb => by
    rw [hstk] at nb
    refine ⟨fun z => nb (List.mem_filterMap.mpr ⟨X.env, List.mem_cons_self, by rw [hfrm, z]⟩), fun hm => ?_⟩
    obtain ⟨e2, he2, q2⟩ := List.mem_filterMap.mp hm
    exact nb (List.mem_filterMap.mpr ⟨e2, List.mem_cons_of_mem _ he2, q2⟩)
  have I1p : Inv X (ob ++ pins) σ H1 s' := I1.pins_of fun q hq => by
    rcases List.mem_append.mp hq with z | z
    · obtain ⟨y1, y2, y3, y4⟩ := hob q z
      exact ⟨y1, y2, (off _ y3).1, (off _ y3).2, y4⟩
    · exact I1.pin q (List.mem_append_right _ z)
  refine thn (ha.run pos (ob ++ pins) s' σ H1 (fun ws H2 => ∃ (F2 : Hp) (g2 : G) (xs : List D), Stt X.K E F2 H2 σ ρ g2 ∧ Stp g0 (froz F H H1) H1 g2 F2 H2 ∧ RpL X.K F2 ws xs ∧ xs.length = ps.length ∧ m (ρ.map cleanU) g2 (fun _ g' => Qu (.d (.bl false)) g') fun y g' => h.cat.lookup y.nm = some true ∧
    ∀ f a dd, h.su a dd y (inI h.i (exnD a dd y) (startU Ng.length (.ref f :: xs))) g' (outI h.i (retP Qu))) I1p ⟨E, froz F H H1, ρ, g0, _, Qx, S1, hmx, fun F2 H2 ws xs g2 S2 p2 r2 q2 => ⟨F2, g2, xs, S2, p2, r2, q2.1, q2.2⟩, hx⟩) fun us s2 hh2 => ?_
  obtain ⟨ws, H2, I2p, rws, F2, g2, xs, S2, st2, r2, hlen, h4⟩ := hh2
  have I2 : Inv X pins σ H2 s2 := I2p.pins_of fun q hq => I2p.pin q (List.mem_append_right _ (List.mem_append_right _ hq))
  have hob2 : ∀ q ∈ ob, s2.heap.get? q.1 = some q.2 ∧ H2 q.1 = none := fun q hq => by
    have z := I2p.pin q (List.mem_append_right _ (List.mem_append_left _ hq))
    exact ⟨z.1, z.2.1⟩
  have hco2 : H2 c' = some (CodeO c' lamQ) := S2.ext _ _ (st2.ext _ _ hF)
  refine ⟨I2.kIn, ?_⟩
  obtain ⟨oc, od, kV, doc, pm, an, cdv, ct, osl, rfl, lk, hcg⟩ := Fw.ex
  rw [hst] at lk hb
  have wl : ws.length = ps.length := r2.len.trans hlen
  have rc : codeAny (model X.prog X.w) X.A (.call (.ref g) ⟨.ref f :: us, []⟩) (CR C8.CX0 X.stack X.prog X.w H2 s2 Q C8.E0) s2 := by
    refine run_ofS (N := Ng) (ps := a :: ps) (us := .ref f :: us) (vs := .ref f :: ws) lk hcg Sg hr I2.env0 ?_ (.cons rfl rws) (by rw [List.length_cons, List.length_cons, wl]) fun hr' => ?_
    · have b := hb s2 (.ref f :: us) I2.kIn (by rw [List.append_nil, List.length_cons, List.length_cons, ← rws.length, wl])
      rw [List.append_nil] at b
      exact b
    obtain ⟨c, hnm, hs⟩ := hc cdv s2 H2
    have noW : TakesM (cxOf C8.CX0 X.prog X.w X.K X.mg X.base Ng x (defScope st) g cdv X.A X.stack s2 H2 C8.E0).nox W0 := fun _ _ x => by
      obtain ⟨_, _, _, _, _, _, _, _, _, _, _, _, _, _, _, _, z⟩ := x
      exact z.elim
    have T := ps_tryM (X := (cxOf C8.CX0 X.prog X.w X.K X.mg X.base Ng x (defScope st) g cdv X.A X.stack s2 H2 C8.E0).nox) (pos := p8) (pos' := p6) (np := np) (b0 := b0) (su := su) (Wo := W0) rfl rfl rfl Sg.nd hNj (hln cdv _) hnm noW
      (tb := fun W' D σZ HZ => σZ[0]? = some (some (V.ref f)) ∧ HZ c' = some (CodeO c' lamQ) ∧ ∃ Ech : XK, (∀ cls d H', Ech cls d H' → W' cls d σZ H') ∧ cE X.K cn (fun cls d _ H => Ech cls d H) m σ HZ fun _ H' => D.nx σZ H')
      (ts := fun a cls d D σ H => ∃ p : Addr × Exn, (ExN cn cls d p.1 p.2 ∧ ∃ C, cn p.2.nm = some C) ∧ cS X.K cn W0 (h.su a p.1 p.2) D σ H)
      (fun W' pn xe tk _ => pss_one (ps_wk (ps_expr (pos := p3) (act (i := 0) (p1 := p1) (p2 := p2) I2 hob2 tk hr' hNg hva hd hcd)) fun D σ H hh => hh))
      fun a oe cls d pn z fz hot => pss_ex fun p hp => hsu cdv s2 H2 hr' a oe cls d pn p.1 p.2 z fz hp.1 hot hp.2
    refine ⟨_, (pss_cons T (pss_one (ps_ret (pe_bl (b := false))))).nox, ?_⟩
    refine ⟨by unfold L2.start; rfl, hco2, WishM X.K cn h Ng.length f ws xs Q, fun cls d H' he => ?_, ⟨F2, H2, g2⟩, F2, _, g2, _, _, S2.anew, h4, fun F3 H3 v u g3 S3 p3' o3 f3 q3 => ?_, fun F' H' cls d y g' S' ok q => ?_⟩
    · obtain ⟨F', g', y, Qw, s1', c1', ok, rx, ⟨hl, hy⟩, hkk⟩ := he
      obtain ⟨C1, hc1, hex⟩ := hs _ _ hl
      have hcl := (ok C1 hc1).1
      refine ⟨true, by rw [hcl]; exact hex, fun _ a ha => ?_, fun z => nomatch z⟩
      obtain ⟨dd, hxn, rp⟩ := exn_rp (a := a) hc1 ok
      have S' : Stt X.K ⟨F', H', g'⟩ F' H' (L2.start Ng (.ref f :: ws)) (startU Ng.length (.ref f :: xs)) g' := stt_start s1' c1' (.cons (.ref f) rx)
      refine ⟨(dd, y), ⟨hxn, C1, hc1⟩, ⟨F', H', g'⟩, F', inI h.i (exnD a dd y) (startU Ng.length (.ref f :: xs)), g', outI h.i (retP Qw), ?_, hy f a dd, ?_⟩
      · rw [hi]
        exact S'.setD jj rp
      · rw [hi]
        refine out_conn (W := W0) (i := some jj) ⟨fun _ _ _ _ _ _ z => z.elim, fun _ _ _ _ _ _ z => z.elim, fun _ _ _ _ _ _ z => z.elim, fun F2 H2 σ2 ρ2 g2 v u S2 o nb qv => ?_, fun _ _ _ _ _ _ _ _ _ _ z => z.elim⟩
        exact hkk F2 H2 v u g2 S2.ext S2.cell (S2.out (SubG.refl g2)) o nb qv
    · exact hk' F3 H3 (.bl false) (.d (.bl false)) g3 (S2.stp p3' S3.ext S3.cell) ((p0.trans st2).trans p3') (Rp.bl false) trivial q3
    · have p' : Stp g2 F2 H2 g' F' H' := S'.out (SubG.refl g')
      refine ⟨F', g', y, Qu, S'.ext, S'.cell, ok, r2.mono S'.ext0, q, fun F3 H3 v u g3 e3 c3 p3' o3 nb qv => ?_⟩
      have pp := p'.trans p3'
      exact hk' F3 H3 v u g3 (S2.stp pp e3 c3) ((p0.trans st2).trans pp) (uok_from o3 fun b hb => S2.trk b (p'.trk b hb)) ((fresh_from o3).back ((p0.trans st2).trans p')) qv
  refine wpAny_call (codeAny_mono rc fun r s3 hq => ?_)
  cases r with
  | error e => exact False.elim hq
  | ok fl =>
    cases fl with
    | ret u => exact I2.after hq
    | next => exact False.elim hq
    | brk => exact False.elim hq
    | cont => exact False.elim hq
end
open PySem PySem.Spec PyProof.Rows L2 L2H

/-! ### _law_is and _law_like called while an exception with a context is handled -/
/-- what the suite asks of _law_is -/
def spIs (R : List Str) (a dd : Addr) (x : Exn) : SpU := fun xs g Q _ => ∃ w : Str, xs = [exnD a dd x, .str w] ∧ x.nm ∈ R ∧ PyData.strOk w = true ∧ Q (.d (.bl (isB x.nm w))) g
section
variable {X : Cx} {cn : Str → Option Addr} {W : WX} {pos : Pos} {e : Expr} {es : List Expr}
theorem re_isQ {p : Addr × Obj} {dd : Addr} {x : Exn} {k : Nat} {R : List Str} {mx : MA} {q : Pos} (C : ClHq X.prog X.w X.K X.mg X.base cn k "_law_is" (sp_law_is cn R)) (hr : RoomH k X.A) (hot : Hot2 X.A p X.pn) (hpn : ∃ qs, X.pn = p :: qs) (hE : HotE cn p dd x) (hg : Gl X "_law_is") (ha : PA X (e :: es) (cA X.K cn W mx))
    (he : starEach (e :: es) X.env = (false, eval e X.env) :: starEach es X.env := by rfl) (hpl : (backTo pos (starEach es X.env)).any (·.1) = false := by rfl) :
    PE X (.Call (.Name "_law_is" q) (e :: es) [] pos) (cE X.K cn W (wCall (spIs R p.1 dd x) mx)) :=
  re_callHq C (fun xs g Q X h => by
    obtain ⟨w, rfl, hR, hw, hq⟩ := h
    exact ⟨dd, x, w, rfl, hE, hR, hw, hq⟩) hr hot hpn hg ha (by decide) he hpl
theorem re_callQ {p : Addr × Obj} {k : Nat} {sp : SpU} {x : Str} {q : Pos} {mx : MA} (C : ClHq X.prog X.w X.K X.mg X.base cn k x fun _ => sp) (nx : ∀ xs g Q X, sp xs g Q X → sp xs g Q noX) (hr : RoomH k X.A) (hot : Hot2 X.A p X.pn) (hpn : ∃ qs, X.pn = p :: qs) (hg : Gl X x) (ha : PA X (e :: es) (cA X.K cn W mx))
    (hdb : (x == ("__debug__" : Str)) = false := by decide) (he : starEach (e :: es) X.env = (false, eval e X.env) :: starEach es X.env := by rfl) (hpl : (backTo pos (starEach es X.env)).any (·.1) = false := by rfl) :
    PE X (.Call (.Name x q) (e :: es) [] pos) (cE X.K cn W (wCall sp mx)) := re_callHq C nx hr hot hpn hg ha hdb he hpl
end
open PySem PySem.Spec PyProof.Rows L2 L2H HotX

/-! ### for over range while an exception with a context is handled -/
section
variable {prog : Program} {w : World} {A : Around} {E : Value → Shared → Prop} {s : Shared}
theorem range_end2 {it x1 : Addr} {x left step : Int} {Q : Option Value → Shared → Prop} (hot : HotAt2 A x1 s.heap) (hit : IsRangeIter s.heap it x left step) (hleft : left ≤ 0)
    (hQ : ∀ h', (∀ b o, s.heap.get? b = some o → h'.get? b = some o) → Q none { s with heap := h' }) : wpAny (model prog w) A (pyNext (.ref it)) Q E s := by
  have hT : s.TypeIs (.ref it) "range_iterator" := ⟨_, hit, rfl⟩
  obtain ⟨hh, o1, vs1, h1, d1, c1⟩ := hot
  unfold pyNext
  refine wpAny_bind (wpAny_attempt (wpAny_callSpecial?_slot (name := Str.ofString "__next__") hT F.slot_range_iterator_next
    (wpAny_call_entry F.slot_range_iterator_next hT F.entry_range_iterator_next ?_ (F.args_range_iterator_next_1 _))))
  show wpAny _ _ (field (.ref it) 0 >>= _) _ _ s
  refine wpAny_bind (wpAny_field hit rfl (x := rawInt x) rfl ?_)
  show wpAny _ _ (field (.ref it) 1 >>= _) _ _ s
  refine wpAny_bind (wpAny_field hit rfl (x := rawInt left) rfl ?_)
  show wpAny _ _ (field (.ref it) 2 >>= _) _ _ s
  refine wpAny_bind (wpAny_field hit rfl (x := rawInt step) rfl ?_)
  show wpAny _ _ (if left ≤ 0 then _ else _) _ _ s
  rw [if_pos hleft]
  refine wpAny_bind (wpAny_rule ?_)
  refine wpAny_bind ?_
  show wpAny _ _ (newExc (.type "StopIteration") [] >>= _) _ _ _
  refine wpAny_bind ?_
  simp only [newExc, newTuple]
  refine wpAny_bind (wpAny_newObj_type ?_ (by size_fits))
  refine wpAny_bind (m := firstArgMember _ _) (wpAny_of_eq (a := Value.none) (by first | rfl | (simp only [firstArgMember]; rfl)) ?_)
  refine wpAny_newObj_type ?_ (by size_fits)
  refine raiseNew_hot2 ⟨hh, o1, vs1, Heap.get?_push_of_some _ (Heap.get?_push_of_some _ h1), d1, c1.imp id fun ⟨c, oc, vc, z1, z2, z3, z4⟩ => ⟨c, oc, vc, z1, Heap.get?_push_of_some _ (Heap.get?_push_of_some _ z2), z3, z4⟩⟩ (Nat.ne_of_lt (Heap.lt_size (Heap.get?_push_of_some _ h1))) (fun o v c z1 z2 z3 => ?_) (Heap.get?_push_size _ rfl) rfl (by first | (simp; done) | (simp; omega) | (simp only [Array.size_append]; simp; omega)) ?_
  · rw [Heap.get?_push_of_some _ (Heap.get?_push_of_some _ h1)] at z1
    cases z1
    rw [d1] at z2
    cases z2
    rcases c1 with y | ⟨c', oc, vc, y1, y2, _, _⟩
    · rw [z3] at y
      cases y
    · rw [z3] at y1
      cases y1
      exact Nat.ne_of_lt (Heap.lt_size (Heap.get?_push_of_some _ y2))
  refine wpAny_bind (wpAny_isInstance (T := "StopIteration") (b := true) ⟨_, Heap.get?_update_self _ (Heap.get?_push_size _ rfl) rfl, rfl⟩ isSubtype_stop ?_)
  refine wpAny_pure (hQ _ fun b o e => ?_)
  rw [Heap.get?_update_other _ _ (Nat.ne_of_gt (Heap.lt_size (Heap.get?_push_of_some _ e)))]
  exact Heap.get?_push_of_some _ (Heap.get?_push_of_some _ e)
end
theorem turnQ_range {P : Program} {w : World} {K : PySem.W.Frag} {tg : Expr} (it : Addr) (lo : Int) (n : Nat) : TurnQ P w K tg (Itr lo n) [it] it (fun i h => IsRangeIter h it (lo + (i : Nat) * 1) ((n : Int) - (i : Nat)) 1) where
  obj := (turn_rangeH (P := P) (w := w) (K := K) (tg := tg) it lo n).obj
  keep := (turn_rangeH (P := P) (w := w) (K := K) (tg := tg) it lo n).keep
  self := (turn_rangeH (P := P) (w := w) (K := K) (tg := tg) it lo n).self
  item := by
    intro X hP hw hK i pins s σ H E I hf st hg
    subst hP hw hK
    obtain ⟨f0, f1, f2, f3, f4, f5⟩ := hf it (by simp)
    have hlt : i < n := hg
    refine wpAny_pyNext_range_item st (by omega) fun h' st' sb => ?_
    have st2 : IsRangeIter h' it (lo + ((i + 1 : Nat) : Int) * 1) ((n : Int) - ((i + 1 : Nat) : Int)) 1 := by
      have e1 : lo + ((i : Nat) : Int) * 1 + 1 = lo + ((i + 1 : Nat) : Int) * 1 := by omega
      have e2 : (n : Int) - ((i : Nat) : Int) - 1 = (n : Int) - ((i + 1 : Nat) : Int) := by omega
      rw [← e1, ← e2]
      exact st'
    have I1 : Inv X pins σ H { s with heap := h', toks := s.toks + 1 } := I.turned (fun b o hb e => (sb.2 b hb).trans e) f0 f1 f3 f4 f5
    refine ⟨_, rfl, go_of (s := { s with heap := h', toks := s.toks + 1 }) (n := "range_iterator") st2 rfl rfl (by decide) ⟨.int (lo + i), H, I1, ⟨s.toks, ?_⟩, ⟨rfl, rfl⟩, st2, fun b hb => (hf b hb).1⟩⟩
    rw [Int.mul_one]
  done := by
    intro X hP hw hK hc i pins s σ H E I hf st hg
    subst hP hw hK
    obtain ⟨f0, f1, f2, f3, f4, f5⟩ := hf it (by simp)
    obtain ⟨q, hot⟩ := hc
    exact range_end2 (hot.at I) st (by have : n ≤ i := hg; omega) fun h' eb => ⟨rfl, I.turned (t' := s.toks) (fun b o _ e => eb b o e) f0 f1 f3 f4 f5⟩
section
variable {X : Cx} {K : PySem.W.Frag} {cn : Str → Option Addr} {W : WX} {tg : Expr} {a e : Expr} {es : List Expr} {pos : Pos}
theorem range_itQ {pins : List (Addr × Obj)} {σ : L2.St} {H : Hp} {s : Shared} {R : It → Hp → Prop} {E : Value → Shared → Prop} {lo hi : Int} {t u v : Tok} {tk : Nat} (I : Inv X pins σ H s) (h1 : -(2 ^ 62) ≤ lo) (h2 : lo < 2 ^ 62) (h3 : -(2 ^ 62) ≤ hi) (h4 : hi < 2 ^ 62)
    (q : R (Itr lo (hi - lo).toNat) H) : wpAny (model X.prog X.w) X.A (pyIter (.ref s.heap.objs.size)) (fun itv s2 => ∃ (it : Addr) (fp : List Addr) (tn : Nat → Heap → Prop) (J : It) (H' : Hp), itv = .ref it ∧ Inv X pins σ H' s2 ∧ TurnQ X.prog X.w X.K tg J fp it tn ∧ tn 0 s2.heap ∧ (∀ b ∈ fp, FpOk X pins H' b) ∧ R J H') E { s with heap := s.heap.push { cls := .type "range", data := .fields #[.int lo t, .int hi u, .int 1 v] }, toks := tk } := by
  refine wpAny_pyIter_range (IsRange.new ..) (small_one h1 h2 h3 h4) ?_
  have I1 : Inv X pins σ H { s with heap := s.heap.push { cls := .type "range", data := .fields #[.int lo t, .int hi u, .int 1 v] }, toks := tk } := I.kept fun b o e => Heap.get?_push_of_some _ e
  refine ⟨(s.heap.push { cls := .type "range", data := .fields #[.int lo t, .int hi u, .int 1 v] }).objs.size, [(s.heap.push { cls := .type "range", data := .fields #[.int lo t, .int hi u, .int 1 v] }).objs.size], _, _, H, rfl,
    I1.kept (t' := tk) fun b o e => Heap.get?_push_of_some _ e, turnQ_range _ lo (hi - lo).toNat, ?_, fun b hb => ?_, q⟩
  · have e1 : lo + ((0 : Nat) : Int) * 1 = lo := by simp
    have e2 : (((hi - lo).toNat : Nat) : Int) - ((0 : Nat) : Int) = Builtin.Range.rangeSize lo hi 1 := by rw [rangeSize_one]; split <;> omega
    show IsRangeIter _ _ (lo + ((0 : Nat) : Int) * 1) ((((hi - lo).toNat : Nat) : Int) - ((0 : Nat) : Int)) 1
    rw [e1, e2]
    exact Heap.get?_push_size _ rfl
  · have e : b = (s.heap.push { cls := .type "range", data := .fields #[.int lo t, .int hi u, .int 1 v] }).objs.size := by simpa using hb
    subst e
    exact I1.fpOk (Nat.le_refl _) (I1.hok.fresh (Nat.le_refl _))
theorem piq_range1 {ta : TA} {p : Pos} (hg : Gl X "range") (hm : X.mg "range" = none) (ha : PA X [a] ta) (hs : starEach [a] X.env = [(false, eval a X.env)] := by rfl) : PIQ X tg (.Call (.Name "range" p) [a] [] pos) (iRng1 ta) := by
  intro pins s σ H R I h
  refine Call_ (ld_blt I hg hm boot_range (PyProof.Rows.callWith_type1 (thn (ha.run pos pins s σ H _ I h) fun us s1 ⟨vs, H1, I1, r1, q1⟩ => ?_) hs rfl))
  obtain ⟨j, e, q1, q2, q⟩ := q1
  subst e
  cases r1 with
  | cons r rr =>
    cases rr
    obtain ⟨t, rfl⟩ := r
    exact call_range_1 (range_itQ I1 (by omega) (by omega) q1 q2 (by simpa using q))
theorem riq_r1 {p : Pos} {mr : MA} (hg : Gl X "range") (hm : X.mg "range" = none) (ha : PA X [a] (cA X.K cn W mr)) (hs : starEach [a] X.env = [(false, eval a X.env)] := by rfl) : PIQ X tg (.Call (.Name "range" p) [a] [] pos) (cI X.K cn W (wR1 mr)) :=
  piq_wk (piq_range1 hg hm ha hs) fun σ H R h => by
    obtain ⟨E, F, ρ, g, Qu, Qx, S, hm, hk, hx⟩ := h
    refine ⟨E, F, ρ, g, _, Qx, S, hm, fun F1 H1 vs xs g1 S1 p1 r1 q1 => ?_, hx⟩
    dsimp only at q1
    split at q1
    · cases r1 with
      | cons h1 t =>
        cases t
        rw [rp_int h1]
        exact ⟨_, rfl, q1.1.1, q1.1.2, hk F1 H1 _ _ g1 S1 p1 itok_r q1.2⟩
    · exact q1.elim
theorem ps_forQ {iter : Expr} {body : List Stmt} {wi : TI} {g : TG} {tb : TS} (hp : PassesOwn (model X.prog X.w) X.A X.env X.xe) (hc : HotC2 X) (hi : PIQ X tg iter wi) (hg : PG X tg g) (hb : PSs X body tb)
    (hs : ∀ x, foldedSetIterable iter X.env x = pure x := by intro _; rfl) : PS X (.For tg iter body [] pos) (tFor wi g tb) := by
  refine ⟨fun pins s σ H D I h => ?_⟩
  refine wpAny_For (thn (hi pins s σ H _ I h) fun v s1 h1 => thn h1 fun itv s2 h2 => ?_) hs
  obtain ⟨it, fp, tn, J, H2, e, I2, T, st2, f2, W, ⟨m0, w0⟩, turn⟩ := h2
  subst e
  have stat : ∀ {H' : Hp}, (∀ b ∈ fp, H' b = none) → ∀ b ∈ fp, FpOk X pins H' b := fun hn b hb => ⟨hn b hb, (f2 b hb).2⟩
  refine codeAny_forLoop_any (fun n s' => ∃ i σ' H', Inv X pins σ' H' s' ∧ tn i s'.heap ∧ (∀ b ∈ fp, H' b = none) ∧ W i n σ' H') ?_ m0 ⟨0, σ, H2, I2, st2, fun b hb => (f2 b hb).1, w0⟩
  rintro n s3 ⟨i, σ3, H3, I3, st3, fr3, w3⟩
  rcases turn i n σ3 H3 w3 with ⟨stop, qn⟩ | ⟨go, N, hN, step⟩
  · refine wpAny_passesOwn hp (thn (T.done X rfl rfl rfl hc i pins s3 σ3 H3 X.xe I3 (stat fr3) st3 stop) fun r s4 ⟨hr, I4⟩ => ?_)
    subst hr
    exact wpAny_execs_nil ⟨σ3, H3, I4, qn⟩
  · refine wpAny_passesOwn hp (thn (T.item X rfl rfl rfl i pins s3 σ3 H3 X.xe I3 (stat fr3) st3 go) fun r s4 ⟨u, hr, h4⟩ => ?_)
    subst hr
    refine wpAny_passesOwn hp (thn h4 fun _ s5 ⟨x, H5, I5, r5, y5, st5, fr5⟩ => ?_)
    have I5' := I5.pinned (stat fr5) (T.obj _ _ st5)
    refine wpAny_passesOwn hp (thn (hg.run _ s5 σ3 H5 x u _ I5' r5 (step x H5 y5)) fun _ s6 ⟨σ6, H6, I6, q6⟩ => ?_)
    refine wpAny_passesOwn hp (thn (hb.run _ s6 σ6 H6 _ I6 q6) fun f s7 q7 => ?_)
    have again : ∀ {σ7 : L2.St} {H7 : Hp}, Inv X (pins ++ pinsAt fp s5.heap) σ7 H7 s7 → N σ7 H7 → ∃ m, m < n ∧ ∃ i σ' H', Inv X pins σ' H' s7 ∧ tn i s7.heap ∧ (∀ b ∈ fp, H' b = none) ∧ W i m σ' H' := fun {σ7 H7} I7 n7 => by
      obtain ⟨m', hm, w7⟩ := hN σ7 H7 n7
      refine ⟨m', hm, i + 1, σ7, H7, I7.unpinned, T.keep _ _ _ st5 fun b hb o e => (I7.pin (b, o) (List.mem_append_right _ (List.mem_append_right _ (mem_pinsAt hb e)))).1, fun b hb => ?_, w7⟩
      obtain ⟨o, e, d⟩ := T.obj _ _ st5 b hb
      exact (I7.pin (b, o) (List.mem_append_right _ (List.mem_append_right _ (mem_pinsAt hb e)))).2.1
    cases f with
    | next => obtain ⟨σ7, H7, I7, n7⟩ := q7; exact again I7 n7
    | cont => obtain ⟨σ7, H7, I7, n7⟩ := q7; exact again I7 n7
    | brk => obtain ⟨σ7, H7, I7, q7⟩ := q7; exact ⟨σ7, H7, I7.unpinned, q7⟩
    | ret v => obtain ⟨x7, σ7, H7, I7, r7, q7⟩ := q7; exact ⟨x7, σ7, H7, I7.unpinned, r7, q7⟩
theorem rs_forQ {iter : Expr} {body : List Stmt} {mi : MI} {t : TG} {mg : MG} {is : List Nat} {ms : MS} (hp : PassesOwn (model X.prog X.w) X.A X.env X.xe) (hc : HotC2 X) (hi : PIQ X tg iter (cI X.K cn W mi)) (hg : PG X tg t) (to : TgOk X.K is t mg) (hb : PSs X body (cS X.K cn W ms))
    (hs : ∀ x, foldedSetIterable iter X.env x = pure x := by intro _; rfl) : PS X (.For tg iter body [] pos) (cS X.K cn W (wFor mi mg ms)) := ps_wk (ps_forQ hp hc hi hg hb hs) (for_ok to)
end
open PySem PySem.Spec PyProof.Rows L2 L2H

section
variable {X : Cx}
theorem hx_0M : ∀ σ, PassesAt (CXM X.prog X.w) X σ (WE W0 σ) := fun σ pins H s e s' I c => by
  obtain ⟨_, _, _, _, _, _, _, _, _, _, _, _, z⟩ := c
  exact z.elim
end
theorem FnHq.no {P : Program} {w : World} {K : PySem.W.Frag} {cn : Str → Option Addr} {mg : Str → Option Value} {base : Heap} {k : Nat} {f : Addr} {fd : FuncData} {ps : List Str} : FnHq P w K mg base CX0 k f fd ps (fun _ => LSp0 K cn fun _ _ _ _ => False) :=
  ⟨fun p vs H Q E h => by obtain ⟨_, _, _, _, _, _, _, _, q, _⟩ := h; exact q.elim, fun A outer s H args us vs Q E p qs _ _ _ _ _ _ _ h => by obtain ⟨_, _, _, _, _, _, _, _, q, _⟩ := h; exact q.elim⟩
open PySem PySem.Spec PyProof.Rows L2 LamX

/-! ### the end of a law that makes lambdas and divides by numbers of any size -/
theorem Hide.seer2 {t : Heap} {H : Hp} (only : ∀ b, H b ≠ none → ∃ o, t.get? b = some o ∧ (∀ es ep, o.data ≠ .dict es ep) ∧ o.cls ≠ .type "module") (n : t.NoSeer) : (hidT t H).NoSeer := by
  have free : ∀ {b : Addr} {o : Obj}, t.get? b = some o → ((∃ es ep, o.data = .dict es ep) ∨ o.cls = .type "module") → H b = none := fun {b o} e d => by
    cases q : H b with
    | none => rfl
    | some u =>
      obtain ⟨o', e', n1, n2⟩ := only b (by rw [q]; simp)
      rw [e] at e'
      cases e'
      rcases d with ⟨es, ep, d⟩ | d
      · exact absurd d (n1 es ep)
      · exact absurd d n2
  have up : ∀ {b : Addr} {m : Str → Option Value}, t.Ns b m → (hidT t H).Ns b m := fun {b m} ⟨o, es, ep, e, d, r⟩ => ⟨o, es, ep, hidT_get e (free e (.inl ⟨es, ep, d⟩)), d, r⟩
  refine ⟨let ⟨mc, x, y⟩ := n.statics; ⟨mc, up x, y⟩, let ⟨mm, x, y⟩ := n.mods; ⟨mm, up x, y⟩, let ⟨mc, x, y⟩ := n.imp; ⟨mc, up x, y⟩, ?_⟩
  obtain ⟨mg', bm, ob, x1, x2, x3, x4, x5⟩ := n.main
  exact ⟨mg', bm, ob, up x1, x2, hidT_get x3 (free x3 (.inr x4)), x4, x5⟩
section
variable {Pr : Program} {w : World} {K : PySem.W.Frag} {mg mb : Str → Option Value}
theorem law_callTN {k : Nat} {fa a c P : Addr} {fd : FuncData} {x : Str} {sp : Sp} {t : Shared} {us : List Value} {ns : List Int}
    (kin : K.In t.heap) (n1 : t.heap.Ns mainGlobals mg) (n2 : t.heap.Ns builtinsNs mb) (n3 : ∀ x : Str, x ≠ "__name__" → mb x = bootBuiltins x) (n4 : t.heap.NoLimit) (n5 : t.heap.NoSeer) (gens : t.gens = #[])
    (tab : t.heap.get? P = some { cls := .none, data := .fields #[] }) (nP : K.lookup P = none) (hd : PySem.W.CodeHd t.heap c P)
    (mn : ∃ (bm : Addr) (ob : Obj), mg "__builtins__" = some (.ref bm) ∧ bm ≠ builtinsNs ∧ t.heap.get? bm = some ob ∧ ob.cls = .type "module" ∧ ob.dict = some builtinsNs ∧ ob.data = .plain)
    (ha : t.heap.get? a = some { cls := .type "list", data := .seq us.toArray }) (ia : IntsAre us ns) (hl : ns.length ≤ sizeLine) (hr : Room k callerA)
    (F : ∀ base : Heap, K.In base → base.Ns mainGlobals mg → base.NoSeer → TabB base mg c P → FnOk Pr w K mg base CX0 k fa fd [x] sp) (bind : ∀ (s : Shared) (u : Value), BindsTo s fd ⟨[u], []⟩ [(x, u)])
    (spec : ∀ H : Hp, H P = some (.tbl #[]) → SqL K H a (ns.map V.int) → sp [.ref a] H (fun v _ => v = .bl true) fun _ _ _ => False) :
    codeAny (model Pr w) callerA (.call (.ref fa) ⟨[.ref a], []⟩) (fun r s' => r = .ok (.ret (.bool true)) ∧ OldK t.heap s'.heap ∧ s'.os = t.os ∧ AllBare s'.gens) t := by
  have rv := vals_ints ia
  have lv := ia.length
  have aP : a ≠ P := fun z => by
    rw [z, tab] at ha
    have y := congrArg Obj.data (Option.some.inj ha)
    cases y
  have main : ∀ H : Hp, H P = some (.tbl #[]) → (∀ b, H b = none ∨ b = P ∨ ∃ o xs, H b = some (.frz o (.lst xs))) → SqL K H a (ns.map V.int) → HOk Pr w H t.heap → (∀ b, H b ≠ none → b = a ∨ b = P) → (H a ≠ none → K.lookup a = none) →
      codeAny (model Pr w) callerA (.call (.ref fa) ⟨[.ref a], []⟩) (fun r s' => r = .ok (.ret (.bool true)) ∧ OldK t.heap s'.heap ∧ s'.os = t.os ∧ AllBare s'.gens) t := by
    intro H hP hO hS hok only hK
    have away : ∀ {b : Addr} {o : Obj}, t.heap.get? b = some o → (∀ ys n, o.data ≠ .seq ys n) → o.data ≠ .fields #[] → H b = none := fun {b o} e d1 d2 => by
      cases q : H b with
      | none => rfl
      | some u =>
        rcases only b (by rw [q]; simp) with z | z
        · subst z
          rw [ha] at e
          cases e
          exact absurd rfl (d1 us.toArray _)
        · subst z
          rw [tab] at e
          cases e
          exact absurd rfl d2
    have up : ∀ {b : Addr} {o : Obj}, t.heap.get? b = some o → (∀ ys n, o.data ≠ .seq ys n) → o.data ≠ .fields #[] → (hidT t.heap H).get? b = some o := fun e d1 d2 => hidT_get e (away e d1 d2)
    have ns' : ∀ {b : Addr} {m : Str → Option Value}, t.heap.Ns b m → (hidT t.heap H).Ns b m := fun {b m} ⟨o, es, ep, e, d, r⟩ => ⟨o, es, ep, up e (fun ys n z => by rw [d] at z; cases z) (fun z => by rw [d] at z; cases z), d, r⟩
    have kin' : K.In (hidT t.heap H) := fun b o e => hidT_get (kin b o e) (by
      cases q : H b with
      | none => rfl
      | some u =>
        rcases only b (by rw [q]; simp) with z | z
        · subst z
          rw [hK (by rw [q]; simp)] at e
          cases e
        · subst z
          rw [nP] at e
          cases e)
    have md : Mod K mg (hidT t.heap H) := ⟨kin', ns' n1, ⟨mb, ns' n2, n3⟩, let ⟨mc, h1, h2⟩ := n4; ⟨mc, ns' h1, h2⟩⟩
    have tb : TabB (hidT t.heap H) mg c P := by
      obtain ⟨o, u1, file, tf, flags, tg, inF, text, tt, e1, r1, r2, r3, r4, r5, r6, r7, r8, hne⟩ := hd
      obtain ⟨bm, ob, b1, b2, b3, b4, b5, b6⟩ := mn
      obtain ⟨og, eg, pg, g1, g2, g3⟩ := n1
      refine ⟨⟨o, u1, file, tf, flags, tg, inF, text, tt, up e1 (fun ys n z => by rw [r2] at z; cases z) (fun z => by rw [r2] at z; cases z; simp at r3), r1, r2, r3, r4, r5, r6, r7, r8, hne⟩, ⟨bm, ob, b1, b2, fun z => ?_, fun z => ?_, up b3 (fun ys n z => by rw [b6] at z; cases z) (fun z => by rw [b6] at z; cases z), b4, b5, b6⟩, fun z => ?_⟩
      · rw [z, g1] at b3
        cases b3
        rw [g2] at b6
        cases b6
      · rw [z, tab] at b3
        cases b3
        cases b6
      · rw [z, tab] at g1
        cases g1
        cases g2
    have seer : (hidT t.heap H).NoSeer := Hide.seer2 (fun b hb => by
      rcases only b hb with z | z
      · refine ⟨_, by rw [z]; exact ha, fun es ep y => (by cases y), fun y => ?_⟩
        have y' : Value.type "list" = Value.type "module" := y
        injection y' with y'
        exact absurd y' (by decide)
      · exact ⟨_, by rw [z]; exact tab, fun es ep y => (by cases y), fun y => (by cases y)⟩) n5
    have en : Env0 Pr w K mg (hidT t.heap H) callerA [] t H := ⟨rfl, md, fun b o e => of_hidT e, Nat.le_of_eq (hidT_size _ _), trivial, fun b hb => absurd (show b ∈ ([] : List Addr) from hb) (by simp), hok, .of_eq gens⟩
    refine codeAny_mono ((F _ kin' (ns' n1) seer tb).run callerA [] t H ⟨[.ref a], []⟩ [.ref a] [.ref a] _ _ hr en (bind t (.ref a)) (.cons rfl .nil) (spec H hP hS)) fun r s' h => ?_
    cases r with
    | error e => exact (show False from h).elim
    | ok fl =>
      cases fl with
      | next => exact False.elim h
      | brk => exact False.elim h
      | cont => exact False.elim h
      | ret u =>
        obtain ⟨v, H', os, bare, un, hok', r', q⟩ := h
        have qt : v = .bl true := q
        subst qt
        obtain rfl : u = Value.bool true := r'
        have stay : ∀ b o, b ≠ P → t.heap.get? b = some o → s'.heap.get? b = some o := fun b o nb e => by
          cases q : H b with
          | none => exact un.keep b o e q (by intro z; cases z) (by simp)
          | some u =>
            rcases hO b with z | z | ⟨ob, xs, z⟩
            · rw [q] at z; cases z
            · exact absurd z nb
            · obtain ⟨e1, _⟩ := hok b _ z
              obtain ⟨e2, _⟩ := hok' b _ (un.frzs b ob _ z)
              rw [e] at e1
              cases e1
              exact e2
        obtain ⟨more, zm⟩ := un.tbls P #[] hP
        have hm : s'.heap.get? P = some { cls := .none, data := .fields (#[] ++ more) } := hok' P _ zm
        rw [Array.empty_append] at hm
        refine ⟨rfl, ⟨fun b o e => ?_, fun b o e => ?_⟩, os, bare⟩
        · by_cases z : b = P
          · subst z
            rw [tab] at e
            cases e
            exact .inr (.inl ⟨(hd.tab tab).isCodeTable, rfl, #[], more, rfl, by rw [Array.empty_append]; exact hm⟩)
          · exact .inl (stay b o z e)
        · by_cases z : b = P
          · rw [z]
            exact ⟨_, hm⟩
          · exact ⟨o, stay b o z e⟩
  cases hk : K.lookup a with
  | some o =>
    have e := kin a o hk
    rw [ha] at e
    cases e
    refine main (fun b => if b = P then some (.tbl #[]) else none) (if_pos rfl) (fun b => ?_) (.inr ⟨_, us.toArray, _, hk, rfl, rfl, rfl, by rw [List.size_toArray, lv]; exact hl, by simpa using rv⟩) (fun b u z => ?_) (fun b z => ?_) fun z => absurd (if_neg aP) z
    · by_cases hb : b = P
      · exact .inr (.inl hb)
      · exact .inl (if_neg hb)
    · by_cases hb : b = P
      · cases (if_pos hb).symm.trans z
        subst hb
        exact tab
      · cases (if_neg hb).symm.trans z
    · by_cases hb : b = P
      · exact .inr hb
      · exact absurd (if_neg hb) z
  | none =>
    refine main (fun b => if b = a then some (.frz { cls := .type "list", data := .seq us.toArray } (.lst (ns.map V.int))) else if b = P then some (.tbl #[]) else none) ((if_neg (Ne.symm aP)).trans (if_pos rfl)) (fun b => ?_) (.inl (.inr ⟨{ cls := .type "list", data := .seq us.toArray }, if_pos rfl⟩)) (fun b u z => ?_) (fun b z => ?_) fun _ => hk
    · by_cases hb : b = a
      · exact .inr (.inr ⟨_, _, if_pos hb⟩)
      · by_cases h2 : b = P
        · exact .inr (.inl h2)
        · exact .inl ((if_neg hb).trans (if_neg h2))
    · by_cases hb : b = a
      · have zz := (if_pos hb).symm.trans z
        cases zz
        subst hb
        exact ⟨ha, by rw [List.length_map]; exact hl, us, _, rv, ha⟩
      · have z2 := (if_neg hb).symm.trans z
        by_cases h2 : b = P
        · cases (if_pos h2).symm.trans z2
          subst h2
          exact tab
        · cases (if_neg h2).symm.trans z2
    · by_cases hb : b = a
      · exact .inl hb
      · by_cases h2 : b = P
        · exact .inr h2
        · exact absurd ((if_neg hb).trans (if_neg h2)) z
end
theorem law_walkTN {l : PySem.W.OpenLaw} {k : Nat} {q : Program} {loose : List Str} {XP : (Str → Option Value) → Heap → Prop} {YP : World → Heap → Prop} {d : DefRec} {K : Params → PySem.W.Frag} {x : Str} (hn : l.most = some 63) (hdf : d.params.defaults = []) (hr : Room k callerA)
    (hrec : ((recsOf q).any fun e => e.name == d.name) = true) (imp : importsNone q = true) (hY : ∀ (w : World) (h : Heap), YP w h → (K w.params).In h)
    (F : ∀ (w : World) (mg : Str → Option Value) (fa : Addr) (h : Heap), (K w.params).In h → h.Ns mainGlobals mg → mg d.name = some (.ref fa) →
      ∃ (cn : Str → Option Addr) (fd : FuncData) (o : Obj) (c P : Addr) (e : Value) (dd : Option Addr) (vs : Array Value) (sl : Array (Option Value)), (∀ (s : Shared) (u : Value), BindsTo s fd ⟨[u], []⟩ [(x, u)]) ∧
        (K w.params).lookup fa = some o ∧ o.data = .func fd ∧ fd.code = .ref c ∧ (K w.params).lookup c = some ⟨e, dd, .fields vs, sl⟩ ∧ vs[11]? = some (.ref P) ∧ (K w.params).lookup P = none ∧ PySem.W.codeHdIn (K w.params) c P = true ∧
        ∀ base : Heap, (K w.params).In base → base.Ns mainGlobals mg → base.NoSeer → TabB base mg c P → FnOk l.prog w (K w.params) mg base CX0 k fa fd [x] (LSp0 (K w.params) cn (spLawT P))) : PySem.W.WalkO q loose XP YP l.row.toRowW d [] (fun f vs => PySem.call f vs) := by
  refine Att.attach_callB (n := 63) hn hdf fun w s₀ t mg mb fa o pm cd doc a us ns G Y ho hd hcd hmg hobj hin hlen _ hg => ?_
  have kin := hY w _ Y
  obtain ⟨cn, fd, o1, c, P, e, dd, vs, sl, hb, k1, k2, k3, k4, k5, k6, k7, hF⟩ := F w mg fa _ kin G.T.g hmg
  have tab : t.heap.get? P = some { cls := .none, data := .fields #[] } := by
    obtain ⟨dr, hm, hq⟩ := List.any_eq_true.mp hrec
    obtain ⟨fa', o', fd', c', P', z1, z2, z3, z4, _, ⟨oc, vc, y1, _, y3, y4⟩, yP⟩ := G.T.tab dr hm
    rw [beq_iff_eq.mp hq, hmg] at z1
    cases z1
    rw [kin _ _ k1] at z2
    cases z2
    rw [k2] at z3
    cases z3
    rw [k3] at z4
    cases z4
    rw [kin _ _ k4] at y1
    cases y1
    cases y3
    rw [k5] at y4
    cases y4
    exact yP
  exact law_callTN kin G.T.g G.T.b G.T.builtins G.T.nolimit (G.T.seer imp) hg tab k6 (PySem.W.codeHd_of_K kin k7) G.T.bmain hobj hin (Nat.le_trans hlen (by decide)) hr hF hb (fun H hP hS => law_spT hlen hP hS)
open PySem PySem.Spec PyProof.Rows L2

/-! ### a word that is in none of a module's dict's keys -/
@[simp] def kninO (tab : List (Str × D)) (outs : List Str) : D → (U → Prop) → Prop
  | .str s, k => (∃ x, dget tab s = some x ∧ k (.d (.bl false))) ∨ (s ∈ outs ∧ k (.d (.bl true)))
  | _, _ => False
section
variable {X : Cx} {cn : Str → Option Addr} {W : WX} {e : Expr} {pos : Pos} {m : ME} {x : Str} {p : Pos}
theorem rt_kninO {tab : List (Str × D)} {outs : List Str} (T : KTab X.K X.w X.mg x tab) (O : KOut X.K X.w X.mg x outs) (hg : Gl X x) (ha : PE X e (cE X.K cn W m)) (hd : (x == ("__debug__" : Str)) = false := by decide) : PT X (.Compare e [.NotIn] [.Name x p] pos) (cT X.K cn W (wT (wUn (kninO tab outs) m))) := by
  obtain ⟨d, es, n, hm, D, h⟩ := T
  obtain ⟨d', es', n', hm', _, ho⟩ := O
  rw [hm] at hm'
  cases hm'
  refine pt_wk (pt_cmpR (op_notIn_kd D) ha (pe_glob (v := .ref d) hg hm rfl hd) rfl) (t_ok fun σ H Q hh => un_ok (r := fun x H Q => ∃ (z : Str) (r : Option Value), x = .str z ∧ (V.ref d) = .ref d ∧ PySem.W.nsIn X.K d z = some r ∧ Q (.bl (!r.isSome)) H) (fun E F H σ ρ g v x k Q S hv hk rc => ?_) σ H Q hh)
  unfold kninO at hk
  split at hk
  · rw [hv.str]
    rcases hk with ⟨y, hy, q⟩ | ⟨hs, q⟩
    · obtain ⟨u, v', h1, h2, h3⟩ := h _ (dget_mem hy)
      exact ⟨_, some u, rfl, rfl, h1, rc_same rc S (.bl _) q⟩
    · exact ⟨_, none, rfl, rfl, ho _ hs, rc_same rc S (.bl _) q⟩
  · exact hk.elim
end
open PySem PySem.Spec PyProof.Rows L2

/-! ### X.clear() of a shared dict, sorted(X) of a dict's keys -/
section
variable {X : Cx} {cn : Str → Option Addr} {W : WX} {e : Expr} {pos : Pos} {m : ME}
@[simp] def wClr (i : Nat) : MS := fun ρ g P => match ρ[i]? with
  | some (some (.d (.ref a))) => ∃ kvs, g a = some (.dct kvs) ∧ P.nx ρ (setG g a (.dct []))
  | _ => False
theorem rs_clr (i : Nat) {x : Str} {xpos apos cpos : Pos} (hN : X.N[i]? = some x := by rfl) (hv : Vis X.env.scope x := by first | exact Or.inl rfl | exact Or.inr (Or.inl rfl) | exact Or.inr (Or.inr rfl)) (hd : (x == ("__debug__" : Str)) = false := by decide)
    (hcd : (x == ("__classdict__" : Str)) = false := by decide) (hbase : attributeBase (.Name x xpos) "clear" X.env (eval (.Name x xpos) X.env) = eval (.Name x xpos) X.env := by rfl)
    (hline : (apos.endLine == cpos.line) = true := by rfl) (hs : swapsWith (.Call (.Attribute (.Name x xpos) "clear" apos) [] [] cpos) none pos.line X.env = pure false := by rfl) :
    PS X (.Expr (.Call (.Attribute (.Name x xpos) "clear" apos) [] [] cpos) pos) (cS X.K cn W (wClr i)) :=
  ps_wk (ps_expr (pe_dclear (pe_var (i := i) hN hv hd hcd) hbase hline) hs) fun D σ H h => by
    obtain ⟨E, F, ρ, g, P, S, hm, C⟩ := h
    unfold wClr at hm
    split at hm
    case h_2 => exact hm.elim
    rename_i l hi
    obtain ⟨kvs, hg, q⟩ := hm
    obtain ⟨⟨vs, t1, t2⟩, t3⟩ := S.cell l _ hg
    obtain ⟨v', k1, k2⟩ := S.slot i _ hi
    cases k2
    refine ⟨.ref l, k1, .inr (.inr (.inl ⟨rfl, .inl ⟨vs, t1⟩⟩)), l, vs, rfl, rfl, t1, ?_⟩
    exact C.nx F _ σ ρ _ (S.mutK hg .nil) q
/-- sorted of a dict's keys -/
@[simp] def sortKU : D → (U → Prop) → Prop
  | .dct kvs, k => kvs.length < 64 ∧ ∀ ys : List Str, ys.Perm (kvs.map (·.1)) → sortedS ys = true → k (.own (.lst (ys.map D.str)))
  | _, _ => False
theorem keys_inr {K : PySem.W.Frag} {F : Hp} : ∀ {ks : List (Key × V)} {kvs : List (Str × D)}, RpD K F ks kvs → ks.map (·.1) = (kvs.map (·.1)).map Sum.inr
  | _, _, .nil => rfl
  | _, _, .cons _ t => by rw [List.map_cons, List.map_cons, List.map_cons, keys_inr t]
theorem strs_rp {K : PySem.W.Frag} {F : Hp} : ∀ ys : List Str, RpL K F (ys.map V.str) (ys.map D.str)
  | [] => .nil
  | y :: ys => .cons (.str y) (strs_rp ys)
theorem cs_sortK : CallS X.K (fun xs H Q => ∃ (a : Addr) (kvs : List (Key × V)) (ks : List Str), xs = [.ref a] ∧ Rd H a (.dK kvs) ∧ kvs.map (·.1) = ks.map Sum.inr ∧ ks.length < 64 ∧
    ∀ ys p, ys.Perm ks → sortedS ys = true → H p = none → Q (.ref p) (upd H p (.lst (ys.map V.str)))) sortKU := fun E F H σ ρ g v x k Q S hv hk rc => by
  unfold sortKU at hk
  split at hk
  · obtain ⟨a, vs, rfl, ha, ra⟩ := hv.dct S.ext
    obtain ⟨l, q⟩ := hk
    exact ⟨a, vs, _, rfl, ha, keys_inr ra, by rw [List.length_map]; exact l, fun ys p h1 h2 hp => rc_newO rc S hp (strs_rp ys) (q ys h1 h2)⟩
  · exact hk.elim
theorem re_sortK {x : Str} {p : Pos} (hc : X.calm = true) (hg : Gl X x) (hx : x = "sorted") (hm : X.mg x = none) (ha : PE X e (cE X.K cn W m))
    (hn : x ≠ "__name__" := by decide) (hd : (x == ("__debug__" : Str)) = false := by decide) (hse : starEach [e] X.env = (false, eval e X.env) :: starEach [] X.env := by rfl) (hpl : (backTo pos (starEach [] X.env)).any (·.1) = false := by rfl) :
    PE X (.Call (.Name x p) [e] [] pos) (cE X.K cn W (wUn sortKU m)) := by
  subst hx
  exact re_b1 (call_sortedD hc) cs_sortK hg hm PyProof.Rows.boot_sorted ha hn hd hse hpl
end
/-! ### for a, b in zip(X, ys), X a shared list, which stays as it is -/
section
variable {X : Cx} {K : PySem.W.Frag} {cn : Str → Option Addr} {W : WX} {e e2 : Expr} {mr : MA} {p pos zpos tpos : Pos} {elts : List Expr} {kk : Nat} {ms : MS}
@[simp] def wForZ (ma : MA) (mg : MG) (mb : MS) : MS := fun ρ g P => ma ρ g (fun xs g1 => match xs with
  | [.ref a, b] => ∃ us, g1 a = some (.lst us) ∧ itZ b fun ws => forLoopC a us mg mb (zipD us ws) ρ g1 P
  | _ => False) (xOf P ρ)
theorem walk_zc {a b : Addr} {n k : Nat} {ws : List V} (hn : k = min n ws.length) : Walk (Itz K a b) k (fun H => (∃ vs, H a = some (.lst vs) ∧ vs.length = n) ∧ SqL K H b ws)
    (fun i H v H' => ∃ T p q, v = .ref T ∧ H T = none ∧ H' = upd H T (.tup [p, q]) ∧ (∃ vs, H a = some (.lst vs) ∧ vs[i]? = some p) ∧ ws[i]? = some q) := by
  have w : ∀ {vs : List V}, vs.length = n → Walk (Itz K a b) k (fun H => SqL K H a vs ∧ SqL K H b ws) (YPair (fun i => vs[i]?) (fun i => ws[i]?)) := fun {vs} e => walk_zip (by rw [hn, e])
  refine ⟨fun i H hi ⟨⟨vs, h, e⟩, hb⟩ => (w e).goes i H hi ⟨.inl (.inl h), hb⟩, fun H ⟨⟨vs, h, e⟩, hb⟩ => (w e).stops H ⟨.inl (.inl h), hb⟩, fun i H x H' hi ⟨⟨vs, h, e⟩, hb⟩ y => ?_⟩
  obtain ⟨T, p, q, h1, h2, h3, h4, h5⟩ := (w e).yields i H x H' hi ⟨.inl (.inl h), hb⟩ y
  exact ⟨T, p, q, h1, h2, h3, ⟨vs, h, h4⟩, h5⟩
theorem rs_forZ {body : List Stmt} {t : TG} {mg : MG} {is : List Nat} (hp : PassesOwn (model X.prog X.w) X.A X.env X.xe) (hc : X.calm = true) (hgz : Gl X "zip") (hmz : X.mg "zip" = none) (ha : PA X [e, e2] (cA X.K cn W mr)) (hg : PG X (.Tuple elts kk tpos) t) (to : TgOk X.K is t mg) (hb : PSs X body (cS X.K cn W ms))
    (hse : starEach [e, e2] X.env = (false, eval e X.env) :: starEach [e2] X.env := by rfl) (hpl : (backTo zpos (starEach [e2] X.env)).any (·.1) = false := by rfl)
    (hs : ∀ x, foldedSetIterable (.Call (.Name "zip" p) [e, e2] [] zpos) X.env x = pure x := by intro _; rfl) : PS X (.For (.Tuple elts kk tpos) (.Call (.Name "zip" p) [e, e2] [] zpos) body [] pos) (cS X.K cn W (wForZ mr mg ms)) := ps_wk (ps_for hp hc (pi_zip hgz hmz ha hse hpl) hg hb hs) fun D σ H h => by
  obtain ⟨E, F, ρ, g, P, S, hm, Cn⟩ := h
  refine ⟨E, F, ρ, g, _, _, S, hm, fun F1 H1 vs0 xs0 g1 S1 p1 r1 q1 => ?_, Cn.xc σ ρ⟩
  dsimp only at q1
  split at q1
  · rename_i a y
    obtain ⟨us, hga, q2⟩ := q1
    cases r1 with
    | cons h1 t1 =>
      cases t1 with
      | cons h2 t2 =>
        cases t2
        cases h1
        obtain ⟨b, vb, xb, rfl, sb, rb, lp⟩ := itZ_ok h2 q2
        obtain ⟨⟨va, t1, t2⟩, t3⟩ := S1.cell a _ hga
        have sb1 := S1.ext.seq sb
        refine ⟨a, b, va, vb, rfl, .inl (.inl t1), sb1, ?_⟩
        have zl : (zipD us xb).length = min us.length vb.length := by unfold zipD; rw [List.length_zipWith, rb.len]
        refine for_it (walk_zc (n := us.length) zl) (fun i σ' H' => ∃ F' ρ' g', Stt X.K ⟨F1, E.H, E.g⟩ F' H' σ' ρ' g' ∧ g' a = some (.lst us) ∧ forLoopC a us mg ms ((zipD us xb).drop i) ρ' g' P) ⟨F1, ρ, g1, S1.up S1 (Same.refl F1), hga, lp⟩ (fun i σ' H' _ ⟨F', ρ', g', S', hg', _⟩ => ?_) ?_ ?_
        · obtain ⟨⟨ws, u1, u2⟩, _⟩ := S'.cell a _ hg'
          exact ⟨⟨ws, u1, u2.len⟩, S'.ext.seq (S'.ext0.seq sb)⟩
        · rintro i x σ2 H2 H3 hi2 ⟨F2, ρ2, g2, S2, hg2, lp2⟩ ⟨T, v, w, rfl, hT, rfl, ⟨ws, w1, w2⟩, w3⟩
          obtain ⟨⟨ws', u1, u2⟩, _⟩ := S2.cell a _ hg2
          rw [w1] at u1
          cases u1
          obtain ⟨d1, hd1, r3⟩ := u2.got w2
          obtain ⟨d2, hd2, r4⟩ := rb.got w3
          have hd : (zipD us xb)[i]? = some (.tup [d1, d2]) := by
            unfold zipD
            rw [List.getElem?_zipWith, hd1, hd2]
          have drop_i : (zipD us xb).drop i = .tup [d1, d2] :: (zipD us xb).drop (i + 1) := by
            obtain ⟨hi', e'⟩ := List.getElem?_eq_some_iff.mp hd
            rw [List.drop_eq_getElem_cons hi', e']
          rw [drop_i] at lp2
          have r5 : Rp X.K (upd F2 T (.tup [v, w])) (.ref T) (.tup [d1, d2]) := rp_pair S2.ext hT r3 (r4.mono S2.ext0)
          refine to _ (upd F2 T (.tup [v, w])) _ σ2 ρ2 g2 (.ref T) (.tup [d1, d2]) _ _ (S2.newF hT) r5 lp2 fun σ4 ρ4 S4 _ _ q4 => ?_
          refine ⟨⟨F1, E.H, E.g⟩, upd F2 T (.tup [v, w]), ρ4, g2, _, S4, q4, ⟨fun F' H' σ' ρ' g' S' q => ⟨F', ρ', g', S', q⟩, fun F' H' σ' ρ' g' S' q => Cn.nx F' H' σ' ρ' g' (S1.down S') q, fun F' H' σ' ρ' g' S' q => ⟨F', ρ', g', S', q⟩, ?_, ?_⟩⟩
          · exact fun F' H' σ' ρ' g' v u S' o n q => Cn.rt F' H' σ' ρ' g' v u (S1.down S') (uok_E o) n q
          · exact fun F' H' σ' ρ' g' cls d x S' o q => Cn.ex F' H' σ' ρ' g' cls d x (S1.down S') o q
        · rintro σ2 H2 ⟨F2, ρ2, g2, S2, hg2, lp2⟩
          rw [List.drop_length] at lp2
          exact Cn.nx F2 H2 σ2 ρ2 g2 (S1.down S2) lp2
  · exact q1.elim
end
open PySem PySem.Spec PyProof.Rows L2

/-! ### X.insert(i, y) of an own list, E.clear() of a shared list, a comprehension over an own list -/
section
variable {X : Cx} {cn : Str → Option Addr} {W : WX} {o e e1 e2 : Expr} {pos : Pos} {mo : ME} {mr : MA}
@[simp] def wIns (i : Nat) (mr : MA) : MS := fun ρ g P => match ρ[i]? with
  | some (some (.own (.lst xs))) => mr ρ g (fun ys g1 => match ys with
    | [.int j, y] => (0 ≤ j ∧ j < 2 ^ 63) ∧ xs.length < sizeLine ∧ P.nx (ρ.set i (some (.own (.lst (xs.take j.toNat ++ [y] ++ xs.drop j.toNat))))) g1
    | _ => False) (xOf P ρ)
  | _ => False
theorem RpL.take' {F : Hp} : ∀ {vs : List V} {xs : List D}, RpL X.K F vs xs → ∀ n : Nat, RpL X.K F (vs.take n) (xs.take n)
  | _, _, .nil, n => by rw [List.take_nil, List.take_nil]; exact .nil
  | _, _, .cons a t, 0 => .nil
  | _, _, .cons a t, n + 1 => .cons a (RpL.take' t n)
theorem RpL.drop' {F : Hp} : ∀ {vs : List V} {xs : List D}, RpL X.K F vs xs → ∀ n : Nat, RpL X.K F (vs.drop n) (xs.drop n)
  | _, _, .nil, n => by rw [List.drop_nil, List.drop_nil]; exact .nil
  | _, _, .cons a t, 0 => .cons a t
  | _, _, .cons a t, n + 1 => RpL.drop' t n
theorem rs_ins (i : Nat) {x : Str} {xpos apos cpos : Pos} (ha : PA X [e1, e2] (cA X.K cn W mr)) (hN : X.N[i]? = some x := by rfl) (hv : Vis X.env.scope x := by first | exact Or.inl rfl | exact Or.inr (Or.inl rfl) | exact Or.inr (Or.inr rfl)) (hd : (x == ("__debug__" : Str)) = false := by decide)
    (hcd : (x == ("__classdict__" : Str)) = false := by decide) (hbase : attributeBase (.Name x xpos) "insert" X.env (eval (.Name x xpos) X.env) = eval (.Name x xpos) X.env := by rfl)
    (hfew : ((backTo cpos (starEach [e1, e2] X.env)).all (fun x => !x.1) && (backToKw cpos (keywordEach [] X.env)).all (fun x => x.1.isSome) && decide ([e1, e2].length + ([] : List Keyword).length + (if ([] : List Keyword).isEmpty then 0 else 1) < 30)) = true := by rfl)
    (hline : (apos.endLine == cpos.line) = true := by rfl) (hs1 : starEach [e1, e2] X.env = (false, eval e1 X.env) :: starEach [e2] X.env := by rfl) (hplain : (backTo cpos (starEach [e2] X.env)).any (·.1) = false := by rfl)
    (hs : swapsWith (.Call (.Attribute (.Name x xpos) "insert" apos) [e1, e2] [] cpos) none pos.line X.env = pure false := by rfl) :
    PS X (.Expr (.Call (.Attribute (.Name x xpos) "insert" apos) [e1, e2] [] cpos) pos) (cS X.K cn W (wIns i mr)) :=
  ps_wk (ps_expr (pe_bm PySem.F.plainAttrs_list PySem.F.slot_list_insert PySem.F.type_list_insert mt_insert (pe_var (i := i) hN hv hd hcd) ha hbase hfew hline hs1 hplain) hs) fun D σ H h => by
    obtain ⟨E, F, ρ, g, P, S, hm, C⟩ := h
    unfold wIns at hm
    split at hm
    · rename_i xs hi
      obtain ⟨l, vs, h1, h2, h3, h4, h5, h6⟩ := S.slotL hi
      refine ⟨.ref l, h1, .inl ⟨rfl, vs, .inl (.inl h2)⟩, ?_⟩
      refine ⟨E, F, ρ, g, _, _, S, hm, fun F1 H1 ws ys g1 S1 p1 r1 q1 => ?_, C.xc σ ρ⟩
      dsimp only at q1
      split at q1
      · rename_i j y
        obtain ⟨⟨j0, j1⟩, hz, q⟩ := q1
        cases r1 with
        | cons a1 t1 =>
          cases t1 with
          | cons a2 t2 =>
            cases t2
            cases a1
            obtain ⟨l', us, k1, k2, k3, _⟩ := S1.slotL hi
            rw [h1] at k1
            cases k1
            exact ⟨l, us, j, _, rfl, rfl, k2, by rw [k3.len]; exact hz, j0, j1, C.nx F1 _ σ _ g1 (S1.mutL hi h1 (((RpL.take' k3 _).app (.cons a2 .nil)).app (RpL.drop' k3 _))) q⟩
      · exact q1.elim
    · exact hm.elim
/-- E.clear() of a shared list -/
@[simp] def wClrE (mo : ME) : MS := fun ρ g P => mo ρ g (fun u g1 => refU u fun a => ∃ xs, g1 a = some (.lst xs) ∧ P.nx ρ (setG g1 a (.lst []))) (xOf P ρ)
theorem rs_clrE {apos cpos : Pos} (ho : PE X o (cE X.K cn W mo)) (hbase : attributeBase o "clear" X.env (eval o X.env) = eval o X.env := by rfl) (hline : (apos.endLine == cpos.line) = true := by rfl)
    (hs : swapsWith (.Call (.Attribute o "clear" apos) [] [] cpos) none pos.line X.env = pure false := by rfl) :
    PS X (.Expr (.Call (.Attribute o "clear" apos) [] [] cpos) pos) (cS X.K cn W (wClrE mo)) :=
  ps_wk (ps_expr (pe_bm0 PySem.F.plainAttrs_list PySem.F.slot_list_clear PySem.F.type_list_clear mt_clear ho hbase hline) hs) fun D σ H h => by
    obtain ⟨E, F, ρ, g, P, S, hm, C⟩ := h
    refine ⟨E, F, ρ, g, _, _, S, hm, fun F0 H0 v0 u0 g0 S0 p0 o0 f0 q0 => ?_, C.xc σ ρ⟩
    obtain ⟨a, rfl, _, xs0, hg0, q⟩ := refU_ok o0 q0
    obtain ⟨⟨vs0, h0, _⟩, _⟩ := S0.cell a _ hg0
    exact ⟨.inl ⟨rfl, vs0, .inl (.inl h0)⟩, a, vs0, rfl, rfl, h0, C.nx F0 _ σ ρ _ (S0.mutC hg0 .nil) q⟩
end
section
variable {K : PySem.W.Frag}
/-- the walk of a comprehension over the own list in slot i -/
theorem lc_tailB {cn : Str → Option Addr} {i0 : Nat} {a : Addr} {tg : MG} {t : TG} {is : List Nat} {mt : MT} {me : ME} {vs : List Nat} {E : Ent} {F1 H1 : Hp} {σ : L2.St} {ρ : Env} {g1 : G} {xs : List D} {Q : VK} {kf : List D → G → Prop} (ht : TgOk K is t tg) (hv : ∀ i ∈ is, i ∈ vs)
    (S1 : Stt K E F1 H1 σ ρ g1) (hi0 : ρ[i0]? = some (some (.own (.lst xs)))) (ha : σ[i0]? = some (some (.ref a))) (hq : lcLoop tg mt me (wipeU ρ vs) xs [] g1 kf) (hz : xs.length ≤ sizeLine) (Dl : Addr) (hD : H1 Dl = none)
    (hk : ∀ F' H' va acc g', Stt K E F' H' σ ρ g' → Stp g1 F1 H1 g' F' H' → H' Dl = some (.lst va) → F' Dl = none → g' Dl = none → RpL K F' va acc → kf acc g' → Q (.ref Dl) H') :
    ∃ Wf : Nat → Nat → Hp → Prop, (∃ m, Wf 0 m (upd H1 Dl (.lst []))) ∧ ∀ i m H, Wf i m H →
  ((Itl K a).stop i H ∧ Q (.ref Dl) H) ∨ ((Itl K a).go i H ∧ ∃ Nx : Hp → Prop, (∀ H', Nx H' → ∃ m', m' < m ∧ Wf (i + 1) m' H') ∧ ∀ x H', (Itl K a).yld i H x H' → t x (wipe σ vs) H' fun σ2 H2 => wipe σ2 vs = wipe σ vs ∧ cT K cn W0 mt σ2 H2 fun b H3 =>
    if b = true then cE K cn W0 me σ2 H3 fun y H4 => ∃ acc, H4 Dl = some (.lst acc) ∧ acc.length < sizeLine ∧ Nx (upd H4 Dl (.lst (acc ++ [y]))) else Nx H3) := by
  have xno : ∀ (E : Ent) (σ : L2.St) (ρ : Env), XC K cn W0 E σ ρ noX := fun _ _ _ _ _ _ _ _ _ _ _ q => q
  have at_ : ∀ {F' H' : Hp} {g' : G}, Stt K E F' H' σ ρ g' → ∃ us, H' a = some (.lst us) ∧ RpL K F' us xs := fun {F' H' g'} S' => by
    obtain ⟨a', us, k1, k2, k3, _⟩ := S'.slotL hi0
    rw [ha] at k1
    cases k1
    exact ⟨us, k2, k3⟩
  refine lc_it (walk_cell (K := K) (a := a) xs.length) (fun i H' => ∃ (F' : Hp) (g' : G) (acc : List D) (va : List V), Stt K E F' H' σ ρ g' ∧ Stp g1 F1 H1 g' F' H' ∧ H' Dl = some (.lst va) ∧ F' Dl = none ∧ g' Dl = none ∧ RpL K F' va acc ∧ acc.length ≤ i ∧
      lcLoop tg mt me (wipeU ρ vs) (xs.drop i) acc g' kf) ?_ ?_ ?_ ?_
  · exact ⟨F1, g1, [], [], S1.newO hD, Stp.newO hD, upd_same, S1.freeF hD, S1.freeG hD, .nil, Nat.le_refl _, hq⟩
  · rintro i H' _ ⟨F', g', acc, va, S', p', _⟩
    obtain ⟨us, k2, k3⟩ := at_ S'
    exact ⟨us, k2, k3.len⟩
  · rintro i x H2 H3 hi ⟨F', g', acc, va, S', p', hDl, hFD, hgD, ra, hl, hlp⟩ y
    obtain ⟨us, k2, k3⟩ := at_ S'
    obtain ⟨rfl, ws, w1, w2⟩ := y
    rw [w1] at k2
    cases k2
    obtain ⟨d, hd, r3⟩ := k3.got w2
    have drop_i : xs.drop i = d :: xs.drop (i + 1) := by
      obtain ⟨hi', e'⟩ := List.getElem?_eq_some_iff.mp hd
      rw [List.drop_eq_getElem_cons hi', e']
    rw [drop_i] at hlp
    refine ht E F' H3 (L2.wipe σ vs) (wipeU ρ vs) g' x d _ _ (S'.wipe vs) r3 hlp fun σ2 ρ2 S4 keepj hlen q2 => ⟨?_, ?_⟩
    · rw [wipe_same hlen fun j hj => keepj j fun z => hj (hv j z)]
      exact wipe_wipe σ vs
    refine ⟨E, F', ρ2, g', _, noX, S4, q2, fun F5 H5 bb g5 S5 p5 q5 => ?_, xno _ _ _⟩
    have hD5 := p5.keep Dl _ hDl hFD hgD
    have S5' : Stt K E F5 H5 σ ρ g5 := S'.stp p5 S5.ext S5.cell
    cases bb with
    | false =>
      refine iteF ?_
      exact ⟨F5, g5, acc, va, S5', p'.trans p5, hD5.1, hD5.2.1, hD5.2.2, ra.mono p5.ext, by omega, q5.2 rfl⟩
    | true =>
      refine iteT ?_
      refine ⟨E, F5, ρ2, g5, _, noX, S5, q5.1 rfl, fun F6 H6 v u g6 S6 p6 o6 f6 q6 => ?_, xno _ _ _⟩
      obtain ⟨F7, z, S7, p7, r7, q7, _⟩ := fz_ok S5 S6 p6 o6 f6 q6
      have hD7 := p7.keep Dl _ hD5.1 hD5.2.1 hD5.2.2
      have S7' : Stt K E F7 H6 σ ρ g6 := S5'.stp p7 S7.ext S7.cell
      have pAll := (p'.trans p5).trans p7
      refine ⟨va, hD7.1, by have := ra.len; omega, F7, g6, acc ++ [z], va ++ [v], ?_, ⟨pAll.ext, fun b o h1 h2 h3 => ?_, fun b hb => pAll.trk b (upd_free hb)⟩, upd_same, hD7.2.1, hD7.2.2, ((ra.mono p5.ext).mono p7.ext).app (.cons r7 .nil), by rw [List.length_append, List.length_singleton]; omega, q7⟩
      · refine S7'.poke hD7.2.1 hD7.2.2 (S1.trk Dl hD) (fun y e => by rw [hD7.1] at e; cases e) fun j q hj hs => ?_
        obtain ⟨v0, k1, b0, eb0, r1, _⟩ := S1.slot j _ hj
        obtain ⟨w0, hw0⟩ := r1.there
        rw [k1] at hs
        cases hs
        cases eb0
        rw [hD] at hw0
        cases hw0
      · obtain ⟨k1, k2, k3⟩ := pAll.keep b o h1 h2 h3
        have hb : b ≠ Dl := fun e => by rw [e, hD] at h1; cases h1
        exact ⟨by rw [upd_ne hb]; exact k1, k2, k3⟩
  · rintro H' ⟨F', g', acc, va, S', p', hDl, hFD, hgD, ra, hl, hlp⟩
    rw [List.drop_length] at hlp
    exact hk F' H' va acc g' S' p' hDl hFD hgD ra hlp
@[simp] def wLcB (i : Nat) (tg : MG) (mt : MT) (me : ME) (vs : List Nat) : ME := fun ρ g Q X => match ρ[i]? with
  | some (some (.own (.lst xs))) => xs.length ≤ sizeLine ∧ lcLoop tg mt me (wipeU ρ vs) xs [] g fun acc g2 => Q (.own (.lst acc)) g2
  | _ => False
end
section
variable {X : Cx} {cn : Str → Option Addr} {W : WX} {pos : Pos}
theorem re_lcB (i : Nat) {y : Str} {py : Pos} {elt tg : Expr} {ifs : List Expr} {scope : Scope} {own : List (Str × Nat)} {g : MG} {t : TG} {is : List Nat} {mt : MT} {me : ME} (hc : X.calm = true) (hN : X.N.Nodup) (ok : BlkOk X.N X.env.scope scope own) (to : TgOk X.K is t g) (hv : ∀ i ∈ is, i ∈ own.map (·.2))
    (hg : ∀ (s : Shared) (H : Hp) (C : Addr) (cl : List (Str × Addr)) (fp : List Addr), PG (X.blk s H scope (compEnvC scope cl C X.env) fp) tg t) (ht : ∀ (s : Shared) (H : Hp) (C : Addr) (cl : List (Str × Addr)) (fp : List Addr), PTs (X.blk s H scope (compEnvC scope cl C X.env) fp) ifs (cT X.K cn W0 mt))
    (he : ∀ (s : Shared) (H : Hp) (C : Addr) (cl : List (Str × Addr)) (fp : List Addr), PE (X.blk s H scope (compEnvC scope cl C X.env) fp) elt (cE X.K cn W0 me)) (hs : ∀ x, foldedSetIterable (.Name y py) X.env x = pure x := by intro _; rfl)
    (hNi : X.N[i]? = some y := by rfl) (hvi : Vis X.env.scope y := by first | exact Or.inl rfl | exact Or.inr (Or.inl rfl) | exact Or.inr (Or.inr rfl)) (hd : (y == ("__debug__" : Str)) = false := by decide) (hcd : (y == ("__classdict__" : Str)) = false := by decide) :
    PE X (.ListComp elt [⟨tg, .Name y py, ifs, 0⟩] scope pos) (cE X.K cn W (wLcB i g mt me (own.map (·.2)))) := by
  have base := pe_lc (pos := pos) hc hN (pi_seq (tg := tg) (pe_var (pos := py) hNi hvi hd hcd)) ok hg ht he hs
  refine ⟨fun pins s σ H Q I h => ?_⟩
  obtain ⟨E, F, ρ, g0, Qu, Qx, S, hm, hk, hx⟩ := h
  unfold wLcB at hm
  split at hm
  · rename_i xs q
    obtain ⟨a, vs, h1, h2, h3, h4, h5, h6⟩ := S.slotL q
    refine base.run pins s σ H Q I ⟨.ref a, h1, .inl ⟨a, rfl, ⟨vs, .inl (.inl h2)⟩, fun Dl hD => ?_⟩⟩
    refine lc_tailB (cn := cn) (Q := Q) (kf := fun acc g2 => Qu (.own (.lst acc)) g2) to hv S q h1 hm.2 hm.1 Dl hD fun F' H' va acc g' S' p' hDl hFD hgD ra kq => ?_
    exact hk _ _ (.ref Dl) (.own (.lst acc)) g' S' p' ⟨Dl, rfl, ⟨va, hDl, ra⟩, hFD, hgD, S.trk Dl hD⟩ (fun a ea => by cases ea; exact hD) kq
  · exact hm.elim
end
/-! a list == [] -/
@[simp] def enilU : D → D → (U → Prop) → Prop
  | .lst xs, .lst [], k => k (.d (.bl xs.isEmpty))
  | _, _, _ => False
def rNil (K : PySem.W.Frag) : R2 := fun x y H Q => ∃ (F : Hp) (a b : Addr) (vs : List V) (xs : List D), x = .ref a ∧ y = .ref b ∧ H a = some (.lst vs) ∧ H b = some (.lst []) ∧ RpL K F vs xs ∧ Q (.bl xs.isEmpty) H
section
variable {X : Cx} {K : PySem.W.Frag}
theorem op_nil (hu : X.A.units + 80 < cLine) : OpR X (compareOp .Eq) (rNil X.K) := by
  intro pins s σ H x y v u Q I rx ry h
  obtain ⟨F, a, b, vs, xs, rfl, rfl, ha, hb, ra, q⟩ := h
  cases (show v = Value.ref a from rx)
  cases (show u = Value.ref b from ry)
  obtain ⟨us, r1, p1, _⟩ := I.list (.inl (.inl ha))
  obtain ⟨zs, r2, p2, _⟩ := I.list (.inl (.inl hb))
  have z0 : zs.length = 0 := by rw [← r2.length]; rfl
  have ul : us.length = xs.length := by rw [← r1.length, ra.len]
  cases xs with
  | nil =>
    refine SeqAt.rcP_lists (e := fun _ => true) p1.isList p2.isList (by rw [List.size_toArray, List.size_toArray, z0, ul]; rfl) (by omega) (fun j h1 h2 => by
      rw [List.size_toArray, z0] at h2
      omega) _ _ ?_
    rw [show ((List.range us.toArray.size).all fun _ => true) = true from List.all_eq_true.mpr fun _ _ => rfl]
    exact ⟨.bl true, H, I, rfl, q⟩
  | cons x xs =>
    refine SeqAt.RcAt.lists_lengths p1.isList p2.isList ?_ (by omega) _ _ _ _ ⟨.bl false, H, I, rfl, q⟩
    rw [List.size_toArray, List.size_toArray, z0, ul, List.length_cons]
    simp
theorem os_nil : OpS K (rNil K) enilU := by
  intro E F H σ ρ g v1 v2 x1 x2 k Q S h1 h2 hk rc
  unfold enilU at hk
  split at hk
  · obtain ⟨a, vs, rfl, ha, ra⟩ := h1.lst S.ext
    obtain ⟨b, ws, rfl, hb, rb⟩ := h2.lst S.ext
    cases rb
    exact ⟨F, a, b, vs, _, rfl, rfl, ha, hb, ra, rc_same rc S (.bl _) hk⟩
  · exact hk.elim
end
open PySem PySem.Spec PyProof.Rows L2

/-! ### sets of some hundred tuples of unlike hashes: each slot is met -/
def MkM (m : Nat) : Prop := m = 7 ∨ m = 31 ∨ m = 127 ∨ m = 511 ∨ m = 2047
def seenB (m : Nat) : Nat → Nat → Nat → Nat
  | 0, _, acc => acc
  | n + 1, x, acc => seenB m n ((x * 5 + 1) % (m + 1)) (acc ||| 2 ^ x)
theorem lcgI_next (m i : Nat) : ∀ k, lcgI m ((i * 5 + 1) % (m + 1)) k = lcgI m i (k + 1)
  | 0 => rfl
  | k + 1 => by
    show (lcgI m ((i * 5 + 1) % (m + 1)) k * 5 + 1) % (m + 1) = (lcgI m i (k + 1) * 5 + 1) % (m + 1)
    rw [lcgI_next m i k]
theorem seenB_bit (m j : Nat) : ∀ n x acc, (seenB m n x acc).testBit j = true → acc.testBit j = true ∨ ∃ b, b < n ∧ lcgI m x b = j
  | 0, x, acc, h => .inl h
  | n + 1, x, acc, h => by
    rcases seenB_bit m j n _ _ h with z | ⟨b, hb, e⟩
    · rw [Nat.testBit_or, Bool.or_eq_true, Nat.testBit_two_pow] at z
      rcases z with z | z
      · exact .inl z
      · exact .inr ⟨0, Nat.succ_pos _, of_decide_eq_true z⟩
    · exact .inr ⟨b + 1, by omega, by rw [← lcgI_next]; exact e⟩
theorem seen_all {m : Nat} (h : seenB m (m + 1) 0 0 = 2 ^ (m + 1) - 1) {j : Nat} (hj : j ≤ m) : ∃ b, b ≤ m ∧ lcgI m 0 b = j := by
  rcases seenB_bit m j (m + 1) 0 0 (by rw [h, Nat.testBit_two_pow_sub_one]; exact decide_eq_true (by omega)) with z | ⟨b, hb, e⟩
  · rw [Nat.zero_testBit] at z; cases z
  · exact ⟨b, by omega, e⟩
theorem seen_ok {m : Nat} (hm : MkM m) : seenB m (m + 1) 0 0 = 2 ^ (m + 1) - 1 ∧ lcgI m 0 (m + 1) = 0 := by
  rcases hm with e | e | e | e | e
  all_goals
    subst e
    decide +kernel
theorem lcgI_sum (m i : Nat) (a : Nat) : ∀ k, lcgI m (lcgI m i a) k = lcgI m i (a + k)
  | 0 => rfl
  | k + 1 => by
    show (lcgI m (lcgI m i a) k * 5 + 1) % (m + 1) = (lcgI m i (a + k) * 5 + 1) % (m + 1)
    rw [lcgI_sum m i a k]
/-- from any slot on each one is met within a round -/
theorem round_all {m : Nat} (hm : MkM m) {i j : Nat} (hi : i ≤ m) (hj : j ≤ m) : ∃ k, k ≤ m ∧ lcgI m i k = j := by
  obtain ⟨s1, s2⟩ := seen_ok hm
  obtain ⟨a, ha, ea⟩ := seen_all s1 hi
  obtain ⟨b, hb, eb⟩ := seen_all s1 hj
  rw [← ea]
  rcases Nat.lt_or_ge b a with c | c
  · refine ⟨b + (m + 1 - a), by omega, ?_⟩
    rw [lcgI_sum, show a + (b + (m + 1 - a)) = (m + 1) + b by omega, ← lcgI_sum, s2]
    exact eb
  · refine ⟨b - a, by omega, ?_⟩
    rw [lcgI_sum, show a + (b - a) = b by omega]
    exact eb
theorem runs_all {m : Nat} (hm : MkM m) (h : Int) {j : Nat} (hj : j ≤ m) : ∃ n, n ≤ m + 12 ∧ runI m (SetTable.bits h) n = j := by
  obtain ⟨k, hk, e⟩ := round_all hm (runI_le m (SetTable.bits h) 12) hj
  exact ⟨12 + k, by omega, (runI_tail (bits_lt h) k).trans e⟩
theorem way_all {m : Nat} (hm : MkM m) (h : Int) {j : Nat} (hj : j ≤ m) : ∃ k, k < 10 * SetTable.turns m ∧ way m h k = j := by
  obtain ⟨n, hn, e⟩ := runs_all hm h hj
  obtain ⟨k, hk, e2⟩ := run_nth m (SetTable.bits h) n
  refine ⟨k, by unfold SetTable.turns; omega, ?_⟩
  show (nth m (runAt m (SetTable.bits h % (m + 1)) (SetTable.bits h)) k).j = j
  rw [e2]
  exact e
theorem way_in (m : Nat) (h : Int) (k : Nat) : way m h k ≤ m := by
  have hi : SetTable.bits h % (m + 1) ≤ m := Nat.le_of_lt_succ (Nat.mod_lt _ (Nat.succ_pos _))
  have q := nth_in (m := m) k (runAt m (SetTable.bits h % (m + 1)) (SetTable.bits h)) (by
    have := runEnd_bd hi
    show SetTable.bits h % (m + 1) + (SetTable.runEnd m (SetTable.bits h % (m + 1)) - SetTable.bits h % (m + 1)) ≤ m
    omega)
  exact Nat.le_trans (Nat.le_add_right _ _) q
/-- a table of so many places -/
structure TbN (t : SetTable) (n : Nat) : Prop where
  ris : Ris t.place.toList
  dm : t.dummies = #[]
  sz : t.place.size = n
  msk : MkM t.mask
  bd : ∀ x ∈ t.place.toList, x ≤ t.mask
  room : n * 5 < t.mask * 3
/-- the probe of a hash that is new ends at an empty slot -/
theorem TbN.probe {t : SetTable} {n : Nat} (T : TbN t n) (hashAt : Nat → Int) (h : Int) (new : ∀ i, i < n → hashAt i ≠ h) :
    ∃ j, t.probe hashAt h (t.probeStart h) = some (.empty j none) ∧ j ∉ t.place.toList ∧ j ≤ t.mask := by
  have len : t.place.toList.length = n := by rw [Array.length_toList, T.sz]
  have room := T.room
  obtain ⟨j0, h0, n0⟩ := st_missing t.place.toList (t.mask + 1) (by rw [len]; omega)
  obtain ⟨k, hk, e⟩ := way_all T.msk h (Nat.le_of_lt_succ h0)
  obtain ⟨K, k1, k2, k3⟩ := st_least (p := fun k => way t.mask h k ∉ t.place.toList) k (by show way t.mask h k ∉ _; rw [e]; exact n0)
  have inn : ∀ c, c < K → way t.mask h c ∈ t.place.toList := fun c hc => by
    rcases Classical.em (way t.mask h c ∈ t.place.toList) with z | z
    · exact z
    · exact absurd z (k3 c hc)
  rcases go_spec t T.ris T.dm hashAt h (10 * SetTable.turns t.mask) K (t.probeStart h) rfl (by omega) inn k2 with ⟨_, i, _, hi, hh, _⟩ | ⟨_, e2⟩
  · have il : i < n := by rw [← len]; exact (List.getElem?_eq_some_iff.mp hi).1
    exact absurd hh (new i il)
  · exact ⟨_, e2, k2, way_in ..⟩
/-! a table laid anew -/
/-- so many of the slots are taken, by 0, 1, .. -/
structure Occ (m n : Nat) (ow : Array (Option Nat)) : Prop where
  sz : ow.size = m + 1
  got : ∀ k, k < n → ∃ j, j ≤ m ∧ oAt ow j = some k
  few : ∃ ps : List Nat, ps.length = n ∧ ∀ j, j ≤ m → oAt ow j ≠ none → j ∈ ps
theorem free_some {m : Nat} (ow : Array (Option Nat)) (sz : ow.size = m + 1) : ∀ (f n i b : Nat), n < f → oAt ow (L2.itL m i b n).1 = none → (∀ c, c ≤ n → (L2.itL m i b c).1 ≤ m) →
    ∃ j, SetTable.layClean.free m ow f i b = some j ∧ oAt ow j = none ∧ j ≤ m
  | 0, n, i, b, h, _, _ => absurd h (Nat.not_lt_zero _)
  | f + 1, n, i, b, h, hn, hi => by
    rw [free_succ]
    cases q : (List.range (SetTable.runEnd m i + 1 - i)).find? fun k => (oAt ow (i + k)).isNone with
    | some k =>
      have z : oAt ow (i + k) = none := by
        have := List.find?_some q
        simpa using this
      refine ⟨i + k, rfl, z, ?_⟩
      have kr := List.mem_range.mp (List.mem_of_find?_eq_some q)
      have i0 := hi 0 (Nat.zero_le _)
      have : SetTable.runEnd m i ≤ m ∧ i ≤ SetTable.runEnd m i ∧ SetTable.runEnd m i ≤ i + 9 := runEnd_bd i0
      omega
    | none =>
      cases n with
      | zero =>
        exfalso
        have r := List.find?_eq_none.mp q 0 (List.mem_range.mpr (by have := runEnd_ge m i; omega))
        have hn' : oAt ow i = none := hn
        rw [Nat.add_zero, hn'] at r
        exact r rfl
      | succ n => exact free_some ow sz f n _ _ (by omega) hn fun c hc => hi (c + 1) (by omega)
theorem Occ.step {m n : Nat} (hm : MkM m) {ow : Array (Option Nat)} (O : Occ m n ow) (hn : n ≤ m) (h : Int) :
    ∃ j, SetTable.layClean.free m ow (SetTable.turns m) (SetTable.bits h % (m + 1)) (SetTable.bits h) = some j ∧ Occ m (n + 1) (ow.setIfInBounds j (some n)) := by
  obtain ⟨ps, pl, pin⟩ := O.few
  obtain ⟨j0, l0, n0⟩ := st_missing ps (m + 1) (by omega)
  have z0 : oAt ow j0 = none := by
    cases q : oAt ow j0 with
    | none => rfl
    | some k => exact absurd (pin j0 (by omega) (by rw [q]; exact fun e => nomatch e)) n0
  obtain ⟨r, rl, re⟩ := runs_all hm h (show j0 ≤ m by omega)
  obtain ⟨j, e1, e2, e3⟩ := free_some ow O.sz (SetTable.turns m) r (SetTable.bits h % (m + 1)) (SetTable.bits h) (by unfold SetTable.turns; omega)
    (by rw [L2.itL_run]; show oAt ow (runI m (SetTable.bits h) r) = none; rw [re]; exact z0) (fun c _ => by rw [L2.itL_run]; exact runI_le ..)
  have js : j < ow.size := by rw [O.sz]; omega
  have self := oAt_set_self (some n) js
  have other : ∀ {i : Nat}, i ≠ j → oAt (ow.setIfInBounds j (some n)) i = oAt ow i := fun c => oAt_set_ne _ c
  refine ⟨j, e1, by rw [Array.size_setIfInBounds]; exact O.sz, fun k hk => ?_, j :: ps, by rw [List.length_cons, pl], fun i hi hne => ?_⟩
  · rcases Nat.lt_or_ge k n with c | c
    · obtain ⟨i, il, ie⟩ := O.got k c
      exact ⟨i, il, by rw [other (fun z => by rw [z, e2] at ie; cases ie)]; exact ie⟩
    · have : k = n := by omega
      subst this
      exact ⟨j, e3, self⟩
  · by_cases c : i = j
    · rw [c]; exact List.mem_cons_self
    · rw [other c] at hne
      exact List.mem_cons_of_mem _ (pin i hi hne)
theorem occ_fold {m : Nat} (hm : MkM m) : ∀ (rest : List Int) (n : Nat) (ow : Array (Option Nat)), Occ m n ow → n + rest.length ≤ m →
    ∃ ow', rest.foldl (stepF m) (some (ow, n)) = some (ow', n + rest.length) ∧ Occ m (n + rest.length) ow'
  | [], n, ow, O, _ => ⟨ow, rfl, O⟩
  | h :: rest, n, ow, O, l => by
    rw [List.length_cons] at l
    obtain ⟨j, e, O'⟩ := O.step hm (by omega) h
    obtain ⟨ow', e', O2⟩ := occ_fold hm rest (n + 1) _ O' (by omega)
    refine ⟨ow', ?_, by rw [List.length_cons, show n + (rest.length + 1) = n + 1 + rest.length by omega]; exact O2⟩
    rw [List.foldl_cons, stepF_some e, e', List.length_cons, show n + (rest.length + 1) = n + 1 + rest.length by omega]
theorem relay_tab (t : SetTable) {hs : Array Int} {wanted M : Nat} (hw : SetTable.sizeAbove wanted - 1 = M) (hM : MkM M) (hn : hs.size * 5 < M * 3) :
    ∃ t' order, t.relaid hs wanted = some (t', order) ∧ order.toList.Perm (List.range hs.size) ∧ TbN t' hs.size ∧ t'.led = t.led ∧ t'.plain = t.plain := by
  have O0 : Occ M 0 (Array.replicate (M + 1) none) := ⟨by simp, fun k hk => absurd hk (Nat.not_lt_zero _), [], rfl, fun j hj e => absurd (oAt_init hj) e⟩
  obtain ⟨ow, e, O⟩ := occ_fold hM hs.toList 0 _ O0 (by rw [Array.length_toList]; omega)
  rw [Nat.zero_add, Array.length_toList] at e O
  have lc : SetTable.layClean M hs = some ow := by rw [layClean_eq, e]; rfl
  have hr : t.relaid hs wanted = some (tabOf t M ow, ((liveOf M ow).map (·.2)).toArray) := by
    rw [relaid_eq, hw, lc]
    rfl
  obtain ⟨r1, r2⟩ := ris_live (fun j => ow.getD j none) (List.range (M + 1)) (by unfold Ris; exact List.pairwise_lt_range)
  have r1' : Ris ((liveOf M ow).map (·.1)) := r1
  have nd : ((liveOf M ow).map (·.1)).Nodup := List.Pairwise.imp (fun h => Nat.ne_of_lt h) r1'
  have up : (liveOf M ow).length ≤ hs.size := by
    obtain ⟨ps, pl, pin⟩ := O.few
    have := nat_nodup_len ((liveOf M ow).map (·.1)) ps nd fun x hx => by
      obtain ⟨q, hq, rfl⟩ := List.mem_map.mp hx
      have m := (mem_live O.sz (j := q.1) (k := q.2)).1 hq
      exact pin q.1 m.1 (by rw [m.2]; exact fun z => nomatch z)
    rwa [List.length_map, pl] at this
  have all : ∀ k, k < hs.size → k ∈ (liveOf M ow).map (·.2) := fun k hk => by
    obtain ⟨j, j1, j2⟩ := O.got k hk
    exact List.mem_map.mpr ⟨(j, k), (mem_live O.sz).2 ⟨j1, j2⟩, rfl⟩
  have down : hs.size ≤ (liveOf M ow).length := by
    have := nat_nodup_len (List.range hs.size) ((liveOf M ow).map (·.2)) List.nodup_range fun k hk => all k (List.mem_range.mp hk)
    rwa [List.length_range, List.length_map] at this
  have len : (liveOf M ow).length = hs.size := Nat.le_antisymm up down
  refine ⟨_, _, hr, perm_range _ _ (by show ((liveOf M ow).map (·.2)).length = _; rw [List.length_map, len]) all, ⟨r1', rfl, ?_, hM, fun x hx => ?_, hn⟩, rfl, rfl⟩
  · show ((liveOf M ow).map (·.1)).toArray.size = _
    rw [List.size_toArray, List.length_map, len]
  · obtain ⟨q, hq, rfl⟩ := List.mem_map.mp hx
    exact ((mem_live O.sz (j := q.1) (k := q.2)).1 hq).1
open PySem PySem.Spec PyProof.Rows L2

/-! ### set(xs), xs a list of tuples of ints of unlike hashes -/
section
variable {P : Program} {w : World} {A : Around} {E : Value → Shared → Prop} {s : Shared}
structure SetN (P : Program) (w : World) (h : Heap) (S : Addr) (L : List (Addr × List Int)) (es : Array (Int × Value)) (ep : Nat) (t : SetTable) : Prop where
  ob : ∃ o, h.get? S = some o ∧ o.ExactSet ∧ o.data = .set es ep t
  rows : es.toList = rowsOf P w L
  tab : TbN t L.length
  tup : ∀ p ∈ L, IsT P w h p.2 p.1
  pln : t.plain = true
  led : w.params.followText "set-order" = true ∨ t.led = true
variable {S : Addr} {L : List (Addr × List Int)} {es : Array (Int × Value)} {ep : Nat} {t : SetTable}
theorem rows_size (h : es.toList = rowsOf P w L) : es.size = L.length := by
  have := congrArg List.length h
  rwa [Array.length_toList, show (rowsOf P w L).length = L.length from List.length_map ..] at this
theorem TbN.fits {n : Nat} (T : TbN t n) : t.fits n = true := by
  have r := T.room
  unfold SetTable.fits SetTable.fill
  rw [T.dm, T.sz, beq_self_eq_true, Bool.true_and, decide_eq_true_eq]
  show n + 0 ≤ _
  omega
theorem TbN.stays {n : Nat} (T : TbN t n) : ¬ t.gaveWay = true := by
  unfold SetTable.gaveWay
  rcases T.msk with e | e | e | e | e <;> rw [e] <;> decide
theorem SetN.search (R : SetN P w s.heap S L es ep t) {x : Value} {h : Int} (new : ∀ p ∈ L, thash P w p.2 ≠ h) {Q : SetFound → Shared → Prop} (hQ : ∀ j, j ∉ t.place.toList → j ≤ t.mask → Q (.free j false) s) :
    wpAny (model P w) A (setSearch S x h true) Q E s := by
  obtain ⟨o, ho, hex, hd⟩ := R.ob
  have sz := rows_size R.rows
  have fit : t.fits es.size = true := by rw [sz]; exact R.tab.fits
  unfold setSearch
  rw [show (100000 : Nat) = 99999 + 1 from rfl, setSearchFrom_succ]
  refine wpAny_bind (wpAny_setState_of ho hd fit (wp_if_neg R.tab.stays ?_))
  obtain ⟨j, ej, n1, n2⟩ := R.tab.probe (fun i => (es[i]?.map (·.1)).getD 0) h fun i hi => by
    have e : es[i]? = some (thash P w (L[i]).2, Value.ref (L[i]).1) := by
      rw [← Array.getElem?_toList, R.rows]
      unfold rowsOf
      rw [List.getElem?_map, List.getElem?_eq_getElem hi]
      rfl
    show (es[i]?.map (·.1)).getD 0 ≠ h
    rw [e]
    exact new _ (List.getElem_mem hi)
  have ej' : t.probe (fun i => (es[i]?.map (·.1)).getD 0) h ((none : Option SetTable.Probe).getD (t.probeStart h)) = some (.empty j none) := ej
  dsimp only
  rw [ej']
  exact wpAny_pure (hQ j n1 n2)
theorem relay_set {o : Obj} (ho : s.heap.get? S = some o) (ex : o.ExactSet) (hd : o.data = .set es ep t) (hr : es.toList = rowsOf P w L) (fit : t.fits es.size = true) (tup : ∀ p ∈ L, IsT P w s.heap p.2 p.1) (pl : t.plain = true)
    (ld : w.params.followText "set-order" = true ∨ t.led = true) {n M : Nat} (hw : SetTable.sizeAbove n - 1 = M) (hM : MkM M) (small : SetTable.sizeAbove n ≤ 4096) (room : L.length * 5 < M * 3) {Q : Unit → Shared → Prop}
    (hQ : ∀ h' L' es' ep' t', Heap.SameBut S s.heap h' → SetN P w h' S L' es' ep' t' → L'.Perm L → Q () { s with heap := h' }) : wpAny (model P w) A (setRelay S n) Q E s := by
  have sz := rows_size hr
  obtain ⟨t2, order, e, pm, T, l2, p2⟩ := relay_tab t (hs := es.map (·.1)) (wanted := n) hw hM (by rw [Array.size_map, sz]; exact room)
  rw [Array.size_map, sz] at pm T
  obtain ⟨L2, r1, r2, _⟩ := order_rows L es order hr pm
  have sz2 : (order.filterMap (es[·]?)).size = es.size := by rw [rows_size r1, sz, r2.length_eq]
  rw [setRelay_eq]
  refine wpAny_bind (wpAny_setState_of ho hd fit ?_)
  dsimp only
  refine wp_if_neg (by rw [sizeLine_eq]; omega) ?_
  try refine wpAny_bind (wpAny_pure ?_)
  rw [e]
  dsimp only
  refine wpAny_bind (wp_if_neg (by rw [sz2]; simp) ?_)
  try refine wpAny_bind (wpAny_pure ?_)
  refine wpAny_pure ?_
  dsimp only
  refine wpAny_storeSet_of ho hd ?_ (by
    have := hM
    rw [sz2, sz, sizeLine_eq]
    rcases hM with z | z | z | z | z <;> omega)
  have sb : Heap.SameBut S s.heap (s.heap.update S (Obj.putSet (order.filterMap (es[·]?)) t2)) := Heap.SameBut.update ..
  exact hQ _ L2 _ (ep + 1) t2 sb ⟨⟨_, store_at ho hd, ⟨ex.1, ex.2.1, ex.2.2⟩, rfl⟩, r1, by rw [r2.length_eq]; exact T, fun p hp => isT_same (tup p (r2.mem_iff.mp hp)) ho hd sb, by rw [p2]; exact pl, by rw [l2]; exact ld⟩ r2
theorem grow5 : SetTable.sizeAbove (SetTable.grown 5) = 32 ∧ SetTable.sizeAbove (SetTable.grown 19) = 128 ∧ SetTable.sizeAbove (SetTable.grown 77) = 512 ∧ SetTable.sizeAbove (SetTable.grown 307) = 2048 := by decide +kernel
theorem MkM.grow {m n : Nat} (hm : MkM m) (few : n < 1000) (r0 : n * 5 < m * 3) (r1 : (n + 1) * 5 ≥ m * 3) : ∃ M, SetTable.sizeAbove (SetTable.grown (n + 1)) - 1 = M ∧ MkM M ∧ SetTable.sizeAbove (SetTable.grown (n + 1)) ≤ 4096 ∧ (n + 1) * 5 < M * 3 := by
  obtain ⟨g1, g2, g3, g4⟩ := grow5
  rcases hm with e | e | e | e | e <;> subst e
  · rw [show n + 1 = 5 by omega, g1]; exact ⟨31, rfl, .inr (.inl rfl), by omega, by omega⟩
  · rw [show n + 1 = 19 by omega, g2]; exact ⟨127, rfl, .inr (.inr (.inl rfl)), by omega, by omega⟩
  · rw [show n + 1 = 77 by omega, g3]; exact ⟨511, rfl, .inr (.inr (.inr (.inl rfl))), by omega, by omega⟩
  · rw [show n + 1 = 307 by omega, g4]; exact ⟨2047, rfl, .inr (.inr (.inr (.inr rfl))), by omega, by omega⟩
  · omega
theorem SetN.add (R : SetN P w s.heap S L es ep t) {x : Addr} {k : List Int} (hx : IsT P w s.heap k x) (new : ∀ p ∈ L, thash P w p.2 ≠ thash P w k) (few : L.length < 999) {Q : Bool → Shared → Prop}
    (hQ : ∀ h' L' es' ep' t', Heap.SameBut S s.heap h' → SetN P w h' S L' es' ep' t' → L'.Perm ((x, k) :: L) → Q true { s with heap := h' }) : wpAny (model P w) A (setAddHashed S (.ref x) (thash P w k)) Q E s := by
  obtain ⟨o, ho, ex, hd⟩ := R.ob
  have sz := rows_size R.rows
  have fit : t.fits es.size = true := by rw [sz]; exact R.tab.fits
  have room := R.tab.room
  unfold setAddHashed
  refine wpAny_holding ?_
  rw [show (100000 : Nat) = 99999 + 1 from rfl, setAddHashedIn_succ]
  refine wpAny_bind (wpAny_setState_of ho hd fit ?_)
  dsimp only
  refine wp_if_neg (by simp [byScan, Value.scannable]) ?_
  try refine wpAny_bind (wpAny_pure ?_)
  refine wpAny_bind (R.search new fun j j1 j2 => ?_)
  dsimp only
  refine wpAny_bind (wpAny_setState_of ho hd fit ?_)
  dsimp only
  -- the slot is taken
  have pp : (t.put j).1.place.toList = t.place.toList.take (SetTable.below t.place j) ++ j :: t.place.toList.drop (SetTable.below t.place j) := put_place t j
  obtain ⟨b1, _, _⟩ := below_cut R.tab.ris j
  have b2 : SetTable.below t.place j ≤ t.place.toList.length := by rw [Array.length_toList]; exact b1
  have ps : (t.put j).1.place.size = L.length + 1 := by rw [← Array.length_toList, pp, len_ins _ b2, Array.length_toList, R.tab.sz]
  have pr : Ris (t.put j).1.place.toList := ris_insert R.tab.ris fun e => j1 (List.mem_of_getElem? (by rw [Array.getElem?_toList]; exact e))
  have pdm : (t.put j).1.dummies = #[] := put_dm R.tab.dm j
  have pmk : (t.put j).1.mask = t.mask := rfl
  have ppl : (t.put j).1.plain = true := R.pln
  have pld : w.params.followText "set-order" = true ∨ (t.put j).1.led = true := R.led
  have pbd : ∀ y ∈ (t.put j).1.place.toList, y ≤ (t.put j).1.mask := fun y hy => by
    rw [pp] at hy
    rcases mem_ins.1 hy with z | z
    · rw [z]; exact j2
    · exact R.tab.bd y z
  have p2 : (t.put j).2 = SetTable.below t.place j := rfl
  generalize t.put j = pt at *
  obtain ⟨t1, q⟩ := pt
  dsimp only at *
  subst p2
  generalize SetTable.below t.place j = q at *
  have ins : (SetTable.insertAt es q (thash P w k, Value.ref x)).toList = rowsOf P w (L.take q ++ (x, k) :: L.drop q) := by rw [SetTable.toList_insertAt, rows_put, R.rows]
  have pm := put_perm L q (x, k)
  have ln : (L.take q ++ (x, k) :: L.drop q).length = L.length + 1 := pm.length_eq
  have es1 : (SetTable.insertAt es q (thash P w k, Value.ref x)).size = L.length + 1 := by rw [rows_size ins, ln]
  generalize SetTable.insertAt es q (thash P w k, Value.ref x) = ys at ins es1 ⊢
  generalize L.take q ++ (x, k) :: L.drop q = L1 at pm ln ins
  refine wp_if_pos ppl (wpAny_bind (hashBy_tup hx ?_))
  simp only [if_true]
  refine wpAny_bind (wpAny_storeSet_of ho hd ?_ (by rw [es1, sizeLine_eq]; omega))
  have sb : Heap.SameBut S s.heap (s.heap.update S (Obj.putSet ys t1)) := Heap.SameBut.update ..
  have ho1 := store_at (es' := ys) (t' := t1) ho hd
  have tup1 : ∀ p ∈ L1, IsT P w (s.heap.update S (Obj.putSet ys t1)) p.2 p.1 := fun p hp => by
    rcases List.mem_cons.mp (pm.mem_iff.mp hp) with e | z
    · rw [e]; exact isT_same hx ho hd sb
    · exact isT_same (R.tup p z) ho hd sb
  generalize s.heap.update S (Obj.putSet ys t1) = h1 at sb ho1 tup1 ⊢
  have fl : t1.fill = L.length + 1 := by
    show t1.place.size + t1.dummies.size = _
    rw [ps, pdm]
    rfl
  by_cases c : t1.tooFull = true
  · have full : (L.length + 1) * 5 ≥ t.mask * 3 := by
      have := c
      unfold SetTable.tooFull at this
      rwa [decide_eq_true_eq, fl, pmk] at this
    obtain ⟨M, g1, g2, g3, g4⟩ := R.tab.msk.grow (by omega) room full
    have go : wpAny (model P w) A (setRelay S (SetTable.grown (es.size + 1))) (fun _ s' => wpAny (model P w) A (pure true) Q E s') E { s with heap := h1 } := by
      rw [sz]
      refine relay_set (s := { s with heap := h1 }) ho1 ⟨ex.1, ex.2.1, ex.2.2⟩ rfl ins ?_ tup1 ppl pld g1 g2 g3 (by rw [ln]; exact g4) fun h2 L2 es2 ep2 t2 sb2 R2 pm2 => wpAny_pure (hQ h2 L2 es2 ep2 t2 (sb.trans sb2) R2 (pm2.trans pm))
      unfold SetTable.fits
      rw [fl, ps, es1, beq_self_eq_true, Bool.true_and, decide_eq_true_eq, pmk]
      rcases R.tab.msk with z | z | z | z | z <;> omega
    first
      | (refine wpAny_bind ?_; refine wp_if_pos (by simp [c]) ?_; exact go)
      | (refine wp_if_pos (by simp [c]) ?_; refine wpAny_bind ?_; exact go)
  · have nf : (L.length + 1) * 5 < t.mask * 3 := by
      have := c
      unfold SetTable.tooFull at this
      rw [decide_eq_true_eq, fl, pmk] at this
      omega
    have T1 : TbN t1 (L.length + 1) := ⟨pr, pdm, ps, by rw [pmk]; exact R.tab.msk, pbd, by rw [pmk]; exact nf⟩
    have fin : wpAny (model P w) A (pure true) Q E { s with heap := h1 } := wpAny_pure (hQ h1 L1 ys (ep + 1) t1 sb ⟨⟨_, ho1, ⟨ex.1, ex.2.1, ex.2.2⟩, rfl⟩, ins, by rw [ln]; exact T1, tup1, ppl, pld⟩ pm)
    first
      | (refine wp_if_neg (by simp [c]) ?_; exact fin)
      | (refine wpAny_bind ?_; refine wp_if_neg (by simp [c]) ?_; refine wpAny_pure ?_; exact fin)
end
open PySem PySem.Spec PyProof.Rows L2

section
variable {P : Program} {w : World} {A : Around} {E : Value → Shared → Prop} {s : Shared}
theorem SetN.at {h h' : Heap} {S : Addr} {L : List (Addr × List Int)} {es : Array (Int × Value)} {ep : Nat} {t : SetTable} (R : SetN P w h S L es ep t) (hs : ∀ o, h.get? S = some o → h'.get? S = some o) (ht : ∀ p ∈ L, IsT P w h' p.2 p.1) : SetN P w h' S L es ep t := by
  obtain ⟨o, ho, r⟩ := R.ob
  exact ⟨⟨o, hs o ho, r⟩, R.rows, R.tab, ht, R.pln, R.led⟩
/-- the set holds these -/
def Holds (P : Program) (w : World) (h : Heap) (S : Addr) (xs : List (Addr × List Int)) : Prop := ∃ L es ep t, SetN P w h S L es ep t ∧ L.Perm xs
/-- the loop that fills a set -/
theorem set_fill {I : Addr} {fp wr : List Addr} {G : Array GenState → Array GenState → Prop} {n : Nat} {Pv : Nat → Value → Prop} {St : Nat → Shared → Prop} {R : Result → Shared → Prop} (W : WalksS P w A.in1 I fp wr G n Pv St) (S : Addr) (hS : S ∉ fp)
    (ks : List (Addr × List Int)) (kn : n = ks.length) (few : ks.length < 999) (un : (ks.map fun p => thash P w p.2).Nodup) (val : ∀ i v, Pv i v → ∃ p, ks[i]? = some p ∧ v = .ref p.1)
    (h0 : Heap) (tup : ∀ p ∈ ks, IsT P w h0 p.2 p.1) (new : h0.get? S = none) (neww : ∀ b ∈ wr, h0.get? b = none) (hu : A.in1.units < cLine) (m : Nat) :
    ∀ (i : Nat) (s : Shared), i + m = n → St i s → (∀ b o, h0.get? b = some o → s.heap.get? b = some o) → Holds P w s.heap S (ks.take i) →
      (∀ s', Moved (S :: wr) G s s' → Holds P w s'.heap S ks → (∀ b o, h0.get? b = some o → s'.heap.get? b = some o) → R (.ok (.ret .none)) s') →
      codeAny (model P w) A (.builtin "set.update.loop" ⟨[.ref S, .ref I], []⟩) R s := by
  have hSw : S ∉ wr := fun h => hS (W.sub _ h)
  have wide : ∀ b ∈ wr, b ∈ S :: wr := fun b hb => List.mem_cons_of_mem _ hb
  have old : ∀ {s s' : Shared}, Moved wr G s s' → (∀ b o, h0.get? b = some o → s.heap.get? b = some o) → ∀ b o, h0.get? b = some o → s'.heap.get? b = some o := fun mv kp b o e =>
    mv.heap b o (fun hb => by rw [neww b hb] at e; cases e) (kp b o e)
  have anew : ∀ {s s' : Shared} {i : Nat} {L : List (Addr × List Int)} {es : Array (Int × Value)} {ep : Nat} {t : SetTable}, Moved wr G s s' → (∀ b o, h0.get? b = some o → s'.heap.get? b = some o) → SetN P w s.heap S L es ep t → L.Perm (ks.take i) → SetN P w s'.heap S L es ep t :=
    fun {s s' i L es ep t} mv kp hN pm => hN.at (fun o e => mv.heap S o hSw e) fun p hp => isT_keep (tup p (List.mem_of_mem_take (pm.mem_iff.mp hp))) kp
  induction m with
  | zero =>
    intro i s hi hst kp ⟨L, es, ep, t, hN, pm⟩ fin
    obtain rfl : i = n := hi
    refine codeAny_builtin F.entry_set_update_loop ?_
    rw [Around.under_plainId F.plain_set_update_loop _]
    show wpAny _ A.in1 (pyNext (.ref I) >>= _) _ _ s
    refine wpAny_bind (W.done s _ _ hst fun s' mv => ?_)
    have kp' := old mv kp
    have hN' := anew mv kp' hN pm
    rw [kn, List.take_length] at pm
    show wpAny _ A.in1 (ret Value.none) _ _ s'
    exact wpAny_pure (fin s' (mv.mono wide) ⟨L, es, ep, t, hN', pm⟩ kp')
  | succ m ih =>
    intro i s hi hst kp ⟨L, es, ep, t, hN, pm⟩ fin
    have lt : i < n := by omega
    refine codeAny_builtin F.entry_set_update_loop ?_
    rw [Around.under_plainId F.plain_set_update_loop _]
    show wpAny _ A.in1 (pyNext (.ref I) >>= _) _ _ s
    refine wpAny_bind (W.item i s _ _ lt hst fun v s' hv hst' mv => ?_)
    obtain ⟨p, hp, rfl⟩ := val i v hv
    have kp' := old mv kp
    have hN' := anew mv kp' hN pm
    have hx : IsT P w s'.heap p.2 p.1 := isT_keep (tup p (List.mem_of_getElem? hp)) kp'
    have tk : ks.take (i + 1) = ks.take i ++ [p] := by rw [List.take_add_one, hp]; rfl
    have uh : ∀ q ∈ L, thash P w q.2 ≠ thash P w p.2 := fun q hq e => by
      have u : ((ks.take (i + 1)).map fun p => thash P w p.2).Nodup := by rw [List.map_take]; exact un.sublist (List.take_sublist ..)
      rw [tk, List.map_append, List.nodup_append] at u
      exact u.2.2 _ (List.mem_map.mpr ⟨q, pm.mem_iff.mp hq, rfl⟩) _ (List.mem_singleton.mpr rfl) e
    have ll : L.length < 999 := by
      have := pm.length_eq
      rw [List.length_take] at this
      omega
    show wpAny _ A.in1 (holding [Value.ref p.1] (setAdd S (.ref p.1)) >>= _) _ _ s'
    refine wpAny_bind (wpAny_holding ?_)
    unfold setAdd
    refine wpAny_holding (wpAny_bind (wpAny_pyHash_tuple hu hx ?_))
    refine SetN.add (s := { s' with toks := s'.toks + (p.2.length + 1) }) hN' hx uh ll fun h2 L2 es2 ep2 t2 sb hN2 pm2 => ?_
    have kp2 : ∀ b o, h0.get? b = some o → h2.get? b = some o := fun b o e => (sb.2 b (fun z => by rw [z, new] at e; cases e)).trans (kp' b o e)
    have pm3 : L2.Perm (ks.take (i + 1)) := by
      rw [tk]
      exact (pm2.trans (pm.cons p)).trans (List.perm_append_singleton p _).symm
    refine wpAny_pure ⟨plainId_quiet F.plain_set_update_loop _, ih (i + 1) _ (by omega) (W.frame _ s' _ _ hst' (Nat.le_add_right _ _) fun b hb o e => ?_) kp2 ⟨L2, es2, ep2, t2, hN2, pm3⟩ fun s'' mv2 hh kp3 => ?_⟩
    · rw [sb.2 b (fun z => hS (by rw [← z]; exact hb))]
      exact e
    · refine fin s'' (Moved.trans W.gtrans ((mv.mono wide).then_heap (Nat.le_add_right _ _) fun b o hb e => ?_) mv2) hh kp3
      rw [sb.2 b (fun z => hb (by rw [z]; exact List.mem_cons_self))]
      exact e
/-- an empty set, as set() makes it -/
def setO (w : World) : Obj := { cls := .type "set", dict := none, data := .set #[] 0 (.fresh 0 0 (!w.params.followText "set-order")) }
theorem holds_nil {h : Heap} {S : Addr} (ho : h.get? S = some (setO w)) : Holds P w h S [] :=
  ⟨[], #[], 0, .fresh 0 0 (!w.params.followText "set-order"), ⟨⟨_, ho, ⟨rfl, rfl, rfl⟩, rfl⟩, rfl, ⟨List.Pairwise.nil, rfl, rfl, .inl rfl, (fun x hx => by cases hx), by show 0 * 5 < 7 * 3; decide⟩, (fun p hp => by cases hp), rfl, by
    show _ ∨ (!w.params.followText "set-order") = true
    cases w.params.followText "set-order"
    · exact .inr rfl
    · exact .inl rfl⟩, List.Perm.refl _⟩
/-- what the call leaves behind -/
def SetMade (P : Program) (w : World) (s : Shared) (ks : List (Addr × List Int)) (s' : Shared) : Prop := ∃ (h' : Heap) (tk : Nat), s' = { s with heap := h', toks := tk } ∧ Holds P w h' s.heap.objs.size ks ∧ ∀ b o, s.heap.get? b = some o → h'.get? b = some o
set_option maxHeartbeats 8000000 in
theorem call_setN {l : Addr} {its : Array Value} (ks : List (Addr × List Int)) {Q : Value → Shared → Prop} (calm : A.handled = none) (hl : s.heap.IsList l its) (ei : its.toList = ks.map fun p => Value.ref p.1)
    (tup : ∀ p ∈ ks, IsT P w s.heap p.2 p.1) (few : ks.length < 999) (un : (ks.map fun p => thash P w p.2).Nodup) (hu : A.units + 3 < cLine) (fin : ∀ s', SetMade P w s ks s' → Q (.ref s.heap.objs.size) s') :
    wpAny (model P w) A (call (.type "set") [.ref l]) Q E s := by
  have len : its.size = ks.length := by
    have := congrArg List.length ei
    rwa [Array.length_toList, List.length_map] at this
  obtain ⟨c, tl, hmro⟩ := F.called_set.mro
  have hmade := F.called_set.made
  have hsub := F.called_set.sub
  refine wpAny_call (codeAny_of_tree ?_)
  show wpAny _ _ (callAny (.type "set") _) _ _ _
  refine wpAny_pure ⟨Code.quiet_builtin _ (by decide +kernel), codeAny_builtin F.entry_type_call ?_⟩
  rw [Around.under_plain (weight_type_call_type "set" [.ref l] []) rfl]
  have g1 := F.called_set.notType
  have g2 := F.called_set.canCreate
  have g3 := F.typeCall_set_1 (.ref l)
  repeat (any_goals (first | assumption | wp_step))
  refine codeAny_mono (code_set_led1 (.ref l) (E := E) (Q₁ := fun ob s₁ => ob = .ref s.heap.objs.size ∧ s₁ = { s with heap := s.heap.push (setO w) }) ⟨rfl, rfl⟩) fun r s₁ hr => ?_
  cases r with
  | error e => exact hr
  | ok fl =>
    cases fl with
    | ret ob =>
      obtain ⟨rfl, rfl⟩ := hr
      have at0 : (s.heap.push (setO w)).get? s.heap.objs.size = some (setO w) := Heap.get?_push_size _ rfl
      have ty : Shared.TypeIs { s with heap := s.heap.push (setO w) } (.ref s.heap.objs.size) "set" := ⟨_, at0, rfl⟩
      have g4 := F.called_set.init.lookup
      have g5 := F.called_set.init.bind (.ref s.heap.objs.size)
      repeat (any_goals (first | assumption | wp_step))
      refine codeAny_mono (codeAny_call_builtin (R := wants (fun r s₂ => r = .none ∧ SetMade P w s ks s₂) E) F.called_set.init.plain F.entry_set_init (check_set_init_1 ty ?_)) fun r2 s2 hr2 => ?_
      · obtain ⟨⟨c1, c2, c3, c4⟩, hol, hcl, nl, hdl⟩ := hl
        simp only at hcl hdl
        subst hcl
        subst hdl
        have hol' : (s.heap.push (setO w)).get? l = some { cls := .type "list", dict := c2, data := .seq its nl, slots := c4 } := Heap.get?_push_of_some _ hol
        have e1 := F.sub_list_set
        have e2 := F.sub_list_frozenset
        have e3 : (Value.type "list" == Value.type "dict") = false := by decide
        have hl1 : (s.heap.push (setO w)).IsList l its := ⟨_, hol', rfl, nl, rfl⟩
        unfold Builtin.«set.__init__» noKeywords Builtin.Frozenset.updateFrom
        generalize hPI : pyIter = PI
        wp_walk
        subst hPI
        refine wpAny_pyIter_list hl1 (wpAny_bind (wpAny_runValue ?_))
        have ll : l < s.heap.objs.size := Heap.lt_size hol
        have z1 : (s.heap.push (setO w)).objs.size = s.heap.objs.size + 1 := Heap.size_push ..
        have free : ∀ b, s.heap.objs.size ≤ b → s.heap.get? b = none := fun b hb => by
          cases q : s.heap.get? b with
          | none => rfl
          | some o => exact absurd (Nat.lt_of_lt_of_le (Heap.lt_size q) hb) (Nat.lt_irrefl _)
        have val : ∀ (i : Nat) (v : Value), its[i]? = some v → ∃ p, ks[i]? = some p ∧ v = .ref p.1 := fun i v hv => by
          rw [← Array.getElem?_toList, ei, List.getElem?_map] at hv
          obtain ⟨p, hp, e⟩ := Option.map_eq_some_iff.mp hv
          exact ⟨p, hp, e.symm⟩
        refine set_fill ((Walks.list (by simp [calm]) _ l (by rw [z1]; exact Nat.ne_of_lt (Nat.lt_succ_of_lt ll)) its).toS) s.heap.objs.size (by
          rw [z1]
          simp only [List.mem_cons, List.not_mem_nil, or_false, not_or]
          exact ⟨Nat.ne_of_lt (Nat.lt_succ_self _), Nat.ne_of_gt ll⟩) ks len few un val s.heap tup (free _ (Nat.le_refl _)) (fun b hb => free b (by rw [List.mem_singleton.mp hb, z1]; omega)) hu its.size 0 _ (by omega)
          ⟨⟨_, Heap.get?_push_size _ rfl, rfl, rfl⟩, (hl1.push _)⟩ (fun b o e => Heap.get?_push_of_some _ (Heap.get?_push_of_some _ e)) ?st ?fn
        case st => exact holds_nil (Heap.get?_push_of_some _ at0)
        case fn =>
          intro s' mv hh kp
          obtain ⟨h', gn, dr, tk, os⟩ := s'
          obtain rfl : gn = s.gens := mv.gens
          obtain rfl : dr = s.drawn := mv.drawn
          obtain rfl : os = s.os := mv.os
          show wpAny _ _ _ _ _ _
          refine wpAny_pure ?_
          show wpAny _ _ (ret Value.none) _ _ _
          exact wpAny_pure ⟨rfl, h', tk, rfl, hh, kp⟩
      · cases r2 with
        | error e => exact hr2
        | ok fl2 =>
          cases fl2 with
          | ret r =>
            obtain ⟨rfl, hm⟩ := hr2
            repeat (any_goals (first | assumption | wp_step))
            exact fin _ hm
          | _ => exact hr2.elim
    | _ => exact hr.elim
end
open PySem PySem.Spec PyProof.Rows L2

/-! ### sorted(set(xs)) -/
def th (k : List Int) : Int := reduceHash (Builtin.Tuple.tupleHashOf (k.map hashInt))
theorem th_eq (P : Program) (w : World) (k : List Int) : thash P w k = th k := rfl
section
variable {P : Program} {w : World} {A : Around} {E : Value → Shared → Prop} {s : Shared}
theorem sorted_setN {S : Addr} {ks : List (Addr × List Int)} (hs : Holds P w s.heap S ks) (calm : A.handled = none) (few : ks.length < 999) (full : ∀ p ∈ ks, p.2 ≠ []) {Q : Value → Shared → Prop}
    (hQ : ∀ s' p c (out : List Value), (∀ b o, s.heap.get? b = some o → s'.heap.get? b = some o) → s'.gens = s.gens → s'.os = s.os → s.heap.objs.size ≤ p → s'.heap.get? p = some (seqObj "list" out.toArray c) →
      out.Perm (ks.map fun p => Value.ref p.1) → out.Pairwise (fun u v => ltL (TS.intsOf s'.heap v) (TS.intsOf s'.heap u) = false) → Q (.ref p) s') : wpAny (model P w) A (call (.builtin "sorted") [.ref S]) Q E s := by
  obtain ⟨L, es, ep, t, R, pm⟩ := hs
  obtain ⟨o, ho, ex, hd⟩ := R.ob
  have sz := rows_size R.rows
  have len := pm.length_eq
  refine Calls.call_function_entry kind_sorted plain_sorted entry_sorted (args_sorted1 _) ?_
  unfold Builtin.«sorted»
  refine wpAny_bind (m := checkCount "sorted" 1 1 _) (wpAny_pure ?_)
  refine wpAny_bind (collect_set (A := A.in1) calm ⟨o, ho, ex.1, hd⟩ (by rw [sz]; exact R.tab.fits) (by unfold scanBound; omega) R.tab.ris R.led fun s1 vs keep z1 g1 o1 pv => ?_)
  have ev : es.toList.map (·.2) = L.map fun p => Value.ref p.1 := by
    rw [R.rows]
    unfold rowsOf
    rw [List.map_map]
    rfl
  rw [ev] at pv
  have lv : vs.length = ks.length := by rw [pv.length_eq, List.length_map, len]
  have vz : vs.length ≤ sizeLine := by rw [sizeLine_eq]; omega
  refine wpAny_bind (wpAny_newList ?_ vz)
  have at0 : (s1.heap.push (seqObj "list" vs.toArray 0)).get? s1.heap.objs.size = some (seqObj "list" vs.toArray 0) := Heap.get?_push_size _ rfl
  have keep2 : ∀ b o, s.heap.get? b = some o → (s1.heap.push (seqObj "list" vs.toArray 0)).get? b = some o := fun b o e => Heap.get?_push_of_some _ (keep b o e)
  have rows : ∀ v ∈ vs, ∃ k, TS.TupInts (s1.heap.push (seqObj "list" vs.toArray 0)) v k ∧ k ≠ [] := fun v hv => by
    obtain ⟨q, hq, e⟩ := List.mem_map.mp (pv.mem_iff.mp hv)
    rw [← e]
    exact ⟨q.2, tupInts_of (P := P) (w := w) (isT_keep (R.tup q hq) keep2), full q (pm.mem_iff.mp hq)⟩
  refine wpAny_bind (wpAny_holding (wpAny_call_entry slot_list_sort ⟨_, at0, rfl⟩ entry_list_sort (SrtO.list_sort_ord (s := { s1 with heap := s1.heap.push (seqObj "list" vs.toArray 0) })
    (swo_ltL fun u => TS.intsOf (s1.heap.push (seqObj "list" vs.toArray 0)) u) at0 vz (fun h2 => tups_sortable (k := fun u => TS.intsOf (s1.heap.push (seqObj "list" vs.toArray 0)) u) (by omega) (fun v hv => ?_) fun o e => ?_) fun out h1 h2 => ⟨_, rfl, ?_⟩) (args_list_sort _)))
  · obtain ⟨k, hk, kn⟩ := rows v hv
    rw [hk.ints]
    exact ⟨hk, kn⟩
  · have e' : some o = some (seqObj "list" vs.toArray 0) := e.symm.trans at0
    cases e'
    exact fun c => absurd (Value.type.inj c) (by decide)
  · obtain ⟨c, hc⟩ := sortedHeap_at (vs := vs) (out := out.toArray) at0
    have old : ∀ b u, s1.heap.get? b = some u → (sortedHeap (s1.heap.push (seqObj "list" vs.toArray 0)) s1.heap.objs.size vs out.toArray).get? b = some u := fun b u e => by
      have lt := Heap.lt_size e
      rw [sortedHeap_old (Nat.ne_of_lt lt) (by rw [size_push']; exact Nat.lt_succ_of_lt lt)]
      exact Heap.get?_push_of_some _ e
    have same : ∀ v ∈ out, TS.intsOf (sortedHeap (s1.heap.push (seqObj "list" vs.toArray 0)) s1.heap.objs.size vs out.toArray) v = TS.intsOf (s1.heap.push (seqObj "list" vs.toArray 0)) v := fun v hv => by
      obtain ⟨q, hq, e⟩ := List.mem_map.mp (pv.mem_iff.mp (h2.perm.mem_iff.mp hv))
      rw [← e]
      exact (tupInts_of (P := P) (w := w) (isT_keep (R.tup q hq) fun b u e => old b u (keep b u e))).ints.trans (tupInts_of (P := P) (w := w) (isT_keep (R.tup q hq) keep2)).ints.symm
    refine wpAny_pure ⟨_, rfl, hQ _ s1.heap.objs.size c out (fun b u e => old b u (keep b u e)) g1 o1 z1 hc ((h2.perm.trans pv).trans (pm.map _)) ?_⟩
    have h1' : out.Pairwise fun u v => ltL (TS.intsOf (s1.heap.push (seqObj "list" vs.toArray 0)) v) (TS.intsOf (s1.heap.push (seqObj "list" vs.toArray 0)) u) = false := h1
    refine h1'.imp_of_mem fun {u v} hu hv e => ?_
    rw [same u hu, same v hv]
    exact e
end
/-- a permutation of images is the image of a permutation -/
theorem perm_unmap {α β : Type} {f : α → β} {a b : List β} (p : a.Perm b) : ∀ l : List α, b = l.map f → ∃ l' : List α, a = l'.map f ∧ l'.Perm l := by
  induction p with
  | nil =>
    intro l e
    have : l = [] := List.map_eq_nil_iff.mp e.symm
    subst this
    exact ⟨[], rfl, .refl _⟩
  | cons x _ ih =>
    intro l e
    cases l with
    | nil => cases e
    | cons y l =>
      rw [List.map_cons] at e
      injection e with e1 e2
      obtain ⟨l', q1, q2⟩ := ih l e2
      exact ⟨y :: l', by rw [List.map_cons, q1, e1], q2.cons y⟩
  | swap x y l0 =>
    intro l e
    match l, e with
    | u :: v :: l, e =>
      rw [List.map_cons, List.map_cons] at e
      injection e with e1 e2
      injection e2 with e2 e3
      exact ⟨v :: u :: l, by rw [List.map_cons, List.map_cons, e1, e2, e3], List.Perm.swap u v l⟩
  | trans _ _ ih1 ih2 =>
    intro l e
    obtain ⟨l1, q1, q2⟩ := ih2 l e
    obtain ⟨l2, q3, q4⟩ := ih1 l1 q1
    exact ⟨l2, q3, q4.trans q2⟩
def rSS (K : PySem.W.Frag) : List V → Hp → VK → Prop := fun vs H Q => ∃ (l : Addr) (ks : List (Addr × List Int)), vs = [V.ref l] ∧ SqL K H l (ks.map fun p => V.ref p.1) ∧ (∀ p ∈ ks, SqT K H p.1 (p.2.map V.int)) ∧ ks.length < 999 ∧ (ks.map fun p => th p.2).Nodup ∧ (∀ p ∈ ks, p.2 ≠ []) ∧
  ∀ (L : List (Addr × List Int)) (p : Addr), L.Perm ks → (L.map (·.2)).Pairwise (fun x y => ltL y x = false) → H p = none → Q (.ref p) (upd H p (.lst (L.map fun q => V.ref q.1)))
section
variable {X : Cx}
theorem pe_sortSet {a : Expr} {ta : TE} {p p2 q pos : Pos} (hc : X.calm = true) (hu : X.A.units + 64 < cLine) (hg : Gl X "sorted") (hm : X.mg "sorted" = none) (hg2 : Gl X "set") (hm2 : X.mg "set" = none) (ha : PE X a ta)
    (na : starEach [a] X.env = (false, eval a X.env) :: starEach [] X.env := by rfl) : PE X (.Call (.Name "sorted" p) [.Call (.Name "set" p2) [a] [] q] [] pos) (L2.tUn (fun v H Q => rSS X.K [v] H Q) ta) := by
  refine ⟨fun pins s σ H Q I h => ?_⟩
  refine Call_ (ld_blt I hg hm PyProof.Rows.boot_sorted ?_)
  refine PyProof.Rows.callWith_builtin1 (PyProof.Rows.args_cons ?_ rfl) rfl rfl
  refine Call_ (ld_blt I hg2 hm2 PyProof.Rows.boot_set ?_)
  refine PyProof.Rows.callWith_type1 (PyProof.Rows.args_cons (thn (ha.run pins s σ H _ I h) fun v s1 ⟨x, H1, I1, r1, q1⟩ => PyProof.Rows.args_nil ?_) na) na rfl
  obtain ⟨l, ks, e0, hq, tup, few, un, full, q1⟩ := q1
  injection e0 with e0
  subst e0
  cases r1
  obtain ⟨its, rv, pl, hz⟩ := I1.list hq
  refine call_setN (P := X.prog) (w := X.w) ks (I1.ok.hd hc) pl.isList (by simpa using refs_of_vals rv) (fun p hp => I1.isT (tup p hp)) few (by simpa only [th_eq] using un) (by omega) fun s2 ⟨h2, tk, e2, hh, k2⟩ => ?_
  subst e2
  refine PyProof.Rows.args_nil ?_
  refine sorted_setN hh (I1.ok.hd hc) few full fun s3 p c out k3 g3 o3 hp at3 pm pw => ?_
  have kk : ∀ b o, s1.heap.get? b = some o → s3.heap.get? b = some o := fun b o e => k3 b o (k2 b o e)
  obtain ⟨L, eL, pL⟩ := perm_unmap pm ks rfl
  have old : s1.heap.objs.size ≤ p := by
    obtain ⟨_, _, _, _, R, _⟩ := hh
    obtain ⟨o, ho, _⟩ := R.ob
    exact Nat.le_trans (Nat.le_of_lt (Heap.lt_size ho)) hp
  have hn : H1 p = none := I1.hok.fresh old
  have tup3 : ∀ q ∈ L, TS.intsOf s3.heap (.ref q.1) = q.2 := fun q hq => (tupInts_of (P := X.prog) (w := X.w) (isT_keep (I1.isT (tup q (pL.mem_iff.mp hq))) kk)).ints
  have srt : (L.map (·.2)).Pairwise fun x y => ltL y x = false := by
    rw [eL, List.pairwise_map] at pw
    rw [List.pairwise_map]
    refine pw.imp_of_mem fun {u v} hu hv e => ?_
    rw [tup3 u hu, tup3 v hv] at e
    exact e
  have ll : (L.map fun q => V.ref q.1).length ≤ sizeLine := by rw [List.length_map, pL.length_eq, sizeLine_eq]; omega
  have J : Inv X pins σ (upd H1 p (.lst (L.map fun q => V.ref q.1))) { s1 with heap := s3.heap, gens := s3.gens, drawn := s3.drawn, toks := s3.toks } :=
    I1.call (ch := []) (Un.laid kk old hn) (I1.hok.laid kk old ⟨ll, out, c, by rw [eL]; exact vals_of_refs L, at3⟩) (by rw [g3]; exact I1.bare) (fun _ z => nomatch z)
  have e3 : s3 = { s1 with heap := s3.heap, gens := s3.gens, drawn := s3.drawn, toks := s3.toks } := by
    cases s3
    cases s1
    cases o3
    rfl
  rw [e3]
  exact ⟨.ref p, _, J, rfl, q1 L p pL srt hn⟩
end
/-! as a mirror -/
@[simp] def ssetU : D → (U → Prop) → Prop
  | .lst xs, k => ∃ rs : List (List Int), xs = rs.map (fun r => .tup (r.map D.int)) ∧ rs.length < 999 ∧ (rs.map th).Nodup ∧ (∀ r ∈ rs, r ≠ []) ∧ ∀ rs' : List (List Int), rs'.Perm rs → rs'.Pairwise (fun x y => ltL y x = false) → k (.own (.lst (rs'.map fun r => .tup (r.map D.int))))
  | _, _ => False
section
variable {K : PySem.W.Frag}
theorem rp_rows {F : Hp} : ∀ {vs : List V} {rs : List (List Int)}, RpL K F vs (rs.map fun r => .tup (r.map D.int)) → ∃ ks : List (Addr × List Int), vs = ks.map (fun p => V.ref p.1) ∧ rs = ks.map (·.2) ∧ ∀ p ∈ ks, SqT K F p.1 (p.2.map V.int)
  | [], [], _ => ⟨[], rfl, rfl, fun p hp => by cases hp⟩
  | [], r :: rs, h => by cases h
  | v :: vs, [], h => by cases h
  | v :: vs, r :: rs, .cons h t => by
    obtain ⟨ks, e1, e2, e3⟩ := rp_rows (rs := rs) t
    cases v with
    | ref a =>
      cases h with
      | tup h t =>
        rw [t.ints] at h
        refine ⟨(a, r) :: ks, by rw [e1]; rfl, by rw [List.map_cons, ← e2], fun p hp => ?_⟩
        rcases List.mem_cons.mp hp with z | z
        · rw [z]; exact h
        · exact e3 p z
    | _ => cases h
theorem cs_sset : CallS K (rSS K) ssetU := fun E F H σ ρ g v x k Q S hv hk rc => by
  unfold ssetU at hk
  split at hk
  · obtain ⟨a, vs, rfl, ha, ra⟩ := hv.lst S.ext
    obtain ⟨rs, rfl, few, un, full, q⟩ := hk
    obtain ⟨ks, rfl, rfl, tup⟩ := rp_rows ra
    rw [List.length_map] at few
    rw [List.map_map] at un
    refine ⟨a, ks, rfl, .inl (.inl ha), fun p hp => sqt_same S.ext (tup p hp), few, un, fun p hp => full _ (List.mem_map.mpr ⟨p, hp, rfl⟩), fun L p pm pw hn => ?_⟩
    have rr : RpL K F (L.map fun q => V.ref q.1) ((L.map (·.2)).map fun r => .tup (r.map D.int)) := by
      have each : ∀ L : List (Addr × List Int), (∀ q ∈ L, SqT K F q.1 (q.2.map V.int)) → RpL K F (L.map fun q => V.ref q.1) ((L.map (·.2)).map fun r => .tup (r.map D.int)) := by
        intro L
        induction L with
        | nil => intro _; exact .nil
        | cons x L ih => intro h; exact .cons (.tup (h x (by simp)) (RpL.of_ints _)) (ih fun q hq => h q (by simp [hq]))
      exact each L fun q hq => tup q (pm.mem_iff.mp hq)
    exact rc_newO rc S hn rr (q _ (pm.map (·.2)) pw)
  · exact hk.elim
end
section
variable {X : Cx} {cn : Str → Option Addr} {W : WX} {e : Expr} {m : ME}
theorem re_sset {x y : Str} {p p2 q pos : Pos} (hc : X.calm = true) (hu : X.A.units + 64 < cLine) (hg : Gl X x) (hx : x = "sorted") (hm : X.mg x = none) (hg2 : Gl X y) (hy : y = "set") (hm2 : X.mg y = none) (ha : PE X e (cE X.K cn W m))
    (na : starEach [e] X.env = (false, eval e X.env) :: starEach [] X.env := by rfl) : PE X (.Call (.Name x p) [.Call (.Name y p2) [e] [] q] [] pos) (cE X.K cn W (wUn ssetU m)) := by
  subst hx
  subst hy
  exact pe_wk (pe_sortSet hc hu hg hm hg2 hm2 ha na) (un_ok cs_sset)
end
open PySem PySem.Spec PyProof.Rows L2

/-! ### X.clear() of an own list -/
section
variable {X : Cx} {cn : Str → Option Addr} {W : WX} {pos : Pos}
@[simp] def wClrO (i : Nat) : MS := fun ρ g P => match ρ[i]? with
  | some (some (.own (.lst _))) => P.nx (ρ.set i (some (.own (.lst [])))) g
  | _ => False
theorem rs_clrO (i : Nat) {x : Str} {xpos apos cpos : Pos} (hN : X.N[i]? = some x := by rfl) (hv : Vis X.env.scope x := by first | exact Or.inl rfl | exact Or.inr (Or.inl rfl) | exact Or.inr (Or.inr rfl)) (hd : (x == ("__debug__" : Str)) = false := by decide)
    (hcd : (x == ("__classdict__" : Str)) = false := by decide) (hbase : attributeBase (.Name x xpos) "clear" X.env (eval (.Name x xpos) X.env) = eval (.Name x xpos) X.env := by rfl)
    (hline : (apos.endLine == cpos.line) = true := by rfl) (hs : swapsWith (.Call (.Attribute (.Name x xpos) "clear" apos) [] [] cpos) none pos.line X.env = pure false := by rfl) :
    PS X (.Expr (.Call (.Attribute (.Name x xpos) "clear" apos) [] [] cpos) pos) (cS X.K cn W (wClrO i)) :=
  ps_wk (ps_expr (pe_bm0 PySem.F.plainAttrs_list PySem.F.slot_list_clear PySem.F.type_list_clear mt_clear (pe_var (i := i) hN hv hd hcd) hbase hline) hs) fun D σ H h => by
    obtain ⟨E, F, ρ, g, P, S, hm, C⟩ := h
    unfold wClrO at hm
    split at hm
    · rename_i xs hi
      obtain ⟨l, vs, h1, h2, h3, h4, h5, h6⟩ := S.slotL hi
      exact ⟨.ref l, h1, .inl ⟨rfl, vs, .inl (.inl h2)⟩, l, vs, rfl, rfl, h2, C.nx F _ σ _ g (S.mutL hi h1 .nil) hm⟩
    · exact hm.elim
end
open PySem L2 PyProof.Rows

/-! ### rows -/
/-- a tuple of ints -/
def R (r : List Int) : D := .tup (r.map D.int)
def figs (r : List Int) : Bool := r.all fun f => decide (0 ≤ f) && decide (f < 60)
/-- a row -/
def okRow (r : List Int) : Bool := decide (1 ≤ r.length) && decide (r.length ≤ 12) && decide (r.head? ≠ some 0) && decide (r.getLast? ≠ some 0) && figs r
def whole (r : List Int) : Int := r.foldl (fun a f => a * 60 + f) 0
def strip (n : Int) : Int := if h : 0 < n ∧ n % 60 = 0 then strip (n / 60) else n
termination_by n.toNat
decreasing_by omega
def digs (n : Int) : List Int := if h : 0 < n then digs (n / 60) ++ [n % 60] else []
termination_by n.toNat
decreasing_by omega
def rowOf (n : Int) : List Int := digs (strip n)

/-! ### small steps -/
@[simp] theorem eqD_int (a b : Int) : eqD (.int a) (.int b) = decide (a = b) := by rw [Bool.eq_iff_iff]; simp [eqD, toPy, PyData.eqv]
@[simp] theorem okD_int (a : Int) : okD (.int a) = true := rfl
@[simp] theorem okD_str (a : Str) : okD (.str a) = PyData.strOk a := by simp [okD, toPy, SeqAt.shaped, PyData.canLay0, PyData.depth]
@[simp] theorem eqD_str (a b : Str) : eqD (.str a) (.str b) = decide (a = b) := by rw [Bool.eq_iff_iff]; simp [eqD, toPy, PyData.eqv]
@[simp] theorem atI_map {α β : Type} (f : α → β) (xs : List α) (i : Int) : atI (xs.map f) i = (atI xs i).map f := by
  unfold atI
  rw [List.length_map]
  cases ixN xs.length i with
  | none => rfl
  | some j => simp
@[simp] theorem ixN_map {α β : Type} (f : α → β) (xs : List α) (i : Int) : ixN (xs.map f).length i = ixN xs.length i := by rw [List.length_map]
/-! equality of nested data -/
def okN (n : Nat) (x : D) : Bool := (toPy x).canLay0 && decide ((toPy x).depth ≤ n)
theorem okN_mono {n m : Nat} (h : n ≤ m) {x : D} (o : okN n x = true) : okN m x = true := by
  unfold okN at o ⊢
  simp only [Bool.and_eq_true, decide_eq_true_eq] at o ⊢
  exact ⟨o.1, by omega⟩
theorem okD_okN {n : Nat} (h : n ≤ 64) {x : D} (o : okN n x = true) : okD x = true := okN_mono h o
theorem okNs {n : Nat} : ∀ {xs : List D}, (∀ x ∈ xs, okN n x = true) → PyData.canLayAll0 (toPyL xs) = true ∧ PyData.depthAll (toPyL xs) ≤ n
  | [], _ => ⟨rfl, by simp [toPyL, PyData.depthAll]⟩
  | x :: xs, h => by
    have i := okNs (xs := xs) fun y hy => h y (List.mem_cons_of_mem _ hy)
    have j := h x List.mem_cons_self
    unfold okN at j
    simp only [Bool.and_eq_true, decide_eq_true_eq] at j
    simp only [toPyL, PyData.canLayAll0, PyData.depthAll, Bool.and_eq_true]
    exact ⟨⟨j.1, i.1⟩, by omega⟩
theorem okN_tup {n : Nat} {xs : List D} (h : ∀ x ∈ xs, okN n x = true) : okN (n + 1) (.tup xs) = true := by
  have i := okNs h
  unfold okN
  simp only [toPy, PyData.canLay0, PyData.depth, Bool.and_eq_true, decide_eq_true_eq]
  exact ⟨i.1, by omega⟩
theorem okN_lst {n : Nat} {xs : List D} (h : ∀ x ∈ xs, okN n x = true) : okN (n + 1) (.lst xs) = true := by
  have i := okNs h
  unfold okN
  simp only [toPy, PyData.canLay0, PyData.depth, Bool.and_eq_true, decide_eq_true_eq]
  exact ⟨i.1, by omega⟩
theorem okN_int (n : Nat) (i : Int) : okN n (.int i) = true := by simp [okN, toPy, PyData.canLay0, PyData.depth]
theorem okN_R (r : List Int) : okN 1 (R r) = true := okN_tup fun x h => by
  obtain ⟨i, _, rfl⟩ := List.mem_map.mp h
  exact okN_int 0 i
@[simp] theorem okD_R (r : List Int) : okD (R r) = true := okD_okN (by omega) (okN_R r)
theorem eqvAll_map {α : Type} (f : α → D) (inj : ∀ a b, PyData.eqv (toPy (f a)) (toPy (f b)) = true ↔ a = b) : ∀ xs ys : List α, PyData.eqvAll (toPyL (xs.map f)) (toPyL (ys.map f)) = true ↔ xs = ys
  | [], [] => by simp [toPyL, PyData.eqvAll]
  | [], y :: ys => by simp [toPyL, PyData.eqvAll]
  | x :: xs, [] => by simp [toPyL, PyData.eqvAll]
  | x :: xs, y :: ys => by simp [toPyL, PyData.eqvAll, inj, eqvAll_map f inj xs ys]
@[simp] theorem eqD_R (r s : List Int) : eqD (R r) (R s) = decide (r = s) := by
  rw [Bool.eq_iff_iff]
  have := eqvAll_map D.int (by intro a b; simp [toPy, PyData.eqv]) r s
  simpa [eqD, R, toPy, PyData.eqv] using this
theorem mulW {i j : Int} (a b : Nat) (hi : i.natAbs < 2 ^ a) (hj : j.natAbs < 2 ^ b) (h : a + b < 1000000) : CMulW i j := by
  have l : ∀ {n a : Nat}, n < 2 ^ a → n.log2 ≤ a := fun {n a} h => by
    by_cases z : n = 0
    · subst z; simp
    · have := (Nat.log2_lt z).mpr h; omega
  have h1 := l hi
  have h2 := l hj
  show i.natAbs.log2 + j.natAbs.log2 < 1000000
  omega
theorem mulW64 {i j : Int} (hi : -(2 ^ 64) < i) (hi' : i < 2 ^ 64) (hj : -(2 ^ 64) < j) (hj' : j < 2 ^ 64) : CMulW i j := mulW 64 64 (by omega) (by omega) (by omega)
theorem divW64 {i j : Int} (h : 0 < j) (h' : j < 2 ^ 64) : CDivW i j := by
  refine ⟨h, ?_⟩
  have := (Nat.log2_lt (n := j.natAbs) (k := 64) (by omega)).mpr (by omega)
  omega
@[simp] theorem okD_bl (a : Bool) : okD (.bl a) = true := rfl
@[simp] theorem okD_non : okD .non = true := rfl
@[simp] theorem eqD_bl (a b : Bool) : eqD (.bl a) (.bl b) = decide (a = b) := by cases a <;> cases b <;> rfl
theorem atI_of {α : Type} (xs : List α) (i : Nat) : atI xs (i : Int) = xs[i]? := by
  unfold atI ixN
  rw [if_pos (by omega)]
  by_cases h : (i : Int) < (xs.length : Nat)
  · rw [if_pos h]; show xs[Int.toNat _]? = _; rw [Int.toNat_natCast]
  · rw [if_neg h]
    show none = _
    rw [List.getElem?_eq_none (by omega)]
@[simp] theorem atI_lit {α : Type} (xs : List α) (i : Nat) : atI xs (no_index (OfNat.ofNat i : Int)) = xs[(OfNat.ofNat i : Nat)]? := atI_of xs i
theorem ixN_of (n i : Nat) : ixN n (i : Int) = if i < n then some i else none := by
  unfold ixN
  rw [if_pos (by omega)]
  by_cases h : i < n
  · rw [if_pos h, if_pos (by omega), Int.toNat_natCast]
  · rw [if_neg h, if_neg (by omega)]
@[simp] theorem ixN_lit (n i : Nat) : ixN n (no_index (OfNat.ofNat i : Int)) = if (OfNat.ofNat i : Nat) < n then some (OfNat.ofNat i) else none := ixN_of n i
@[simp] theorem setG_at (g : G) (a : Addr) (c : Cell) : setG g a c a = some c := by simp [setG]
@[simp] theorem setG_two (g : G) (a : Addr) (c e : Cell) : setG (setG g a c) a e = setG g a e := by
  funext b
  unfold setG
  by_cases h : b = a
  · rw [if_pos h, if_pos h]
  · rw [if_neg h, if_neg h, if_neg h]
/-! loops: what stays -/
theorem forLoop_ind {mg : MG} {mb : MS} {P : Post} (I : List D → Env → G → Prop) (h0 : ∀ ρ g, I [] ρ g → P.nx ρ g)
    (hs : ∀ x xs ρ g N, I (x :: xs) ρ g → (∀ ρ' g', I xs ρ' g' → N ρ' g') → mg x ρ fun ρ1 => mb ρ1 g (loopP N P)) : ∀ xs ρ g, I xs ρ g → forLoop mg mb xs ρ g P
  | [], ρ, g, i => h0 ρ g i
  | x :: xs, ρ, g, i => hs x xs ρ g _ i fun ρ' g' i' => forLoop_ind I h0 hs xs ρ' g' i'
theorem lcLoop_ind {tg : MG} {mt : MT} {me : ME} {ρ : Env} {k : List D → G → Prop} (I : List D → List D → G → Prop) (h0 : ∀ acc g, I [] acc g → k acc g)
    (hs : ∀ x xs acc g (N : List D → G → Prop), I (x :: xs) acc g → (∀ acc' g', I xs acc' g' → N acc' g') → tg x ρ fun ρ1 => mt ρ1 g (fun b g1 => (b = true → me ρ1 g1 (fun u g2 => fzU u fun y => N (acc ++ [y]) g2) noX) ∧ (b = false → N acc g1)) noX) : ∀ xs acc g, I xs acc g → lcLoop tg mt me ρ xs acc g k
  | [], acc, g, i => h0 acc g i
  | x :: xs, acc, g, i => hs x xs acc g (fun acc' g' => lcLoop tg mt me ρ xs acc' g' k) i fun acc' g' i' => lcLoop_ind I h0 hs xs acc' g' i'

theorem snoc_ind {α : Type} {P : List α → Prop} (h0 : P []) (hs : ∀ xs x, P xs → P (xs ++ [x])) (xs : List α) : P xs := by
  have : ∀ ys : List α, P ys.reverse := by
    intro ys
    induction ys with
    | nil => exact h0
    | cons y ys ih => rw [List.reverse_cons]; exact hs _ _ ih
  have h := this xs.reverse
  rwa [List.reverse_reverse] at h
@[simp] theorem look_R (g : G) (r : List Int) : look g (R r) = R r := rfl
@[simp] theorem R_inj (r s : List Int) : (R r = R s) ↔ r = s := by
  constructor
  · intro h
    unfold R at h
    have h2 : r.map D.int = s.map D.int := by injection h
    exact (List.map_inj_right (fun a b e => by injection e)).mp h2
  · exact congrArg R
@[simp] theorem mapI_inj (r s : List Int) : (r.map D.int = s.map D.int) ↔ r = s := List.map_inj_right (fun a b e => by injection e)
@[simp] theorem ex_at {α β : Type} (f : α → β) (o : Option α) (P : β → Prop) : (∃ x, (∃ a, o = some a ∧ f a = x) ∧ P x) ↔ ∃ a, o = some a ∧ P (f a) := by
  constructor
  · rintro ⟨x, ⟨a, h, rfl⟩, p⟩; exact ⟨a, h, p⟩
  · rintro ⟨a, h, p⟩; exact ⟨_, ⟨a, h, rfl⟩, p⟩
@[simp] theorem ex_sub (g : G) (P : G → Prop) (h : ∀ g1, SubG g1 g → P g1 → P g) : (∃ g1, SubG g1 g ∧ P g1) ↔ P g := ⟨fun ⟨g1, a, b⟩ => h g1 a b, fun p => ⟨g, SubG.refl g, p⟩⟩
theorem atI_pos {α : Type} {xs : List α} {i : Int} (h0 : 0 ≤ i) (h : i < xs.length) : atI xs i = some (xs[i.toNat]'(by omega)) := by
  unfold atI ixN
  rw [if_pos h0, if_pos h]
  show xs[i.toNat]? = _
  exact List.getElem?_eq_getElem (by omega)
theorem atI_nat {α : Type} {xs : List α} {i : Nat} (h : i < xs.length) : atI xs (i : Int) = some (xs[i]'h) := by
  rw [atI_pos (by omega) (by omega)]
  rfl
theorem atI_cons0 {α : Type} (x : α) (xs : List α) : atI (x :: xs) 0 = some x := by
  rw [atI_pos (by omega) (by rw [List.length_cons]; omega)]
  rfl
theorem atI_head {α : Type} (xs : List α) : atI xs 0 = xs.head? := by
  cases xs with
  | nil => rfl
  | cons x xs => rw [atI_cons0]; rfl
theorem atI_last {α : Type} (xs : List α) : atI xs (-1) = xs.getLast? := by
  induction xs using snoc_ind with
  | h0 => rfl
  | hs xs x _ =>
    unfold atI ixN
    rw [if_neg (by omega), if_pos (by rw [List.length_append, List.length_singleton]; omega), List.length_append, List.length_singleton]
    show (xs ++ [x])[_]? = _
    rw [show ((-1 : Int) + ((xs.length + 1 : Nat) : Int)).toNat = xs.length by omega]
    simp
theorem atI_mid {α : Type} (a : List α) (x : α) (b : List α) : atI (a ++ x :: b) (a.length : Int) = some x := by
  rw [atI_nat (by simp)]
  simp
theorem wWhile_ind {t : MT} {mb : MS} {P : Post} (I : Nat → Env → G → Prop) {n : Nat} {ρ : Env} {g : G} (h0 : I n ρ g)
    (hs : ∀ n ρ g (N : Env → G → Prop), I n ρ g → (∀ n' ρ' g', n' < n → I n' ρ' g' → N ρ' g') → t ρ g (fun c g1 => (c = true → mb ρ g1 (loopP N P)) ∧ (c = false → P.nx ρ g1)) (xOf P ρ)) : wWhile t mb ρ g P :=
  ⟨I, ⟨n, h0⟩, fun n ρ g i => hs n ρ g _ i fun n' ρ' g' l i' => ⟨n', l, i'⟩⟩
/-! ### wholes -/
theorem whole_snoc (r : List Int) (f : Int) : whole (r ++ [f]) = whole r * 60 + f := by
  unfold whole
  rw [List.foldl_append]
  rfl
theorem figs_snoc (r : List Int) (f : Int) : figs (r ++ [f]) = (figs r && (decide (0 ≤ f) && decide (f < 60))) := by
  unfold figs
  rw [List.all_append]
  simp
theorem whole_lt : ∀ (r : List Int), figs r = true → 0 ≤ whole r ∧ whole r < 60 ^ r.length := by
  intro r
  induction r using snoc_ind with
  | h0 => intro _; simp [whole]
  | hs r f ih =>
    rw [figs_snoc, whole_snoc]
    intro h
    simp only [Bool.and_eq_true, decide_eq_true_eq] at h
    have ih := ih h.1
    rw [List.length_append, List.length_singleton, Int.pow_succ]
    omega
theorem figs_append (r s : List Int) : figs (r ++ s) = (figs r && figs s) := by
  unfold figs
  rw [List.all_append]
theorem digs_eq (n : Int) (h : 0 < n) : digs n = digs (n / 60) ++ [n % 60] := by
  rw [digs, dif_pos h]
theorem digs_0 (n : Int) (h : n ≤ 0) : digs n = [] := by
  rw [digs, dif_neg (by omega)]
theorem strip_eq (n : Int) (h : 0 < n ∧ n % 60 = 0) : strip n = strip (n / 60) := by
  rw [strip, dif_pos h]
theorem strip_0 (n : Int) (h : ¬ (0 < n ∧ n % 60 = 0)) : strip n = n := by
  rw [strip, dif_neg h]
theorem digs_whole (r : List Int) (h : figs r = true) (hh : r.head? ≠ some 0) : digs (whole r) = r := by
  induction r using snoc_ind with
  | h0 => rw [show whole [] = 0 from rfl, digs_0 0 (by omega)]
  | hs r f ih =>
    rw [figs_snoc] at h
    simp only [Bool.and_eq_true, decide_eq_true_eq] at h
    have b := whole_lt r h.1
    rw [whole_snoc]
    have hpos : 0 < whole r * 60 + f := by
      cases r with
      | nil =>
        have : f ≠ 0 := fun e => hh (by rw [e]; rfl)
        rw [show whole [] = 0 from rfl]
        omega
      | cons a r =>
        have i2 := ih h.1 hh
        by_cases z : 0 < whole (a :: r)
        · omega
        · rw [digs_0 _ (by omega)] at i2
          cases i2
    rw [digs_eq _ hpos, show (whole r * 60 + f) / 60 = whole r by omega, show (whole r * 60 + f) % 60 = f by omega]
    cases r with
    | nil => rw [show whole [] = 0 from rfl, digs_0 0 (by omega)]
    | cons a r => rw [ih h.1 hh]
theorem whole_digs (n : Int) (h : 0 ≤ n) : whole (digs n) = n := by
  have : ∀ (k : Nat) (n : Int), 0 ≤ n → n.toNat ≤ k → whole (digs n) = n := by
    intro k
    induction k with
    | zero => intro n h1 h2; rw [digs_0 n (by omega)]; show (0 : Int) = n; omega
    | succ k ih =>
      intro n h1 h2
      by_cases z : 0 < n
      · rw [digs_eq n z, whole_snoc, ih (n / 60) (by omega) (by omega)]
        omega
      · rw [digs_0 n (by omega)]; show (0 : Int) = n; omega
  exact this n.toNat n h (Nat.le_refl _)
theorem strip_pos (n : Int) (h : 0 < n) : 0 < strip n ∧ strip n ≤ n ∧ strip n % 60 ≠ 0 := by
  have : ∀ (k : Nat) (n : Int), 0 < n → n.toNat ≤ k → 0 < strip n ∧ strip n ≤ n ∧ strip n % 60 ≠ 0 := by
    intro k
    induction k with
    | zero => intro n h1 h2; omega
    | succ k ih =>
      intro n h1 h2
      by_cases z : n % 60 = 0
      · rw [strip_eq n ⟨h1, z⟩]
        have := ih (n / 60) (by omega) (by omega)
        omega
      · rw [strip_0 n (fun q => z q.2)]
        omega
  exact this n.toNat n h (Nat.le_refl _)
theorem digs_figs (n : Int) : figs (digs n) = true := by
  have : ∀ (k : Nat) (n : Int), n.toNat ≤ k → figs (digs n) = true := by
    intro k
    induction k with
    | zero => intro n h2; rw [digs_0 n (by omega)]; rfl
    | succ k ih =>
      intro n h2
      by_cases z : 0 < n
      · rw [digs_eq n z, figs_snoc, ih (n / 60) (by omega)]
        have : 0 ≤ n % 60 ∧ n % 60 < 60 := by omega
        simp [this]
      · rw [digs_0 n (by omega)]; rfl
  exact this n.toNat n (Nat.le_refl _)
theorem digs_head (n : Int) : (digs n).head? ≠ some 0 := by
  have : ∀ (k : Nat) (n : Int), n.toNat ≤ k → (digs n).head? ≠ some 0 := by
    intro k
    induction k with
    | zero => intro n h2; rw [digs_0 n (by omega)]; simp
    | succ k ih =>
      intro n h2
      by_cases z : 0 < n
      · rw [digs_eq n z]
        by_cases y : 0 < n / 60
        · have i := ih (n / 60) (by omega)
          rw [digs_eq (n / 60) y] at i ⊢
          cases q : digs (n / 60 / 60) with
          | nil => rw [q] at i; simpa using i
          | cons a l => rw [q] at i; simpa using i
        · rw [digs_0 (n / 60) (by omega)]
          simp
          omega
      · rw [digs_0 n (by omega)]; simp
  exact this n.toNat n (Nat.le_refl _)
theorem digs_len (k : Nat) : ∀ n : Int, n < 60 ^ k → (digs n).length ≤ k := by
  induction k with
  | zero => intro n h; rw [digs_0 n (by simp at h; omega)]; simp
  | succ k ih =>
    intro n h
    by_cases z : 0 < n
    · rw [digs_eq n z, List.length_append, List.length_singleton]
      rw [Int.pow_succ] at h
      have := ih (n / 60) (by omega)
      omega
    · rw [digs_0 n (by omega)]; simp
theorem digs_len2 (k : Nat) : ∀ n : Int, n < 2 ^ k → (digs n).length ≤ k := fun n h => digs_len k n (by
  have : (2 : Int) ^ k ≤ 60 ^ k := by
    have := Nat.pow_le_pow_left (show 2 ≤ 60 by omega) k
    exact_mod_cast this
  omega)
def Big (n : Int) : Prop := n < 2 ^ 900000
theorem big_len (n : Int) (h : 0 < n) (b : Big n) : (rowOf n).length ≤ 900000 := digs_len2 900000 _ (Int.lt_of_le_of_lt (strip_pos n h).2.1 b)
theorem big_of (k : Nat) (hk : k ≤ 10000) {n : Int} (h : n ≤ 60 ^ k) : Big n := by
  have a : 60 ^ k ≤ 64 ^ 10000 := Nat.le_trans (Nat.pow_le_pow_left (by omega) k) (Nat.pow_le_pow_right (by omega) hk)
  have b : (64 ^ 10000 : Nat) < 2 ^ 900000 := by
    rw [show (64 : Nat) = 2 ^ 6 from rfl, ← Nat.pow_mul]
    exact Nat.pow_lt_pow_right (by omega) (by omega)
  have c : (60 ^ k : Nat) < 2 ^ 900000 := Nat.lt_of_le_of_lt a b
  have d : (60 : Int) ^ k < 2 ^ 900000 := by exact_mod_cast c
  exact Int.lt_of_le_of_lt h d
theorem rowOf_figs (n : Int) : figs (rowOf n) = true := digs_figs _
theorem rowOf_last (n : Int) (h : 0 < n) : ∃ (r : List Int) (f : Int), rowOf n = r ++ [f] ∧ f ≠ 0 := by
  have := strip_pos n h
  exact ⟨_, _, digs_eq _ this.1, this.2.2⟩
theorem okRow_iff (r : List Int) : okRow r = true ↔ 1 ≤ r.length ∧ r.length ≤ 12 ∧ r.head? ≠ some 0 ∧ r.getLast? ≠ some 0 ∧ figs r = true := by
  unfold okRow
  simp only [Bool.and_eq_true, decide_eq_true_eq, and_assoc]
theorem okRow_rowOf (n : Int) (h : 0 < n) (h' : (rowOf n).length ≤ 12) : okRow (rowOf n) = true := by
  rw [okRow_iff]
  obtain ⟨r, f, e, hf⟩ := rowOf_last n h
  refine ⟨by rw [e]; simp, h', digs_head _, ?_, rowOf_figs n⟩
  rw [e]
  simpa using hf
theorem whole_pos (r : List Int) (h : okRow r = true) : 0 < whole r := by
  rw [okRow_iff] at h
  have b := whole_lt r h.2.2.2.2
  have d := digs_whole r h.2.2.2.2 h.2.2.1
  by_cases z : 0 < whole r
  · exact z
  · rw [digs_0 _ (by omega)] at d
    rw [← d] at h
    simp at h
theorem whole_last (r : List Int) (f : Int) (h : figs (r ++ [f]) = true) : whole (r ++ [f]) % 60 = f := by
  rw [whole_snoc]
  rw [figs_snoc] at h
  simp only [Bool.and_eq_true, decide_eq_true_eq] at h
  omega
theorem rowOf_whole (r : List Int) (h : okRow r = true) : rowOf (whole r) = r := by
  have hp := whole_pos r h
  rw [okRow_iff] at h
  unfold rowOf
  rw [strip_0, digs_whole r h.2.2.2.2 h.2.2.1]
  rintro ⟨_, z⟩
  have e : r = r.dropLast ++ [r.getLast (by intro e; rw [e] at h; simp at h)] := (List.dropLast_concat_getLast _).symm
  have g := h.2.2.2.1
  rw [e] at g z
  rw [whole_last _ _ (by rw [← e]; exact h.2.2.2.2)] at z
  exact g (by rw [List.getLast?_append]; simp [z])
theorem whole_lt12 (r : List Int) (h : okRow r = true) : whole r < 60 ^ 12 := by
  rw [okRow_iff] at h
  have b := whole_lt r h.2.2.2.2
  have : (60 : Int) ^ r.length ≤ 60 ^ 12 := by
    have := Nat.pow_le_pow_right (show 0 < 60 by omega) h.2.1
    exact_mod_cast this
  omega
theorem sum59 (n : Int) (h : 0 ≤ n) : (digs n).sum % 59 = n % 59 := by
  have : ∀ (k : Nat) (n : Int), 0 ≤ n → n.toNat ≤ k → (digs n).sum % 59 = n % 59 := by
    intro k
    induction k with
    | zero => intro n h1 h2; rw [digs_0 n (by omega)]; show (0 : Int) % 59 = _; omega
    | succ k ih =>
      intro n h1 h2
      by_cases z : 0 < n
      · rw [digs_eq n z, List.sum_append]
        have := ih (n / 60) (by omega) (by omega)
        simp only [List.sum_cons, List.sum_nil]
        omega
      · rw [digs_0 n (by omega)]; show (0 : Int) % 59 = _; omega
  exact this n.toNat n h (Nat.le_refl _)
theorem strip59 (n : Int) (h : 0 < n) : strip n % 59 = n % 59 := by
  have : ∀ (k : Nat) (n : Int), 0 < n → n.toNat ≤ k → strip n % 59 = n % 59 := by
    intro k
    induction k with
    | zero => intro n h1 h2; omega
    | succ k ih =>
      intro n h1 h2
      by_cases z : n % 60 = 0
      · rw [strip_eq n ⟨h1, z⟩, ih (n / 60) (by omega) (by omega)]
        omega
      · rw [strip_0 n (fun q => z q.2)]
  exact this n.toNat n h (Nat.le_refl _)
/-- the cast of a row -/
def castOf (r : List Int) : Int := r.sum % 59
theorem castOf_rowOf (n : Int) (h : 0 < n) : castOf (rowOf n) = n % 59 := by
  unfold castOf rowOf
  have := strip_pos n h
  rw [sum59 _ (by omega), strip59 n h]
theorem castOf_row (r : List Int) (h : okRow r = true) : castOf r = whole r % 59 := by
  rw [← castOf_rowOf _ (whole_pos r h), rowOf_whole r h]
open PySem L2 PyProof.Rows

def BR : Exn := ⟨Str.ofString "BadRow", []⟩
/-- the law's dice at d -/
def Dice (g : G) (d : Addr) : Prop := ∃ (ns : List Int) (p m l : Int), g d = some (.lst [.ro (ns.map D.int), .int p, .int m, .int l]) ∧ ns.length ≤ 63 ∧ 0 ≤ p ∧ 0 ≤ m ∧ m < 2147483647
/-- twos, threes and fives alone -/
def Smooth (v : Int) : Prop := ∃ a b c : Nat, v = 2 ^ a * 3 ^ b * 5 ^ c
def sp_need_row : SpU := fun xs g Q X => ∃ r : List Int, xs = [R r] ∧ (okRow r = true → Q (.d .non) g) ∧ (okRow r = false → X BR g)
def sp_whole_of : SpU := fun xs g Q _ => ∃ r : List Int, xs = [R r] ∧ figs r = true ∧ r.length ≤ 100000 ∧ Q (.d (.int (whole r))) g
def sp_row_of : SpU := fun xs g Q _ => ∃ n : Int, xs = [.int n] ∧ 0 < n ∧ Big n ∧ Q (.d (R (rowOf n))) g
def sp_times : SpU := fun xs g Q X => ∃ r s : List Int, xs = [R r, R s] ∧ (okRow r = true → okRow s = true → Q (.d (R (rowOf (whole r * whole s)))) g) ∧ (okRow r = false ∨ okRow s = false → X BR g)
def sp_cast : SpU := fun xs g Q X => ∃ r : List Int, xs = [R r] ∧ (okRow r = true → Q (.d (.int (castOf r))) g) ∧ (okRow r = false → X BR g)
def sp_law_dice : SpU := fun xs g Q _ => ∃ ns : List Int, xs = [.ro (ns.map D.int)] ∧ ∀ m : Int, 0 ≤ m → m < 2147483647 → Q (.own (.lst [.ro (ns.map D.int), .int 0, .int m, .int 0])) g
def sp_law_next : SpU := fun xs g Q _ => ∃ (d : Addr) (k : Int), xs = [.ref d, .int k] ∧ 0 < k ∧ k < 2 ^ 60 ∧ Dice g d ∧ ∀ (v : Int) (g' : G), 0 ≤ v → v < k → Dice g' d → (∀ b, b ≠ d → g' b = g b) → Q (.d (.int v)) g'
def sp_law_whole_of : SpU := fun xs g Q _ => ∃ r : List Int, xs = [R r] ∧ figs r = true ∧ r.length ≤ 100000 ∧ Q (.d (.int (whole r))) g
def sp_law_row : SpU := fun xs g Q _ => ∃ n : Int, xs = [.int n] ∧ 0 < n ∧ Big n ∧ Q (.d (R (rowOf n))) g
def sp_law_smooth : SpU := fun xs g Q _ => ∃ d : Addr, xs = [.ref d] ∧ Dice g d ∧ ∀ (v : Int) (g' : G), 0 < v → v ≤ 5 ^ 27 → Dice g' d → (∀ b, b ≠ d → g' b = g b) → Smooth v → Q (.d (.int v)) g'
def sp_law_drawn : SpU := fun xs g Q _ => ∃ (d : Addr) (k : Int), xs = [.ref d, .int k] ∧ 1 ≤ k ∧ k ≤ 12 ∧ Dice g d ∧ ∀ (r : List Int) (g' : G), okRow r = true → r.length ≤ 2 ∨ (r.length : Int) ≤ k → Dice g' d → (∀ b, b ≠ d → g' b = g b) → Q (.d (R r)) g'
@[simp] def c_MOST_FIGURES : D := .int 12
/-- slots: row, figure -/
def m_need_row : MS := wSeq (wIf (wtOr (wtNot (wT (wChain leU leU (wC (.int 1)) (wUn lenU (wVar 0)) (wC c_MOST_FIGURES)))) (wtOr (wT (wBin eqU (wBin ixU (wVar 0) (wC (.int 0))) (wC (.int 0)))) (wT (wBin eqU (wBin ixU (wVar 0) (wUn negU (wC (.int 1)))) (wC (.int 0)))))) (wRaise "BadRow") (wNext)) (wFor (wIt (wVar 0)) (gN 1) (wIf (wtNot (wT (wChain leU ltU (wC (.int 0)) (wVar 1) (wC (.int 60))))) (wRaise "BadRow") (wNext)))
/-- slots: row, found, figure -/
def m_whole_of : MS := wSeq (wSet 1 (wC (.int 0))) (wSeq (wFor (wIt (wVar 0)) (gN 2) (wSet 1 (wBin addU (wBin mulU (wVar 1) (wC (.int 60))) (wVar 2)))) (wRet (wVar 1)))
/-- slots: number, found -/
def m_row_of : MS := wSeq (wWhile (wT (wBin eqU (wBin modU (wVar 0) (wC (.int 60))) (wC (.int 0)))) (wSet 0 (wBin divU (wVar 0) (wC (.int 60))))) (wSeq (wSet 1 (wTup (wNil))) (wSeq (wWhile (wT (wBin gtU (wVar 0) (wC (.int 0)))) (wSeq (wSet 1 (wBin addU (wTup (wCons (wBin modU (wVar 0) (wC (.int 60))) (wNil))) (wVar 1))) (wSet 0 (wBin divU (wVar 0) (wC (.int 60)))))) (wRet (wVar 1))))
/-- slots: one, other -/
def m_times : MS := wSeq (wDrop (wCall sp_need_row (wCons (wVar 0) (wNil)))) (wSeq (wDrop (wCall sp_need_row (wCons (wVar 1) (wNil)))) (wRet (wCall sp_row_of (wCons (wBin mulU (wCall sp_whole_of (wCons (wVar 0) (wNil))) (wCall sp_whole_of (wCons (wVar 1) (wNil)))) (wNil)))))
/-- slots: row -/
def m_cast : MS := wSeq (wDrop (wCall sp_need_row (wCons (wVar 0) (wNil)))) (wRet (wBin modU (wUn sumU (wVar 0)) (wC (.int 59))))
/-- slots: _law_script, _law_mixed, _law_cell -/
def m_law_dice : MS := wSeq (wSet 1 (wC (.int 0))) (wSeq (wFor (wIt (wVar 0)) (gN 2) (wSet 1 (wBin modU (wBin addU (wBin addU (wBin mulU (wVar 1) (wC (.int 48271))) (wBin mulU (wBin modU (wVar 2) (wC (.int 2147483647))) (wC (.int 69621)))) (wC (.int 11))) (wC (.int 2147483647))))) (wRet (wLst (wCons (wVar 0) (wCons (wC (.int 0)) (wCons (wBin mulU (wVar 1) (wUn intcU (wBin gtU (wUn lenU (wVar 0)) (wC (.int 2))))) (wCons (wC (.int 0)) (wNil))))))))
/-- slots: _law_dice_here, _law_many, _law_found, _law_cell -/
def m_law_next : MS := wSeq (wIf (wT (wBin gtU (wBin ixU (wVar 0) (wC (.int 3))) (wC (.int 0)))) (wSeq (wSet 2 (wBin modU (wBin ixU (wVar 0) (wC (.int 3))) (wVar 1))) (wSeq (wSto 0 (wC (.int 3)) (wBin divU (wBin ixU (wVar 0) (wC (.int 3))) (wVar 1))) (wRet (wVar 2)))) (wNext)) (wSeq (wSto 0 (wC (.int 1)) (wBin addU (wBin ixU (wVar 0) (wC (.int 1))) (wC (.int 1)))) (wSeq (wIf (wT (wBin leU (wBin ixU (wVar 0) (wC (.int 1))) (wUn lenU (wBin ixU (wVar 0) (wC (.int 0)))))) (wSeq (wSet 3 (wBin ixU (wBin ixU (wVar 0) (wC (.int 0))) (wBin subU (wBin ixU (wVar 0) (wC (.int 1))) (wC (.int 1))))) (wSeq (wSto 0 (wC (.int 3)) (wIfE (wT (wBin geU (wVar 3) (wBin powU (wC (.int 10)) (wC (.int 18))))) (wBin divU (wVar 3) (wVar 1)) (wC (.int 0)))) (wRet (wBin modU (wVar 3) (wVar 1))))) (wNext)) (wSeq (wSto 0 (wC (.int 2)) (wBin modU (wBin mulU (wBin ixU (wVar 0) (wC (.int 2))) (wC (.int 48271))) (wC (.int 2147483647)))) (wRet (wBin modU (wBin divU (wBin ixU (wVar 0) (wC (.int 2))) (wC (.int 7))) (wVar 1))))))
/-- slots: _law_row_here, _law_found, _law_k -/
def m_law_whole_of : MS := wSeq (wSet 1 (wC (.int 0))) (wSeq (wFor (wR1 (wCons (wUn lenU (wVar 0)) (wNil))) (gN 2) (wSet 1 (wBin addU (wBin mulU (wVar 1) (wC (.int 60))) (wBin ixU (wVar 0) (wVar 2))))) (wRet (wVar 1)))
/-- slots: _law_number, _law_figures -/
def m_law_row : MS := wSeq (wSetO 1 (wLst (wNil))) (wSeq (wWhile (wT (wBin gtU (wVar 0) (wC (.int 0)))) (wSeq (wApp 1 (wBin modU (wVar 0) (wC (.int 60)))) (wSet 0 (wBin divU (wVar 0) (wC (.int 60)))))) (wSeq (wWhile (wT (wBin eqU (wBin ixU (wVar 1) (wC (.int 0))) (wC (.int 0)))) (wPopD 1 (wC (.int 0)))) (wRet (wUn tupleU (wUn revU (wVar 1))))))
/-- slots: _law_d, _law_found, _law_prime, _law_k -/
def m_law_smooth : MS := wSeq (wSet 1 (wC (.int 1))) (wSeq (wFor (wIt (wLst (wCons (wC (.int 2)) (wCons (wC (.int 3)) (wCons (wC (.int 5)) (wNil)))))) (gN 2) (wFor (wR1 (wCons (wBin ixU (wLst (wCons (wCall sp_law_next (wCons (wVar 0) (wCons (wC (.int 4)) (wNil)))) (wCons (wCall sp_law_next (wCons (wVar 0) (wCons (wC (.int 10)) (wNil)))) (wNil)))) (wUn intcU (wBin eqU (wCall sp_law_next (wCons (wVar 0) (wCons (wC (.int 4)) (wNil)))) (wC (.int 3))))) (wNil))) (gN 3) (wSet 1 (wBin mulU (wVar 1) (wVar 2))))) (wRet (wVar 1)))
/-- slots: _law_d, _law_most, _law_kind, _law_found, _law_figures, _law_k -/
def m_law_drawn : MS := wSeq (wSet 2 (wCall sp_law_next (wCons (wVar 0) (wCons (wC (.int 4)) (wNil))))) (wSeq (wIf (wT (wBin eqU (wVar 2) (wC (.int 0)))) (wRet (wCall sp_law_row (wCons (wBin addU (wC (.int 1)) (wCall sp_law_next (wCons (wVar 0) (wCons (wC (.int 60)) (wNil))))) (wNil)))) (wNext)) (wSeq (wIf (wT (wBin ltU (wVar 2) (wC (.int 3)))) (wSet 3 (wCall sp_law_row (wCons (wBin mulU (wCall sp_law_smooth (wCons (wVar 0) (wNil))) (wBin ixU (wLst (wCons (wC (.int 1)) (wCons (wC (.int 1)) (wCons (wC (.int 1)) (wCons (wC (.int 7)) (wCons (wC (.int 49)) (wCons (wC (.int 11)) (wNil)))))))) (wCall sp_law_next (wCons (wVar 0) (wCons (wC (.int 6)) (wNil)))))) (wNil)))) (wSeq (wSet 4 (wLc (wR1 (wCons (wBin addU (wC (.int 1)) (wCall sp_law_next (wCons (wVar 0) (wCons (wVar 1) (wNil))))) (wNil))) (gN 5) (wYes) (wCall sp_law_next (wCons (wVar 0) (wCons (wC (.int 60)) (wNil)))) [5])) (wSet 3 (wBin addU (wBin addU (wTup (wCons (wBin addU (wC (.int 1)) (wCall sp_law_next (wCons (wVar 0) (wCons (wC (.int 59)) (wNil))))) (wNil))) (wUn tupleU (wVar 4))) (wTup (wCons (wBin addU (wC (.int 1)) (wCall sp_law_next (wCons (wVar 0) (wCons (wC (.int 59)) (wNil))))) (wNil))))))) (wRet (wIfE (wT (wBin gtU (wBin ixU (wSl (wVar 3) (wO0) (wO (wVar 1))) (wUn negU (wC (.int 1)))) (wC (.int 0)))) (wSl (wVar 3) (wO0) (wO (wVar 1))) (wTup (wCons (wC (.int 1)) (wCons (wC (.int 30)) (wNil))))))))
open PySem L2 PyProof.Rows

theorem sub1 {P : G → Prop} {g : G} (h : P g) : ∃ g1, SubG g1 g ∧ P g1 := ⟨g, SubG.refl g, h⟩
theorem t_need_row (xs : List D) (g : G) (Q : KU) (X : KX) (h : sp_need_row xs g Q X) : m_need_row (startU 2 xs) g (fnPost Q X) := by
  obtain ⟨r, rfl, h1, h2⟩ := h
  simp [m_need_row, R, atI_head, atI_last]
  have bad : okRow r = false → ∃ g1, SubG g1 g ∧ X ⟨Str.ofString "BadRow", []⟩ g1 := fun e => sub1 (h2 e)
  have ok := okRow_iff r
  refine ⟨fun a => ⟨fun b => ?_, fun b => ?_⟩, fun a => ?_⟩
  · refine bad (by rw [Bool.eq_false_iff]; intro e; have := ok.mp e; omega)
  · cases r with
    | nil => simp at a
    | cons f r' =>
      refine ⟨f, rfl, fun e => ?_, fun e => ?_⟩
      · subst e
        exact bad (by rw [Bool.eq_false_iff]; intro e; have := ok.mp e; simp at this)
      · have hl : (f :: r').getLast? = some ((f :: r').getLast (by simp)) := List.getLast?_eq_some_getLast _
        refine ⟨_, hl, fun e2 => ?_, fun e2 => ?_⟩
        · exact bad (by rw [Bool.eq_false_iff]; intro e; have := ok.mp e; rw [hl, e2] at this; simp at this)
        · have hok : okRow (f :: r') = figs (f :: r') := by
            rw [Bool.eq_iff_iff, ok]
            refine ⟨fun q => q.2.2.2.2, fun q => ⟨by omega, by omega, by simpa using e, by rw [hl]; simpa using e2, q⟩⟩
          rw [hok] at h1 h2
          show forLoop _ _ ((f :: r').map D.int) _ _ _
          refine forLoop_ind (fun xs ρ g' => ∃ (a b : List Int) (z : Option U), xs = b.map D.int ∧ f :: r' = a ++ b ∧ figs a = true ∧ g' = g ∧ ρ = [some (.d (R (f :: r'))), z]) ?_ ?_ _ _ _ ⟨[], f :: r', none, rfl, rfl, rfl, rfl, rfl⟩
          · rintro ρ g' ⟨a, b, z, e1, e2, e3, rfl, rfl⟩
            cases b with
            | cons y b => cases e1
            | nil =>
              rw [List.append_nil] at e2
              subst e2
              exact sub1 (h1 e3)
          · rintro x xs ρ g' N ⟨a, b, z, e1, e2, e3, rfl, rfl⟩ ih
            cases b with
            | nil => cases e1
            | cons y b =>
              cases e1
              simp
              have bad' : ¬ (0 ≤ y ∧ y < 60) → ∃ g1, SubG g1 g' ∧ X ⟨Str.ofString "BadRow", []⟩ g1 := fun e => sub1 (h2 (by
                rw [e2, Bool.eq_false_iff, figs_append]
                simp [figs]
                omega))
              refine ⟨fun e4 => ⟨fun e5 => bad' (by omega), fun e5 => ih _ _ ⟨a ++ [y], b, some (.d (.int y)), rfl, by simp [e2], ?_, rfl, rfl⟩⟩, fun e4 => bad' (by omega)⟩
              rw [figs_snoc, e3]
              simp [e4, e5]
  · refine bad (by rw [Bool.eq_false_iff]; intro e; have := ok.mp e; omega)
theorem pow_log {i : Int} {k : Nat} (h0 : 0 ≤ i) (h : i < 60 ^ k) : i.natAbs < 2 ^ (6 * k) := by
  have : (60 : Int) ^ k ≤ 64 ^ k := by
    have := Nat.pow_le_pow_left (show 60 ≤ 64 by omega) k
    exact_mod_cast this
  have e : (64 : Int) ^ k = ((2 ^ (6 * k) : Nat) : Int) := by
    rw [Nat.pow_mul]
    exact_mod_cast rfl
  omega
theorem whole_mul {a b : List Int} {k : Nat} (ha : figs (a ++ b) = true) (hl : (a ++ b).length ≤ 100000) : CMulW (whole a) 60 := by
  rw [figs_append, Bool.and_eq_true] at ha
  have w := whole_lt a ha.1
  rw [List.length_append] at hl
  exact mulW (6 * a.length) 6 (pow_log w.1 w.2) (by decide) (by omega)
theorem t_whole_of (xs : List D) (g : G) (Q : KU) (X : KX) (h : sp_whole_of xs g Q X) : m_whole_of (startU 3 xs) g (fnPost Q X) := by
  obtain ⟨r, rfl, h1, h2, h3⟩ := h
  simp [m_whole_of, R]
  refine forLoop_ind (fun xs ρ g' => ∃ (a b : List Int) (z : Option U), xs = b.map D.int ∧ r = a ++ b ∧ g' = g ∧ ρ = [some (.d (R r)), some (.d (.int (whole a))), z]) ?_ ?_ _ _ _ ⟨[], r, none, rfl, rfl, rfl, rfl⟩
  · rintro ρ g' ⟨a, b, z, e1, e2, rfl, rfl⟩
    cases b with
    | cons y b => cases e1
    | nil =>
      rw [List.append_nil] at e2
      subst e2
      exact sub1 h3
  · rintro x xs ρ g' N ⟨a, b, z, e1, e2, rfl, rfl⟩ ih
    cases b with
    | nil => cases e1
    | cons y b =>
      cases e1
      subst e2
      simp
      exact ⟨whole_mul (k := 0) h1 h2, ih _ _ ⟨a ++ [y], b, _, rfl, by simp, rfl, by rw [whole_snoc]⟩⟩
theorem t_row_of (xs : List D) (g : G) (Q : KU) (X : KX) (h : sp_row_of xs g Q X) : m_row_of (startU 2 xs) g (fnPost Q X) := by
  obtain ⟨n, rfl, h1, h2, h3⟩ := h
  simp [m_row_of]
  refine wWhile_ind (fun k ρ g' => ∃ m : Int, g' = g ∧ ρ = [some (.d (.int m)), none] ∧ k = m.toNat ∧ 0 < m ∧ m ≤ n ∧ strip m = strip n) ⟨n, rfl, rfl, rfl, h1, Int.le_refl _, rfl⟩ ?_
  rintro k ρ g' N ⟨m, rfl, rfl, rfl, h4, h5, h6⟩ ih
  simp
  refine ⟨fun e => ⟨divW64 (by omega) (by omega), ih (m / 60).toNat _ _ (by omega) ⟨_, rfl, rfl, rfl, by omega, by omega, ?_⟩⟩, fun e => ?_⟩
  · rw [← h6, strip_eq m ⟨h4, e⟩]
  · have hm : m = strip n := by rw [← h6, strip_0 m (fun q => e q.2)]
    have hl := big_len n h1 h2
    refine wWhile_ind (fun k ρ g'' => ∃ (i : Int) (a : List Int), g'' = g' ∧ ρ = [some (.d (.int i)), some (.d (R a))] ∧ k = i.toNat ∧ 0 ≤ i ∧ digs i ++ a = rowOf n) ⟨m, [], rfl, rfl, rfl, by omega, ?_⟩ ?_
    · rw [hm, List.append_nil]; rfl
    · rintro k ρ g'' N ⟨i, a, rfl, rfl, rfl, h7, h8⟩ ih
      simp [R]
      refine ⟨fun z => ?_, fun z => sub1 ?_⟩
      · have e8 := h8
        rw [digs_eq i z, List.append_assoc] at e8
        have hl2 := congrArg List.length e8
        simp at hl2
        exact ⟨by show _ ≤ 16777216; omega, by show _ ≤ 16777216; omega, divW64 (by omega) (by omega), ih (i / 60).toNat _ _ (by omega) ⟨_, i % 60 :: a, rfl, rfl, rfl, by omega, by simpa using e8⟩⟩
      · rw [digs_0 i z, List.nil_append] at h8
        rw [h8]
        exact h3
theorem t_times (xs : List D) (g : G) (Q : KU) (X : KX) (h : sp_times xs g Q X) : m_times (startU 2 xs) g (fnPost Q X) := by
  obtain ⟨r, s, rfl, h1, h2⟩ := h
  simp [m_times, sp_need_row, sp_row_of, sp_whole_of]
  refine ⟨fun a => ⟨fun b => ?_, fun b => sub1 (h2 (.inr b))⟩, fun a => sub1 (h2 (.inl a))⟩
  have ra := (okRow_iff r).mp a
  have sa := (okRow_iff s).mp b
  have w1 := whole_lt12 r a
  have w2 := whole_lt12 s b
  have p1 := whole_pos r a
  have p2 := whole_pos s b
  refine ⟨ra.2.2.2.2, by omega, sa.2.2.2.2, by omega, mulW 72 72 (pow_log (k := 12) (by omega) w1) (pow_log (k := 12) (by omega) w2) (by omega), Int.mul_pos p1 p2, ?_, sub1 (h1 a b)⟩
  have : whole r * whole s < 60 ^ 12 * 60 ^ 12 := by
    calc whole r * whole s ≤ whole r * 60 ^ 12 := Int.mul_le_mul_of_nonneg_left (by omega) (by omega)
      _ < 60 ^ 12 * 60 ^ 12 := Int.mul_lt_mul_of_pos_right w1 (by decide)
  exact big_of 24 (by omega) (by omega)
theorem t_cast (xs : List D) (g : G) (Q : KU) (X : KX) (h : sp_cast xs g Q X) : m_cast (startU 1 xs) g (fnPost Q X) := by
  obtain ⟨r, rfl, h1, h2⟩ := h
  simp [m_cast, sp_need_row]
  refine ⟨fun a => ?_, fun a => sub1 (h2 a)⟩
  simp [R, intsD_of]
  exact sub1 (h1 a)
open PySem L2 PyProof.Rows

/-! ### the law's own defs -/
theorem sizeL {n : Nat} (h : n ≤ 16777216) : n ≤ sizeLine := h
theorem t_law_dice (xs : List D) (g : G) (Q : KU) (X : KX) (h : sp_law_dice xs g Q X) : m_law_dice (startU 3 xs) g (fnPost Q X) := by
  obtain ⟨ns, rfl, h1⟩ := h
  simp [m_law_dice]
  refine forLoop_ind (fun xs ρ g' => ∃ (b : List Int) (m : Int) (z : Option U), xs = b.map D.int ∧ 0 ≤ m ∧ m < 2147483647 ∧ g' = g ∧ ρ = [some (.d (.ro (ns.map D.int))), some (.d (.int m)), z]) ?_ ?_ _ _ _ ⟨ns, 0, none, rfl, by omega, by omega, rfl, rfl⟩
  · rintro ρ g' ⟨b, m, z, e1, h2, h3, rfl, rfl⟩
    simp
    by_cases hl : 2 < (ns.length : Int)
    · simp [hl]
      exact ⟨mulW64 (by omega) (by omega) (by omega) (by omega), sizeL (by omega), sub1 (h1 m h2 h3)⟩
    · simp [hl]
      exact ⟨mulW64 (by omega) (by omega) (by omega) (by omega), sizeL (by omega), sub1 (h1 0 (by omega) (by omega))⟩
  · rintro x xs ρ g' N ⟨b, m, z, e1, h2, h3, rfl, rfl⟩ ih
    cases b with
    | nil => cases e1
    | cons y b =>
      cases e1
      simp
      exact ⟨mulW64 (by omega) (by omega) (by omega) (by omega), mulW64 (by omega) (by omega) (by omega) (by omega), ih _ _ ⟨b, _, _, rfl, by omega, by omega, rfl, rfl⟩⟩
theorem Dice.mk {g : G} {d : Addr} {ns : List Int} {p m l : Int} (h1 : ns.length ≤ 63) (h2 : 0 ≤ p) (h3 : 0 ≤ m) (h4 : m < 2147483647) : Dice (setG g d (.lst [.ro (ns.map D.int), .int p, .int m, .int l])) d :=
  ⟨ns, p, m, l, by simp, h1, h2, h3, h4⟩
theorem t_law_next (xs : List D) (g : G) (Q : KU) (X : KX) (h : sp_law_next xs g Q X) : m_law_next (startU 4 xs) g (fnPost Q X) := by
  obtain ⟨d, k, rfl, k0, k1, ⟨ns, p, m, l, hg, h1, h2, h3, h4⟩, hq⟩ := h
  have kk : k < 2 ^ 64 := by omega
  have fin : ∀ (v : Int) (c : Cell), Dice (setG g d c) d → ∃ g1, SubG g1 (setG g d c) ∧ Q (U.d (D.int (v % k))) g1 := fun v c hd => sub1 (hq _ _ (Int.emod_nonneg _ (by omega)) (Int.emod_lt_of_pos _ k0) hd fun b hb => by unfold setG; rw [if_neg hb])
  simp [m_law_next, hg]
  refine ⟨fun hl => ⟨k0, divW64 k0 kk, fin _ _ (.mk h1 h2 h3 h4)⟩, fun hl => ⟨fun hp => ?_, fun hp => ⟨mulW64 (by omega) (by omega) (by omega) (by omega), divW64 (by omega) (by omega), k0, fin _ _ (.mk h1 (by omega) (by omega) (by omega))⟩⟩⟩
  refine ⟨_, atI_pos h2 (by omega), ⟨by omega, by omega, by decide⟩, fun _ => ⟨divW64 k0 kk, k0, fin _ _ (.mk h1 (by omega) h3 h4)⟩, fun _ => ⟨k0, fin _ _ (.mk h1 (by omega) h3 h4)⟩⟩
theorem rng_eq (i : Int) (m : Nat) : rng i (m + 1) = .int i :: rng (i + 1) m := by
  unfold rng
  rw [List.range_succ_eq_map, List.map_cons, List.map_map]
  congr 1
  · simp
  · apply List.map_congr_left
    intro j _
    simp
    omega
theorem rng_0 (i : Int) : rng i 0 = [] := rfl
theorem rng_cons {y : D} {ys : List D} {i m : Nat} (h : y :: ys = rng (i : Int) m) : y = .int i ∧ 0 < m ∧ ys = rng ((i + 1 : Nat) : Int) (m - 1) := by
  cases m with
  | zero => cases h
  | succ m =>
    rw [rng_eq] at h
    cases h
    exact ⟨rfl, by omega, rfl⟩
theorem t_law_whole_of (xs : List D) (g : G) (Q : KU) (X : KX) (h : sp_law_whole_of xs g Q X) : m_law_whole_of (startU 3 xs) g (fnPost Q X) := by
  obtain ⟨r, rfl, h1, h2, h3⟩ := h
  simp [m_law_whole_of, R]
  refine ⟨by omega, ?_⟩
  refine forLoop_ind (fun ys ρ g' => ∃ (a b : List Int) (z : Option U), ys = rng a.length b.length ∧ r = a ++ b ∧ g' = g ∧ ρ = [some (.d (R r)), some (.d (.int (whole a))), z]) ?_ ?_ _ _ _ ⟨[], r, none, rfl, rfl, rfl, rfl⟩
  · rintro ρ g' ⟨a, b, z, e1, e2, rfl, rfl⟩
    cases b with
    | cons y b => rw [List.length_cons, rng_eq] at e1; cases e1
    | nil =>
      rw [List.append_nil] at e2
      subst e2
      exact sub1 h3
  · rintro x xs ρ g' N ⟨a, b, z, e1, e2, rfl, rfl⟩ ih
    cases b with
    | nil => cases e1
    | cons y b =>
      rw [List.length_cons, rng_eq] at e1
      cases e1
      subst e2
      simp [R]
      refine ⟨whole_mul (k := 0) h1 h2, .int y, ?_, ih _ _ ⟨a ++ [y], b, some (.d (.int a.length)), ?_, by simp, rfl, ?_⟩⟩
      · have := atI_mid (a.map D.int) (.int y) (b.map D.int)
        simpa using this
      · simp
      · simp [whole_snoc, R]
def lsb (n : Int) : List Int := (digs n).reverse
theorem lsb_eq (n : Int) (h : 0 < n) : lsb n = n % 60 :: lsb (n / 60) := by
  unfold lsb
  rw [digs_eq n h, List.reverse_append]
  rfl
theorem t_law_row (xs : List D) (g : G) (Q : KU) (X : KX) (h : sp_law_row xs g Q X) : m_law_row (startU 2 xs) g (fnPost Q X) := by
  obtain ⟨n, rfl, h1, h2, h3⟩ := h
  have hlen : (digs n).length ≤ 900000 := digs_len2 900000 n h2
  simp [m_law_row, -List.map_append]
  refine wWhile_ind (fun k ρ g' => ∃ (m : Int) (a : List Int), g' = g ∧ ρ = [some (.d (.int m)), some (.own (.lst (a.map D.int)))] ∧ k = m.toNat ∧ 0 ≤ m ∧ a ++ lsb m = lsb n) ⟨n, [], rfl, rfl, rfl, by omega, rfl⟩ ?_
  rintro k ρ g' N ⟨m, a, rfl, rfl, rfl, h4, h5⟩ ih
  simp
  refine ⟨fun z => ?_, fun z => ?_⟩
  · have e8 := h5
    rw [lsb_eq m z] at e8
    have hl2 := congrArg List.length e8
    simp [lsb] at hl2
    refine ⟨by show _ < 16777216; omega, divW64 (by omega) (by omega), ih (m / 60).toNat _ _ (by omega) ⟨_, a ++ [m % 60], rfl, by simp, rfl, by omega, by simpa using e8⟩⟩
  · have em : m = 0 := by omega
    subst em
    rw [show lsb 0 = [] by unfold lsb; rw [digs_0 0 (by omega)]; rfl, List.append_nil] at h5
    subst h5
    refine wWhile_ind (fun k ρ g'' => ∃ (m : Int) (w : Option U), g'' = g' ∧ ρ = [w, some (.own (.lst ((lsb m).map D.int)))] ∧ k = m.toNat ∧ 0 < m ∧ m ≤ n ∧ strip m = strip n) ⟨n, _, rfl, rfl, rfl, h1, by omega, rfl⟩ ?_
    rintro k ρ g'' N ⟨m, w, rfl, rfl, rfl, h6, h7, h8⟩ ih2
    rw [lsb_eq m h6]
    simp
    refine ⟨fun e => ?_, fun e => ?_⟩
    · refine ⟨0, by simp [seqIndex?], by simp, ih2 (m / 60).toNat _ _ (by omega) ⟨m / 60, _, rfl, rfl, rfl, by omega, by omega, ?_⟩⟩
      rw [← h8, strip_eq m ⟨h6, e⟩]
    · refine sub1 ?_
      have er : rowOf n = digs m := by unfold rowOf; rw [← h8, strip_0 m (fun q => e q.2)]
      have e9 : rowOf n = (lsb (m / 60)).reverse ++ [m % 60] := by rw [er, digs_eq m h6]; unfold lsb; rw [List.reverse_reverse]
      have h3' := h3
      rw [e9] at h3'
      simpa [R] using h3'
open PySem L2 PyProof.Rows

theorem p60 (k : Nat) : (0 : Int) < 60 ^ k := Int.pow_pos (by omega)
theorem p3600 (k : Nat) : (0 : Int) < 3600 ^ k := Int.pow_pos (by omega)
theorem p60_le {a b : Nat} (h : a ≤ b) : (60 : Int) ^ a ≤ 60 ^ b := by
  have := Nat.pow_le_pow_right (show 0 < 60 by omega) h
  exact_mod_cast this
theorem pow5 (c : Nat) : (0 : Int) < 5 ^ c := by
  have := Nat.pow_pos (n := c) (show 0 < 5 by omega)
  exact_mod_cast this
theorem pow5_le {a b : Nat} (h : a ≤ b) : (5 : Int) ^ a ≤ 5 ^ b := by
  have := Nat.pow_le_pow_right (show 0 < 5 by omega) h
  exact_mod_cast this
theorem Smooth.mul {v p : Int} (h : Smooth v) (hp : p = 2 ∨ p = 3 ∨ p = 5) : Smooth (v * p) := by
  obtain ⟨a, b, c, rfl⟩ := h
  rcases hp with rfl | rfl | rfl
  · exact ⟨a + 1, b, c, by rw [Int.pow_succ]; grind⟩
  · exact ⟨a, b + 1, c, by rw [Int.pow_succ]; grind⟩
  · exact ⟨a, b, c + 1, by rw [Int.pow_succ]; grind⟩
theorem t_law_smooth (xs : List D) (g : G) (Q : KU) (X : KX) (h : sp_law_smooth xs g Q X) : m_law_smooth (startU 4 xs) g (fnPost Q X) := by
  obtain ⟨d, rfl, h1, h2⟩ := h
  refine ⟨sizeL (by decide), ?_⟩
  refine forLoop_ind (fun ys ρ g' => ∃ (c : Nat) (v : Int) (z1 z2 : Option U), ys.length + c = 3 ∧ (∀ y ∈ ys, ∃ p : Int, y = .int p ∧ (p = 2 ∨ p = 3 ∨ p = 5)) ∧ Smooth v ∧ 0 < v ∧ v ≤ 5 ^ (9 * c) ∧ (Dice g' d ∧ ∀ b, b ≠ d → g' b = g b) ∧ ρ = [some (.d (.ref d)), some (.d (.int v)), z1, z2]) ?_ ?_ _ _ _
    ⟨0, 1, none, none, rfl, by simp, ⟨0, 0, 0, rfl⟩, by omega, by simp, ⟨h1, fun _ _ => rfl⟩, rfl⟩
  · rintro ρ g' ⟨c, v, z1, z2, e1, e2, sm, e3, e4, e5, rfl⟩
    refine sub1 (h2 v g' e3 ?_ e5.1 e5.2 sm)
    rw [show c = 3 by simpa using e1] at e4
    exact e4
  · rintro y ys ρ g' N ⟨c, v, z1, z2, e1, e2, sm, e3, e4, e5, rfl⟩ ih
    obtain ⟨p, rfl, pp⟩ := e2 y List.mem_cons_self
    have p0 : 0 < p := by omega
    have p1 : p ≤ 5 := by omega
    refine ⟨d, 4, rfl, by omega, by omega, e5.1, fun a g1 a0 a1 d1 y1 => ?_⟩
    refine ⟨d, 10, rfl, by omega, by omega, d1, fun b g2 b0 b1 d2 y2 => ⟨sizeL (by simp), ?_⟩⟩
    refine ⟨d, 4, rfl, by omega, by omega, d2, fun t g3 t0 t1 d3 y3 => ⟨⟨rfl, rfl⟩, ?_⟩⟩
    have fr3 : ∀ b, b ≠ d → g3 b = g b := fun b hb => (y3 b hb).trans ((y2 b hb).trans ((y1 b hb).trans (e5.2 b hb)))
    have hx : ∃ n : Int, 0 ≤ n ∧ n ≤ 9 ∧ atI [D.int a, D.int b] (if eqD (.int t) (.int 3) = true then 1 else 0) = some (.int n) := by
      by_cases e : eqD (.int t) (.int 3) = true
      · rw [if_pos e]; exact ⟨b, b0, by omega, rfl⟩
      · rw [if_neg e]; exact ⟨a, a0, by omega, rfl⟩
    obtain ⟨n, n0, n9, hn⟩ := hx
    refine ⟨.int n, hn, ⟨by omega, by omega⟩, ?_⟩
    refine forLoop_ind (fun zs ρ g' => ∃ (i m : Nat) (w : Int) (z3 : Option U), zs = rng i m ∧ i + m ≤ 9 ∧ Smooth w ∧ 0 < w ∧ w ≤ 5 ^ (9 * c + i) ∧ (Dice g' d ∧ ∀ b, b ≠ d → g' b = g b) ∧ ρ = [some (.d (.ref d)), some (.d (.int w)), some (.d (.int p)), z3]) ?_ ?_ _ _ _
      ⟨0, n.toNat, v, z2, rfl, by omega, sm, e3, e4, ⟨d3, fr3⟩, rfl⟩
    · rintro ρ g4 ⟨i, m, w, z3, q1, q2, qs, q3, q4, q5, rfl⟩
      simp only [List.length_cons] at e1
      exact ih _ _ ⟨c + 1, w, _, _, by omega, fun y hy => e2 y (List.mem_cons_of_mem _ hy), qs, q3, Int.le_trans q4 (pow5_le (by omega)), q5, rfl⟩
    · rintro z zs ρ g4 N2 ⟨i, m, w, z3, q1, q2, qs, q3, q4, q5, rfl⟩ ih2
      obtain ⟨k1, k2, k3⟩ := rng_cons q1
      subst k1
      have hw : w * p ≤ 5 ^ (9 * c + (i + 1)) := by
        calc w * p ≤ w * 5 := Int.mul_le_mul_of_nonneg_left p1 (by omega)
          _ ≤ 5 ^ (9 * c + i) * 5 := by omega
          _ = 5 ^ (9 * c + (i + 1)) := by rw [← Nat.add_assoc, Int.pow_succ]
      have hb : (5 : Int) ^ (9 * c + i) ≤ 5 ^ 36 := pow5_le (by simp only [List.length_cons] at e1; omega)
      refine ⟨mulW 84 3 (by omega) (by omega) (by omega), ?_⟩
      exact ih2 _ _ ⟨i + 1, m - 1, w * p, _, k3, by omega, qs.mul pp, Int.mul_pos q3 p0, hw, q5, rfl⟩
theorem cut_take {α : Type} (xs : List α) (k : Int) (h : 0 ≤ k) : cutD xs none (some k) = xs.take k.toNat := by
  unfold cutD HT.sIx
  dsimp only
  rw [if_neg (by omega), List.drop_zero, Nat.sub_zero]
  by_cases e : k.toNat ≤ xs.length
  · rw [Nat.min_eq_left e]
  · rw [Nat.min_eq_right (by omega), List.take_of_length_le (Nat.le_refl _), List.take_of_length_le (by omega)]
theorem cut_drop {α : Type} (xs : List α) (k : Int) (h : 0 ≤ k) : cutD xs (some k) none = xs.drop k.toNat := by
  unfold cutD HT.sIx
  dsimp only
  rw [if_neg (by omega)]
  by_cases e : k.toNat ≤ xs.length
  · rw [Nat.min_eq_left e, List.take_of_length_le (by rw [List.length_drop]; omega)]
  · rw [Nat.min_eq_right (by omega), List.drop_length, List.drop_eq_nil_of_le (by omega)]
    simp
theorem figs_take (r : List Int) (n : Nat) (h : figs r = true) : figs (r.take n) = true := by
  unfold figs at h ⊢
  rw [List.all_eq_true] at h ⊢
  exact fun x hx => h x (List.mem_of_mem_take hx)
theorem figs_drop (r : List Int) (n : Nat) (h : figs r = true) : figs (r.drop n) = true := by
  unfold figs at h ⊢
  rw [List.all_eq_true] at h ⊢
  exact fun x hx => h x (List.mem_of_mem_drop hx)
/-- the last lines of law_drawn -/
theorem drawn_end {d : Addr} {k : Int} {r : List Int} {z2 z4 z5 : Option U} {g : G} {Q : KU} {X : KX} (hf : figs r = true) (hh : r.head? ≠ some 0) (hl : 1 ≤ r.length) (k1 : 1 ≤ k) (k2 : k ≤ 12) (hd : Dice g d)
    (hq : ∀ (r : List Int) (g' : G), okRow r = true → r.length ≤ 2 ∨ (r.length : Int) ≤ k → Dice g' d → (∀ b, b ≠ d → g' b = g b) → Q (.d (R r)) g') :
    (wRet (wIfE (wT (wBin gtU (wBin ixU (wSl (wVar 3) (wO0) (wO (wVar 1))) (wUn negU (wC (.int 1)))) (wC (.int 0)))) (wSl (wVar 3) (wO0) (wO (wVar 1))) (wTup (wCons (wC (.int 1)) (wCons (wC (.int 30)) (wNil)))))) [some (.d (.ref d)), some (.d (.int k)), z2, some (.d (R r)), z4, z5] g (fnPost Q X) := by
  have hl2 : 1 ≤ (r.take k.toNat).length := by rw [List.length_take]; omega
  obtain ⟨f, hf2⟩ : ∃ f, (r.take k.toNat).getLast? = some f := ⟨_, List.getLast?_eq_some_getLast (by intro e; rw [e] at hl2; simp at hl2)⟩
  have ht := figs_take r k.toNat hf
  simp [R, cut_take _ k (by omega), ← List.map_take, atI_last, hf2]
  refine ⟨fun e => sub1 (hq _ g ?_ (.inr ?_) hd fun _ _ => rfl), fun e => ⟨sizeL (by omega), sub1 (hq [1, 30] g (by decide) (.inl (by simp)) hd fun _ _ => rfl)⟩⟩
  · rw [okRow_iff]
    refine ⟨hl2, by rw [List.length_take]; omega, ?_, by rw [hf2]; simp; omega, ht⟩
    cases r with
    | nil => simp at hl
    | cons a r =>
      rw [show k.toNat = k.toNat - 1 + 1 by omega, List.take_succ_cons]
      simpa using hh
  · rw [List.length_take]; omega
theorem t_law_drawn (xs : List D) (g : G) (Q : KU) (X : KX) (h : sp_law_drawn xs g Q X) : m_law_drawn (startU 6 xs) g (fnPost Q X) := by
  obtain ⟨d, k, rfl, k0, k1, h1, h2⟩ := h
  refine ⟨d, 4, rfl, by omega, by omega, h1, fun v g1 v0 v1 d1 y1 => ?_⟩
  refine ⟨⟨rfl, rfl⟩, fun e => ?_, fun e => ?_⟩
  · refine ⟨d, 60, rfl, by omega, by omega, d1, fun w g2 w0 w1 d2 y2 => ⟨1 + w, rfl, by omega, big_of 1 (by omega) (by omega), sub1 ?_⟩⟩
    have hl : (rowOf (1 + w)).length ≤ 2 := digs_len 2 _ (by
      have := strip_pos (1 + w) (by omega)
      omega)
    exact h2 _ g2 (okRow_rowOf _ (by omega) (by omega)) (.inl hl) d2 fun b hb => (y2 b hb).trans (y1 b hb)
  · refine ⟨fun e2 => ?_, fun e2 => ?_⟩
    · refine ⟨d, rfl, d1, fun s g2 s0 s1 d2 y2 _ => ⟨sizeL (by decide), d, 6, rfl, by omega, by omega, d2, fun i g3 i0 i1 d3 y3 => ?_⟩⟩
      have hx : ∃ q : Int, 1 ≤ q ∧ q ≤ 49 ∧ atI [D.int 1, .int 1, .int 1, .int 7, .int 49, .int 11] i = some (.int q) := by
        rcases (show i = 0 ∨ i = 1 ∨ i = 2 ∨ i = 3 ∨ i = 4 ∨ i = 5 by omega) with e | e | e | e | e | e
        all_goals subst e
        · exact ⟨1, by omega, by omega, rfl⟩
        · exact ⟨1, by omega, by omega, rfl⟩
        · exact ⟨1, by omega, by omega, rfl⟩
        · exact ⟨7, by omega, by omega, rfl⟩
        · exact ⟨49, by omega, by omega, rfl⟩
        · exact ⟨11, by omega, by omega, rfl⟩
      obtain ⟨q, q0, q1, hq⟩ := hx
      have sq : s * q ≤ 60 ^ 20 := by
        calc s * q ≤ s * 49 := Int.mul_le_mul_of_nonneg_left q1 (by omega)
          _ ≤ 60 ^ 20 := by omega
      have sp : 0 < s * q := Int.mul_pos s0 (by omega)
      refine ⟨.int q, hq, mulW 63 6 (by omega) (by omega) (by omega), s * q, rfl, sp, big_of 20 (by omega) sq, ?_⟩
      obtain ⟨r, f, er, _⟩ := rowOf_last (s * q) sp
      exact drawn_end (rowOf_figs _) (digs_head _) (by rw [er]; simp) k0 k1 d3 fun r g' a b c e => h2 r g' a b c fun z hz => (e z hz).trans ((y3 z hz).trans ((y2 z hz).trans (y1 z hz)))
    · refine ⟨d, k, rfl, by omega, by omega, d1, fun n g2 n0 n1 d2 y2 => ⟨⟨by omega, by omega⟩, sizeL ?_, ?_⟩⟩
      · unfold rng; rw [List.length_map, List.length_range]; omega
      refine lcLoop_ind (fun ys acc g' => ∃ (i m : Nat) (a : List Int), ys = rng i m ∧ i + m ≤ 12 ∧ a.length = i ∧ acc = a.map D.int ∧ figs a = true ∧ Dice g' d ∧ ∀ b, b ≠ d → g' b = g b) ?_ ?_ _ _ _ ⟨0, (1 + n).toNat, [], rfl, by omega, rfl, rfl, rfl, d2, fun b hb => (y2 b hb).trans (y1 b hb)⟩
      · rintro acc g' ⟨i, m, a, e3, e4, e5, rfl, e6, d3, y3⟩
        refine ⟨d, 59, rfl, by omega, by omega, d3, fun p g4 p0 p1 d4 y4 => ⟨sizeL (by simp), sizeL ?_, d, 59, rfl, by omega, by omega, d4, fun q g5 q0 q1 d5 y5 => ⟨sizeL (by simp), sizeL ?_, ?_⟩⟩⟩
        · simp; omega
        · simp; omega
        have := drawn_end (r := [1 + p] ++ a ++ [1 + q]) (z2 := some (.d (.int v))) (z4 := some (.d (.lst (a.map D.int)))) (z5 := none) (g := g5) (Q := Q) (X := X) (k := k) (d := d) ?_ ?_ ?_ k0 k1 d5 (fun r g' a b c e => h2 r g' a b c fun z hz => (e z hz).trans ((y5 z hz).trans ((y4 z hz).trans (y3 z hz))))
        · have e7 : R ([1 + p] ++ a ++ [1 + q]) = .tup ([D.int (1 + p)] ++ a.map D.int ++ [D.int (1 + q)]) := by simp [R]
          rw [e7] at this
          exact this
        · rw [figs_append, figs_append, e6]
          simp [figs]
          omega
        · simp
          omega
        · simp
      · rintro y ys acc g' N ⟨i, m, a, e3, e4, e5, rfl, e6, d3, y3⟩ ih
        obtain ⟨k2, k3, k4⟩ := rng_cons e3
        subst k2
        refine ⟨fun _ => ⟨d, 60, rfl, by omega, by omega, d3, fun p g4 p0 p1 d4 y4 => ih _ _ ⟨i + 1, m - 1, a ++ [p], k4, by omega, by simp [e5], by simp, ?_, d4, fun b hb => (y4 b hb).trans (y3 b hb)⟩⟩, fun h => absurd h (by decide)⟩
        rw [figs_snoc, e6]
        simp [p0, p1]
theorem len12 {r : List Int} (h : okRow r = true) : r.length ≤ 20000 := by
  have := (okRow_iff r).mp h
  omega
theorem figs12 {r : List Int} (h : okRow r = true) : figs r = true := ((okRow_iff r).mp h).2.2.2.2
theorem mul12 {r s : List Int} (hr : okRow r = true) (hs : okRow s = true) : CMulW (whole r) (whole s) ∧ 0 < whole r * whole s ∧ whole r * whole s < 60 ^ 24 := by
  have w1 := whole_lt12 r hr
  have w2 := whole_lt12 s hs
  have p1 := whole_pos r hr
  have p2 := whole_pos s hs
  refine ⟨mulW 72 72 (pow_log (k := 12) (by omega) w1) (pow_log (k := 12) (by omega) w2) (by omega), Int.mul_pos p1 p2, ?_⟩
  calc whole r * whole s ≤ whole r * 60 ^ 12 := Int.mul_le_mul_of_nonneg_left (by omega) (by omega)
    _ < 60 ^ 12 * 60 ^ 12 := Int.mul_lt_mul_of_pos_right w1 (by decide)
theorem ok1 : okRow [1] = true := by decide
theorem castOf_b (r : List Int) : 0 ≤ castOf r ∧ castOf r < 59 := by unfold castOf; omega
theorem ff {P : Prop} {b : Bool} (h : b = true) (h' : b = false) : P := by rw [h] at h'; cases h'
open PySem L2 PyProof.Rows

/-- y, read deeply, is x: data that the law compares -/
def lk (g : G) : Nat → D → D → Prop
  | 0, _, _ => False
  | n + 1, y, x => match x with
    | .non => look g y = .non
    | .int i => look g y = .int i

    | .str z => look g y = .str z ∧ PyData.strOk z = true
    | .tup xs => ∃ ys, look g y = .tup ys ∧ ys.length = xs.length ∧ xs.length < 1000000 ∧ ∀ (i : Nat) (a b : D), ys[i]? = some a → xs[i]? = some b → lk g n a b
    | .lst xs => ∃ ys, look g y = .lst ys ∧ ys.length = xs.length ∧ xs.length < 1000000 ∧ ∀ (i : Nat) (a b : D), ys[i]? = some a → xs[i]? = some b → lk g n a b
    | _ => False
def sp_law_like_n : Nat → SpU
  | 0 => fun _ _ _ _ => False
  | n + 1 => fun xs g Q _ => ∃ (y x : D), xs = [y, x] ∧ lk g (n + 1) y x ∧ Q (.d (.bl true)) g
def sp_law_like : SpU := sp_law_like_n 8
/-- slots: _law_found, _law_due, _law_k -/
def m_law_like (sp_self : SpU) : MS := wSeq (wIf (wT (wCb isiU (wCons (wVar 1) (wCons (wC (.ty "str")) (wNil))))) (wRet (wAnd (wCb isiU (wCons (wVar 0) (wCons (wC (.ty "str")) (wNil)))) (wBin eqU (wVar 0) (wVar 1)))) (wNext)) (wSeq (wIf (wT (wCb isiU (wCons (wVar 1) (wCons (wC (.ty "int")) (wNil))))) (wRet (wAnd (wCb isiU (wCons (wVar 0) (wCons (wC (.ty "int")) (wNil)))) (wAnd (wNot (wCb isiU (wCons (wVar 0) (wCons (wC (.ty "bool")) (wNil))))) (wBin eqU (wVar 0) (wVar 1))))) (wNext)) (wSeq (wIf (wT (wBin isU (wVar 1) (wC .non))) (wRet (wBin isU (wVar 0) (wC .non))) (wNext)) (wSeq (wIf (wtOr (wT (wBin neU (wCb isiU (wCons (wVar 1) (wCons (wC (.ty "tuple")) (wNil)))) (wCb isiU (wCons (wVar 0) (wCons (wC (.ty "tuple")) (wNil)))))) (wT (wBin neU (wCb isiU (wCons (wVar 1) (wCons (wC (.ty "list")) (wNil)))) (wCb isiU (wCons (wVar 0) (wCons (wC (.ty "list")) (wNil))))))) (wRet (wC (.bl false))) (wNext)) (wSeq (wIf (wT (wBin neU (wUn lenU (wVar 0)) (wUn lenU (wVar 1)))) (wRet (wC (.bl false))) (wNext)) (wSeq (wFor (wR1 (wCons (wUn lenU (wVar 1)) (wNil))) (gN 2) (wIf (wtNot (wT (wCall sp_self (wCons (wBin ixU (wVar 0) (wVar 2)) (wCons (wBin ixU (wVar 1) (wVar 2)) (wNil)))))) (wRet (wC (.bl false))) (wNext))) (wRet (wC (.bl true))))))))
theorem t_law_like (n : Nat) (xs : List D) (g : G) (Q : KU) (X : KX) (h : sp_law_like_n (n + 1) xs g Q X) : m_law_like (sp_law_like_n n) (startU 3 xs) g (fnPost Q X) := by
  obtain ⟨y, x, rfl, hl, hq⟩ := h
  have loop : ∀ (xs ys : List D) (w : D), ys.length = xs.length → xs.length < 1000000 → (∀ (i : Nat) (a b : D), ys[i]? = some a → xs[i]? = some b → lk g n a b) → (look g w = .tup xs ∧ look g y = .tup ys ∨ look g w = .lst xs ∧ look g y = .lst ys) →
      forLoop (gN 2) (wIf (wtNot (wT (wCall (sp_law_like_n n) (wCons (wBin ixU (wVar 0) (wVar 2)) (wCons (wBin ixU (wVar 1) (wVar 2)) (wNil)))))) (wRet (wC (.bl false))) (wNext)) (rng 0 xs.length) [some (.d y), some (.d w), none] g
        { nx := fun ρ' g' => ∃ g1, SubG g1 g' ∧ Q (.d (.bl true)) g1, rt := (fnPost Q X).rt, bk := fun _ _ => False, ct := fun _ _ => False, ex := (fnPost Q X).ex } := by
    intro xs ys w hlen hm hall hw
    refine forLoop_ind (fun zs ρ g' => ∃ (i : Nat) (z : Option U), zs = rng i (xs.length - i) ∧ i ≤ xs.length ∧ g' = g ∧ ρ = [some (.d y), some (.d w), z]) ?_ ?_ _ _ _ ⟨0, none, by simp, by omega, rfl, rfl⟩
    · rintro ρ g' ⟨i, z, e1, e2, rfl, rfl⟩
      exact sub1 hq
    · rintro y' zs ρ g' N ⟨i, z, e1, e2, rfl, rfl⟩ ih
      obtain ⟨e3, e4, e5⟩ := rng_cons e1
      subst e3
      have hi : i < xs.length := by omega
      have h2 := hall i _ _ (List.getElem?_eq_getElem (by omega)) (List.getElem?_eq_getElem hi)
      cases n with
      | zero => exact h2.elim
      | succ n =>
        rcases hw with ⟨w1, w2⟩ | ⟨w1, w2⟩ <;>
        · simp only [gN, wIf, wtNot, wT, wCall, wCons, wBin, wVar, List.set, List.getElem?_cons_zero, List.getElem?_cons_succ, rdU, view, w1, w2, ixU, fzU, look_int]
          refine ⟨_, atI_nat (by omega), _, atI_nat hi, _, _, rfl, h2, ?_⟩
          exact ⟨fun q => (Bool.noConfusion q), fun _ => ih _ _ ⟨i + 1, _, by rw [e5]; congr 1, by omega, rfl, rfl⟩⟩
  cases x with
  | int i => simp only [lk] at hl; simp [m_law_like, hl, tyN, isTy]; exact sub1 hq
  | non => simp only [lk] at hl; simp [m_law_like, hl, tyN, isTy]; exact sub1 hq
--BOOL  | bl i => simp only [lk] at hl; simp [m_law_like, hl, tyN, isTy]; exact sub1 hq
  | str s => simp only [lk] at hl; simp [m_law_like, hl, tyN, isTy]; exact sub1 hq
  | tup xs =>
    obtain ⟨ys, l1, l2, l3, l4⟩ := hl
    simp [m_law_like, l1, l2, tyN, isTy, -forLoop]
    exact ⟨by omega, loop xs ys (.tup xs) l2 l3 l4 (.inl ⟨rfl, l1⟩)⟩
  | lst xs =>
    obtain ⟨ys, l1, l2, l3, l4⟩ := hl
    simp [m_law_like, l1, l2, tyN, isTy, -forLoop]
    exact ⟨by omega, loop xs ys (.lst xs) l2 l3 l4 (.inr ⟨rfl, l1⟩)⟩
  | _ => first | exact hl.elim | (simp [lk] at hl)
/-- frozen data, compared with itself -/
inductive Plain : Nat → D → Prop
  | non (n : Nat) : Plain (n + 1) .non
  | int (n : Nat) (i : Int) : Plain (n + 1) (.int i)
  | str (n : Nat) {z : Str} (h : PyData.strOk z = true) : Plain (n + 1) (.str z)
  | tup {n : Nat} {xs : List D} (h : xs.length < 1000000) (hs : ∀ x ∈ xs, Plain n x) : Plain (n + 1) (.tup xs)
  | lst {n : Nat} {xs : List D} (h : xs.length < 1000000) (hs : ∀ x ∈ xs, Plain n x) : Plain (n + 1) (.lst xs)
theorem lk_plain {g : G} : ∀ {n : Nat} {x : D}, Plain n x → lk g n x x
  | _, _, .non n => rfl
  | _, _, .int n i => rfl
  | _, _, .str n h => ⟨rfl, h⟩
  | n + 1, _, .tup (xs := xs) h hs => ⟨xs, rfl, rfl, h, fun i a b ha hb => by
    rw [ha] at hb
    cases hb
    exact lk_plain (hs a (List.mem_of_getElem? ha))⟩
  | n + 1, _, .lst (xs := xs) h hs => ⟨xs, rfl, rfl, h, fun i a b ha hb => by
    rw [ha] at hb
    cases hb
    exact lk_plain (hs a (List.mem_of_getElem? ha))⟩
theorem Plain.R (n : Nat) (r : List Int) (h : r.length < 1000000) : Plain (n + 2) (R r) := .tup (by rw [List.length_map]; exact h) fun x hx => by
  obtain ⟨i, _, rfl⟩ := List.mem_map.mp hx
  exact .int n i
open PySem L2 PyProof.Rows

/-! ### loops over mapped lists -/
theorem lc_map {α : Type} {f h : α → D} {tg : MG} {me : ME} {ρ : Env} {g : G} {k : List D → G → Prop} (xs : List α)
    (hs : ∀ a ∈ xs, ∀ (acc : List D) (N : List D → G → Prop), N (acc ++ [h a]) g → tg (f a) ρ fun ρ1 => wYes ρ1 g (fun b g1 => (b = true → me ρ1 g1 (fun u g2 => fzU u fun y => N (acc ++ [y]) g2) noX) ∧ (b = false → N acc g1)) noX) (hk : k (xs.map h) g) : lcLoop tg wYes me ρ (xs.map f) [] g k := by
  refine lcLoop_ind (fun ys acc g' => ∃ a b, a ++ b = xs ∧ ys = b.map f ∧ acc = a.map h ∧ g' = g) ?_ ?_ _ _ _ ⟨[], xs, rfl, rfl, rfl, rfl⟩
  · rintro acc g' ⟨a, b, e1, e2, rfl, rfl⟩
    have : b = [] := by cases b with
      | nil => rfl
      | cons x b => cases e2
    subst this
    rw [List.append_nil] at e1
    subst e1
    exact hk
  · rintro y ys acc g' N ⟨a, b, e1, e2, rfl, rfl⟩ ih
    cases b with
    | nil => cases e2
    | cons x b =>
      rw [List.map_cons] at e2
      injection e2 with e2 e3
      subst e2 e3
      exact hs x (by rw [← e1]; simp) _ N (ih _ _ ⟨a ++ [x], b, by simp [e1], rfl, by simp, rfl⟩)
theorem lc_fil {α : Type} {f h : α → D} {p : α → Bool} {tg : MG} {mt : MT} {me : ME} {ρ : Env} {g : G} {k : List D → G → Prop} (xs : List α)
    (hs : ∀ a ∈ xs, ∀ (acc : List D) (N : List D → G → Prop), (p a = true → N (acc ++ [h a]) g) → (p a = false → N acc g) → tg (f a) ρ fun ρ1 => mt ρ1 g (fun b g1 => (b = true → me ρ1 g1 (fun u g2 => fzU u fun y => N (acc ++ [y]) g2) noX) ∧ (b = false → N acc g1)) noX) (hk : k ((xs.filter p).map h) g) : lcLoop tg mt me ρ (xs.map f) [] g k := by
  refine lcLoop_ind (fun ys acc g' => ∃ a b, a ++ b = xs ∧ ys = b.map f ∧ acc = (a.filter p).map h ∧ g' = g) ?_ ?_ _ _ _ ⟨[], xs, rfl, rfl, rfl, rfl⟩
  · rintro acc g' ⟨a, b, e1, e2, rfl, rfl⟩
    have : b = [] := by cases b with
      | nil => rfl
      | cons x b => cases e2
    subst this
    rw [List.append_nil] at e1
    subst e1
    exact hk
  · rintro y ys acc g' N ⟨a, b, e1, e2, rfl, rfl⟩ ih
    cases b with
    | nil => cases e2
    | cons x b =>
      rw [List.map_cons] at e2
      injection e2 with e2 e3
      subst e2 e3
      refine hs x (by rw [← e1]; simp) _ N (fun hp => ih _ _ ⟨a ++ [x], b, by simp [e1], rfl, by simp [hp], rfl⟩) fun hp => ih _ _ ⟨a ++ [x], b, by simp [e1], rfl, by simp [hp], rfl⟩
/-- a for over a mapped list: I tells the state behind the items so far -/
theorem for_map {α : Type} {f : α → D} {mg : MG} {mb : MS} {P : Post} {xs : List α} (I : List α → Env → G → Prop) {ρ : Env} {g : G} (i0 : I [] ρ g) (h0 : ∀ ρ g, I xs ρ g → P.nx ρ g)
    (hs : ∀ (a : List α) (x : α) (b : List α) ρ g N, xs = a ++ x :: b → I a ρ g → (∀ ρ' g', I (a ++ [x]) ρ' g' → N ρ' g') → mg (f x) ρ fun ρ1 => mb ρ1 g (loopP N P)) : forLoop mg mb (xs.map f) ρ g P := by
  refine forLoop_ind (fun ys ρ g => ∃ a b, xs = a ++ b ∧ ys = b.map f ∧ I a ρ g) ?_ ?_ _ _ _ ⟨[], xs, rfl, rfl, i0⟩
  · rintro ρ g ⟨a, b, e1, e2, i⟩
    have : b = [] := by cases b with
      | nil => rfl
      | cons x b => cases e2
    subst this
    rw [List.append_nil] at e1
    subst e1
    exact h0 _ _ i
  · rintro y ys ρ g N ⟨a, b, e1, e2, i⟩ ih
    cases b with
    | nil => cases e2
    | cons x b =>
      rw [List.map_cons] at e2
      injection e2 with e2 e3
      subst e2 e3
      exact hs a x b ρ g N e1 i fun ρ' g' i' => ih ρ' g' ⟨a ++ [x], b, by simp [e1], rfl, i'⟩
theorem rng_map (lo : Int) (n : Nat) : rng lo n = (List.range n).map fun (i : Nat) => .int (lo + (i : Int)) := rfl
theorem rng0_map (n : Nat) : rng 0 n = (List.range n).map fun (i : Nat) => .int (i : Int) := by
  unfold rng
  refine List.map_congr_left fun i _ => ?_
  rw [Int.zero_add]
/-- a for over range(n) -/
theorem for_rng {mg : MG} {mb : MS} {P : Post} {n : Nat} (I : Nat → Env → G → Prop) {ρ : Env} {g : G} (i0 : I 0 ρ g) (h0 : ∀ ρ g, I n ρ g → P.nx ρ g)
    (hs : ∀ (i : Nat) ρ g N, i < n → I i ρ g → (∀ ρ' g', I (i + 1) ρ' g' → N ρ' g') → mg (.int i) ρ fun ρ1 => mb ρ1 g (loopP N P)) : forLoop mg mb (rng 0 n) ρ g P := by
  rw [rng0_map]
  refine for_map (fun a ρ g => I a.length ρ g) i0 (fun ρ g i => h0 ρ g (by rwa [List.length_range] at i)) fun a x b ρ g N e i ih => ?_
  have hx : x = a.length := by
    have h1 := congrArg (fun l => l[a.length]?) e
    simp only [List.getElem?_append_right (Nat.le_refl _), Nat.sub_self, List.getElem?_cons_zero] at h1
    have hl : a.length < n := by
      have := congrArg List.length e
      simp at this
      omega
    rw [List.getElem?_range hl] at h1
    exact (Option.some.inj h1).symm
  subst hx
  have hl : a.length < n := by
    have := congrArg List.length e
    simp at this
    omega
  exact hs a.length ρ g N hl i fun ρ' g' i' => ih ρ' g' (by rw [List.length_append, List.length_singleton]; exact i')
open PySem L2 PyProof.Rows
theorem okN_sI (n : Nat) {z : Str} (h : PyData.strOk z = true) : okN n (.str z) = true := by simp [okN, toPy, PyData.canLay0, PyData.depth, h]
theorem okN_bl (n : Nat) (b : Bool) : okN n (.bl b) = true := by simp [okN, toPy, PyData.canLay0, PyData.depth]
theorem t_law_is {a dd : Addr} {x : Exn} {w : Str} {g : G} {Q : KU} {X : KX} (hw : PyData.strOk w = true) (h : Q (.d (.bl (isB x.nm w))) g) : m_law_is a dd x (startU 5 [exnD a dd x, .str w]) g (fnPost Q X) := by
  refine ⟨rfl, rfl, rfl, rfl, sizeL (by show 4 ≤ 16777216; omega), ?_⟩
  refine ⟨rfl, sizeL (by show 1 ≤ 16777216; omega), ?_⟩
  refine ⟨sizeL (by show 5 ≤ 16777216; omega), ?_⟩
  refine ⟨sizeL (by show 5 ≤ 16777216; omega), ?_⟩
  refine ⟨rfl, ?_⟩
  refine ⟨fun _ => ⟨sizeL (by show 5 ≤ 16777216; omega), ?_⟩, fun q => absurd q (by decide)⟩
  show lcLoop _ _ _ _ (words5.map D.str) _ _ _
  refine lc_map words5 (h := fun v => D.bl (eqD (.str w) (.str v))) (fun v hv acc N ih => ?_) ?_
  · refine ⟨fun _ => ⟨⟨okD_okN (n := 0) (by omega) (okN_sI 0 hw), okD_okN (n := 0) (by omega) (okN_sI 0 ?_)⟩, ih⟩, fun q => absurd q (by decide)⟩
    have all : words5.all PyData.strOk = true := by decide +kernel
    exact List.all_eq_true.mp all v hv
  · refine ⟨⟨okD_okN (n := 1) (by omega) (okN_lst fun y hy => ?_), okD_okN (n := 1) (by omega) (okN_lst fun y hy => ?_)⟩, sub1 h⟩
    · obtain ⟨n, _, rfl⟩ := List.mem_map.mp (show y ∈ names5.map fun n => D.bl (x.nm == n) from hy)
      exact okN_bl 0 _
    · obtain ⟨n, _, rfl⟩ := List.mem_map.mp (show y ∈ words5.map fun v => D.bl (eqD (.str w) (.str v)) from hy)
      exact okN_bl 0 _
open PySem L2 PyProof.Rows

/-! ### how often a prime goes into a number, and what is left -/
def vp (p n : Int) : Nat := if h : 1 < p ∧ 0 < n ∧ n % p = 0 then vp p (n / p) + 1 else 0
termination_by n.toNat
decreasing_by
  have h1 : n / p < n := Int.ediv_lt_self_of_pos_of_ne_one h.2.1 (by omega) |> fun z => z
  have h2 : 0 ≤ n / p := Int.ediv_nonneg (by omega) (by omega)
  omega
def rp (p n : Int) : Int := if h : 1 < p ∧ 0 < n ∧ n % p = 0 then rp p (n / p) else n
termination_by n.toNat
decreasing_by
  have h1 : n / p < n := Int.ediv_lt_self_of_pos_of_ne_one h.2.1 (by omega) |> fun z => z
  have h2 : 0 ≤ n / p := Int.ediv_nonneg (by omega) (by omega)
  omega
theorem div_step {p n : Int} (h : 1 < p ∧ 0 < n ∧ n % p = 0) : n = p * (n / p) ∧ 0 < n / p ∧ n / p < n := by
  obtain ⟨h1, h2, h3⟩ := h
  have e : n = p * (n / p) := by
    have := Int.mul_ediv_add_emod n p
    omega
  have l : n / p < n := Int.ediv_lt_self_of_pos_of_ne_one h2 (by omega)
  refine ⟨e, ?_, l⟩
  by_cases z : 0 < n / p
  · exact z
  · have h0 : 0 ≤ n / p := Int.ediv_nonneg (by omega) (by omega)
    have : n / p = 0 := by omega
    rw [this, Int.mul_zero] at e
    omega
theorem vp_eq {p n : Int} (h : 1 < p ∧ 0 < n ∧ n % p = 0) : vp p n = vp p (n / p) + 1 := by rw [vp, dif_pos h]
theorem vp_0 {p n : Int} (h : ¬ (1 < p ∧ 0 < n ∧ n % p = 0)) : vp p n = 0 := by rw [vp, dif_neg h]
theorem rp_eq {p n : Int} (h : 1 < p ∧ 0 < n ∧ n % p = 0) : rp p n = rp p (n / p) := by rw [rp, dif_pos h]
theorem rp_0 {p n : Int} (h : ¬ (1 < p ∧ 0 < n ∧ n % p = 0)) : rp p n = n := by rw [rp, dif_neg h]
/-- by dividing -/
theorem down {P : Int → Prop} {p : Int} (h0 : ∀ n, 0 < n → n % p ≠ 0 → P n) (hs : ∀ n, 0 < n → n % p = 0 → 0 < n / p → P (n / p) → P n) (hp : 1 < p) : ∀ n, 0 < n → P n := by
  have : ∀ (k : Nat) (n : Int), 0 < n → n.toNat ≤ k → P n := by
    intro k
    induction k with
    | zero => intro n h1 h2; omega
    | succ k ih =>
      intro n h1 h2
      by_cases z : n % p = 0
      · have d := div_step ⟨hp, h1, z⟩
        exact hs n h1 z d.2.1 (ih _ d.2.1 (by omega))
      · exact h0 n h1 z
  exact fun n h => this n.toNat n h (Nat.le_refl _)
theorem rp_fact {p : Int} (hp : 1 < p) : ∀ n, 0 < n → 0 < rp p n ∧ rp p n ≤ n ∧ rp p n % p ≠ 0 ∧ n = p ^ vp p n * rp p n := by
  refine down (p := p) (fun n h z => ?_) (fun n h z d ih => ?_) hp
  · rw [rp_0 (fun q => z q.2.2), vp_0 (fun q => z q.2.2)]
    exact ⟨h, Int.le_refl _, z, by simp⟩
  · have e := div_step ⟨hp, h, z⟩
    rw [rp_eq ⟨hp, h, z⟩, vp_eq ⟨hp, h, z⟩]
    refine ⟨ih.1, by omega, ih.2.2.1, ?_⟩
    rw [Int.pow_succ]
    calc n = p * (n / p) := e.1
      _ = p * (p ^ vp p (n / p) * rp p (n / p)) := by rw [← ih.2.2.2]
      _ = p ^ vp p (n / p) * p * rp p (n / p) := by grind
/-- q has nothing in common with p -/
def Apart (q p : Int) : Prop := ∀ m : Int, (q * m) % p = 0 → m % p = 0
theorem ap23 : Apart 2 3 := fun m h => by omega
theorem ap25 : Apart 2 5 := fun m h => by omega
theorem ap35 : Apart 3 5 := fun m h => by omega
theorem ap32 : Apart 3 2 := fun m h => by omega
theorem ap52 : Apart 5 2 := fun m h => by omega
theorem ap53 : Apart 5 3 := fun m h => by omega
theorem vp_apart {p q : Int} (hp : 1 < p) (hq : 0 < q) (ha : Apart q p) : ∀ n, 0 < n → vp p (q * n) = vp p n ∧ rp p (q * n) = q * rp p n := by
  refine down (p := p) (fun n h z => ?_) (fun n h z d ih => ?_) hp
  · rw [vp_0 (fun k => z (ha n k.2.2)), vp_0 (fun k => z k.2.2), rp_0 (fun k => z (ha n k.2.2)), rp_0 (fun k => z k.2.2)]
    exact ⟨rfl, rfl⟩
  · have e := div_step ⟨hp, h, z⟩
    have e2 : q * n = p * (q * (n / p)) := by
      calc q * n = q * (p * (n / p)) := by rw [← e.1]
        _ = p * (q * (n / p)) := by grind
    have e3 : (q * n) % p = 0 := by rw [e2, Int.mul_emod_right]
    have e4 : (q * n) / p = q * (n / p) := by rw [e2, Int.mul_ediv_cancel_left _ (by omega)]
    have hqn : 0 < q * n := Int.mul_pos hq h
    rw [vp_eq ⟨hp, hqn, e3⟩, vp_eq ⟨hp, h, z⟩, rp_eq ⟨hp, hqn, e3⟩, rp_eq ⟨hp, h, z⟩, e4, ih.1, ih.2]
    exact ⟨rfl, rfl⟩
theorem vp_rp {p q : Int} (hp : 1 < p) (hq : 1 < q) (ha : Apart q p) : ∀ n, 0 < n → vp p (rp q n) = vp p n := by
  refine down (p := q) (fun n h z => ?_) (fun n h z d ih => ?_) hq
  · rw [rp_0 (fun k => z k.2.2)]
  · have e := div_step ⟨hq, h, z⟩
    rw [rp_eq ⟨hq, h, z⟩, ih]
    have := (vp_apart hp (by omega) ha (n / q) d).1
    rw [← e.1] at this
    exact this.symm
theorem rp_apart {p q : Int} (hp : 1 < p) (hq : 1 < q) (ha : Apart q p) : ∀ n, 0 < n → n % p ≠ 0 → rp q n % p ≠ 0 := by
  intro n h z
  have f := rp_fact hq n h
  have : ∀ k : Nat, (q ^ k * rp q n) % p ≠ 0 → rp q n % p ≠ 0 := by
    intro k hk e
    apply hk
    exact Int.emod_eq_zero_of_dvd (Int.dvd_mul_of_dvd_right (Int.dvd_of_emod_eq_zero e))
  exact this (vp q n) (by rw [← f.2.2.2]; exact z)
/-- what is left without two, three, five -/
def rest (n : Int) : Int := rp 5 (rp 3 (rp 2 n))
theorem rest_fact {n : Int} (h : 0 < n) : 0 < rest n ∧ rest n ≤ n ∧ n = 2 ^ vp 2 n * 3 ^ vp 3 n * 5 ^ vp 5 n * rest n ∧ rest n % 2 ≠ 0 ∧ rest n % 3 ≠ 0 ∧ rest n % 5 ≠ 0 := by
  have f2 := rp_fact (p := 2) (by omega) n h
  have f3 := rp_fact (p := 3) (by omega) _ f2.1
  have f5 := rp_fact (p := 5) (by omega) _ f3.1
  have e3 : vp 3 (rp 2 n) = vp 3 n := vp_rp (by omega) (by omega) ap23 n h
  have e5 : vp 5 (rp 3 (rp 2 n)) = vp 5 n := by
    rw [vp_rp (by omega) (by omega) ap35 _ f2.1, vp_rp (by omega) (by omega) ap25 n h]
  refine ⟨f5.1, ?_, ?_, ?_, ?_, f5.2.2.1⟩
  · unfold rest; omega
  · have a := f2.2.2.2
    have b := f3.2.2.2
    have c := f5.2.2.2
    rw [e3] at b
    rw [e5] at c
    unfold rest
    calc n = 2 ^ vp 2 n * rp 2 n := a
      _ = 2 ^ vp 2 n * (3 ^ vp 3 n * rp 3 (rp 2 n)) := by rw [← b]
      _ = 2 ^ vp 2 n * (3 ^ vp 3 n * (5 ^ vp 5 n * rp 5 (rp 3 (rp 2 n)))) := by rw [← c]
      _ = 2 ^ vp 2 n * 3 ^ vp 3 n * 5 ^ vp 5 n * rp 5 (rp 3 (rp 2 n)) := by grind
  · exact rp_apart (by omega) (by omega) ap52 _ f3.1 (rp_apart (by omega) (by omega) ap32 _ f2.1 f2.2.2.1)
  · exact rp_apart (by omega) (by omega) ap53 _ f3.1 f3.2.2.1
open PySem L2 PyProof.Rows

def NT (left : Int) : Exn := ⟨Str.ofString "NotTurned", [(Str.ofString "left", .int left)]⟩
def sp_taken_out : SpU := fun xs g Q _ => ∃ n : Int, xs = [.int n] ∧ 0 < n ∧ Q (.d (.tup [.tup [.int (vp 2 n), .int (vp 3 n), .int (vp 5 n)], .int (rest n)])) g
def sp_factors : SpU := fun xs g Q X => ∃ r : List Int, xs = [R r] ∧ (okRow r = true → Q (.d (.tup [.tup [.int (vp 2 (whole r)), .int (vp 3 (whole r)), .int (vp 5 (whole r))], .int (rest (whole r))])) g) ∧ (okRow r = false → X BR g)
def sp_shared : SpU := fun xs g Q _ => ∃ a b : Int, xs = [.int a, .int b] ∧ 0 ≤ a ∧ 0 ≤ b ∧ Q (.d (.int (Int.gcd a b))) g
/-- the part's row: any number that fits -/
def sp_parted : SpU := fun xs g Q X => ∃ r s : List Int, xs = [R r, R s] ∧ okRow r = true ∧ okRow s = true ∧
  (whole r % rest (whole s) = 0 → ∀ (m : Int) (k : Nat), 0 < m → m * whole s = whole r * 60 ^ k → Q (.d (R (rowOf m))) g) ∧ (whole r % rest (whole s) ≠ 0 → X (NT (rest (whole s) / Int.gcd (rest (whole s)) (whole r))) g)
def sp_part : SpU := fun xs g Q X => ∃ r s : List Int, xs = [R r, R s] ∧ (okRow r = true → okRow s = true →
  (whole r % rest (whole s) = 0 → ∀ (m : Int) (k : Nat), 0 < m → m * whole s = whole r * 60 ^ k → Q (.d (R (rowOf m))) g) ∧ (whole r % rest (whole s) ≠ 0 → X (NT (rest (whole s) / Int.gcd (rest (whole s)) (whole r))) g)) ∧ (okRow r = false ∨ okRow s = false → X BR g)
def sp_law_left : SpU := fun xs g Q _ => ∃ n : Int, xs = [.int n] ∧ 0 < n ∧ Q (.d (.int (rest n))) g
def sp_law_many : SpU := fun xs g Q _ => ∃ n p : Int, xs = [.int n, .int p] ∧ 0 < n ∧ 1 < p ∧ p < 100 ∧ Q (.d (.int (vp p n))) g
@[simp] def c_PRIMES : D := .tup [.int 2, .int 3, .int 5]
/-- slots: number, found, prime, many -/
def m_taken_out : MS := wSeq (wSetO 1 (wLst (wNil))) (wSeq (wFor (wIt (wC c_PRIMES)) (gN 2) (wSeq (wSet 3 (wC (.int 0))) (wSeq (wWhile (wT (wBin eqU (wBin modU (wVar 0) (wVar 2)) (wC (.int 0)))) (wSeq (wSet 0 (wBin divU (wVar 0) (wVar 2))) (wSet 3 (wBin addU (wVar 3) (wC (.int 1)))))) (wApp 1 (wVar 3))))) (wRet (wTup (wCons (wUn tupleU (wVar 1)) (wCons (wVar 0) (wNil))))))
/-- slots: row -/
def m_factors : MS := wSeq (wDrop (wCall sp_need_row (wCons (wVar 0) (wNil)))) (wRet (wCall sp_taken_out (wCons (wCall sp_whole_of (wCons (wVar 0) (wNil))) (wNil))))
/-- slots: one, other -/
def m_shared : MS := wSeq (wWhile (wT (wBin gtU (wVar 1) (wC (.int 0)))) (wPar 0 1 (wCons (wVar 1) (wCons (wBin modU (wVar 0) (wVar 1)) (wNil))))) (wRet (wVar 0))
/-- slots: one, other -/
def m_part : MS := wSeq (wDrop (wCall sp_need_row (wCons (wVar 0) (wNil)))) (wSeq (wDrop (wCall sp_need_row (wCons (wVar 1) (wNil)))) (wRet (wCall sp_parted (wCons (wVar 0) (wCons (wVar 1) (wNil))))))
/-- slots: one, other, top, twos, left, bottom -/
def m_parted : MS := wSeq (wSet 2 (wCall sp_whole_of (wCons (wVar 0) (wNil)))) (wSeq (wAsg (wCall sp_taken_out (wCons (wCall sp_whole_of (wCons (wVar 1) (wNil))) (wNil))) (gT [3, 4])) (wSeq (wSet 4 (wBin divU (wVar 4) (wCall sp_shared (wCons (wVar 4) (wCons (wVar 2) (wNil)))))) (wSeq (wIf (wT (wBin gtU (wVar 4) (wC (.int 1)))) (wRaiseA "NotTurned" ["left"] (wCons (wVar 4) (wNil))) (wNext)) (wSeq (wSet 5 (wCall sp_whole_of (wCons (wVar 1) (wNil)))) (wSeq (wWhile (wT (wBin neU (wBin modU (wVar 2) (wVar 5)) (wC (.int 0)))) (wSet 2 (wBin mulU (wVar 2) (wC (.int 60))))) (wRet (wCall sp_row_of (wCons (wBin divU (wVar 2) (wVar 5)) (wNil)))))))))
/-- slots: _law_number, _law_prime -/
def m_law_left : MS := wSeq (wFor (wIt (wLst (wCons (wC (.int 2)) (wCons (wC (.int 3)) (wCons (wC (.int 5)) (wNil)))))) (gN 1) (wWhile (wT (wBin eqU (wBin modU (wVar 0) (wVar 1)) (wC (.int 0)))) (wSet 0 (wBin divU (wVar 0) (wVar 1))))) (wRet (wVar 0))
/-- slots: _law_number, _law_prime, _law_found -/
def m_law_many : MS := wSeq (wSet 2 (wC (.int 0))) (wSeq (wWhile (wT (wBin eqU (wBin modU (wVar 0) (wVar 1)) (wC (.int 0)))) (wSeq (wSet 0 (wBin divU (wVar 0) (wVar 1))) (wSet 2 (wBin addU (wVar 2) (wC (.int 1)))))) (wRet (wVar 2)))
theorem taken_loop {p : Int} (hp : 1 < p) (hp2 : p < 100) {fo : List D} {n m : Int} {g : G} {P : Post} (h0 : 0 < n) (hq : P.nx [some (.d (.int (rp p n))), some (.own (.lst fo)), some (.d (.int p)), some (.d (.int (m + vp p n)))] g) :
    (wWhile (wT (wBin eqU (wBin modU (wVar 0) (wVar 2)) (wC (.int 0)))) (wSeq (wSet 0 (wBin divU (wVar 0) (wVar 2))) (wSet 3 (wBin addU (wVar 3) (wC (.int 1)))))) [some (.d (.int n)), some (.own (.lst fo)), some (.d (.int p)), some (.d (.int m))] g P := by
  refine wWhile_ind (fun k ρ g' => ∃ i c : Int, g' = g ∧ ρ = [some (.d (.int i)), some (.own (.lst fo)), some (.d (.int p)), some (.d (.int c))] ∧ k = i.toNat ∧ 0 < i ∧ rp p i = rp p n ∧ c + vp p i = m + vp p n) ⟨n, m, rfl, rfl, rfl, h0, rfl, rfl⟩ ?_
  rintro k ρ g' N ⟨i, c, rfl, rfl, rfl, h1, h2, h3⟩ ih
  simp
  refine ⟨by omega, fun e => ?_, fun e => ?_⟩
  · have d := div_step ⟨hp, h1, e⟩
    refine ⟨divW64 (by omega) (by omega), ih (i / p).toNat _ _ (by omega) ⟨i / p, c + 1, rfl, rfl, rfl, d.2.1, ?_, ?_⟩⟩
    · rw [← h2, rp_eq ⟨hp, h1, e⟩]
    · rw [← h3, vp_eq ⟨hp, h1, e⟩]; omega
  · have z : ¬ (1 < p ∧ 0 < i ∧ i % p = 0) := fun q => e q.2.2
    rw [rp_0 z] at h2
    rw [vp_0 z] at h3
    have hc : c = m + vp p n := by omega
    rw [h2, hc]
    exact hq
theorem t_taken_out (xs : List D) (g : G) (Q : KU) (X : KX) (h : sp_taken_out xs g Q X) : m_taken_out (startU 4 xs) g (fnPost Q X) := by
  obtain ⟨n, rfl, h0, hq⟩ := h
  have f2 := rp_fact (p := 2) (by omega) n h0
  have f3 := rp_fact (p := 3) (by omega) _ f2.1
  refine ⟨sizeL (by simp), ?_⟩
  refine taken_loop (p := 2) (by omega) (by omega) h0 ⟨trivial, show 0 < 16777216 by omega, ?_⟩
  refine taken_loop (p := 3) (by omega) (by omega) f2.1 ⟨trivial, show 1 < 16777216 by omega, ?_⟩
  refine taken_loop (p := 5) (by omega) (by omega) f3.1 ⟨trivial, show 2 < 16777216 by omega, ?_⟩
  refine ⟨show 2 ≤ 16777216 by omega, ?_⟩
  have e3 : vp 3 (rp 2 n) = vp 3 n := vp_rp (by omega) (by omega) ap23 n h0
  have e5 : vp 5 (rp 3 (rp 2 n)) = vp 5 n := by
    rw [vp_rp (by omega) (by omega) ap35 _ f2.1, vp_rp (by omega) (by omega) ap25 n h0]
  have : Q (.d (.tup [.tup [.int (0 + vp 2 n), .int (0 + vp 3 (rp 2 n)), .int (0 + vp 5 (rp 3 (rp 2 n)))], .int (rest n)])) g := by
    rw [e3, e5, Int.zero_add, Int.zero_add, Int.zero_add]
    exact hq
  exact sub1 this
theorem t_factors (xs : List D) (g : G) (Q : KU) (X : KX) (h : sp_factors xs g Q X) : m_factors (startU 1 xs) g (fnPost Q X) := by
  obtain ⟨r, rfl, h1, h2⟩ := h
  refine ⟨r, rfl, fun ok => ?_, fun no => sub1 (h2 no)⟩
  exact ⟨r, rfl, figs12 ok, (Nat.le_trans (len12 ok) (by omega)), _, rfl, whole_pos r ok, sub1 (h1 ok)⟩
theorem t_shared (xs : List D) (g : G) (Q : KU) (X : KX) (h : sp_shared xs g Q X) : m_shared (startU 2 xs) g (fnPost Q X) := by
  obtain ⟨a, b, rfl, a0, b0, hq⟩ := h
  simp [m_shared]
  refine wWhile_ind (fun k ρ g' => ∃ i j : Int, g' = g ∧ ρ = [some (.d (.int i)), some (.d (.int j))] ∧ k = j.toNat ∧ 0 ≤ i ∧ 0 ≤ j ∧ Int.gcd i j = Int.gcd a b) ⟨a, b, rfl, rfl, rfl, a0, b0, rfl⟩ ?_
  rintro k ρ g' N ⟨i, j, rfl, rfl, rfl, h1, h2, h3⟩ ih
  simp
  refine ⟨fun e => ?_, fun e => sub1 ?_⟩
  · have m0 := Int.emod_nonneg i (show j ≠ 0 by omega)
    have m1 := Int.emod_lt_of_pos i e
    refine ⟨e, ih (i % j).toNat _ _ (by omega) ⟨j, i % j, rfl, rfl, rfl, h2, m0, ?_⟩⟩
    rw [← h3]
    obtain ⟨u, rfl⟩ := Int.eq_ofNat_of_zero_le h1
    obtain ⟨v, rfl⟩ := Int.eq_ofNat_of_zero_le h2
    show Nat.gcd v (u % v) = Nat.gcd u v
    rw [Nat.gcd_comm u v, Nat.gcd_rec v u, Nat.gcd_comm]
  · have : j = 0 := by omega
    subst this
    have hi : (Int.gcd a b : Int) = i := by
      rw [← h3, Int.gcd_zero_right]
      omega
    rw [hi] at hq
    exact hq
theorem left_loop {p : Int} (hp : 1 < p) (hp2 : p < 100) {n : Int} {g : G} {P : Post} (h0 : 0 < n) (hq : P.nx [some (.d (.int (rp p n))), some (.d (.int p))] g) :
    (wWhile (wT (wBin eqU (wBin modU (wVar 0) (wVar 1)) (wC (.int 0)))) (wSet 0 (wBin divU (wVar 0) (wVar 1)))) [some (.d (.int n)), some (.d (.int p))] g P := by
  refine wWhile_ind (fun k ρ g' => ∃ i : Int, g' = g ∧ ρ = [some (.d (.int i)), some (.d (.int p))] ∧ k = i.toNat ∧ 0 < i ∧ rp p i = rp p n) ⟨n, rfl, rfl, rfl, h0, rfl⟩ ?_
  rintro k ρ g' N ⟨i, rfl, rfl, rfl, h1, h2⟩ ih
  simp
  refine ⟨by omega, fun e => ?_, fun e => ?_⟩
  · have d := div_step ⟨hp, h1, e⟩
    exact ⟨divW64 (by omega) (by omega), ih (i / p).toNat _ _ (by omega) ⟨i / p, rfl, rfl, rfl, d.2.1, by rw [← h2, rp_eq ⟨hp, h1, e⟩]⟩⟩
  · rw [rp_0 (fun q => e q.2.2)] at h2
    rw [h2]
    exact hq
theorem t_law_left (xs : List D) (g : G) (Q : KU) (X : KX) (h : sp_law_left xs g Q X) : m_law_left (startU 2 xs) g (fnPost Q X) := by
  obtain ⟨n, rfl, h0, hq⟩ := h
  have f2 := rp_fact (p := 2) (by omega) n h0
  have f3 := rp_fact (p := 3) (by omega) _ f2.1
  refine ⟨sizeL (by simp), ?_⟩
  refine left_loop (p := 2) (by omega) (by omega) h0 ?_
  refine left_loop (p := 3) (by omega) (by omega) f2.1 ?_
  refine left_loop (p := 5) (by omega) (by omega) f3.1 ?_
  exact sub1 hq
theorem t_law_many (xs : List D) (g : G) (Q : KU) (X : KX) (h : sp_law_many xs g Q X) : m_law_many (startU 3 xs) g (fnPost Q X) := by
  obtain ⟨n, p, rfl, h0, p1, p2, hq⟩ := h
  simp [m_law_many]
  refine wWhile_ind (fun k ρ g' => ∃ i c : Int, g' = g ∧ ρ = [some (.d (.int i)), some (.d (.int p)), some (.d (.int c))] ∧ k = i.toNat ∧ 0 < i ∧ c + vp p i = vp p n) ⟨n, 0, rfl, rfl, rfl, h0, by omega⟩ ?_
  rintro k ρ g' N ⟨i, c, rfl, rfl, rfl, h1, h3⟩ ih
  simp
  refine ⟨by omega, fun e => ?_, fun e => sub1 ?_⟩
  · have d := div_step ⟨p1, h1, e⟩
    refine ⟨divW64 (by omega) (by omega), ih (i / p).toNat _ _ (by omega) ⟨i / p, c + 1, rfl, rfl, rfl, d.2.1, ?_⟩⟩
    rw [← h3, vp_eq ⟨p1, h1, e⟩]; omega
  · rw [vp_0 (fun q => e q.2.2)] at h3
    have hc : c = vp p n := by omega
    rw [hc]
    exact hq
open PySem L2 PyProof.Rows

theorem pow_lt_of {p k : Nat} {n : Int} (hp : 2 ≤ p) (h : (p : Int) ^ k ≤ n) (hn : n < 2 ^ 72) : k < 72 := by
  rcases Nat.lt_or_ge k 72 with h1 | h1
  · exact h1
  · have a : (2 : Nat) ^ 72 ≤ p ^ k := Nat.le_trans (Nat.pow_le_pow_left hp 72) (Nat.pow_le_pow_right (by omega) h1)
    have b : ((2 ^ 72 : Nat) : Int) ≤ ((p ^ k : Nat) : Int) := by exact_mod_cast a
    have c : ((p ^ k : Nat) : Int) = (p : Int) ^ k := by exact_mod_cast rfl
    have d : ((2 ^ 72 : Nat) : Int) = (2 : Int) ^ 72 := by decide
    omega
theorem le_mul_pos {a b : Int} (ha : 0 ≤ a) (hb : 1 ≤ b) : a ≤ a * b := by
  have := Int.mul_le_mul_of_nonneg_left hb ha
  omega
/-- sixty often enough -/
theorem turns {t b : Int} (hb : 0 < b) (hb2 : b < 2 ^ 72) (h : t % rest b = 0) : ∃ K : Nat, K ≤ 216 ∧ (t * 60 ^ K) % b = 0 := by
  have f := rest_fact hb
  have p2 : (0 : Int) < 2 ^ vp 2 b := Int.pow_pos (by omega)
  have p3 : (0 : Int) < 3 ^ vp 3 b := Int.pow_pos (by omega)
  have p5 : (0 : Int) < 5 ^ vp 5 b := Int.pow_pos (by omega)
  have q23 := Int.mul_pos p2 p3
  have q235 := Int.mul_pos q23 p5
  have l0 : 2 ^ vp 2 b * 3 ^ vp 3 b * 5 ^ vp 5 b ≤ b := by
    have := le_mul_pos (a := 2 ^ vp 2 b * 3 ^ vp 3 b * 5 ^ vp 5 b) (b := rest b) (by omega) (by omega)
    rw [← f.2.2.1] at this
    exact this
  have l1 : 2 ^ vp 2 b * 3 ^ vp 3 b ≤ b := Int.le_trans (le_mul_pos (by omega) (by omega)) l0
  have l2 : 2 ^ vp 2 b ≤ b := Int.le_trans (le_mul_pos (by omega) (by omega)) l1
  have l3 : 3 ^ vp 3 b ≤ b := by
    have := le_mul_pos (a := 3 ^ vp 3 b) (b := 2 ^ vp 2 b) (by omega) (by omega)
    rw [Int.mul_comm] at this
    omega
  have l5 : 5 ^ vp 5 b ≤ b := by
    have := le_mul_pos (a := 5 ^ vp 5 b) (b := 2 ^ vp 2 b * 3 ^ vp 3 b) (by omega) (by omega)
    rw [Int.mul_comm] at this
    omega
  have k2 := pow_lt_of (p := 2) (by omega) l2 hb2
  have k3 := pow_lt_of (p := 3) (by omega) l3 hb2
  have k5 := pow_lt_of (p := 5) (by omega) l5 hb2
  refine ⟨vp 2 b + vp 3 b + vp 5 b, by omega, ?_⟩
  have ht : t = rest b * (t / rest b) := by
    have := Int.mul_ediv_add_emod t (rest b)
    omega
  have e2 : (60 : Int) ^ vp 2 b = 2 ^ vp 2 b * 30 ^ vp 2 b := by rw [← Int.mul_pow]; rfl
  have e3 : (60 : Int) ^ vp 3 b = 3 ^ vp 3 b * 20 ^ vp 3 b := by rw [← Int.mul_pow]; rfl
  have e5 : (60 : Int) ^ vp 5 b = 5 ^ vp 5 b * 12 ^ vp 5 b := by rw [← Int.mul_pow]; rfl
  have e : t * 60 ^ (vp 2 b + vp 3 b + vp 5 b) = b * (t / rest b * (30 ^ vp 2 b * 20 ^ vp 3 b * 12 ^ vp 5 b)) := by
    rw [Int.pow_add, Int.pow_add, e2, e3, e5]
    calc t * (2 ^ vp 2 b * 30 ^ vp 2 b * (3 ^ vp 3 b * 20 ^ vp 3 b) * (5 ^ vp 5 b * 12 ^ vp 5 b))
        = rest b * (t / rest b) * (2 ^ vp 2 b * 30 ^ vp 2 b * (3 ^ vp 3 b * 20 ^ vp 3 b) * (5 ^ vp 5 b * 12 ^ vp 5 b)) := by rw [← ht]
      _ = (2 ^ vp 2 b * 3 ^ vp 3 b * 5 ^ vp 5 b * rest b) * (t / rest b * (30 ^ vp 2 b * 20 ^ vp 3 b * 12 ^ vp 5 b)) := by
          generalize (2 : Int) ^ vp 2 b = A
          generalize (3 : Int) ^ vp 3 b = B
          generalize (5 : Int) ^ vp 5 b = C
          generalize (30 : Int) ^ vp 2 b = A'
          generalize (20 : Int) ^ vp 3 b = B'
          generalize (12 : Int) ^ vp 5 b = C'
          generalize t / rest b = q
          generalize rest b = w
          grind
      _ = b * (t / rest b * (30 ^ vp 2 b * 20 ^ vp 3 b * 12 ^ vp 5 b)) := by rw [← f.2.2.1]
  rw [e, Int.mul_emod_right]
theorem gcd_one {w t : Int} (hw : 0 < w) : (1 < w / Int.gcd w t ↔ t % w ≠ 0) ∧ 0 < (Int.gcd w t : Int) ∧ (Int.gcd w t : Int) ≤ w := by
  have d1 : (Int.gcd w t : Int) ∣ w := Int.gcd_dvd_left ..
  have d2 : (Int.gcd w t : Int) ∣ t := Int.gcd_dvd_right ..
  have g0 : 0 < (Int.gcd w t : Int) := by
    have : Int.gcd w t ≠ 0 := by
      intro e
      rw [Int.gcd_eq_zero_iff] at e
      omega
    omega
  have g1 := Int.le_of_dvd hw d1
  refine ⟨?_, g0, g1⟩
  obtain ⟨q, hq⟩ := d1
  have e1 : w / Int.gcd w t = q := by
    conv => lhs; lhs; rw [hq]
    exact Int.mul_ediv_cancel_left _ (by omega)
  rw [e1]
  have q0 : 0 < q := by
    by_cases z : 0 < q
    · exact z
    · have := Int.mul_le_mul_of_nonneg_left (show q ≤ 0 by omega) (show 0 ≤ (Int.gcd w t : Int) by omega)
      omega
  constructor
  · intro h e
    have : w ∣ (Int.gcd w t : Int) := Int.dvd_coe_gcd (Int.dvd_refl w) (Int.dvd_of_emod_eq_zero e)
    have := Int.le_of_dvd g0 this
    have h2 := Int.mul_le_mul_of_nonneg_left (show 2 ≤ q by omega) (show 0 ≤ (Int.gcd w t : Int) by omega)
    omega
  · intro h
    by_cases z : 1 < q
    · exact z
    · exfalso
      have : q = 1 := by omega
      rw [this, Int.mul_one] at hq
      rw [← hq] at d2
      exact h (Int.emod_eq_zero_of_dvd d2)
theorem t_parted (xs : List D) (g : G) (Q : KU) (X : KX) (h : sp_parted xs g Q X) : m_parted (startU 6 xs) g (fnPost Q X) := by
  obtain ⟨r, s, rfl, hr, hs, h1, h2⟩ := h
  have w1 := whole_lt12 r hr
  have w2 := whole_lt12 s hs
  have p1 := whole_pos r hr
  have p2 := whole_pos s hs
  have f := rest_fact p2
  have gg := gcd_one (w := rest (whole s)) (t := whole r) f.1
  refine ⟨r, rfl, figs12 hr, (Nat.le_trans (len12 hr) (by omega)), s, rfl, figs12 hs, (Nat.le_trans (len12 hs) (by omega)), _, rfl, p2, ?_⟩
  refine ⟨_, _, rfl, by omega, by omega, ⟨gg.2.1, ?_⟩, fun e => ?_, fun e => ?_⟩
  · have : (Int.gcd (rest (whole s)) (whole r) : Int).natAbs ≠ 0 := by omega
    have := (Nat.log2_lt this (k := 72)).mpr (pow_log (k := 12) (by omega) (by omega))
    omega
  · have e' : 1 < rest (whole s) / Int.gcd (rest (whole s)) (whole r) := by simpa using e
    exact ⟨rfl, sub1 (h2 (gg.1.mp e'))⟩
  · have e' : ¬ 1 < rest (whole s) / Int.gcd (rest (whole s)) (whole r) := by
      have q : decide (1 < rest (whole s) / (Int.gcd (rest (whole s)) (whole r) : Int)) = false := e
      simpa using q
    have hd : whole r % rest (whole s) = 0 := by
      by_cases z : whole r % rest (whole s) = 0
      · exact z
      · exact absurd (gg.1.mpr z) e'
    obtain ⟨K, hK, hK2⟩ := turns p2 (by omega) hd
    refine ⟨s, rfl, figs12 hs, (Nat.le_trans (len12 hs) (by omega)), ?_⟩
    refine wWhile_ind (fun k ρ g' => ∃ j : Nat, g' = g ∧ (∃ z3 z4 : Option U, ρ = [some (.d (R r)), some (.d (R s)), some (.d (.int (whole r * 60 ^ j))), z3, z4, some (.d (.int (whole s)))]) ∧ k = K - j ∧ j ≤ K) ⟨0, rfl, ⟨_, _, by simp; exact ⟨rfl, rfl⟩⟩, rfl, by omega⟩ ?_
    rintro k ρ g' N ⟨j, rfl, ⟨z3, z4, rfl⟩, rfl, hj⟩ ih
    have t0 : 0 < whole r * 60 ^ j := Int.mul_pos p1 (p60 j)
    have t1 : whole r * 60 ^ j < 60 ^ (12 + j) := by
      rw [Int.pow_add]
      exact Int.mul_lt_mul_of_pos_right w1 (p60 j)
    simp
    refine ⟨p2, fun e => ?_, fun e => ?_⟩
    · have hlt : j < K := by
        rcases Nat.lt_or_ge j K with q | q
        · exact q
        · have : j = K := by omega
          rw [this] at e
          exact absurd hK2 e
      refine ⟨mulW (6 * (12 + j)) 6 (pow_log (by omega) t1) (by decide) (by omega), ih (K - (j + 1)) _ _ (by omega) ⟨j + 1, rfl, ⟨z3, z4, ?_⟩, rfl, by omega⟩⟩
      rw [Int.pow_succ, ← Int.mul_assoc]
    · have em : whole r * 60 ^ j / whole s * whole s = whole r * 60 ^ j := Int.ediv_mul_cancel_of_emod_eq_zero e
      have m0 : 0 < whole r * 60 ^ j / whole s := by
        by_cases z : 0 < whole r * 60 ^ j / whole s
        · exact z
        · have := Int.mul_le_mul_of_nonneg_right (show whole r * 60 ^ j / whole s ≤ 0 by omega) (show 0 ≤ whole s by omega)
          omega
      refine ⟨⟨p2, ?_⟩, _, rfl, m0, ?_, sub1 (h1 hd _ j m0 em)⟩
      · have : (whole s).natAbs ≠ 0 := by omega
        have := (Nat.log2_lt this (k := 72)).mpr (pow_log (k := 12) (by omega) w2)
        omega
      · refine big_of (12 + j) (by omega) ?_
        have : whole r * 60 ^ j / whole s ≤ whole r * 60 ^ j := Int.ediv_le_self _ (by omega)
        omega
theorem t_part (xs : List D) (g : G) (Q : KU) (X : KX) (h : sp_part xs g Q X) : m_part (startU 2 xs) g (fnPost Q X) := by
  obtain ⟨r, s, rfl, h1, h2⟩ := h
  refine ⟨r, rfl, fun ok => ⟨s, rfl, fun ok2 => ?_, fun no => sub1 (h2 (.inr no))⟩, fun no => sub1 (h2 (.inl no))⟩
  have h3 := h1 ok ok2
  exact ⟨r, s, rfl, ok, ok2, fun q m k m0 e => sub1 (h3.1 q m k m0 e), fun q => sub1 (h3.2 q)⟩
open PySem L2 PyProof.Rows

/-- a figure's word -/
def fw (f : Int) : Str := toString f
def digit (c : Nat) : Bool := decide (c ∈ (Str.ofString "0123456789").cps.toList)
def goodFw (n : Nat) : Bool := decide (1 ≤ (fw n).length) && decide ((fw n).length ≤ 2) && (decide ((fw n).cps.toList.head? ≠ some 48) || decide (fw n = Str.ofString "0")) && (fw n).cps.toList.all digit && decide (PySem.intText? (fw n) = some (n : Int)) && decide (32 ∉ (fw n).cps.toList)
theorem goodFws : (List.range 60).all goodFw = true := by decide +kernel
theorem good_at {f : Int} (h0 : 0 ≤ f) (h1 : f < 60) : 1 ≤ (fw f).length ∧ (fw f).length ≤ 2 ∧ ((fw f).cps.toList.head? ≠ some 48 ∨ fw f = Str.ofString "0") ∧ (∀ c ∈ (fw f).cps.toList, digit c = true) ∧ PySem.intText? (fw f) = some f ∧ 32 ∉ (fw f).cps.toList := by
  obtain ⟨n, rfl⟩ := Int.eq_ofNat_of_zero_le h0
  have h := goodFws
  rw [List.all_eq_true] at h
  have g := h n (List.mem_range.mpr (by omega))
  unfold goodFw at g
  simp only [Bool.and_eq_true, Bool.or_eq_true, decide_eq_true_eq, List.all_eq_true] at g
  exact ⟨g.1.1.1.1.1, g.1.1.1.1.2, g.1.1.1.2, g.1.1.2, g.1.2, g.2⟩
def wr (r : List Int) : Str := Txt.join (Str.ofString " ") (r.map fw)
theorem fw_parts (r : List Int) : r.map fw = (r.map fun f => (fw f).cps.toList).map SX.S := by
  rw [List.map_map]
  apply List.map_congr_left
  intro f _
  exact (SX.S_tl (fw f)).symm
theorem wr_S (r : List Int) : wr r = SX.S (TL.joinL [32] (r.map fun f => (fw f).cps.toList)) := by
  unfold wr
  rw [fw_parts]
  exact SX.join_S [32] _
theorem figs_mem {r : List Int} (h : figs r = true) {f : Int} (hf : f ∈ r) : 0 ≤ f ∧ f < 60 := by
  unfold figs at h
  rw [List.all_eq_true] at h
  simpa using h f hf
theorem wr_split {r : List Int} (h : figs r = true) (hne : r ≠ []) : Txt.split (wr r) (Str.ofString " ") = r.map fw := by
  rw [wr_S]
  have e := SX.split_S (a := TL.joinL [32] (r.map fun f => (fw f).cps.toList)) (b := [32]) (by simp) (by decide)
  rw [SX.spl_join (by simpa using hne) (fun p hp => by
    obtain ⟨f, hf, rfl⟩ := List.mem_map.mp hp
    have := figs_mem h hf
    exact (good_at this.1 this.2).2.2.2.2.2)] at e
  rw [fw_parts]
  exact e
theorem joinL_len : ∀ ps : List (List Nat), (∀ p ∈ ps, p.length ≤ 2) → (TL.joinL [32] ps).length ≤ 3 * ps.length
  | [], _ => by simp [TL.joinL]
  | [p], h => by have := h p (by simp); simp [TL.joinL]; omega
  | p :: q :: r, h => by
    have h1 := h p (by simp)
    have ih := joinL_len (q :: r) fun x hx => h x (List.mem_cons_of_mem _ hx)
    simp [TL.joinL] at ih ⊢
    omega
theorem wr_len {r : List Int} (h : figs r = true) : (wr r).length ≤ 3 * r.length := by
  rw [wr_S, SX.S_len]
  have := joinL_len (r.map fun f => (fw f).cps.toList) fun p hp => by
    obtain ⟨f, hf, rfl⟩ := List.mem_map.mp hp
    have := figs_mem h hf
    have q := (good_at this.1 this.2).2.1
    simpa [Str.length] using q
  rw [List.length_map] at this
  exact this
theorem fw_sum {r : List Int} (h : figs r = true) : ((r.map fw).map (·.length)).sum ≤ 2 * r.length := by
  induction r with
  | nil => simp
  | cons f r ih =>
    have hf := figs_mem h (f := f) (by simp)
    have q := (good_at hf.1 hf.2).2.1
    have ih := ih (by unfold figs at h ⊢; simp only [List.all_cons, Bool.and_eq_true] at h; exact h.2)
    simp only [List.map_cons, List.sum_cons, List.length_cons]
    omega
def sp_written : SpU := fun xs g Q X => ∃ r : List Int, xs = [R r] ∧ (okRow r = true → Q (.d (.str (wr r))) g) ∧ (okRow r = false → X BR g)
/-- a row's own text -/
def sp_read : SpU := fun xs g Q _ => ∃ r : List Int, xs = [.str (wr r)] ∧ okRow r = true ∧ Q (.d (R r)) g
@[simp] def c_SIGNS : D := .str "0123456789"
/-- slots: row, figure -/
def m_written : MS := wSeq (wDrop (wCall sp_need_row (wCons (wVar 0) (wNil)))) (wRet (wM1 joinD (wC (.str " ")) (wLc (wIt (wVar 0)) (gN 1) (wYes) (wUn strU (wVar 1)) [1])))
/-- slots: text, found, word, sign -/
def m_read : MS := wSeq (wSet 1 (wTup (wNil))) (wSeq (wFor (wIt (wM1 splitD (wVar 0) (wC (.str " ")))) (gN 2) (wSeq (wIf (wtOr (wtNot (wT (wChain leU leU (wC (.int 1)) (wUn lenU (wVar 2)) (wC (.int 2))))) (wtAnd (wT (wBin eqU (wBin ixU (wVar 2) (wC (.int 0))) (wC (.str "0")))) (wT (wBin neU (wVar 2) (wC (.str "0")))))) (wRaise "BadRow") (wNext)) (wSeq (wIf (wT (wBin neU (wLc (wIt (wVar 2)) (gN 3) (wT (wBin (inU true) (wVar 3) (wC c_SIGNS))) (wVar 3) [3]) (wLst (wNil)))) (wRaise "BadRow") (wNext)) (wSet 1 (wBin addU (wVar 1) (wTup (wCons (wUn intcU (wVar 2)) (wNil)))))))) (wSeq (wDrop (wCall sp_need_row (wCons (wVar 1) (wNil)))) (wRet (wVar 1))))
theorem log60 {f : Int} (h0 : 0 ≤ f) (h1 : f < 60) : f.natAbs.log2 < 1920 := by
  by_cases z : f.natAbs = 0
  · rw [z]; simp
  · exact Nat.lt_of_lt_of_le ((Nat.log2_lt z (k := 6)).mpr (by omega)) (by omega)
/-- the comprehension that writes the figures -/
theorem fw_loop {r : List Int} (hf : figs r = true) {tg : MG} {me : ME} {ρ : Env} {g : G} {k : List D → G → Prop} (hs : ∀ f : Int, 0 ≤ f → f < 60 → ∀ (acc : List D) (N : List D → G → Prop), N (acc ++ [.str (fw f)]) g → tg (.int f) ρ fun ρ1 => wYes ρ1 g (fun b g1 => (b = true → me ρ1 g1 (fun u g2 => fzU u fun y => N (acc ++ [y]) g2) noX) ∧ (b = false → N acc g1)) noX)
    (hk : k ((r.map fw).map D.str) g) : lcLoop tg wYes me ρ (r.map D.int) [] g k := by
  refine lcLoop_ind (fun ys acc g' => ∃ a b : List Int, ys = b.map D.int ∧ r = a ++ b ∧ acc = (a.map fw).map D.str ∧ g' = g) ?_ ?_ _ _ _ ⟨[], r, rfl, rfl, rfl, rfl⟩
  · rintro acc g' ⟨a, b, e1, e2, rfl, rfl⟩
    cases b with
    | cons y b => cases e1
    | nil =>
      rw [List.append_nil] at e2
      rw [← e2]
      exact hk
  · rintro y ys acc g' N ⟨a, b, e1, e2, rfl, rfl⟩ ih
    cases b with
    | nil => cases e1
    | cons f b =>
      cases e1
      have h := figs_mem hf (f := f) (by rw [e2]; simp)
      exact hs f h.1 h.2 _ N (ih _ _ ⟨a ++ [f], b, rfl, by rw [e2]; simp, by simp, rfl⟩)
theorem t_written (xs : List D) (g : G) (Q : KU) (X : KX) (h : sp_written xs g Q X) : m_written (startU 2 xs) g (fnPost Q X) := by
  obtain ⟨r, rfl, h1, h2⟩ := h
  refine ⟨r, rfl, fun ok => ?_, fun no => sub1 (h2 no)⟩
  have r12 := (okRow_iff r).mp ok
  refine ⟨sizeL (by rw [List.length_map]; omega), ?_⟩
  refine fw_loop (r := r) (figs12 ok) (fun f h0 h1 acc N hN => ⟨fun _ => ⟨log60 h0 h1, hN⟩, fun q => absurd q (by decide)⟩) ?_
  have fs := fw_sum (figs12 ok)
  have fl : (Str.ofString " ").length = 1 := by decide
  refine ⟨r.map fw, rfl, ?_, sub1 (h1 ok)⟩
  rw [fl, List.length_map]
  omega
theorem signs_good {f : Int} (h0 : 0 ≤ f) (h1 : f < 60) : ∀ d ∈ signs (fw f), ∃ c : Nat, d = .str ⟨#[c]⟩ ∧ c ∈ (Str.ofString "0123456789").cps.toList := by
  intro d hd
  unfold signs at hd
  obtain ⟨c, hc, rfl⟩ := List.mem_map.mp hd
  have := (good_at h0 h1).2.2.2.1 c hc
  unfold digit at this
  exact ⟨c, rfl, by simpa using this⟩
theorem strOk_one {c : Nat} (h : c < 1114112) : PyData.strOk (⟨#[c]⟩ : Str) = true := by
  simp [PyData.strOk, h]
theorem strOk_fw {f : Int} (h0 : 0 ≤ f) (h1 : f < 60) : PyData.strOk (fw f) = true := by
  unfold PyData.strOk
  rw [← Array.all_toList, List.all_eq_true]
  intro c hc
  have := (good_at h0 h1).2.2.2.1 c hc
  unfold digit at this
  have h2 : ∀ c ∈ (Str.ofString "0123456789").cps.toList, c < 1114112 := by decide
  simpa using h2 c (by simpa using this)
theorem t_read (xs : List D) (g : G) (Q : KU) (X : KX) (h : sp_read xs g Q X) : m_read (startU 4 xs) g (fnPost Q X) := by
  obtain ⟨r, rfl, ok, hq⟩ := h
  have r12 := (okRow_iff r).mp ok
  have hne : r ≠ [] := by intro e; rw [e] at r12; simp at r12
  have hl := wr_len (figs12 ok)
  refine ⟨sizeL (by simp), by decide, sizeL (by omega), ?_⟩
  show forLoop _ _ ((Txt.split (wr r) (Str.ofString " ")).map D.str) _ _ _
  rw [wr_split (figs12 ok) hne]
  refine forLoop_ind (fun ys ρ g' => ∃ (a b : List Int) (z2 : Option U), ys = (b.map fw).map D.str ∧ r = a ++ b ∧ g' = g ∧ ρ = [some (.d (.str (wr r))), some (.d (R a)), z2, none]) ?_ ?_ _ _ _ ⟨[], r, none, rfl, rfl, rfl, rfl⟩
  · rintro ρ g' ⟨a, b, z2, e1, e2, rfl, rfl⟩
    cases b with
    | cons y b => cases e1
    | nil =>
      rw [List.append_nil] at e2
      subst e2
      exact ⟨r, rfl, fun _ => sub1 hq, fun no => ff ok no⟩
  · rintro y ys ρ g' N ⟨a, b, z2, e1, e2, rfl, rfl⟩ ih
    cases b with
    | nil => cases e1
    | cons f b =>
      cases e1
      have h := figs_mem (figs12 ok) (f := f) (by rw [e2]; simp)
      have gd := good_at h.1 h.2
      have hlen := congrArg List.length e2
      simp at hlen
      have h48 : ∀ c : Nat, (⟨#[c]⟩ : Str) = Str.ofString "0" → c = 48 := by
        intro c e
        have e2 := congrArg (fun z : Str => z.cps.toList) e
        have e3 : [c] = [48] := e2
        simpa using e3
      obtain ⟨c, hc⟩ : ∃ c, (fw f).cps.toList[0]? = some c := by
        have : 0 < (fw f).cps.toList.length := by
          have := gd.1
          rw [Array.length_toList]
          exact this
        exact ⟨_, List.getElem?_eq_getElem this⟩
      have hc2 : (fw f).cps.toList.head? = some c := by rw [List.head?_eq_getElem?]; exact hc
      have hcm : c ∈ (fw f).cps.toList := List.mem_of_getElem? hc
      have hcd : c < 1114112 := by
        have := gd.2.2.2.1 c hcm
        unfold digit at this
        have h2 : ∀ c ∈ (Str.ofString "0123456789").cps.toList, c < 1114112 := by decide
        exact h2 c (by simpa using this)
      have ok0 : PyData.strOk (Str.ofString "0") = true := by decide +kernel
      have hsl : (signs (fw f)).length ≤ 2 := by
        unfold signs
        rw [List.length_map, Array.length_toList]
        exact gd.2.1
      have hc' : (fw f).cps[0]? = some c := by rw [← Array.getElem?_toList]; exact hc
      simp
      refine ⟨sizeL (by omega), fun _ => ⟨fun e => absurd e (by omega), fun _ => ⟨sizeL (by omega), c, hc', ⟨strOk_one hcd, ok0⟩, fun e0 => ⟨⟨strOk_fw h.1 h.2, ok0⟩, fun q => ?_, fun _ => ?_⟩, fun _ => ?_⟩⟩, fun e => absurd e (by omega)⟩
      · exfalso
        rcases gd.2.2.1 with z | z
        · rw [hc2, h48 c e0] at z
          exact z rfl
        · exact q z
      all_goals
        refine ⟨sizeL (by omega), ?_⟩
        refine lcLoop_ind (fun ys acc g2 => acc = [] ∧ g2 = g' ∧ ∀ d ∈ ys, ∃ c : Nat, d = .str ⟨#[c]⟩ ∧ c ∈ (Str.ofString "0123456789").cps.toList) ?_ ?_ _ _ _ ⟨rfl, rfl, signs_good h.1 h.2⟩
        · rintro acc g2 ⟨rfl, rfl, _⟩
          refine ⟨⟨rfl, rfl⟩, fun q => absurd q (by simp [eqD, toPy, toPyL, PyData.eqv, PyData.eqvAll]), fun _ => ⟨f, gd.2.2.2.2.1, by omega, sizeL (by omega), ?_⟩⟩
          show (a.map D.int).length + 1 ≤ sizeLine ∧ N [some (.d (.str (wr r))), some (.d (.tup (a.map D.int ++ [.int f]))), some (.d (.str (fw f))), none] g2
          refine ⟨sizeL (by rw [List.length_map]; omega), ih _ _ ⟨a ++ [f], b, some (.d (.str (fw f))), rfl, by rw [e2]; simp, rfl, by simp [R]⟩⟩
        · rintro y ys acc g2 N2 ⟨rfl, rfl, hy⟩ ih2
          obtain ⟨d, rfl, hd⟩ := hy y List.mem_cons_self
          refine ⟨d, rfl, fun q => ?_, fun _ => ih2 _ _ ⟨rfl, rfl, fun z hz => hy z (List.mem_cons_of_mem _ hz)⟩⟩
          have q' : (true != decide (d ∈ (Str.ofString "0123456789").cps.toList)) = true := q
          rw [decide_eq_true hd] at q'
          cases q'
open PySem L2 PyProof.Rows

def sp_law_short : SpU := fun xs g Q _ => ∃ (d : Addr) (k : Int), xs = [.ref d, .int k] ∧ 1 ≤ k ∧ k ≤ 12 ∧ Dice g d ∧ ∀ (r : List Int) (g' : G), okRow r = true → (r.length : Int) ≤ k → Dice g' d → (∀ b, b ≠ d → g' b = g b) → Q (.d (R r)) g'
/-- the numbers below m in some order -/
def sp_law_order : SpU := fun xs g Q _ => ∃ (d : Addr) (m : Nat), xs = [.ref d, .int m] ∧ m ≤ 100 ∧ Dice g d ∧ ∀ (p : List Nat) (g' : G), p.Perm (List.range m) → Dice g' d → Q (.own (.lst (p.map fun (i : Nat) => D.int i))) g'
/-- slots: _law_d, _law_most, _law_row_here -/
def m_law_short : MS := wSeq (wSet 2 (wCall sp_law_drawn (wCons (wVar 0) (wCons (wVar 1) (wNil))))) (wRet (wIfE (wT (wBin leU (wUn lenU (wVar 2)) (wVar 1))) (wVar 2) (wSl (wVar 2) (wO0) (wO (wC (.int 1))))))
/-- slots: _law_d, _law_many_here, _law_left_here, _law_k -/
def m_law_order : MS := wSeq (wSetO 2 (wLrg1 (wVar 1))) (wShare 2 (wRet (wLc (wR1 (wCons (wVar 1) (wNil))) (gN 3) (wYes) (wPopE 2 (wCall sp_law_next (wCons (wVar 0) (wCons (wUn lenU (wVar 2)) (wNil))))) [3])))
theorem okRow_take1 {r : List Int} (h : okRow r = true) : okRow (r.take 1) = true := by
  have q := (okRow_iff r).mp h
  cases r with
  | nil => simp at q
  | cons f r =>
    rw [okRow_iff]
    have hf : f ≠ 0 := fun e => q.2.2.1 (by rw [e]; rfl)
    have := figs_take (f :: r) 1 q.2.2.2.2
    refine ⟨by simp, by simp, by simpa using hf, by simpa using hf, this⟩
theorem t_law_short (xs : List D) (g : G) (Q : KU) (X : KX) (h : sp_law_short xs g Q X) : m_law_short (startU 3 xs) g (fnPost Q X) := by
  obtain ⟨d, k, rfl, k0, k1, hd, hq⟩ := h
  refine ⟨d, k, rfl, k0, k1, hd, fun r g1 hr lr d1 fr => ?_⟩
  refine ⟨fun e => ?_, fun e => ?_⟩
  · have e' : (r.length : Int) ≤ k := by
      have q : decide ((((r.map D.int).length : Nat) : Int) ≤ k) = true := e
      simpa using q
    exact sub1 (hq r g1 hr e' d1 fr)
  · have hc : D.tup (cutD (r.map D.int) none (some 1)) = R (r.take 1) := by
      rw [cut_take _ 1 (by omega)]
      simp [R]
    show ∃ g2, SubG g2 g1 ∧ Q (.d (.tup (cutD (r.map D.int) none (some 1)))) g2
    rw [hc]
    exact sub1 (hq _ g1 (okRow_take1 hr) (by rw [List.length_take]; omega) d1 fr)
theorem Dice.fr {g g' : G} {d : Addr} (h : Dice g d) (e : g' d = g d) : Dice g' d := by
  obtain ⟨ns, p, m, l, hg, h1⟩ := h
  exact ⟨ns, p, m, l, by rw [e]; exact hg, h1⟩
theorem setG_ne {g : G} {a b : Addr} {c : Cell} (h : b ≠ a) : setG g a c b = g b := by
  unfold setG
  rw [if_neg h]
theorem erase_perm {α : Type} : ∀ (l : List α) (n : Nat) (h : n < l.length), (l[n] :: l.eraseIdx n).Perm l
  | [], n, h => absurd h (Nat.not_lt_zero _)
  | x :: l, 0, h => List.Perm.refl _
  | x :: l, n + 1, h => by
    have hn : n < l.length := by simpa using h
    have ih := erase_perm l n hn
    show (l[n] :: x :: l.eraseIdx n).Perm (x :: l)
    exact (List.Perm.swap x _ _).trans (List.Perm.cons x ih)
theorem erase_map {α β : Type} (f : α → β) : ∀ (l : List α) (n : Nat), (l.map f).eraseIdx n = (l.eraseIdx n).map f
  | [], n => rfl
  | x :: l, 0 => rfl
  | x :: l, n + 1 => by
    show f x :: (l.map f).eraseIdx n = f x :: (l.eraseIdx n).map f
    rw [erase_map f l n]
theorem t_law_order (xs : List D) (g : G) (Q : KU) (X : KX) (h : sp_law_order xs g Q X) : m_law_order (startU 4 xs) g (fnPost Q X) := by
  obtain ⟨d, m, rfl, hm, hd, hq⟩ := h
  refine ⟨⟨by omega, by omega⟩, fun a ha => ?_⟩
  have had : d ≠ a := fun e => by
    obtain ⟨ns, p, x, l, hg, _⟩ := hd
    rw [e, ha] at hg
    cases hg
  refine ⟨⟨by omega, by omega⟩, sizeL (by unfold rng; rw [List.length_map, List.length_range]; omega), ?_⟩
  rw [show ((m : Int)).toNat = m by omega]
  refine lcLoop_ind (fun ys acc g' => ∃ (i : Nat) (done rem : List Nat), ys = rng i (m - i) ∧ i ≤ m ∧ acc = (done.map fun (i : Nat) => D.int i) ∧ rem.length = m - i ∧ (done ++ rem).Perm (List.range m) ∧ Dice g' d ∧ g' a = some (.lst (rem.map fun (i : Nat) => D.int i))) ?_ ?_ _ _ _ ?_
  · rintro acc g' ⟨i, done, rem, e1, e2, rfl, e3, e4, e5, e6⟩
    have hi : i = m := by
      by_cases h : i < m
      · rw [show m - i = (m - i - 1) + 1 by omega, rng_eq] at e1; cases e1
      · omega
    have hr : rem = [] := List.length_eq_zero_iff.mp (by omega)
    rw [hr, List.append_nil] at e4
    exact sub1 (hq done g' e4 e5)
  · rintro y ys acc g' N ⟨i, done, rem, e1, e2, rfl, e3, e4, e5, e6⟩ ih
    obtain ⟨k1, k2, k3⟩ := rng_cons e1
    subst k1
    refine ⟨fun _ => ?_, fun q => absurd q (by decide)⟩
    have hlk : look g' (.ref a) = .lst (rem.map fun (i : Nat) => D.int i) := look_ref e6
    refine ⟨⟨_, e6⟩, ?_⟩
    simp [hlk]
    refine ⟨d, rem.length, rfl, by omega, by omega, e5, fun v g2 v0 v1 d2 fr => ?_⟩
    obtain ⟨n, rfl⟩ : ∃ n : Nat, v = (n : Int) := ⟨v.toNat, by omega⟩
    have hn : n < rem.length := by omega
    have e7 : g2 a = some (.lst (rem.map fun (i : Nat) => D.int i)) := by rw [fr a (fun e => had e.symm)]; exact e6
    refine ⟨_, e7, ⟨by omega, by omega⟩, n, ?_, .int (rem[n]'hn), ?_, ?_⟩
    · rw [List.length_map]
      unfold seqIndex?
      simp
      omega
    · rw [List.getElem?_map, List.getElem?_eq_getElem hn]
      rfl
    · refine ih _ _ ⟨i + 1, done ++ [rem[n]'hn], rem.eraseIdx n, by rw [k3]; congr 1, by omega, by simp, by rw [List.length_eraseIdx, if_pos hn]; omega, ?_, d2.fr (setG_ne had), ?_⟩
      · refine List.Perm.trans ?_ e4
        rw [List.append_assoc]
        refine List.Perm.append_left done ?_
        exact erase_perm rem n hn
      · rw [setG_at, erase_map]
  · refine ⟨0, [], List.range m, by simp, by omega, rfl, by simp, by simp, hd.fr (setG_ne had), ?_⟩
    rw [setG_at]
    congr 2
    unfold rng
    apply List.map_congr_left
    intro j _
    simp
open PySem L2 PyProof.Rows
theorem strip_60 (n : Int) (h : 0 < n) : ∀ k : Nat, strip (n * 60 ^ k) = strip n
  | 0 => by simp
  | k + 1 => by
    have e : n * 60 ^ (k + 1) = n * 60 ^ k * 60 := by rw [Int.pow_succ, Int.mul_assoc]
    have p : 0 < n * 60 ^ k := Int.mul_pos h (p60 k)
    rw [e, strip_eq _ ⟨by omega, by omega⟩, Int.mul_ediv_cancel _ (by omega)]
    exact strip_60 n h k
theorem strip_pow (m : Int) (h : 0 < m) : ∃ k : Nat, m = strip m * 60 ^ k := by
  refine down (p := 60) (P := fun m => ∃ k : Nat, m = strip m * 60 ^ k) (fun n h z => ⟨0, ?_⟩) (fun n h z d ih => ?_) (by omega) m h
  · rw [strip_0 n (fun q => z q.2)]; simp
  · obtain ⟨k, hk⟩ := ih
    refine ⟨k + 1, ?_⟩
    rw [strip_eq n ⟨h, z⟩, Int.pow_succ, ← Int.mul_assoc, ← hk]
    omega
/-- what is left of b goes into what holds b -/
theorem rest_in {t b : Int} {j : Nat} {c : Int} (hb : 0 < b) (ht : 0 < t) (h : c * b = t * 60 ^ j) : t % rest b = 0 := by
  have f := rest_fact hb
  have d : rest b ∣ b := ⟨2 ^ vp 2 b * 3 ^ vp 3 b * 5 ^ vp 5 b, by
    conv => lhs; rw [f.2.2.1]
    exact Int.mul_comm _ _⟩
  have d2 : rest b ∣ t * 60 ^ j := by rw [← h]; exact Int.dvd_mul_of_dvd_right d
  have cop : ∀ t : Int, rest b ∣ t * 60 → rest b ∣ t := by
    intro t h
    have g1 : Int.gcd (rest b) 60 = 1 := by
      have a1 : (Int.gcd (rest b) 60 : Int) ∣ rest b := Int.gcd_dvd_left ..
      have a2 : (Int.gcd (rest b) 60 : Int) ∣ 60 := Int.gcd_dvd_right ..
      have a3 : Int.gcd (rest b) 60 ∣ 60 := by exact_mod_cast a2
      have a4 := Nat.le_of_dvd (by omega) a3
      have all : ∀ g : Nat, g ≤ 60 → 60 % g = 0 → g = 1 ∨ g % 2 = 0 ∨ g % 3 = 0 ∨ g % 5 = 0 := by decide
      have no : ∀ q : Nat, Int.gcd (rest b) 60 % q = 0 → rest b % (q : Int) = 0 := by
        intro q hq
        have : (q : Int) ∣ (Int.gcd (rest b) 60 : Int) := by exact_mod_cast Nat.dvd_of_mod_eq_zero hq
        exact Int.emod_eq_zero_of_dvd (Int.dvd_trans this a1)
      rcases all _ a4 (Nat.mod_eq_zero_of_dvd a3) with e | e | e | e
      · exact e
      · exact absurd (no 2 e) f.2.2.2.1
      · exact absurd (no 3 e) f.2.2.2.2.1
      · exact absurd (no 5 e) f.2.2.2.2.2
    have h2 : (rest b).natAbs ∣ t.natAbs * 60 := by
      have := Int.natAbs_dvd_natAbs.mpr h
      rwa [Int.natAbs_mul] at this
    exact Int.natAbs_dvd_natAbs.mp (Nat.Coprime.dvd_of_dvd_mul_right (show Nat.Coprime (rest b).natAbs 60 from g1) h2)
  have all : ∀ (j : Nat) (t : Int), rest b ∣ t * 60 ^ j → rest b ∣ t := by
    intro j
    induction j with
    | zero => intro t h; simpa using h
    | succ j ih =>
      intro t h
      rw [Int.pow_succ, ← Int.mul_assoc] at h
      exact ih t (cop _ h)
  exact Int.emod_eq_zero_of_dvd (all j t d2)
theorem rowOf_strip_mul {m n : Int} (hm : 0 < m) (hn : 0 < n) : rowOf (strip m * n) = rowOf (m * n) := by
  obtain ⟨k, hk⟩ := strip_pow m hm
  have s := strip_pos m hm
  unfold rowOf
  have e : m * n = strip m * n * 60 ^ k := by
    conv => lhs; rw [hk]
    grind
  rw [e, strip_60 _ (Int.mul_pos s.1 hn)]
theorem whole_rowOf {m : Int} (h : 0 < m) : whole (rowOf m) = strip m := whole_digs _ (by have := strip_pos m h; omega)
theorem row_times {m : Int} (h : 0 < m) (hl : m < 60 ^ 12) : okRow (rowOf m) = true := okRow_rowOf m h (digs_len 12 _ (by have := strip_pos m h; omega))
/-- a part of a product is the other one -/
theorem part_back {r : List Int} {b m t : Int} {k : Nat} (hr : okRow r = true) (hb : 0 < b) (hm : 0 < m) (ht : ∃ j : Nat, whole r * b = t * 60 ^ j) (e : m * b = t * 60 ^ k) : rowOf m = r := by
  obtain ⟨j, hj⟩ := ht
  have wp := whole_pos r hr
  have e2 : m * 60 ^ j = whole r * 60 ^ k := by
    refine Int.eq_of_mul_eq_mul_right (show b ≠ 0 by omega) ?_
    calc m * 60 ^ j * b = m * b * 60 ^ j := by grind
      _ = t * 60 ^ k * 60 ^ j := by rw [e]
      _ = t * 60 ^ j * 60 ^ k := by grind
      _ = whole r * b * 60 ^ k := by rw [hj]
      _ = whole r * 60 ^ k * b := by grind
  have s1 := strip_60 m hm j
  have s2 := strip_60 (whole r) wp k
  rw [e2, s2] at s1
  have : rowOf m = rowOf (whole r) := by unfold rowOf; rw [s1]
  rw [this, rowOf_whole r hr]
theorem ne_no {x y : List Int} {P : Prop} (e : x = y) (h : (!eqD (R x) (R y)) = true) : P := by
  rw [eqD_R, decide_eq_true e] at h
  cases h
open PySem L2 PyProof.Rows

/-! ### all rows that can be turned -/
def ch (q M : Nat) : Nat → Nat → List Nat
  | 0, _ => []
  | f + 1, n => if n < M then n :: ch q M f (n * q) else []
def c5 (M k n : Nat) : List Nat := (ch 5 M k n).filter fun n => n % 60 ≠ 0
def c3 (M k n : Nat) : List Nat := (ch 3 M k n).flatMap (c5 M 11)
def c2 (M k n : Nat) : List Nat := (ch 2 M k n).flatMap (c3 M 16)
def rawN (p : Nat) : List Nat := c2 (60 ^ p) 24 1
def rowN (n : Nat) : List Int := rowOf n
def rawR (p : Nat) : List (List Int) := (rawN p).map rowN
def sp_turnables : SpU := fun xs g Q _ => ∃ p : Nat, xs = [.int p] ∧ 1 ≤ p ∧ p ≤ 4 ∧ ∀ rs : List (List Int), rs.Perm (rawR p) → rs.Pairwise (fun x y => ltL y x = false) → Q (.own (.lst (rs.map R))) g
/-- slots: places, found, most, turn, two, three, five -/
def m_turnables : MS := wSeq (wSetO 1 (wLst (wNil))) (wSeq (wSet 2 (wC (.int 1))) (wSeq (wFor (wR1 (wCons (wVar 0) (wNil))) (gN 3) (wSet 2 (wBin mulU (wVar 2) (wC (.int 60))))) (wSeq (wSet 4 (wC (.int 1))) (wSeq (wWhile (wT (wBin ltU (wVar 4) (wVar 2))) (wSeq (wSet 5 (wVar 4)) (wSeq (wWhile (wT (wBin ltU (wVar 5) (wVar 2))) (wSeq (wSet 6 (wVar 5)) (wSeq (wWhile (wT (wBin ltU (wVar 6) (wVar 2))) (wSeq (wIf (wT (wBin neU (wBin modU (wVar 6) (wC (.int 60))) (wC (.int 0)))) (wApp 1 (wCall sp_row_of (wCons (wVar 6) (wNil)))) (wNext)) (wSet 6 (wBin mulU (wVar 6) (wC (.int 5)))))) (wSet 5 (wBin mulU (wVar 5) (wC (.int 3))))))) (wSet 4 (wBin mulU (wVar 4) (wC (.int 2))))))) (wRet (wUn sortU (wVar 1)))))))
def m_tn2 : MS := wWhile (wT (wBin ltU (wVar 4) (wVar 2))) (wSeq (wSet 5 (wVar 4)) (wSeq (wWhile (wT (wBin ltU (wVar 5) (wVar 2))) (wSeq (wSet 6 (wVar 5)) (wSeq (wWhile (wT (wBin ltU (wVar 6) (wVar 2))) (wSeq (wIf (wT (wBin neU (wBin modU (wVar 6) (wC (.int 60))) (wC (.int 0)))) (wApp 1 (wCall sp_row_of (wCons (wVar 6) (wNil)))) (wNext)) (wSet 6 (wBin mulU (wVar 6) (wC (.int 5)))))) (wSet 5 (wBin mulU (wVar 5) (wC (.int 3))))))) (wSet 4 (wBin mulU (wVar 4) (wC (.int 2))))))
def m_tn3 : MS := wWhile (wT (wBin ltU (wVar 5) (wVar 2))) (wSeq (wSet 6 (wVar 5)) (wSeq (wWhile (wT (wBin ltU (wVar 6) (wVar 2))) (wSeq (wIf (wT (wBin neU (wBin modU (wVar 6) (wC (.int 60))) (wC (.int 0)))) (wApp 1 (wCall sp_row_of (wCons (wVar 6) (wNil)))) (wNext)) (wSet 6 (wBin mulU (wVar 6) (wC (.int 5)))))) (wSet 5 (wBin mulU (wVar 5) (wC (.int 3))))))
def m_tn5 : MS := wWhile (wT (wBin ltU (wVar 6) (wVar 2))) (wSeq (wIf (wT (wBin neU (wBin modU (wVar 6) (wC (.int 60))) (wC (.int 0)))) (wApp 1 (wCall sp_row_of (wCons (wVar 6) (wNil)))) (wNext)) (wSet 6 (wBin mulU (wVar 6) (wC (.int 5)))))
theorem next_go {ρ : Env} {g : G} {P : Post} (h : P.nx ρ g) : wNext ρ g P := h
theorem tne_t {x y : Int} (q : (!eqD (.int x) (.int y)) = true) : x ≠ y := fun e => by rw [eqD_int, decide_eq_true e] at q; cases q
theorem tne_f {x y : Int} (q : (!eqD (.int x) (.int y)) = false) : x = y := by
  rw [eqD_int, Bool.not_eq_false', decide_eq_true_eq] at q
  exact q
theorem ch_end {q M : Nat} : ∀ {k n : Nat}, M ≤ n → ch q M k n = []
  | 0, _, _ => rfl
  | k + 1, n, h => by
    unfold ch
    rw [if_neg (by omega)]
theorem ch_go {q M : Nat} {k n : Nat} (h : n < M) : ch q M (k + 1) n = n :: ch q M k (n * q) := by
  rw [ch, if_pos h]
theorem raw_len {p : Nat} (h0 : 1 ≤ p) (h4 : p ≤ 4) : (rawR p).length ≤ 900 := by
  unfold rawR
  rw [List.length_map]
  rcases (show p = 1 ∨ p = 2 ∨ p = 3 ∨ p = 4 by omega) with e | e | e | e <;> subst e <;> decide +kernel
section
variable {M : Nat} {g : G} {P : Post} {d0 : D} {w3 : Option U}
def slT (d0 : D) (l : List (List Int)) (M : Nat) (w3 w4 w5 w6 : Option U) : Env := [some (.d d0), some (.own (.lst (l.map R))), some (.d (.int (M : Int))), w3, w4, w5, w6]
theorem tn5 (M4 : M ≤ 60 ^ 4) {l : List (List Int)} {n : Nat} {w4 w5 : Option U} (n0 : 0 < n) (h : M ≤ n * 5 ^ 11) (small : l.length + (c5 M 11 n).length ≤ 900) (nx : ∀ w6, P.nx (slT d0 (l ++ (c5 M 11 n).map rowN) M w3 w4 w5 w6) g) :
    m_tn5 (slT d0 l M w3 w4 w5 (some (.d (.int (n : Int))))) g P := by
  refine wWhile_ind (fun k ρ g' => ∃ (j : Nat) (l' : List (List Int)), g' = g ∧ 0 < j ∧ M ≤ j * 5 ^ k ∧ l'.length + (c5 M k j).length ≤ 900 ∧ l' ++ (c5 M k j).map rowN = l ++ (c5 M 11 n).map rowN ∧ ρ = slT d0 l' M w3 w4 w5 (some (.d (.int (j : Int))))) (n := 11) ⟨n, l, rfl, n0, h, small, rfl, rfl⟩ ?_
  generalize l ++ (c5 M 11 n).map rowN = T at nx ⊢
  clear n0 h small
  rintro k ρ g3 N ⟨n, l', rfl, n0, hM, sm, et, rfl⟩ ih
  have ll : (l'.map R).length = l'.length := List.length_map ..
  refine ⟨fun e => ?_, fun e => ?_⟩
  · have e' : (n : Int) < (M : Int) := of_decide_eq_true e
    have lt : n < M := by omega
    cases k with
    | zero => rw [Nat.pow_zero, Nat.mul_one] at hM; omega
    | succ k =>
      have hM' : M ≤ n * 5 * 5 ^ k := by rw [Nat.mul_assoc, ← Nat.pow_succ']; exact hM
      have cg : c5 M (k + 1) n = if n % 60 ≠ 0 then n :: c5 M k (n * 5) else c5 M k (n * 5) := by
        unfold c5
        rw [ch_go lt]
        by_cases z : n % 60 ≠ 0
        · rw [List.filter_cons_of_pos (p := fun n => decide (n % 60 ≠ 0)) (decide_eq_true z), if_pos z]
        · rw [List.filter_cons_of_neg (p := fun n => decide (n % 60 ≠ 0)) (by simpa using z), if_neg z]
      have mw : CMulW (n : Int) 5 := mulW64 (by omega) (by omega) (by omega) (by omega)
      have e5 : ((n * 5 : Nat) : Int) = (n : Int) * 5 := by omega
      refine ⟨by omega, ⟨rfl, rfl⟩, fun e2 => ?_, fun e2 => next_go ?_⟩
      · have z : n % 60 ≠ 0 := by
          have := tne_t e2
          omega
        rw [cg, if_pos z] at sm et
        rw [List.length_cons] at sm
        refine ⟨trivial, (n : Int), rfl, by omega, big_of 4 (by omega) (by omega), by rw [ll]; show _ < 16777216; omega, mw, ?_⟩
        refine ih k _ _ (by omega) ⟨n * 5, l' ++ [rowN n], rfl, by omega, hM', by rw [List.length_append, List.length_singleton]; omega, ?_, ?_⟩
        · rw [List.map_cons] at et
          rw [← et, List.append_assoc]
          rfl
        · unfold slT
          rw [e5, List.map_append]
          rfl
      · have z : ¬ n % 60 ≠ 0 := by
          have := tne_f e2
          omega
        rw [cg, if_neg z] at sm et
        refine ⟨mw, ih k _ _ (by omega) ⟨n * 5, l', rfl, by omega, hM', sm, et, ?_⟩⟩
        unfold slT
        rw [e5]
        rfl
  · have e' : ¬ (n : Int) < (M : Int) := of_decide_eq_false e
    have c0 : c5 M k n = [] := by unfold c5; rw [ch_end (by omega)]; rfl
    rw [c0, List.map_nil, List.append_nil] at et
    rw [et]
    exact nx _
theorem c3_go {k n : Nat} (h : n < M) : c3 M (k + 1) n = c5 M 11 n ++ c3 M k (n * 3) := by
  unfold c3
  rw [ch_go h, List.flatMap_cons]
theorem c2_go {k n : Nat} (h : n < M) : c2 M (k + 1) n = c3 M 16 n ++ c2 M k (n * 2) := by
  unfold c2
  rw [ch_go h, List.flatMap_cons]
theorem tn3 (M4 : M ≤ 60 ^ 4) {l : List (List Int)} {n : Nat} {w4 w6 : Option U} (n0 : 0 < n) (small : l.length + (c3 M 16 n).length ≤ 900) (nx : ∀ w5 w6, P.nx (slT d0 (l ++ (c3 M 16 n).map rowN) M w3 w4 w5 w6) g) :
    m_tn3 (slT d0 l M w3 w4 (some (.d (.int (n : Int)))) w6) g P := by
  refine wWhile_ind (fun k ρ g' => ∃ (j : Nat) (l' : List (List Int)) (w6 : Option U), g' = g ∧ 0 < j ∧ M ≤ j * 3 ^ k ∧ l'.length + (c3 M k j).length ≤ 900 ∧ l' ++ (c3 M k j).map rowN = l ++ (c3 M 16 n).map rowN ∧ ρ = slT d0 l' M w3 w4 (some (.d (.int (j : Int)))) w6) (n := 16) ⟨n, l, w6, rfl, n0, by omega, small, rfl, rfl⟩ ?_
  generalize l ++ (c3 M 16 n).map rowN = T at nx ⊢
  clear n0 small
  rintro k ρ g3 N ⟨n, l', w6, rfl, n0, hM, sm, et, rfl⟩ ih
  refine ⟨fun e => ?_, fun e => ?_⟩
  · have e' : (n : Int) < (M : Int) := of_decide_eq_true e
    have lt : n < M := by omega
    cases k with
    | zero => rw [Nat.pow_zero, Nat.mul_one] at hM; omega
    | succ k =>
      have hM' : M ≤ n * 3 * 3 ^ k := by rw [Nat.mul_assoc, ← Nat.pow_succ']; exact hM
      have mw : CMulW (n : Int) 3 := mulW64 (by omega) (by omega) (by omega) (by omega)
      have e3 : ((n * 3 : Nat) : Int) = (n : Int) * 3 := by omega
      rw [c3_go lt] at sm et
      rw [List.length_append] at sm
      rw [List.map_append, ← List.append_assoc] at et
      refine tn5 M4 n0 (by omega) (by omega) fun w6 => ⟨mw, ?_⟩
      refine ih k _ _ (by omega) ⟨n * 3, l' ++ (c5 M 11 n).map rowN, w6, rfl, by omega, hM', by rw [List.length_append, List.length_map]; omega, et, ?_⟩
      unfold slT
      rw [e3]
      rfl
  · have e' : ¬ (n : Int) < (M : Int) := of_decide_eq_false e
    have c0 : c3 M k n = [] := by unfold c3; rw [ch_end (by omega)]; rfl
    rw [c0, List.map_nil, List.append_nil] at et
    rw [et]
    exact nx _ _
theorem tn2 (M4 : M ≤ 60 ^ 4) {w5 w6 : Option U} (small : (c2 M 24 1).length ≤ 900) (nx : ∀ w4 w5 w6, P.nx (slT d0 ((c2 M 24 1).map rowN) M w3 w4 w5 w6) g) :
    m_tn2 (slT d0 [] M w3 (some (.d (.int 1))) w5 w6) g P := by
  refine wWhile_ind (fun k ρ g' => ∃ (j : Nat) (l' : List (List Int)) (w5 w6 : Option U), g' = g ∧ 0 < j ∧ M ≤ j * 2 ^ k ∧ l'.length + (c2 M k j).length ≤ 900 ∧ l' ++ (c2 M k j).map rowN = (c2 M 24 1).map rowN ∧ ρ = slT d0 l' M w3 (some (.d (.int (j : Int)))) w5 w6) (n := 24) ⟨1, [], w5, w6, rfl, by omega, by omega, by simpa using small, rfl, rfl⟩ ?_
  generalize (c2 M 24 1).map rowN = T at nx ⊢
  clear small
  rintro k ρ g3 N ⟨n, l', w5, w6, rfl, n0, hM, sm, et, rfl⟩ ih
  refine ⟨fun e => ?_, fun e => ?_⟩
  · have e' : (n : Int) < (M : Int) := of_decide_eq_true e
    have lt : n < M := by omega
    cases k with
    | zero => rw [Nat.pow_zero, Nat.mul_one] at hM; omega
    | succ k =>
      have hM' : M ≤ n * 2 * 2 ^ k := by rw [Nat.mul_assoc, ← Nat.pow_succ']; exact hM
      have mw : CMulW (n : Int) 2 := mulW64 (by omega) (by omega) (by omega) (by omega)
      have e3 : ((n * 2 : Nat) : Int) = (n : Int) * 2 := by omega
      rw [c2_go lt] at sm et
      rw [List.length_append] at sm
      rw [List.map_append, ← List.append_assoc] at et
      refine tn3 M4 n0 (by omega) fun w5 w6 => ⟨mw, ?_⟩
      refine ih k _ _ (by omega) ⟨n * 2, l' ++ (c3 M 16 n).map rowN, w5, w6, rfl, by omega, hM', by rw [List.length_append, List.length_map]; omega, et, ?_⟩
      unfold slT
      rw [e3]
      rfl
  · have e' : ¬ (n : Int) < (M : Int) := of_decide_eq_false e
    have c0 : c2 M k n = [] := by unfold c2; rw [ch_end (by omega)]; rfl
    rw [c0, List.map_nil, List.append_nil] at et
    rw [et]
    exact nx _ _ _
end
theorem raw_ne {p : Nat} : ∀ r ∈ rawR p, r ≠ [] := fun r hr => by
  obtain ⟨n, hn, rfl⟩ := List.mem_map.mp hr
  have : ∃ k, n % 60 ≠ 0 ∧ k = n := by
    unfold rawN c2 c3 c5 at hn
    obtain ⟨a, _, hn⟩ := List.mem_flatMap.mp hn
    obtain ⟨b, _, hn⟩ := List.mem_flatMap.mp hn
    exact ⟨n, by simpa using (List.mem_filter.mp hn).2, rfl⟩
  obtain ⟨_, h, _⟩ := this
  obtain ⟨r, f, e, _⟩ := rowOf_last (n : Int) (by omega)
  show rowOf (n : Int) ≠ []
  rw [e]
  simp
theorem t_turnables (xs : List D) (g : G) (Q : KU) (X : KX) (h : sp_turnables xs g Q X) : m_turnables (startU 7 xs) g (fnPost Q X) := by
  obtain ⟨p, rfl, p1, p4, hq⟩ := h
  refine ⟨sizeL (by simp), ⟨by omega, by omega⟩, ?_⟩
  show forLoop _ _ (rng 0 ((p : Int)).toNat) _ _ _
  refine for_rng (n := ((p : Int)).toNat) (fun i ρ g' => g' = g ∧ ∃ w3 : Option U, ρ = slT (.int p) [] (60 ^ i) w3 none none none) ⟨rfl, none, rfl⟩ ?_ ?_
  · rintro ρ g' ⟨rfl, w3, rfl⟩
    have e : ((p : Int)).toNat = p := by omega
    rw [e]
    have M4 : 60 ^ p ≤ 60 ^ 4 := Nat.pow_le_pow_right (by omega) p4
    have len := raw_len p1 p4
    unfold rawR at len
    rw [List.length_map] at len
    refine tn2 M4 len fun w4 w5 w6 => .inl ⟨rawR p, rfl, raw_ne, fun rs pm pw => sub1 (hq rs pm pw)⟩
  · rintro i ρ g' N hi ⟨rfl, w3, rfl⟩ ih
    have M4 : 60 ^ i ≤ 60 ^ 4 := Nat.pow_le_pow_right (by omega) (by omega)
    have e : (((60 ^ (i + 1) : Nat)) : Int) = ((60 ^ i : Nat) : Int) * 60 := by rw [Nat.pow_succ]; omega
    have mw : CMulW ((60 ^ i : Nat) : Int) 60 := by
      clear e ih
      generalize 60 ^ i = M at M4 ⊢
      exact mulW64 (by omega) (by omega) (by omega) (by omega)
    refine ⟨mw, ih _ _ ⟨rfl, some (.d (.int (i : Int))), ?_⟩⟩
    unfold slT
    rw [e]
    rfl
open PySem L2 PyProof.Rows

/-! ### which rows can be turned -/
theorem ltL_tri : ∀ x y : List Int, ltL x y = false → ltL y x = false → x = y
  | [], [], _, _ => rfl
  | [], _ :: _, h, _ => by cases h
  | _ :: _, [], _, h => by cases h
  | x :: xs, y :: ys, h1, h2 => by
    unfold ltL at h1 h2
    by_cases e : x = y
    · rw [if_pos e] at h1
      rw [if_pos e.symm] at h2
      rw [e, ltL_tri xs ys h1 h2]
    · rw [if_neg e] at h1
      rw [if_neg fun z => e z.symm] at h2
      simp at h1 h2
      omega
theorem sorted_same {xs ys : List (List Int)} (p : xs.Perm ys) (h1 : xs.Pairwise fun x y => ltL y x = false) (h2 : ys.Pairwise fun x y => ltL y x = false) : xs = ys :=
  List.Perm.eq_of_pairwise (le := fun x y => ltL y x = false) (fun a b _ _ h1 h2 => ltL_tri a b h2 h1) h1 h2 p
theorem rest_2 {n : Int} (h : 0 < n) : rest (2 * n) = rest n := by
  unfold rest
  rw [rp_eq (p := 2) (n := 2 * n) ⟨by omega, by omega, by omega⟩, show 2 * n / 2 = n by omega]
theorem rest_3 {n : Int} (h : 0 < n) : rest (3 * n) = rest n := by
  have f := (rp_fact (p := 2) (by omega) n h).1
  unfold rest
  rw [(vp_apart (p := 2) (q := 3) (by omega) (by omega) ap32 n h).2, rp_eq (p := 3) (n := 3 * rp 2 n) ⟨by omega, by omega, by omega⟩, show 3 * rp 2 n / 3 = rp 2 n by omega]
theorem rest_5 {n : Int} (h : 0 < n) : rest (5 * n) = rest n := by
  have f := (rp_fact (p := 2) (by omega) n h).1
  have f3 := (rp_fact (p := 3) (by omega) _ f).1
  unfold rest
  rw [(vp_apart (p := 2) (q := 5) (by omega) (by omega) ap52 n h).2, (vp_apart (p := 3) (q := 5) (by omega) (by omega) ap53 _ f).2, rp_eq (p := 5) (n := 5 * rp 3 (rp 2 n)) ⟨by omega, by omega, by omega⟩, show 5 * rp 3 (rp 2 n) / 5 = rp 3 (rp 2 n) by omega]
theorem rest_one : rest 1 = 1 := by
  unfold rest
  rw [rp_0 (p := 2) (n := 1) (by omega), rp_0 (p := 3) (n := 1) (by omega), rp_0 (p := 5) (n := 1) (by omega)]
theorem pw_pos {q : Int} (h : 0 < q) (k : Nat) : 0 < q ^ k := Int.pow_pos h
theorem Smooth.pos {v : Int} (h : Smooth v) : 0 < v := by
  obtain ⟨a, b, c, rfl⟩ := h
  exact Int.mul_pos (Int.mul_pos (pw_pos (by omega) a) (pw_pos (by omega) b)) (pw_pos (by omega) c)
theorem Smooth.rest {v : Int} (h : Smooth v) : rest v = 1 := by
  obtain ⟨a, b, c, rfl⟩ := h
  induction a with
  | succ a ih =>
    have p : 0 < (2 : Int) ^ a * 3 ^ b * 5 ^ c := Int.mul_pos (Int.mul_pos (pw_pos (by omega) a) (pw_pos (by omega) b)) (pw_pos (by omega) c)
    rw [show (2 : Int) ^ (a + 1) * 3 ^ b * 5 ^ c = 2 * (2 ^ a * 3 ^ b * 5 ^ c) by rw [Int.pow_succ]; grind, rest_2 p]
    exact ih
  | zero =>
    induction b with
    | succ b ih =>
      have p : 0 < (2 : Int) ^ 0 * 3 ^ b * 5 ^ c := Int.mul_pos (Int.mul_pos (pw_pos (by omega) 0) (pw_pos (by omega) b)) (pw_pos (by omega) c)
      rw [show (2 : Int) ^ 0 * 3 ^ (b + 1) * 5 ^ c = 3 * (2 ^ 0 * 3 ^ b * 5 ^ c) by rw [Int.pow_succ]; grind, rest_3 p]
      exact ih
    | zero =>
      induction c with
      | succ c ih =>
        have p : 0 < (2 : Int) ^ 0 * 3 ^ 0 * 5 ^ c := Int.mul_pos (Int.mul_pos (pw_pos (by omega) 0) (pw_pos (by omega) 0)) (pw_pos (by omega) c)
        rw [show (2 : Int) ^ 0 * 3 ^ 0 * 5 ^ (c + 1) = 5 * (2 ^ 0 * 3 ^ 0 * 5 ^ c) by rw [Int.pow_succ]; grind, rest_5 p]
        exact ih
      | zero => exact rest_one
theorem smooth_of {v : Int} (h : 0 < v) (r : rest v = 1) : Smooth v := by
  have f := (rest_fact h).2.2.1
  rw [r, Int.mul_one] at f
  exact ⟨_, _, _, f⟩
theorem ch_mem {q M x : Nat} : ∀ {k n : Nat}, x ∈ ch q M k n → ∃ i, x = n * q ^ i ∧ x < M
  | 0, n, h => by cases h
  | k + 1, n, h => by
    unfold ch at h
    split at h
    · rename_i lt
      rcases List.mem_cons.mp h with e | h
      · exact ⟨0, by rw [Nat.pow_zero, Nat.mul_one]; exact e, by omega⟩
      · obtain ⟨i, e, l⟩ := ch_mem h
        exact ⟨i + 1, by rw [e, Nat.mul_assoc, ← Nat.pow_succ'], l⟩
    · cases h
theorem ch_in {q M : Nat} (hq : 1 ≤ q) : ∀ {i k n : Nat}, i < k → n * q ^ i < M → n * q ^ i ∈ ch q M k n
  | i, 0, n, h, _ => absurd h (Nat.not_lt_zero _)
  | 0, k + 1, n, _, l => by
    rw [Nat.pow_zero, Nat.mul_one] at l ⊢
    rw [ch_go l]
    exact List.mem_cons_self
  | i + 1, k + 1, n, h, l => by
    have e : n * q ^ (i + 1) = n * q * q ^ i := by rw [Nat.pow_succ', Nat.mul_assoc]
    have l0 : n < M := by
      have : n * 1 ≤ n * q ^ (i + 1) := Nat.mul_le_mul_left n (Nat.one_le_pow _ _ hq)
      omega
    rw [ch_go l0, e]
    exact List.mem_cons_of_mem _ (ch_in hq (by omega) (by rw [← e]; exact l))
theorem raw_mem {p n : Nat} (h : n ∈ rawN p) : n < 60 ^ p ∧ n % 60 ≠ 0 ∧ Smooth (n : Int) := by
  unfold rawN c2 c3 c5 at h
  obtain ⟨x, hx, h⟩ := List.mem_flatMap.mp h
  obtain ⟨y, hy, h⟩ := List.mem_flatMap.mp h
  obtain ⟨h, z⟩ := List.mem_filter.mp h
  obtain ⟨a, rfl, _⟩ := ch_mem hx
  obtain ⟨b, rfl, _⟩ := ch_mem hy
  obtain ⟨c, rfl, l⟩ := ch_mem h
  exact ⟨l, by simpa using z, a, b, c, by push_cast; rw [Int.one_mul]⟩
theorem raw_in {p n : Nat} (p4 : p ≤ 4) (l : n < 60 ^ p) (z : n % 60 ≠ 0) (s : Smooth (n : Int)) : n ∈ rawN p := by
  obtain ⟨a, b, c, e⟩ := s
  have e' : n = 1 * 2 ^ a * 3 ^ b * 5 ^ c := by
    have : (n : Int) = ((1 * 2 ^ a * 3 ^ b * 5 ^ c : Nat) : Int) := by push_cast; rw [Int.one_mul]; exact e
    exact_mod_cast this
  have M4 : 60 ^ p ≤ 60 ^ 4 := Nat.pow_le_pow_right (by omega) p4
  have la : 1 * 2 ^ a < 60 ^ p := by
    have : 1 * 2 ^ a ≤ n := by
      rw [e', Nat.mul_assoc (1 * 2 ^ a)]
      exact Nat.le_mul_of_pos_right _ (Nat.mul_pos (Nat.pow_pos (by omega)) (Nat.pow_pos (by omega)))
    omega
  have lb : 1 * 2 ^ a * 3 ^ b < 60 ^ p := by
    have : 1 * 2 ^ a * 3 ^ b ≤ n := by
      rw [e']
      exact Nat.le_mul_of_pos_right _ (Nat.pow_pos (by omega))
    omega
  have up : ∀ {q k j : Nat}, q ^ j < 60 ^ p → 60 ^ 4 ≤ q ^ k → 1 ≤ q → j < k := fun {q k j} h1 h2 h3 => by
    rcases Nat.lt_or_ge j k with z | z
    · exact z
    · have := Nat.pow_le_pow_right h3 z
      omega
  have a24 : a < 24 := up (q := 2) (by omega) (by decide) (by omega)
  have b16 : b < 16 := up (q := 3) (by
    have : 3 ^ b ≤ 1 * 2 ^ a * 3 ^ b := Nat.le_mul_of_pos_left _ (by rw [Nat.one_mul]; exact Nat.pow_pos (by omega))
    omega) (by decide) (by omega)
  have c11 : c < 11 := up (q := 5) (by
    have : 5 ^ c ≤ n := by
      rw [e']
      exact Nat.le_mul_of_pos_left _ (Nat.mul_pos (by rw [Nat.one_mul]; exact Nat.pow_pos (by omega)) (Nat.pow_pos (by omega)))
    omega) (by decide) (by omega)
  unfold rawN c2 c3 c5
  refine List.mem_flatMap.mpr ⟨1 * 2 ^ a, ch_in (by omega) a24 la, List.mem_flatMap.mpr ⟨1 * 2 ^ a * 3 ^ b, ch_in (by omega) b16 lb, List.mem_filter.mpr ⟨?_, by simpa using z⟩⟩⟩
  rw [e']
  exact ch_in (by omega) c11 (by rw [← e']; exact l)
theorem rowR_iff {p : Nat} (p4 : p ≤ 4) (r : List Int) : r ∈ rawR p ↔ okRow r = true ∧ rest (whole r) = 1 ∧ r.length ≤ p := by
  constructor
  · intro h
    obtain ⟨n, hn, rfl⟩ := List.mem_map.mp h
    obtain ⟨l, z, s⟩ := raw_mem hn
    have n0 : (0 : Int) < n := by omega
    have st : strip (n : Int) = n := strip_0 _ (by omega)
    have lp : (n : Int) < 60 ^ p := by exact_mod_cast l
    have len : (rowOf (n : Int)).length ≤ p := digs_len p _ (by rw [st]; exact lp)
    refine ⟨okRow_rowOf _ n0 (by omega), ?_, len⟩
    show rest (whole (rowOf (n : Int))) = 1
    rw [whole_rowOf n0, st]
    exact s.rest
  · rintro ⟨ok, rt, len⟩
    have w0 := whole_pos r ok
    have o := (okRow_iff r).mp ok
    have wl : whole r < 60 ^ p := Int.lt_of_lt_of_le (whole_lt r o.2.2.2.2).2 (p60_le len)
    have e : ((whole r).toNat : Int) = whole r := by omega
    refine List.mem_map.mpr ⟨(whole r).toNat, raw_in p4 (by have : (((whole r).toNat : Nat) : Int) < ((60 ^ p : Nat) : Int) := by rw [e]; exact_mod_cast wl
                                                            exact_mod_cast this) ?_ (by rw [e]; exact smooth_of w0 rt), ?_⟩
    · obtain ⟨r', f, er⟩ : ∃ r' f, r = r' ++ [f] := by
        rcases List.eq_nil_or_concat r with q | ⟨r', f, q⟩
        · rw [q] at o; simp at o
        · exact ⟨r', f, by rw [q, List.concat_eq_append]⟩
      have f0 : f ≠ 0 := fun z => by
        have := o.2.2.2.1
        rw [er, z] at this
        simp at this
      have := whole_last r' f (by rw [← er]; exact o.2.2.2.2)
      rw [← er] at this
      omega
    · show rowOf (((whole r).toNat : Nat) : Int) = r
      rw [e]
      exact rowOf_whole r ok
open PySem L2 PyProof.Rows

/-! ### their hashes are unlike -/
def rowF : Nat → Nat → List Int
  | 0, _ => []
  | f + 1, n => if n = 0 then [] else rowF f (n / 60) ++ [((n % 60 : Nat) : Int)]
theorem rowF_eq : ∀ {f n : Nat}, n < 60 ^ f → digs (n : Int) = rowF f n
  | 0, n, h => by
    have : n = 0 := by rw [Nat.pow_zero] at h; omega
    subst this
    exact digs_0 _ (by omega)
  | f + 1, n, h => by
    unfold rowF
    by_cases z : n = 0
    · subst z
      rw [if_pos rfl]
      exact digs_0 _ (by omega)
    · rw [if_neg z, digs_eq _ (by omega), show (n : Int) / 60 = ((n / 60 : Nat) : Int) by omega, rowF_eq (f := f) (n := n / 60) (by rw [Nat.pow_succ] at h; omega), show (n : Int) % 60 = ((n % 60 : Nat) : Int) by omega]
theorem raw_hash : ((rawN 1).map fun n => th (rowF 4 n)).Nodup ∧ ((rawN 2).map fun n => th (rowF 4 n)).Nodup := by decide +kernel
theorem raw_hash3 : ((rawN 3).map fun n => th (rowF 4 n)).Nodup := by decide +kernel
theorem raw_hash4 : ((rawN 4).map fun n => th (rowF 4 n)).Nodup := by decide +kernel
theorem raw_un {p : Nat} (p1 : 1 ≤ p) (p4 : p ≤ 4) : ((rawR p).map th).Nodup := by
  have e : (rawR p).map th = (rawN p).map fun n => th (rowF 4 n) := by
    unfold rawR
    rw [List.map_map]
    refine List.map_congr_left fun n hn => ?_
    obtain ⟨l, z, _⟩ := raw_mem hn
    have M4 : 60 ^ p ≤ 60 ^ 4 := Nat.pow_le_pow_right (by omega) p4
    show th (rowOf (n : Int)) = _
    unfold rowOf
    rw [strip_0 _ (by omega), rowF_eq (f := 4) (by omega)]
  rw [e]
  rcases (show p = 1 ∨ p = 2 ∨ p = 3 ∨ p = 4 by omega) with e | e | e | e <;> subst e
  · exact raw_hash.1
  · exact raw_hash.2
  · exact raw_hash3
  · exact raw_hash4
theorem okL_rows (rs : List (List Int)) : okD (.lst (rs.map R)) = true := okD_okN (n := 2) (by omega) (okN_lst fun x hx => by
  obtain ⟨r, _, rfl⟩ := List.mem_map.mp hx
  exact okN_R r)
theorem rows_any (rs : List (List Int)) (r : List Int) : ((rs.map R).any fun z => eqD z (R r)) = decide (r ∈ rs) := by
  induction rs with
  | nil => rfl
  | cons x rs ih =>
    rw [List.map_cons, List.any_cons, ih, eqD_R]
    by_cases e : x = r
    · subst e
      simp
    · rw [decide_eq_false e, Bool.false_or, decide_eq_decide, List.mem_cons]
      exact ⟨fun h => .inr h, fun h => h.elim (fun z => absurd z.symm e) id⟩
theorem eqD_rows (xs ys : List (List Int)) : eqD (.lst (xs.map R)) (.lst (ys.map R)) = decide (xs = ys) := by
  rw [Bool.eq_iff_iff]
  have := eqvAll_map R (fun a b => by
    have := eqD_R a b
    rw [Bool.eq_iff_iff, decide_eq_true_eq] at this
    exact this) xs ys
  simpa [eqD, toPy, PyData.eqv] using this
open PySem L2 PyProof.Rows

/-! ### turned rows -/
def sp_turned : SpU := fun xs g Q X => ∃ s : List Int, xs = [R s] ∧ (okRow s = true → (rest (whole s) = 1 → ∀ (m : Int) (k : Nat), 0 < m → m * whole s = 60 ^ k → Q (.d (R (rowOf m))) g) ∧ (rest (whole s) ≠ 1 → X (NT (rest (whole s))) g)) ∧ (okRow s = false → X BR g)
theorem rest_60 {n : Int} (h : 0 < n) : ∀ j : Nat, rest (n * 60 ^ j) = rest n
  | 0 => by rw [Int.pow_zero, Int.mul_one]
  | j + 1 => by
    have p := Int.mul_pos h (p60 j)
    rw [show n * 60 ^ (j + 1) = 2 * (2 * (3 * (5 * (n * 60 ^ j)))) by rw [Int.pow_succ]; grind, rest_2 (by omega), rest_2 (by omega), rest_3 (by omega), rest_5 p]
    exact rest_60 h j
theorem rest_strip {n : Int} (h : 0 < n) : rest (strip n) = rest n := by
  obtain ⟨j, e⟩ := strip_pow n h
  have s := strip_pos n h
  conv => rhs; rw [e]
  exact (rest_60 s.1 j).symm
theorem same_row {t b m m0 : Int} {k K : Nat} (hb : 0 < b) (hm : 0 < m) (hm0 : 0 < m0) (e : m * b = t * 60 ^ k) (e0 : m0 * b = t * 60 ^ K) : rowOf m = rowOf m0 := by
  have : m * 60 ^ K = m0 * 60 ^ k := by
    refine Int.eq_of_mul_eq_mul_right (show b ≠ 0 by omega) ?_
    calc m * 60 ^ K * b = m * b * 60 ^ K := by grind
      _ = t * 60 ^ k * 60 ^ K := by rw [e]
      _ = t * 60 ^ K * 60 ^ k := by grind
      _ = m0 * b * 60 ^ k := by rw [e0]
      _ = m0 * 60 ^ k * b := by grind
  have s1 := strip_60 m hm K
  have s2 := strip_60 m0 hm0 k
  rw [this, s2] at s1
  unfold rowOf
  rw [s1]
theorem row_one (K : Nat) : rowOf (60 ^ K) = [1] := by
  have := strip_60 1 (by omega) K
  rw [Int.one_mul] at this
  unfold rowOf
  rw [this, strip_0 1 (by omega), digs_eq 1 (by omega), digs_0 _ (by omega)]
  rfl
/-- a number that some number makes a power of sixty: so does it without noughts -/
theorem inv_strip {m a : Int} {k : Nat} (hm : 0 < m) (ha : 0 < a) (e : m * a = 60 ^ k) : ∃ K : Nat, strip m * a = 60 ^ K ∧ K ≤ k ∧ rest (strip m) = 1 := by
  obtain ⟨j, ej⟩ := strip_pow m hm
  have s := strip_pos m hm
  have sa : 0 < strip m * a := Int.mul_pos s.1 ha
  have e1 : strip m * a * 60 ^ j = 60 ^ k := by
    rw [← e]
    conv => rhs; rw [ej]
    grind
  have jk : j ≤ k := by
    rcases Nat.lt_or_ge k j with z | z
    · exfalso
      have h1 : (60 : Int) ^ k * 60 ≤ 60 ^ j := by rw [← Int.pow_succ]; exact p60_le z
      have h2 : (60 : Int) ^ j * 1 ≤ 60 ^ j * (strip m * a) := Int.mul_le_mul_of_nonneg_left sa (Int.le_of_lt (p60 j))
      have h3 := p60 k
      rw [Int.mul_comm _ (strip m * a), e1] at h2
      omega
    · exact z
  refine ⟨k - j, ?_, by omega, ?_⟩
  · refine Int.eq_of_mul_eq_mul_right (show (60 : Int) ^ j ≠ 0 by have := p60 j; omega) ?_
    rw [e1, ← Int.pow_add]
    congr 1
    omega
  · have h := rest_in (t := 1) (b := strip m) (c := a) (j := k - j) s.1 (by omega) (by
      rw [Int.one_mul, Int.mul_comm]
      refine Int.eq_of_mul_eq_mul_right (show (60 : Int) ^ j ≠ 0 by have := p60 j; omega) ?_
      rw [e1, ← Int.pow_add]
      congr 1
      omega)
    have f := (rest_fact s.1).1
    rcases (show rest (strip m) = 1 ∨ 1 < rest (strip m) by omega) with z | z
    · exact z
    · rw [Int.emod_eq_of_lt (by omega) z] at h
      omega
/-- m is such a number of a -/
theorem inv_there {a : Int} (ha : 0 < a) (h72 : a < 2 ^ 72) (r : rest a = 1) : ∃ (m : Int) (k : Nat), 0 < m ∧ m * a = 60 ^ k := by
  obtain ⟨K, _, e⟩ := turns (t := 1) ha h72 (by rw [r]; rfl)
  rw [Int.one_mul] at e
  have em : 60 ^ K / a * a = 60 ^ K := Int.ediv_mul_cancel_of_emod_eq_zero e
  have p := p60 K
  refine ⟨60 ^ K / a, K, ?_, em⟩
  rcases Int.lt_or_le 0 (60 ^ K / a) with z | z
  · exact z
  · have := Int.mul_le_mul_of_nonneg_right z (Int.le_of_lt ha)
    omega
theorem whole_1 : whole [1] = 1 := rfl
theorem gcd_1 (n : Int) : (Int.gcd n 1 : Int) = 1 := by simp
/-- slots: row -/
def m_turned : MS := wRet (wCall sp_part (wCons (wTup (wCons (wC (.int 1)) (wNil))) (wCons (wVar 0) (wNil))))
theorem t_turned (xs : List D) (g : G) (Q : KU) (X : KX) (h : sp_turned xs g Q X) : m_turned (startU 1 xs) g (fnPost Q X) := by
  obtain ⟨s, rfl, h1, h2⟩ := h
  refine ⟨sizeL (by simp), [1], s, rfl, fun _ hs => ?_, fun z => ?_⟩
  · obtain ⟨a1, a2⟩ := h1 hs
    have w := whole_pos s hs
    have f := (rest_fact w).1
    rw [whole_1]
    refine ⟨fun e m k m0 em => sub1 (a1 ?_ m k m0 (by rw [Int.one_mul] at em; exact em)), fun e => ?_⟩
    · rcases (show rest (whole s) = 1 ∨ 1 < rest (whole s) by omega) with z | z
      · exact z
      · rw [Int.emod_eq_of_lt (by omega) z] at e
        omega
    · rw [gcd_1, Int.ediv_one]
      exact sub1 (a2 (fun z => e (by rw [z]; rfl)))
  · exact sub1 (h2 (z.elim (fun z => ff ok1 z) id))
open PySem L2 PyProof.Rows

/-! ### counts by the law's own trying -/
def i5 (M a b : Nat) : Nat → Nat
  | 0 => 0
  | c + 1 => i5 M a b c + if 2 ^ a * 3 ^ b * 5 ^ c < M ∧ (a < 2 ∨ b < 1 ∨ c < 1) then 1 else 0
def i3 (M a : Nat) : Nat → Nat
  | 0 => 0
  | b + 1 => i3 M a b + i5 M a b 11
def i2 (M : Nat) : Nat → Nat
  | 0 => 0
  | a + 1 => i2 M a + i3 M a 16
def sp_law_count : SpU := fun xs g Q _ => ∃ p : Nat, xs = [.int p] ∧ 1 ≤ p ∧ p ≤ 4 ∧ Q (.d (.int ((i2 (60 ^ p) 24 : Nat) : Int))) g
def sp_law_power : SpU := fun xs g Q _ => ∃ q k : Nat, xs = [.int q, .int k] ∧ 2 ≤ q ∧ q ≤ 5 ∧ k ≤ 24 ∧ Q (.d (.int ((q ^ k : Nat) : Int))) g
def sp_law_refused : SpU := fun xs g Q _ => ∃ r : List Int, xs = [R r] ∧ okRow r = true ∧ rest (whole r) ≠ 1 ∧ Q (.d (.bl true)) g
abbrev R_is : List Str := ["BadRow", "NotTurned"]
/-- slots: _law_row_here, _law_e -/
def m_law_refused : MS := wSeq (wTry (wDrop (wCall sp_turned (wCons (wVar 0) (wNil)))) [⟨[("BadRow", true), ("NotTurned", true)], some 1, fun a dd x => wRet (wAnd (wIs R_is 1 a dd x "turned") (wCall sp_law_like (wCons (wXf a dd x ["NotTurned"] "left" (wVar 1)) (wCons (wCall sp_law_left (wCons (wCall sp_law_whole_of (wCons (wVar 0) (wNil))) (wNil))) (wNil)))))⟩]) (wRet (wC (.bl false)))
/-- slots: _law_places, _law_most, _law_k, _law_found, _law_twos, _law_threes, _law_fives, _law_number -/
def m_law_count : MS := wSeq (wSet 1 (wC (.int 1))) (wSeq (wFor (wR1 (wCons (wVar 0) (wNil))) (gN 2) (wSet 1 (wBin mulU (wVar 1) (wC (.int 60))))) (wSeq (wSet 3 (wC (.int 0))) (wSeq (wFor (wR1 (wCons (wC (.int 24)) (wNil))) (gN 4) (wFor (wR1 (wCons (wC (.int 16)) (wNil))) (gN 5) (wFor (wR1 (wCons (wC (.int 11)) (wNil))) (gN 6) (wSeq (wSet 7 (wBin mulU (wBin mulU (wCall sp_law_power (wCons (wC (.int 2)) (wCons (wVar 4) (wNil)))) (wCall sp_law_power (wCons (wC (.int 3)) (wCons (wVar 5) (wNil))))) (wCall sp_law_power (wCons (wC (.int 5)) (wCons (wVar 6) (wNil)))))) (wSet 3 (wBin addU (wVar 3) (wUn intcU (wAnd (wBin ltU (wVar 7) (wVar 1)) (wOr (wBin ltU (wVar 4) (wC (.int 2))) (wOr (wBin ltU (wVar 5) (wC (.int 1))) (wBin ltU (wVar 6) (wC (.int 1))))))))))))) (wRet (wVar 3)))))
/-- slots: _law_one, _law_many_here, _law_found, _law_k -/
def m_law_power : MS := wSeq (wSet 2 (wC (.int 1))) (wSeq (wFor (wR1 (wCons (wVar 1) (wNil))) (gN 3) (wSet 2 (wBin mulU (wVar 2) (wVar 0)))) (wRet (wVar 2)))
/-- slots: _law_script, _law_d, _law_places, _law_every, _law_turn, _law_row_here, _law_found -/
def m_law : MS := wSeq (wSetO 1 (wCall sp_law_dice (wCons (wVar 0) (wNil)))) (wShare 1 (wSeq (wSet 2 (wBin ixU (wLst (wCons (wBin addU (wC (.int 1)) (wCall sp_law_next (wCons (wVar 1) (wCons (wC (.int 3)) (wNil))))) (wCons (wC (.int 4)) (wNil)))) (wUn intcU (wBin eqU (wCall sp_law_next (wCons (wVar 1) (wCons (wC (.int 4)) (wNil)))) (wC (.int 3)))))) (wSeq (wSetO 3 (wCall sp_turnables (wCons (wVar 2) (wNil)))) (wSeq (wIf (wtOr (wT (wBin neU (wVar 3) (wUn ssetU (wVar 3)))) (wT (wBin neU (wLcB 3 (gN 5) (wT (wBin gtU (wCall sp_law_left (wCons (wCall sp_law_whole_of (wCons (wVar 5) (wNil))) (wNil))) (wC (.int 1)))) (wVar 5) [5]) (wLst (wNil))))) (wRet (wC (.bl false))) (wNext)) (wSeq (wIf (wT (wBin neU (wLcB 3 (gN 5) (wtOr (wtNot (wT (wChain leU leU (wC (.int 1)) (wUn lenU (wVar 5)) (wVar 2)))) (wtOr (wT (wBin eqU (wBin ixU (wVar 5) (wUn negU (wC (.int 1)))) (wC (.int 0)))) (wT (wBin eqU (wBin ixU (wVar 5) (wC (.int 0))) (wC (.int 0)))))) (wVar 5) [5]) (wLst (wNil)))) (wRet (wC (.bl false))) (wNext)) (wSeq (wIf (wT (wBin neU (wUn lenU (wVar 3)) (wCall sp_law_count (wCons (wVar 2) (wNil))))) (wRet (wC (.bl false))) (wNext)) (wSeq (wFor (wR1 (wCons (wC (.int 6)) (wNil))) (gN 4) (wSeq (wSet 5 (wCall sp_law_drawn (wCons (wVar 1) (wCons (wC (.int 4)) (wNil))))) (wIf (wT (wBin gtU (wCall sp_law_left (wCons (wCall sp_law_whole_of (wCons (wVar 5) (wNil))) (wNil))) (wC (.int 1)))) (wIf (wtOr (wT (wBin (inU false) (wVar 5) (wVar 3))) (wtNot (wT (wCall sp_law_refused (wCons (wVar 5) (wNil)))))) (wRet (wC (.bl false))) (wNext)) (wSeq (wIf (wT (wBin neU (wBin (inU false) (wVar 5) (wVar 3)) (wBin leU (wUn lenU (wVar 5)) (wVar 2)))) (wRet (wC (.bl false))) (wNext)) (wSeq (wSet 6 (wCall sp_turned (wCons (wVar 5) (wNil)))) (wSeq (wIf (wtOr (wT (wBin neU (wCall sp_law_row (wCons (wBin mulU (wCall sp_law_whole_of (wCons (wVar 6) (wNil))) (wCall sp_law_whole_of (wCons (wVar 5) (wNil)))) (wNil))) (wTup (wCons (wC (.int 1)) (wNil))))) (wT (wBin neU (wCall sp_times (wCons (wVar 6) (wCons (wVar 5) (wNil)))) (wTup (wCons (wC (.int 1)) (wNil)))))) (wRet (wC (.bl false))) (wNext)) (wIf (wT (wBin neU (wCall sp_turned (wCons (wVar 6) (wNil))) (wVar 5))) (wRet (wC (.bl false))) (wNext)))))))) (wSeq (wClrO 3) (wRet (wBin eqU (wUn lenU (wCall sp_turnables (wCons (wC (.int 1)) (wNil)))) (wCall sp_law_count (wCons (wC (.int 1)) (wNil)))))))))))))
def m_l4_in : MS := wIf (wtOr (wT (wBin (inU false) (wVar 5) (wVar 3))) (wtNot (wT (wCall sp_law_refused (wCons (wVar 5) (wNil)))))) (wRet (wC (.bl false))) (wNext)
def m_l4_out : MS := wSeq (wIf (wT (wBin neU (wBin (inU false) (wVar 5) (wVar 3)) (wBin leU (wUn lenU (wVar 5)) (wVar 2)))) (wRet (wC (.bl false))) (wNext)) (wSeq (wSet 6 (wCall sp_turned (wCons (wVar 5) (wNil)))) (wSeq (wIf (wtOr (wT (wBin neU (wCall sp_law_row (wCons (wBin mulU (wCall sp_law_whole_of (wCons (wVar 6) (wNil))) (wCall sp_law_whole_of (wCons (wVar 5) (wNil)))) (wNil))) (wTup (wCons (wC (.int 1)) (wNil))))) (wT (wBin neU (wCall sp_times (wCons (wVar 6) (wCons (wVar 5) (wNil)))) (wTup (wCons (wC (.int 1)) (wNil)))))) (wRet (wC (.bl false))) (wNext)) (wIf (wT (wBin neU (wCall sp_turned (wCons (wVar 6) (wNil))) (wVar 5))) (wRet (wC (.bl false))) (wNext))))
def m_l4_2 : MS := wSeq (wIf (wT (wBin neU (wLcB 3 (gN 5) (wtOr (wtNot (wT (wChain leU leU (wC (.int 1)) (wUn lenU (wVar 5)) (wVar 2)))) (wtOr (wT (wBin eqU (wBin ixU (wVar 5) (wUn negU (wC (.int 1)))) (wC (.int 0)))) (wT (wBin eqU (wBin ixU (wVar 5) (wC (.int 0))) (wC (.int 0)))))) (wVar 5) [5]) (wLst (wNil)))) (wRet (wC (.bl false))) (wNext)) (wSeq (wIf (wT (wBin neU (wUn lenU (wVar 3)) (wCall sp_law_count (wCons (wVar 2) (wNil))))) (wRet (wC (.bl false))) (wNext)) (wSeq (wFor (wR1 (wCons (wC (.int 6)) (wNil))) (gN 4) (wSeq (wSet 5 (wCall sp_law_drawn (wCons (wVar 1) (wCons (wC (.int 4)) (wNil))))) (wIf (wT (wBin gtU (wCall sp_law_left (wCons (wCall sp_law_whole_of (wCons (wVar 5) (wNil))) (wNil))) (wC (.int 1)))) (wIf (wtOr (wT (wBin (inU false) (wVar 5) (wVar 3))) (wtNot (wT (wCall sp_law_refused (wCons (wVar 5) (wNil)))))) (wRet (wC (.bl false))) (wNext)) (wSeq (wIf (wT (wBin neU (wBin (inU false) (wVar 5) (wVar 3)) (wBin leU (wUn lenU (wVar 5)) (wVar 2)))) (wRet (wC (.bl false))) (wNext)) (wSeq (wSet 6 (wCall sp_turned (wCons (wVar 5) (wNil)))) (wSeq (wIf (wtOr (wT (wBin neU (wCall sp_law_row (wCons (wBin mulU (wCall sp_law_whole_of (wCons (wVar 6) (wNil))) (wCall sp_law_whole_of (wCons (wVar 5) (wNil)))) (wNil))) (wTup (wCons (wC (.int 1)) (wNil))))) (wT (wBin neU (wCall sp_times (wCons (wVar 6) (wCons (wVar 5) (wNil)))) (wTup (wCons (wC (.int 1)) (wNil)))))) (wRet (wC (.bl false))) (wNext)) (wIf (wT (wBin neU (wCall sp_turned (wCons (wVar 6) (wNil))) (wVar 5))) (wRet (wC (.bl false))) (wNext)))))))) (wSeq (wClrO 3) (wRet (wBin eqU (wUn lenU (wCall sp_turnables (wCons (wC (.int 1)) (wNil)))) (wCall sp_law_count (wCons (wC (.int 1)) (wNil))))))))
def m_l4_3 : MS := wSeq (wIf (wT (wBin neU (wUn lenU (wVar 3)) (wCall sp_law_count (wCons (wVar 2) (wNil))))) (wRet (wC (.bl false))) (wNext)) (wSeq (wFor (wR1 (wCons (wC (.int 6)) (wNil))) (gN 4) (wSeq (wSet 5 (wCall sp_law_drawn (wCons (wVar 1) (wCons (wC (.int 4)) (wNil))))) (wIf (wT (wBin gtU (wCall sp_law_left (wCons (wCall sp_law_whole_of (wCons (wVar 5) (wNil))) (wNil))) (wC (.int 1)))) (wIf (wtOr (wT (wBin (inU false) (wVar 5) (wVar 3))) (wtNot (wT (wCall sp_law_refused (wCons (wVar 5) (wNil)))))) (wRet (wC (.bl false))) (wNext)) (wSeq (wIf (wT (wBin neU (wBin (inU false) (wVar 5) (wVar 3)) (wBin leU (wUn lenU (wVar 5)) (wVar 2)))) (wRet (wC (.bl false))) (wNext)) (wSeq (wSet 6 (wCall sp_turned (wCons (wVar 5) (wNil)))) (wSeq (wIf (wtOr (wT (wBin neU (wCall sp_law_row (wCons (wBin mulU (wCall sp_law_whole_of (wCons (wVar 6) (wNil))) (wCall sp_law_whole_of (wCons (wVar 5) (wNil)))) (wNil))) (wTup (wCons (wC (.int 1)) (wNil))))) (wT (wBin neU (wCall sp_times (wCons (wVar 6) (wCons (wVar 5) (wNil)))) (wTup (wCons (wC (.int 1)) (wNil)))))) (wRet (wC (.bl false))) (wNext)) (wIf (wT (wBin neU (wCall sp_turned (wCons (wVar 6) (wNil))) (wVar 5))) (wRet (wC (.bl false))) (wNext)))))))) (wSeq (wClrO 3) (wRet (wBin eqU (wUn lenU (wCall sp_turnables (wCons (wC (.int 1)) (wNil)))) (wCall sp_law_count (wCons (wC (.int 1)) (wNil)))))))
def m_l4_4 : MS := wSeq (wFor (wR1 (wCons (wC (.int 6)) (wNil))) (gN 4) (wSeq (wSet 5 (wCall sp_law_drawn (wCons (wVar 1) (wCons (wC (.int 4)) (wNil))))) (wIf (wT (wBin gtU (wCall sp_law_left (wCons (wCall sp_law_whole_of (wCons (wVar 5) (wNil))) (wNil))) (wC (.int 1)))) (wIf (wtOr (wT (wBin (inU false) (wVar 5) (wVar 3))) (wtNot (wT (wCall sp_law_refused (wCons (wVar 5) (wNil)))))) (wRet (wC (.bl false))) (wNext)) (wSeq (wIf (wT (wBin neU (wBin (inU false) (wVar 5) (wVar 3)) (wBin leU (wUn lenU (wVar 5)) (wVar 2)))) (wRet (wC (.bl false))) (wNext)) (wSeq (wSet 6 (wCall sp_turned (wCons (wVar 5) (wNil)))) (wSeq (wIf (wtOr (wT (wBin neU (wCall sp_law_row (wCons (wBin mulU (wCall sp_law_whole_of (wCons (wVar 6) (wNil))) (wCall sp_law_whole_of (wCons (wVar 5) (wNil)))) (wNil))) (wTup (wCons (wC (.int 1)) (wNil))))) (wT (wBin neU (wCall sp_times (wCons (wVar 6) (wCons (wVar 5) (wNil)))) (wTup (wCons (wC (.int 1)) (wNil)))))) (wRet (wC (.bl false))) (wNext)) (wIf (wT (wBin neU (wCall sp_turned (wCons (wVar 6) (wNil))) (wVar 5))) (wRet (wC (.bl false))) (wNext)))))))) (wSeq (wClrO 3) (wRet (wBin eqU (wUn lenU (wCall sp_turnables (wCons (wC (.int 1)) (wNil)))) (wCall sp_law_count (wCons (wC (.int 1)) (wNil))))))
def m_l4_5 : MS := wSeq (wClrO 3) (wRet (wBin eqU (wUn lenU (wCall sp_turnables (wCons (wC (.int 1)) (wNil)))) (wCall sp_law_count (wCons (wC (.int 1)) (wNil)))))
theorem isB_turned : isB "NotTurned" "turned" = true := by decide +kernel
theorem cnt12 : (rawN 1).length = i2 (60 ^ 1) 24 ∧ (rawN 2).length = i2 (60 ^ 2) 24 := by decide +kernel
theorem cnt3 : (rawN 3).length = i2 (60 ^ 3) 24 := by decide +kernel
theorem cnt4 : (rawN 4).length = i2 (60 ^ 4) 24 := by decide +kernel
theorem raw_count {p : Nat} (p1 : 1 ≤ p) (p4 : p ≤ 4) : (rawR p).length = i2 (60 ^ p) 24 := by
  unfold rawR
  rw [List.length_map]
  rcases (show p = 1 ∨ p = 2 ∨ p = 3 ∨ p = 4 by omega) with e | e | e | e <;> subst e
  · exact cnt12.1
  · exact cnt12.2
  · exact cnt3
  · exact cnt4
def invT (n : Nat) : Bool := (60 ^ 14 % n == 0) && (List.range 15).any fun j => (60 ^ 14 / n % 60 ^ j == 0) && decide (60 ^ 14 / n / 60 ^ j < 60 ^ 12)
theorem inv_all : ∀ n ∈ rawN 4, invT n = true := by decide +kernel
/-- the turned row of one of up to four figures -/
theorem inv_len {r : List Int} (ok : okRow r = true) (l4 : r.length ≤ 4) (rt : rest (whole r) = 1) {m : Int} {k : Nat} (m0 : 0 < m) (e : m * whole r = 60 ^ k) : (rowOf m).length ≤ 12 := by
  obtain ⟨n, hn, er⟩ := List.mem_map.mp ((rowR_iff (p := 4) (by omega) r).mpr ⟨ok, rt, l4⟩)
  obtain ⟨l, z, s⟩ := raw_mem hn
  have w : whole r = (n : Int) := by
    rw [← er]
    show whole (rowOf (n : Int)) = n
    rw [whole_rowOf (by omega), strip_0 _ (by omega)]
  have h := inv_all n hn
  unfold invT at h
  rw [Bool.and_eq_true, List.any_eq_true] at h
  obtain ⟨h1, j, _, h2⟩ := h
  rw [Bool.and_eq_true, beq_iff_eq, decide_eq_true_eq] at h2
  rw [beq_iff_eq] at h1
  have n0 : 0 < n := by omega
  obtain ⟨q, hq⟩ : ∃ q, q = 60 ^ 14 / n := ⟨_, rfl⟩
  rw [← hq] at h2
  have eq1 : q * n = 60 ^ 14 := by rw [hq]; exact Nat.div_mul_cancel (Nat.dvd_of_mod_eq_zero h1)
  obtain ⟨t, ht⟩ : ∃ t, t = q / 60 ^ j := ⟨_, rfl⟩
  rw [← ht] at h2
  have eq2 : t * 60 ^ j = q := by rw [ht]; exact Nat.div_mul_cancel (Nat.dvd_of_mod_eq_zero h2.1)
  have t0 : 0 < t := by
    rcases Nat.eq_zero_or_pos t with z | z
    · exfalso
      rw [z, Nat.zero_mul] at eq2
      rw [← eq2, Nat.zero_mul] at eq1
      have : 0 < 60 ^ 14 := Nat.pow_pos (by omega)
      omega
    · exact z
  have j14 : j ≤ 14 := by
    rcases Nat.lt_or_ge 14 j with z | z
    · exfalso
      have a1 : 60 ^ 15 ≤ 60 ^ j := Nat.pow_le_pow_right (by omega) z
      have a2 : 60 ^ j ≤ t * 60 ^ j := Nat.le_mul_of_pos_left _ t0
      have a3 : q ≤ q * n := Nat.le_mul_of_pos_right _ n0
      omega
    · exact z
  have eq3 : (t : Int) * whole r = 60 ^ (14 - j) := by
    refine Int.eq_of_mul_eq_mul_right (show (60 : Int) ^ j ≠ 0 by have := p60 j; omega) ?_
    rw [← Int.pow_add, show 14 - j + j = 14 by omega, w]
    have : t * n * 60 ^ j = 60 ^ 14 := by rw [← eq1, ← eq2, Nat.mul_right_comm]
    exact_mod_cast this
  have w0 := whole_pos r ok
  have same : rowOf m = rowOf (t : Int) := same_row (t := 1) (b := whole r) w0 m0 (by omega) (by rw [Int.one_mul]; exact e) (by rw [Int.one_mul]; exact eq3)
  rw [same]
  have sp := strip_pos (t : Int) (by omega)
  have tl : (t : Int) < 60 ^ 12 := by exact_mod_cast h2.2
  exact digs_len 12 _ (by omega)
theorem t_law_power (xs : List D) (g : G) (Q : KU) (X : KX) (h : sp_law_power xs g Q X) : m_law_power (startU 4 xs) g (fnPost Q X) := by
  obtain ⟨q, k, rfl, q2, q5, k24, hq⟩ := h
  refine ⟨⟨by omega, by omega⟩, ?_⟩
  show forLoop _ _ (rng 0 ((k : Int)).toNat) _ _ _
  refine for_rng (n := ((k : Int)).toNat) (fun i ρ g' => g' = g ∧ ∃ w3 : Option U, ρ = [some (.d (.int q)), some (.d (.int k)), some (.d (.int ((q ^ i : Nat) : Int))), w3]) ⟨rfl, none, rfl⟩ ?_ ?_
  · rintro ρ g' ⟨rfl, w3, rfl⟩
    rw [show ((k : Int)).toNat = k by omega]
    exact sub1 hq
  · rintro i ρ g' N hi ⟨rfl, w3, rfl⟩ ih
    have M4 : q ^ i ≤ 5 ^ 24 := Nat.le_trans (Nat.pow_le_pow_left q5 i) (Nat.pow_le_pow_right (by omega) (by omega))
    have e : (((q ^ (i + 1) : Nat)) : Int) = ((q ^ i : Nat) : Int) * q := by rw [Nat.pow_succ]; exact Int.natCast_mul ..
    have mw : CMulW ((q ^ i : Nat) : Int) q := by
      clear e ih
      generalize q ^ i = M at M4 ⊢
      exact mulW64 (by omega) (by omega) (by omega) (by omega)
    refine ⟨mw, ih _ _ ⟨rfl, some (.d (.int (i : Int))), ?_⟩⟩
    rw [e]
    rfl
theorem t_law_count (xs : List D) (g : G) (Q : KU) (X : KX) (h : sp_law_count xs g Q X) : m_law_count (startU 8 xs) g (fnPost Q X) := by
  obtain ⟨p, rfl, p1, p4, hq⟩ := h
  refine ⟨⟨by omega, by omega⟩, ?_⟩
  show forLoop _ _ (rng 0 ((p : Int)).toNat) _ _ _
  refine for_rng (n := ((p : Int)).toNat) (fun i ρ g' => g' = g ∧ ∃ w2 : Option U, ρ = [some (.d (.int p)), some (.d (.int ((60 ^ i : Nat) : Int))), w2, none, none, none, none, none]) ⟨rfl, none, rfl⟩ ?_ ?_
  rotate_left
  · rintro i ρ g' N hi ⟨rfl, w3, rfl⟩ ih
    have M4 : 60 ^ i ≤ 60 ^ 4 := Nat.pow_le_pow_right (by omega) (by omega)
    have e : (((60 ^ (i + 1) : Nat)) : Int) = ((60 ^ i : Nat) : Int) * 60 := by rw [Nat.pow_succ]; omega
    have mw : CMulW ((60 ^ i : Nat) : Int) 60 := by
      clear e ih
      generalize 60 ^ i = M at M4 ⊢
      exact mulW64 (by omega) (by omega) (by omega) (by omega)
    refine ⟨mw, ih _ _ ⟨rfl, some (.d (.int (i : Int))), ?_⟩⟩
    rw [e]
    rfl
  rintro ρ g' ⟨rfl, w2, rfl⟩
  rw [show ((p : Int)).toNat = p by omega]
  generalize 60 ^ p = M at hq ⊢
  refine ⟨⟨by omega, by omega⟩, ?_⟩
  show forLoop _ _ (rng 0 24) _ _ _
  refine for_rng (n := 24) (fun a ρ g1 => g1 = g' ∧ ∃ w4 w5 w6 w7 : Option U, ρ = [some (.d (.int p)), some (.d (.int (M : Int))), w2, some (.d (.int ((i2 M a : Nat) : Int))), w4, w5, w6, w7]) ⟨rfl, none, none, none, none, rfl⟩ ?_ ?_
  · rintro ρ g1 ⟨rfl, _, _, _, _, rfl⟩
    exact sub1 hq
  rintro a ρ g1 N ha ⟨rfl, w4, w5, w6, w7, rfl⟩ ih
  refine ⟨⟨by omega, by omega⟩, ?_⟩
  show forLoop _ _ (rng 0 16) _ _ _
  refine for_rng (n := 16) (fun b ρ g2 => g2 = g1 ∧ ∃ w5 w6 w7 : Option U, ρ = [some (.d (.int p)), some (.d (.int (M : Int))), w2, some (.d (.int ((i2 M a + i3 M a b : Nat) : Int))), some (.d (.int (a : Int))), w5, w6, w7]) ⟨rfl, w5, w6, w7, rfl⟩ ?_ ?_
  · rintro ρ g2 ⟨rfl, w5, w6, w7, rfl⟩
    exact ih _ _ ⟨rfl, _, w5, w6, w7, rfl⟩
  rintro b ρ g2 N2 hb ⟨rfl, w5, w6, w7, rfl⟩ ih2
  refine ⟨⟨by omega, by omega⟩, ?_⟩
  show forLoop _ _ (rng 0 11) _ _ _
  refine for_rng (n := 11) (fun c ρ g3 => g3 = g2 ∧ ∃ w6 w7 : Option U, ρ = [some (.d (.int p)), some (.d (.int (M : Int))), w2, some (.d (.int ((i2 M a + i3 M a b + i5 M a b c : Nat) : Int))), some (.d (.int (a : Int))), some (.d (.int (b : Int))), w6, w7]) ⟨rfl, w6, w7, rfl⟩ ?_ ?_
  · rintro ρ g3 ⟨rfl, w6, w7, rfl⟩
    exact ih2 _ _ ⟨rfl, _, w6, w7, by rw [Nat.add_assoc]; rfl⟩
  rintro c ρ g3 N3 hc ⟨rfl, w6, w7, rfl⟩ ih3
  have b2 : 2 ^ a ≤ 2 ^ 24 := Nat.pow_le_pow_right (by omega) (by omega)
  have b3 : 3 ^ b ≤ 3 ^ 16 := Nat.pow_le_pow_right (by omega) (by omega)
  have b5 : 5 ^ c ≤ 5 ^ 11 := Nat.pow_le_pow_right (by omega) (by omega)
  have b23 : 2 ^ a * 3 ^ b ≤ 2 ^ 24 * 3 ^ 16 := Nat.mul_le_mul b2 b3
  have mw1 : CMulW ((2 ^ a : Nat) : Int) ((3 ^ b : Nat) : Int) := by
    clear ih ih2 ih3 hq
    generalize 2 ^ a = u at *
    generalize 3 ^ b = v at *
    exact mulW64 (by omega) (by omega) (by omega) (by omega)
  have mw2 : CMulW (((2 ^ a : Nat) : Int) * ((3 ^ b : Nat) : Int)) ((5 ^ c : Nat) : Int) := by
    rw [← Int.natCast_mul]
    clear ih ih2 ih3 hq
    generalize 2 ^ a * 3 ^ b = u at *
    generalize 5 ^ c = v at *
    exact mulW64 (by omega) (by omega) (by omega) (by omega)
  have fin : ∀ (n : Nat) (x : Int), (if 2 ^ a * 3 ^ b * 5 ^ c < M ∧ (a < 2 ∨ b < 1 ∨ c < 1) then 1 else 0) = n → x = n → N3 [some (.d (.int p)), some (.d (.int (M : Int))), w2, some (.d (.int (((i2 M a + i3 M a b + i5 M a b c : Nat) : Int) + x))), some (.d (.int (a : Int))), some (.d (.int (b : Int))), some (.d (.int (c : Int))), some (.d (.int (((2 ^ a : Nat) : Int) * ((3 ^ b : Nat) : Int) * ((5 ^ c : Nat) : Int))))] g3 := fun n x e1 e2 => by
    refine ih3 _ _ ⟨rfl, some (.d (.int (c : Int))), some (.d (.int (((2 ^ a : Nat) : Int) * ((3 ^ b : Nat) : Int) * ((5 ^ c : Nat) : Int)))), ?_⟩
    rw [e2, show i5 M a b (c + 1) = i5 M a b c + n by rw [← e1]; rfl, ← Nat.add_assoc, Int.natCast_add (i2 M a + i3 M a b + i5 M a b c) n]
  have cast : (((2 ^ a : Nat) : Int) * ((3 ^ b : Nat) : Int) * ((5 ^ c : Nat) : Int)) = ((2 ^ a * 3 ^ b * 5 ^ c : Nat) : Int) := by rw [Int.natCast_mul, Int.natCast_mul]
  refine ⟨2, a, rfl, by omega, by omega, by omega, 3, b, rfl, by omega, by omega, by omega, mw1, 5, c, rfl, by omega, by omega, by omega, mw2, ⟨fun e => ⟨fun e2 => ?_, fun e2 => ⟨fun e3 => ?_, fun e3 => ?_⟩⟩, fun e => ?_⟩⟩
  · have h1 := of_decide_eq_true e
    rw [cast] at h1
    have h2 : (a : Int) < 2 := of_decide_eq_true e2
    exact fin 1 1 (if_pos ⟨by omega, .inl (by omega)⟩) rfl
  · have h1 := of_decide_eq_true e
    rw [cast] at h1
    have h2 : (b : Int) < 1 := of_decide_eq_true e3
    exact fin 1 1 (if_pos ⟨by omega, .inr (.inl (by omega))⟩) rfl
  · have h1 := of_decide_eq_true e
    rw [cast] at h1
    have h2 : ¬ (a : Int) < 2 := of_decide_eq_false e2
    have h3 : ¬ (b : Int) < 1 := of_decide_eq_false e3
    by_cases z : c < 1
    · refine fin 1 _ (if_pos ⟨by omega, .inr (.inr z)⟩) ?_
      show (if decide ((c : Int) < 1) = true then (1 : Int) else 0) = _
      rw [decide_eq_true (show (c : Int) < 1 by omega)]
      rfl
    · refine fin 0 _ (if_neg fun q => by omega) ?_
      show (if decide ((c : Int) < 1) = true then (1 : Int) else 0) = _
      rw [decide_eq_false (show ¬ (c : Int) < 1 by omega)]
      rfl
  · have h1 := of_decide_eq_false e
    rw [cast] at h1
    exact fin 0 _ (if_neg fun q => by omega) rfl
theorem t_law_refused (xs : List D) (g : G) (Q : KU) (X : KX) (h : sp_law_refused xs g Q X) : m_law_refused (startU 2 xs) g (fnPost Q X) := by
  obtain ⟨r, rfl, ok, rt, hq⟩ := h
  have w0 := whole_pos r ok
  refine ⟨r, rfl, fun _ => ⟨fun z => absurd z rt, fun _ => ?_⟩, fun z => ff ok z⟩
  refine ⟨true, rfl, fun _ a dd => ?_, fun z => absurd z (by decide)⟩
  refine ⟨rfl, show (Str.ofString "NotTurned") ∈ R_is by decide, by decide +kernel, fun _ => ?_, fun e => ?_⟩
  · refine ⟨rfl, show (Str.ofString "NotTurned") ∈ [Str.ofString "NotTurned"] by decide, .int (rest (whole r)), rfl, r, rfl, figs12 ok, by have := len12 ok; omega, whole r, rfl, w0, .int (rest (whole r)), .int (rest (whole r)), rfl, rfl, sub1 hq⟩
  · have e' : isB "NotTurned" "turned" = false := e
    rw [isB_turned] at e'
    cases e'
theorem next_g4 {ρ : Env} {g : G} {P : Post} (h : P.nx ρ g) : wNext ρ g P := h
theorem no_ne {a b : D} {P : Prop} (e : eqD a b = true) (h : (!eqD a b) = true) : P := by rw [e] at h; cases h
section
variable {ro : D} {d : Addr} {p : Nat} {rs : List (List Int)} {w4 w5 w6 : Option U} {g : G} {P : Post}
def sl4 (ro : D) (d : Addr) (p : Nat) (rs : List (List Int)) (w4 w5 w6 : Option U) : Env := [some (.d ro), some (.d (.ref d)), some (.d (.int p)), some (.own (.lst (rs.map R))), w4, w5, w6]
theorem l4_in {r : List Int} (ok : okRow r = true) (rt : rest (whole r) ≠ 1) (mem : ∀ r, r ∈ rs → rest (whole r) = 1) (nx : P.nx (sl4 ro d p rs w4 (some (.d (R r))) w6) g) :
    m_l4_in (sl4 ro d p rs w4 (some (.d (R r))) w6) g P := by
  refine ⟨⟨okD_R _, okL_rows rs⟩, fun e => ?_, fun _ => ⟨r, rfl, ok, rt, ⟨fun e => (by cases e), fun _ => next_g4 nx⟩⟩⟩
  have e' : (false != (rs.map R).any fun z => eqD z (R r)) = true := e
  rw [rows_any, Bool.false_bne, decide_eq_true_eq] at e'
  exact absurd (mem r e') rt
theorem l4_out {r : List Int} (ok : okRow r = true) (l4 : r.length ≤ 4) (rt : rest (whole r) = 1) (mem : r ∈ rs ↔ okRow r = true ∧ rest (whole r) = 1 ∧ r.length ≤ p) (nx : ∀ w6, P.nx (sl4 ro d p rs w4 (some (.d (R r))) w6) g) :
    m_l4_out (sl4 ro d p rs w4 (some (.d (R r))) w6) g P := by
  have w0 := whole_pos r ok
  refine ⟨⟨okD_R _, okL_rows rs⟩, ⟨rfl, rfl⟩, fun e => ?_, fun _ => next_g4 ?_⟩
  · have e' : (!eqD (.bl (false != (rs.map R).any fun z => eqD z (R r))) (.bl (decide ((((r.map D.int).length : Nat) : Int) ≤ (p : Int))))) = true := e
    have q1 : (false != (rs.map R).any fun z => eqD z (R r)) = decide ((((r.map D.int).length : Nat) : Int) ≤ (p : Int)) := by
      rw [rows_any, Bool.false_bne, decide_eq_decide, mem, List.length_map]
      exact ⟨fun h => by omega, fun h => ⟨ok, rt, by omega⟩⟩
    rw [q1, eqD_bl, decide_eq_true rfl] at e'
    cases e'
  refine ⟨r, rfl, fun _ => ⟨fun _ m k m0 em => ?_, fun z => absurd rt z⟩, fun z => ff ok z⟩
  have okm := okRow_rowOf m m0 (inv_len ok l4 rt m0 em)
  have wm : whole (rowOf m) = strip m := whole_rowOf m0
  have sm := strip_pos m m0
  obtain ⟨K, eK, _, rK⟩ := inv_strip m0 w0 em
  have wml := whole_lt12 _ okm
  have wrl := whole_lt12 _ ok
  obtain ⟨c1, c2, c3⟩ := mul12 okm ok
  refine ⟨rowOf m, rfl, figs12 okm, by have := len12 okm; omega, r, rfl, figs12 ok, by have := len12 ok; omega, c1, _, rfl, c2, big_of 24 (by omega) (by omega), sizeL (by simp), ?_⟩
  rw [wm, eK, row_one]
  refine ⟨⟨okD_R [1], okD_R [1]⟩, fun q => ne_no (x := [1]) (y := [1]) rfl q, fun _ => ?_⟩
  refine ⟨rowOf m, r, rfl, fun _ _ => ?_, fun z => z.elim (ff okm) (ff ok)⟩
  rw [wm, eK, row_one]
  refine ⟨sizeL (by simp), ⟨okD_R [1], okD_R [1]⟩, fun q => ne_no (x := [1]) (y := [1]) rfl q, fun _ => next_g4 ?_⟩
  refine ⟨rowOf m, rfl, fun _ => ⟨fun _ m2 k2 q0 e2 => ?_, fun z => absurd (by rw [wm]; exact rK) z⟩, fun z => ff okm z⟩
  rw [wm] at e2
  rw [part_back (t := 1) ok sm.1 q0 ⟨K, by rw [Int.one_mul, Int.mul_comm]; exact eK⟩ (by rw [Int.one_mul]; exact e2)]
  exact ⟨⟨okD_R _, okD_R _⟩, fun q => ne_no rfl q, fun _ => next_g4 (nx _)⟩
theorem l4_2 (len : rs.length ≤ 900) (mem : ∀ r, r ∈ rs → okRow r = true ∧ r.length ≤ p) (nx : m_l4_3 (sl4 ro d p rs none none none) g P) : m_l4_2 (sl4 ro d p rs none none none) g P := by
  refine ⟨by rw [List.length_map]; show _ ≤ 16777216; omega, ?_⟩
  show lcLoop _ _ _ _ (rs.map R) [] _ _
  refine lc_fil (f := R) (h := R) (p := fun _ => false) rs (fun r hr acc N h1 h2 => ?_) ?_
  · obtain ⟨ok, lp⟩ := mem r hr
    have o := (okRow_iff r).mp ok
    have ll : ((r.map D.int).length : Int) = r.length := by rw [List.length_map]
    have hd : ∃ x, atI (r.map D.int) 0 = some (.int x) ∧ x ≠ 0 := by
      rw [atI_map, atI_head]
      cases e : r.head? with
      | none => rw [List.head?_eq_none_iff] at e; rw [e] at o; simp at o
      | some x => exact ⟨x, rfl, fun z => o.2.2.1 (by rw [e, z])⟩
    have lt : ∃ x, atI (r.map D.int) (-1) = some (.int x) ∧ x ≠ 0 := by
      rw [atI_map, atI_last]
      cases e : r.getLast? with
      | none => rw [List.getLast?_eq_none_iff] at e; rw [e] at o; simp at o
      | some x => exact ⟨x, rfl, fun z => o.2.2.2.1 (by rw [e, z])⟩
    obtain ⟨x, hx, x0⟩ := hd
    obtain ⟨y, hy, y0⟩ := lt
    have rest : ∀ (b : Bool), b = false → (wtOr (wT (wBin eqU (wBin ixU (wVar 5) (wUn negU (wC (.int 1)))) (wC (.int 0)))) (wT (wBin eqU (wBin ixU (wVar 5) (wC (.int 0))) (wC (.int 0))))) (sl4 ro d p rs none (some (.d (R r))) none) g (fun b g1 => (b = true → wVar 5 (sl4 ro d p rs none (some (.d (R r))) none) g1 (fun u g2 => fzU u fun y => N (acc ++ [y]) g2) noX) ∧ (b = false → N acc g1)) noX := fun b _ => by
      refine ⟨.int y, hy, ⟨rfl, rfl⟩, fun e => ?_, fun _ => ⟨.int x, hx, ⟨rfl, rfl⟩, fun e => ?_, fun _ => h2 rfl⟩⟩
      · have e' : eqD (.int y) (.int 0) = true := e
        rw [eqD_int] at e'
        exact absurd (of_decide_eq_true e') y0
      · have e' : eqD (.int x) (.int 0) = true := e
        rw [eqD_int] at e'
        exact absurd (of_decide_eq_true e') x0
    refine ⟨fun _ => ⟨fun e => ?_, fun _ => rest false rfl⟩, fun e => ?_⟩
    · have e' : (!decide ((((r.map D.int).length : Nat) : Int) ≤ (p : Int))) = true := e
      rw [decide_eq_true (by omega)] at e'
      cases e'
    · have e' : decide ((1 : Int) ≤ (((r.map D.int).length : Nat) : Int)) = false := e
      rw [decide_eq_true (by omega)] at e'
      cases e'
  · have f0 : (rs.filter fun _ => false) = [] := by simp
    rw [f0]
    exact ⟨sizeL (by simp), ⟨rfl, rfl⟩, fun e => (by cases e), fun _ => next_g4 nx⟩
end
theorem t_law (xs : List D) (g : G) (Q : KU) (X : KX) (h : spLaw xs g Q X) : m_law (startU 7 xs) g (fnPost Q X) := by
  obtain ⟨ns, rfl, h1, rfl, hend⟩ := h
  refine ⟨ns, rfl, fun m m0 m1 d hd => ?_⟩
  have hdice : Dice (setG (fun _ => none) d (.lst [.ro (ns.map D.int), .int 0, .int m, .int 0])) d := Dice.mk h1 (by omega) m0 m1
  refine ⟨d, 3, rfl, by omega, by omega, hdice, fun v g1 v0 v1 d1 _ => ⟨sizeL (by simp), d, 4, rfl, by omega, by omega, d1, fun t g2 t0 t1 d2 _ => ⟨⟨rfl, rfl⟩, ?_⟩⟩⟩
  have hx : ∃ p : Nat, 1 ≤ p ∧ p ≤ 4 ∧ atI [D.int (1 + v), D.int 4] (if eqD (.int t) (.int 3) = true then 1 else 0) = some (.int p) := by
    by_cases e : eqD (.int t) (.int 3) = true
    · rw [if_pos e]; exact ⟨4, by omega, by omega, rfl⟩
    · rw [if_neg e]; exact ⟨(1 + v).toNat, by omega, by omega, by rw [show (((1 + v).toNat : Nat) : Int) = 1 + v by omega]; rfl⟩
  obtain ⟨p, p1, p4, hp⟩ := hx
  refine ⟨.int p, hp, p, rfl, p1, p4, fun rs pm pw => ?_⟩
  have mem : ∀ r, r ∈ rs ↔ okRow r = true ∧ rest (whole r) = 1 ∧ r.length ≤ p := fun r => pm.mem_iff.trans (rowR_iff p4 r)
  have ll : rs.length ≤ 900 := by rw [pm.length_eq]; exact raw_len p1 p4
  refine ⟨rs, rfl, by omega, (pm.map th).nodup_iff.mpr (raw_un p1 p4), fun r hr => raw_ne r (pm.mem_iff.mp hr), fun rs' pm' pw' => ?_⟩
  obtain rfl := sorted_same pm' pw' pw
  refine ⟨⟨okL_rows _, okL_rows _⟩, fun e => no_ne (a := .lst (rs'.map R)) (b := .lst (rs'.map R)) (by rw [eqD_rows]; exact decide_eq_true rfl) e, fun _ => ?_⟩
  refine ⟨by rw [List.length_map]; show _ ≤ 16777216; omega, ?_⟩
  show lcLoop _ _ _ _ (rs'.map R) [] _ _
  refine lc_fil (f := R) (h := R) (p := fun _ => false) rs' (fun r hr acc N h1 h2 => ?_) ?_
  · obtain ⟨ok, rt, _⟩ := (mem r).mp hr
    have w0 := whole_pos r ok
    refine ⟨r, rfl, figs12 ok, by have := len12 ok; omega, whole r, rfl, w0, fun e => ?_, fun _ => h2 rfl⟩
    have e' : rest (whole r) > 1 := of_decide_eq_true e
    omega
  have f0 : (rs'.filter fun _ => false) = [] := by simp
  rw [f0]
  refine ⟨sizeL (by simp), ⟨rfl, rfl⟩, fun e => (by cases e), fun _ => next_g4 ?_⟩
  refine l4_2 (ro := .ro (ns.map D.int)) (d := d) (p := p) ll (fun r hr => ⟨((mem r).mp hr).1, ((mem r).mp hr).2.2⟩) ?_
  refine ⟨p, rfl, p1, p4, ⟨rfl, rfl⟩, fun e => ?_, fun _ => next_g4 ?_⟩
  · have e' : (!eqD (.int (((rs'.map R).length : Nat) : Int)) (.int ((i2 (60 ^ p) 24 : Nat) : Int))) = true := e
    rw [List.length_map, pm.length_eq, raw_count p1 p4, eqD_int, decide_eq_true rfl] at e'
    cases e'
  refine ⟨⟨by omega, by omega⟩, ?_⟩
  show forLoop _ _ (rng 0 6) _ _ _
  refine for_rng (n := 6) (fun i ρ g' => Dice g' d ∧ ∃ w4 w5 w6 : Option U, ρ = sl4 (.ro (ns.map D.int)) d p rs' w4 w5 w6) ⟨d2, none, none, none, rfl⟩ ?_ ?_
  · rintro ρ g3 ⟨d3, w4, w5, w6, rfl⟩
    refine ⟨1, rfl, by omega, by omega, fun rs1 pm1 pw1 => ⟨1, rfl, by omega, by omega, ⟨rfl, rfl⟩, ?_⟩⟩
    have e : eqD (.int (((rs1.map R).length : Nat) : Int)) (.int ((i2 (60 ^ 1) 24 : Nat) : Int)) = true := by
      rw [List.length_map, pm1.length_eq, raw_count (by omega) (by omega), eqD_int, decide_eq_true rfl]
    have := hend g3
    rw [← e] at this
    exact sub1 this
  · rintro i ρ g3 N hi ⟨d3, w4, w5, w6, rfl⟩ ih
    refine ⟨d, 4, rfl, by omega, by omega, d3, fun r g4 ok len d4 _ => ⟨r, rfl, figs12 ok, by have := len12 ok; omega, whole r, rfl, whole_pos r ok, fun e => ?_, fun e => ?_⟩⟩
    · have e' : rest (whole r) > 1 := of_decide_eq_true e
      exact l4_in (ro := .ro (ns.map D.int)) (d := d) (p := p) ok (by omega) (fun r hr => ((mem r).mp hr).2.1) (ih _ _ ⟨d4, _, _, _, rfl⟩)
    · have e' : ¬ rest (whole r) > 1 := of_decide_eq_false e
      have := (rest_fact (whole_pos r ok)).1
      exact l4_out (ro := .ro (ns.map D.int)) (d := d) (p := p) ok (by omega) (by omega) (mem r) (fun w6 => ih _ _ ⟨d4, _, _, _, rfl⟩)
open PySem L2 PyProof.Rows

def top (i : Nat) : Stmt := PySem.Challenge.pw_sixtyfold_k04_turned_and_turnables.main.body.getD i (.Pass ⟨0, 0, 0, 0⟩)
abbrev s_law_power : Stmt := top 34
abbrev N_law_power : List Str := ["_law_one", "_law_many_here", "_law_found", "_law_k"]
theorem sc_law_power : FnScope N_law_power ["_law_one", "_law_many_here"] (defScope s_law_power) := ⟨rfl, rfl, rfl, by decide +kernel, rfl, by decide +kernel, by decide +kernel⟩
abbrev s_law_count : Stmt := top 33
abbrev N_law_count : List Str := ["_law_places", "_law_most", "_law_k", "_law_found", "_law_twos", "_law_threes", "_law_fives", "_law_number"]
theorem sc_law_count : FnScope N_law_count ["_law_places"] (defScope s_law_count) := ⟨rfl, rfl, rfl, by decide +kernel, rfl, by decide +kernel, by decide +kernel⟩
abbrev s_law_dice : Stmt := top 22
abbrev N_law_dice : List Str := ["_law_script", "_law_mixed", "_law_cell"]
theorem sc_law_dice : FnScope N_law_dice ["_law_script"] (defScope s_law_dice) := ⟨rfl, rfl, rfl, by decide +kernel, rfl, by decide +kernel, by decide +kernel⟩
abbrev s_law_next : Stmt := top 23
abbrev N_law_next : List Str := ["_law_dice_here", "_law_many_here", "_law_found", "_law_cell"]
theorem sc_law_next : FnScope N_law_next ["_law_dice_here", "_law_many_here"] (defScope s_law_next) := ⟨rfl, rfl, rfl, by decide +kernel, rfl, by decide +kernel, by decide +kernel⟩
abbrev s_law_row : Stmt := top 26
abbrev N_law_row : List Str := ["_law_number", "_law_figures"]
theorem sc_law_row : FnScope N_law_row ["_law_number"] (defScope s_law_row) := ⟨rfl, rfl, rfl, by decide +kernel, rfl, by decide +kernel, by decide +kernel⟩
abbrev s_law_smooth : Stmt := top 27
abbrev N_law_smooth : List Str := ["_law_d", "_law_found", "_law_prime", "_law_k"]
theorem sc_law_smooth : FnScope N_law_smooth ["_law_d"] (defScope s_law_smooth) := ⟨rfl, rfl, rfl, by decide +kernel, rfl, by decide +kernel, by decide +kernel⟩
abbrev s_law_drawn : Stmt := top 28
abbrev N_law_drawn : List Str := ["_law_d", "_law_most", "_law_kind", "_law_found", "_law_figures", "_law_k"]
theorem sc_law_drawn : FnScope N_law_drawn ["_law_d", "_law_most"] (defScope s_law_drawn) := ⟨rfl, rfl, rfl, by decide +kernel, rfl, by decide +kernel, by decide +kernel⟩
abbrev s_law_left : Stmt := top 29
abbrev N_law_left : List Str := ["_law_number", "_law_prime"]
theorem sc_law_left : FnScope N_law_left ["_law_number"] (defScope s_law_left) := ⟨rfl, rfl, rfl, by decide +kernel, rfl, by decide +kernel, by decide +kernel⟩
abbrev s_law_is : Stmt := top 31
abbrev N_law_is : List Str := ["_law_e", "_law_word", "_law_kinds", "_law_words", "_law_one"]
theorem sc_law_is : FnScope N_law_is ["_law_e", "_law_word"] (defScope s_law_is) := ⟨rfl, rfl, rfl, by decide +kernel, rfl, by decide +kernel, by decide +kernel⟩
abbrev s_law_like : Stmt := top 24
abbrev N_law_like : List Str := ["_law_found", "_law_due", "_law_k"]
theorem sc_law_like : FnScope N_law_like ["_law_found", "_law_due"] (defScope s_law_like) := ⟨rfl, rfl, rfl, by decide +kernel, rfl, by decide +kernel, by decide +kernel⟩
abbrev s_law_whole_of : Stmt := top 25
abbrev N_law_whole_of : List Str := ["_law_row_here", "_law_found", "_law_k"]
theorem sc_law_whole_of : FnScope N_law_whole_of ["_law_row_here"] (defScope s_law_whole_of) := ⟨rfl, rfl, rfl, by decide +kernel, rfl, by decide +kernel, by decide +kernel⟩
abbrev s_need_row : Stmt := top 9
abbrev N_need_row : List Str := ["row", "figure"]
theorem sc_need_row : FnScope N_need_row ["row"] (defScope s_need_row) := ⟨rfl, rfl, rfl, by decide +kernel, rfl, by decide +kernel, by decide +kernel⟩
abbrev s_row_of : Stmt := top 11
abbrev N_row_of : List Str := ["number", "found"]
theorem sc_row_of : FnScope N_row_of ["number"] (defScope s_row_of) := ⟨rfl, rfl, rfl, by decide +kernel, rfl, by decide +kernel, by decide +kernel⟩
abbrev s_shared : Stmt := top 16
abbrev N_shared : List Str := ["one", "other"]
theorem sc_shared : FnScope N_shared ["one", "other"] (defScope s_shared) := ⟨rfl, rfl, rfl, by decide +kernel, rfl, by decide +kernel, by decide +kernel⟩
abbrev s_taken_out : Stmt := top 15
abbrev N_taken_out : List Str := ["number", "found", "prime", "many"]
theorem sc_taken_out : FnScope N_taken_out ["number"] (defScope s_taken_out) := ⟨rfl, rfl, rfl, by decide +kernel, rfl, by decide +kernel, by decide +kernel⟩
abbrev s_whole_of : Stmt := top 10
abbrev N_whole_of : List Str := ["row", "found", "figure"]
theorem sc_whole_of : FnScope N_whole_of ["row"] (defScope s_whole_of) := ⟨rfl, rfl, rfl, by decide +kernel, rfl, by decide +kernel, by decide +kernel⟩
abbrev s_parted : Stmt := top 18
abbrev N_parted : List Str := ["one", "other", "top", "twos", "left", "bottom"]
theorem sc_parted : FnScope N_parted ["one", "other"] (defScope s_parted) := ⟨rfl, rfl, rfl, by decide +kernel, rfl, by decide +kernel, by decide +kernel⟩
abbrev s_part : Stmt := top 17
abbrev N_part : List Str := ["one", "other"]
theorem sc_part : FnScope N_part ["one", "other"] (defScope s_part) := ⟨rfl, rfl, rfl, by decide +kernel, rfl, by decide +kernel, by decide +kernel⟩
abbrev s_turned : Stmt := top 19
abbrev N_turned : List Str := ["row"]
theorem sc_turned : FnScope N_turned ["row"] (defScope s_turned) := ⟨rfl, rfl, rfl, by decide +kernel, rfl, by decide +kernel, by decide +kernel⟩
abbrev s_law_refused : Stmt := top 32
abbrev N_law_refused : List Str := ["_law_row_here", "_law_e"]
theorem sc_law_refused : FnScope N_law_refused ["_law_row_here"] (defScope s_law_refused) := ⟨rfl, rfl, rfl, by decide +kernel, rfl, by decide +kernel, by decide +kernel⟩
abbrev s_times : Stmt := top 12
abbrev N_times : List Str := ["one", "other"]
theorem sc_times : FnScope N_times ["one", "other"] (defScope s_times) := ⟨rfl, rfl, rfl, by decide +kernel, rfl, by decide +kernel, by decide +kernel⟩
abbrev s_turnables : Stmt := top 20
abbrev N_turnables : List Str := ["places", "found", "most", "turn", "two", "three", "five"]
theorem sc_turnables : FnScope N_turnables ["places"] (defScope s_turnables) := ⟨rfl, rfl, rfl, by decide +kernel, rfl, by decide +kernel, by decide +kernel⟩
abbrev s_law : Stmt := top 35
abbrev N_law : List Str := ["_law_script", "_law_d", "_law_places", "_law_every", "_law_turn", "_law_row_here", "_law_found"]
theorem sc_law : FnScope N_law ["_law_script"] (defScope s_law) := ⟨rfl, rfl, rfl, by decide +kernel, rfl, by decide +kernel, by decide +kernel⟩
abbrev s_ini_NotTurned : Stmt := inCls (top 3) 0
theorem sc_ini_NotTurned : FnScope ["self", "left"] ["self", "left"] (defScope s_ini_NotTurned) := ⟨rfl, rfl, rfl, by decide +kernel, rfl, by decide +kernel, by decide +kernel⟩
structure Txt (P : Program) (w : World) (K : PySem.W.Frag) (mg : Str → Option Value) (base : Heap) (cn : Str → Option Addr) : Prop where
  z_ValueError : mg "ValueError" = none
  z_bool : mg "bool" = none
  z_int : mg "int" = none
  z_isinstance : mg "isinstance" = none
  z_len : mg "len" = none
  z_list : mg "list" = none
  z_range : mg "range" = none
  z_set : mg "set" = none
  z_sorted : mg "sorted" = none
  z_str : mg "str" = none
  z_tuple : mg "tuple" = none
  k_MOST_FIGURES : ∃ t, mg "MOST_FIGURES" = some (.int 12 t)
  k_PRIMES : ∃ a, mg "PRIMES" = some (.ref a) ∧ ∀ F, SqT K F a [.int 2, .int 3, .int 5]
  p_BadRow : ExcP K mg cn "BadRow"
  f_NotTurned : ExcF P w K mg base cn "NotTurned" ["left"]
  m_BadRow_SixtyError : ExM K mg cn "BadRow" "SixtyError" true
  m_NotTurned_SixtyError : ExM K mg cn "NotTurned" "SixtyError" true
  g_SixtyError : ExG mg "SixtyError"
  x_NotTurned_left : ExcX K cn "NotTurned" "left"
  IS : IsAll K mg cn R_is
  z : True
section
variable {P : Program} {w : World} {K : PySem.W.Frag} {mg : Str → Option Value} {base : Heap} {cn : Str → Option Addr} {f : Addr} {fd : FuncData}
theorem ini_NotTurned (F : Fun K "__init__" "NotTurned.__init__" s_ini_NotTurned f fd) (B : CIni K mg "SixtyError") : FnOk P w K mg base CX0 1 f fd ["self", "left"] (spI K ["left"]) :=
  F.ok sc_ini_NotTurned (spI_len rfl) fun cdv A outer s H vs Q E hr h => ⟨_, pss_cons (ps_expr (pe_cinit B (by rfl) (pa_cons (pv 0) (pa_cons (pe_str) pa_nil)))) (pss_one (ps_ost (pv 0) (pv 1))), ini_S h⟩
theorem iniH_NotTurned (F : Fun K "__init__" "NotTurned.__init__" s_ini_NotTurned f fd) (B : CIni K mg "SixtyError") : L2H.FnH P w K mg base CX0 1 f fd ["self", "left"] (spI K ["left"]) := by
  obtain ⟨oc, od, kV, doc, pm, an, cdv, ct, osl, rfl, lk, hcd⟩ := F.ex
  exact L2H.fn_ofH lk hcd sc_ini_NotTurned (spI_len rfl) fun A outer s H vs Q E q hot hr h => ⟨_, pss_cons (ps_expr (pe_cinit B (by rfl) (pa_cons (pv 0) (pa_cons (pe_str) pa_nil)))) (pss_one (ps_ost (pv 0) (pv 1))), ini_S h⟩
set_option maxRecDepth 100000 in
theorem ok_law_power (F : Fun K "_law_power" "_law_power" s_law_power f fd) (T : Txt P w K mg base cn)  : FnOk P w K mg base CX0 1 f fd ["_law_one", "_law_many_here"] (LSp0 K cn sp_law_power) :=
  fn_ok0 F sc_law_power (by intro xs g Qu Qx h; first | (refine Or.elim h (fun h => ?_) (fun h => ?_) <;> first | (refine Or.elim h (fun h => ?_) (fun h => ?_) <;> first | (obtain ⟨rfl, _⟩ := h; rfl) | (obtain ⟨_, rfl, _⟩ := h; rfl) | (obtain ⟨_, _, rfl, _⟩ := h; rfl) | (obtain ⟨_, _, _, rfl, _⟩ := h; rfl) | (obtain ⟨_, _, _, _, rfl, _⟩ := h; rfl) | (obtain ⟨_, _, _, _, _, rfl, _⟩ := h; rfl) | (obtain ⟨_, _, _, _, _, _, rfl, _⟩ := h; rfl) | (obtain ⟨_, _, _, _, _, _, _, rfl, _⟩ := h; rfl) | (obtain ⟨_, _, _, _, _, _, _, _, rfl, _⟩ := h; rfl) | (obtain ⟨_, _, _, _, _, _, _, _, _, rfl, _⟩ := h; rfl)) | (obtain ⟨rfl, _⟩ := h; rfl) | (obtain ⟨_, rfl, _⟩ := h; rfl) | (obtain ⟨_, _, rfl, _⟩ := h; rfl) | (obtain ⟨_, _, _, rfl, _⟩ := h; rfl) | (obtain ⟨_, _, _, _, rfl, _⟩ := h; rfl) | (obtain ⟨_, _, _, _, _, rfl, _⟩ := h; rfl) | (obtain ⟨_, _, _, _, _, _, rfl, _⟩ := h; rfl) | (obtain ⟨_, _, _, _, _, _, _, rfl, _⟩ := h; rfl) | (obtain ⟨_, _, _, _, _, _, _, _, rfl, _⟩ := h; rfl) | (obtain ⟨_, _, _, _, _, _, _, _, _, rfl, _⟩ := h; rfl)) | (obtain ⟨rfl, _⟩ := h; rfl) | (obtain ⟨_, rfl, _⟩ := h; rfl) | (obtain ⟨_, _, rfl, _⟩ := h; rfl) | (obtain ⟨_, _, _, rfl, _⟩ := h; rfl) | (obtain ⟨_, _, _, _, rfl, _⟩ := h; rfl) | (obtain ⟨_, _, _, _, _, rfl, _⟩ := h; rfl) | (obtain ⟨_, _, _, _, _, _, rfl, _⟩ := h; rfl) | (obtain ⟨_, _, _, _, _, _, _, rfl, _⟩ := h; rfl) | (obtain ⟨_, _, _, _, _, _, _, _, rfl, _⟩ := h; rfl) | (obtain ⟨_, _, _, _, _, _, _, _, _, rfl, _⟩ := h; rfl)) t_law_power fun cdv A outer s H E hr =>
  rs_cons (rs_set 2 sc_law_power.nd (re_int)) (rs_cons (rs_for PassesOwn.never rfl (ri_r1 (by rfl) T.z_range (ra_cons (re_var 1) (ra_nil))) (pg_name (i := 3) sc_law_power.nd rfl (by first | exact Or.inl rfl | exact Or.inr rfl)) (tg_n 3) (rs_one (rs_set 2 sc_law_power.nd (re_bin op_mulU os_mul (re_var 2) (re_var 0))))) (rs_one (rs_ret (re_var 2))))
set_option maxRecDepth 100000 in
theorem ok_law_count (F : Fun K "_law_count" "_law_count" s_law_count f fd) (T : Txt P w K mg base cn) (c_law_power : Cl0 P w K mg base cn 1 "_law_power" sp_law_power) : FnOk P w K mg base CX0 2 f fd ["_law_places"] (LSp0 K cn sp_law_count) :=
  fn_ok0 F sc_law_count (by intro xs g Qu Qx h; first | (refine Or.elim h (fun h => ?_) (fun h => ?_) <;> first | (refine Or.elim h (fun h => ?_) (fun h => ?_) <;> first | (obtain ⟨rfl, _⟩ := h; rfl) | (obtain ⟨_, rfl, _⟩ := h; rfl) | (obtain ⟨_, _, rfl, _⟩ := h; rfl) | (obtain ⟨_, _, _, rfl, _⟩ := h; rfl) | (obtain ⟨_, _, _, _, rfl, _⟩ := h; rfl) | (obtain ⟨_, _, _, _, _, rfl, _⟩ := h; rfl) | (obtain ⟨_, _, _, _, _, _, rfl, _⟩ := h; rfl) | (obtain ⟨_, _, _, _, _, _, _, rfl, _⟩ := h; rfl) | (obtain ⟨_, _, _, _, _, _, _, _, rfl, _⟩ := h; rfl) | (obtain ⟨_, _, _, _, _, _, _, _, _, rfl, _⟩ := h; rfl)) | (obtain ⟨rfl, _⟩ := h; rfl) | (obtain ⟨_, rfl, _⟩ := h; rfl) | (obtain ⟨_, _, rfl, _⟩ := h; rfl) | (obtain ⟨_, _, _, rfl, _⟩ := h; rfl) | (obtain ⟨_, _, _, _, rfl, _⟩ := h; rfl) | (obtain ⟨_, _, _, _, _, rfl, _⟩ := h; rfl) | (obtain ⟨_, _, _, _, _, _, rfl, _⟩ := h; rfl) | (obtain ⟨_, _, _, _, _, _, _, rfl, _⟩ := h; rfl) | (obtain ⟨_, _, _, _, _, _, _, _, rfl, _⟩ := h; rfl) | (obtain ⟨_, _, _, _, _, _, _, _, _, rfl, _⟩ := h; rfl)) | (obtain ⟨rfl, _⟩ := h; rfl) | (obtain ⟨_, rfl, _⟩ := h; rfl) | (obtain ⟨_, _, rfl, _⟩ := h; rfl) | (obtain ⟨_, _, _, rfl, _⟩ := h; rfl) | (obtain ⟨_, _, _, _, rfl, _⟩ := h; rfl) | (obtain ⟨_, _, _, _, _, rfl, _⟩ := h; rfl) | (obtain ⟨_, _, _, _, _, _, rfl, _⟩ := h; rfl) | (obtain ⟨_, _, _, _, _, _, _, rfl, _⟩ := h; rfl) | (obtain ⟨_, _, _, _, _, _, _, _, rfl, _⟩ := h; rfl) | (obtain ⟨_, _, _, _, _, _, _, _, _, rfl, _⟩ := h; rfl)) t_law_count fun cdv A outer s H E hr =>
  rs_cons (rs_set 1 sc_law_count.nd (re_int)) (rs_cons (rs_for PassesOwn.never rfl (ri_r1 (by rfl) T.z_range (ra_cons (re_var 0) (ra_nil))) (pg_name (i := 2) sc_law_count.nd rfl (by first | exact Or.inl rfl | exact Or.inr rfl)) (tg_n 2) (rs_one (rs_set 1 sc_law_count.nd (re_bin op_mulU os_mul (re_var 1) (re_int))))) (rs_cons (rs_set 3 sc_law_count.nd (re_int)) (rs_cons (rs_for PassesOwn.never rfl (ri_r1 (by rfl) T.z_range (ra_cons (re_int) (ra_nil))) (pg_name (i := 4) sc_law_count.nd rfl (by first | exact Or.inl rfl | exact Or.inr rfl)) (tg_n 4) (rs_one (rs_for PassesOwn.never rfl (ri_r1 (by rfl) T.z_range (ra_cons (re_int) (ra_nil))) (pg_name (i := 5) sc_law_count.nd rfl (by first | exact Or.inl rfl | exact Or.inr rfl)) (tg_n 5) (rs_one (rs_for PassesOwn.never rfl (ri_r1 (by rfl) T.z_range (ra_cons (re_int) (ra_nil))) (pg_name (i := 6) sc_law_count.nd rfl (by first | exact Or.inl rfl | exact Or.inr rfl)) (tg_n 6) (rs_cons (rs_set 7 sc_law_count.nd (re_bin op_mulU os_mul (re_bin op_mulU os_mul (re_call0 c_law_power (hr.mono (by first | decide | omega)) (by rfl) (ra_cons (re_int) (ra_cons (re_var 4) (ra_nil)))) (re_call0 c_law_power (hr.mono (by first | decide | omega)) (by rfl) (ra_cons (re_int) (ra_cons (re_var 5) (ra_nil))))) (re_call0 c_law_power (hr.mono (by first | decide | omega)) (by rfl) (ra_cons (re_int) (ra_cons (re_var 6) (ra_nil)))))) (rs_one (rs_set 3 sc_law_count.nd (re_bin op_addU os_add (re_var 3) (re_t1 call_intU cs_int (by rfl) T.z_int PyProof.Rows.boot_int (re_and (re_cmp op_lt os_cmp (nomark _) (re_var 7) (re_var 1)) (re_one (re_or (re_cmp op_lt os_cmp (nomark _) (re_var 4) (re_int)) (re_or (re_cmp op_lt os_cmp (nomark _) (re_var 5) (re_int)) (re_one (re_cmp op_lt os_cmp (nomark _) (re_var 6) (re_int))))))))))))))))) (rs_one (rs_ret (re_var 3))))))
set_option maxRecDepth 100000 in
theorem ok_law_dice (F : Fun K "_law_dice" "_law_dice" s_law_dice f fd) (T : Txt P w K mg base cn)  : FnOk P w K mg base CX0 1 f fd ["_law_script"] (LSp0 K cn sp_law_dice) :=
  fn_ok0 F sc_law_dice (by intro xs g Qu Qx h; first | (refine Or.elim h (fun h => ?_) (fun h => ?_) <;> first | (refine Or.elim h (fun h => ?_) (fun h => ?_) <;> first | (obtain ⟨rfl, _⟩ := h; rfl) | (obtain ⟨_, rfl, _⟩ := h; rfl) | (obtain ⟨_, _, rfl, _⟩ := h; rfl) | (obtain ⟨_, _, _, rfl, _⟩ := h; rfl) | (obtain ⟨_, _, _, _, rfl, _⟩ := h; rfl) | (obtain ⟨_, _, _, _, _, rfl, _⟩ := h; rfl) | (obtain ⟨_, _, _, _, _, _, rfl, _⟩ := h; rfl) | (obtain ⟨_, _, _, _, _, _, _, rfl, _⟩ := h; rfl) | (obtain ⟨_, _, _, _, _, _, _, _, rfl, _⟩ := h; rfl) | (obtain ⟨_, _, _, _, _, _, _, _, _, rfl, _⟩ := h; rfl)) | (obtain ⟨rfl, _⟩ := h; rfl) | (obtain ⟨_, rfl, _⟩ := h; rfl) | (obtain ⟨_, _, rfl, _⟩ := h; rfl) | (obtain ⟨_, _, _, rfl, _⟩ := h; rfl) | (obtain ⟨_, _, _, _, rfl, _⟩ := h; rfl) | (obtain ⟨_, _, _, _, _, rfl, _⟩ := h; rfl) | (obtain ⟨_, _, _, _, _, _, rfl, _⟩ := h; rfl) | (obtain ⟨_, _, _, _, _, _, _, rfl, _⟩ := h; rfl) | (obtain ⟨_, _, _, _, _, _, _, _, rfl, _⟩ := h; rfl) | (obtain ⟨_, _, _, _, _, _, _, _, _, rfl, _⟩ := h; rfl)) | (obtain ⟨rfl, _⟩ := h; rfl) | (obtain ⟨_, rfl, _⟩ := h; rfl) | (obtain ⟨_, _, rfl, _⟩ := h; rfl) | (obtain ⟨_, _, _, rfl, _⟩ := h; rfl) | (obtain ⟨_, _, _, _, rfl, _⟩ := h; rfl) | (obtain ⟨_, _, _, _, _, rfl, _⟩ := h; rfl) | (obtain ⟨_, _, _, _, _, _, rfl, _⟩ := h; rfl) | (obtain ⟨_, _, _, _, _, _, _, rfl, _⟩ := h; rfl) | (obtain ⟨_, _, _, _, _, _, _, _, rfl, _⟩ := h; rfl) | (obtain ⟨_, _, _, _, _, _, _, _, _, rfl, _⟩ := h; rfl)) t_law_dice fun cdv A outer s H E hr =>
  rs_cons (rs_set 1 sc_law_dice.nd (re_int)) (rs_cons (rs_for PassesOwn.never rfl (ri_seq (re_var 0)) (pg_name (i := 2) sc_law_dice.nd rfl (by first | exact Or.inl rfl | exact Or.inr rfl)) (tg_n 2) (rs_one (rs_set 1 sc_law_dice.nd (re_bin op_mod os_mod (re_bin op_addU os_add (re_bin op_addU os_add (re_bin op_mulU os_mul (re_var 1) (re_int)) (re_bin op_mulU os_mul (re_bin op_mod os_mod (re_var 2) (re_int)) (re_int))) (re_int)) (re_int))))) (rs_one (rs_ret (re_lst (ra_cons (re_var 0) (ra_cons (re_int) (ra_cons (re_bin op_mulU os_mul (re_var 1) (re_t1 call_intU cs_int (by rfl) T.z_int PyProof.Rows.boot_int (re_cmp op_gt os_cmp (nomark _) (re_b1 call_len cs_len (by rfl) T.z_len PySem.boot_len (re_var 0)) (re_int)))) (ra_cons (re_int) (ra_nil)))))))))
set_option maxRecDepth 100000 in
theorem ok_law_next (F : Fun K "_law_next" "_law_next" s_law_next f fd) (T : Txt P w K mg base cn)  : FnOk P w K mg base CX0 1 f fd ["_law_dice_here", "_law_many_here"] (LSp0 K cn sp_law_next) :=
  fn_ok0 F sc_law_next (by intro xs g Qu Qx h; first | (refine Or.elim h (fun h => ?_) (fun h => ?_) <;> first | (refine Or.elim h (fun h => ?_) (fun h => ?_) <;> first | (obtain ⟨rfl, _⟩ := h; rfl) | (obtain ⟨_, rfl, _⟩ := h; rfl) | (obtain ⟨_, _, rfl, _⟩ := h; rfl) | (obtain ⟨_, _, _, rfl, _⟩ := h; rfl) | (obtain ⟨_, _, _, _, rfl, _⟩ := h; rfl) | (obtain ⟨_, _, _, _, _, rfl, _⟩ := h; rfl) | (obtain ⟨_, _, _, _, _, _, rfl, _⟩ := h; rfl) | (obtain ⟨_, _, _, _, _, _, _, rfl, _⟩ := h; rfl) | (obtain ⟨_, _, _, _, _, _, _, _, rfl, _⟩ := h; rfl) | (obtain ⟨_, _, _, _, _, _, _, _, _, rfl, _⟩ := h; rfl)) | (obtain ⟨rfl, _⟩ := h; rfl) | (obtain ⟨_, rfl, _⟩ := h; rfl) | (obtain ⟨_, _, rfl, _⟩ := h; rfl) | (obtain ⟨_, _, _, rfl, _⟩ := h; rfl) | (obtain ⟨_, _, _, _, rfl, _⟩ := h; rfl) | (obtain ⟨_, _, _, _, _, rfl, _⟩ := h; rfl) | (obtain ⟨_, _, _, _, _, _, rfl, _⟩ := h; rfl) | (obtain ⟨_, _, _, _, _, _, _, rfl, _⟩ := h; rfl) | (obtain ⟨_, _, _, _, _, _, _, _, rfl, _⟩ := h; rfl) | (obtain ⟨_, _, _, _, _, _, _, _, _, rfl, _⟩ := h; rfl)) | (obtain ⟨rfl, _⟩ := h; rfl) | (obtain ⟨_, rfl, _⟩ := h; rfl) | (obtain ⟨_, _, rfl, _⟩ := h; rfl) | (obtain ⟨_, _, _, rfl, _⟩ := h; rfl) | (obtain ⟨_, _, _, _, rfl, _⟩ := h; rfl) | (obtain ⟨_, _, _, _, _, rfl, _⟩ := h; rfl) | (obtain ⟨_, _, _, _, _, _, rfl, _⟩ := h; rfl) | (obtain ⟨_, _, _, _, _, _, _, rfl, _⟩ := h; rfl) | (obtain ⟨_, _, _, _, _, _, _, _, rfl, _⟩ := h; rfl) | (obtain ⟨_, _, _, _, _, _, _, _, _, rfl, _⟩ := h; rfl)) t_law_next fun cdv A outer s H E hr =>
  rs_cons (rs_if (rt_cmp op_gt os_cmp (nomark _) (re_ix (re_var 0) (re_int)) (re_int)) (rs_cons (rs_set 2 sc_law_next.nd (re_bin op_mod os_mod (re_ix (re_var 0) (re_int)) (re_var 1))) (rs_cons (rs_sto 0 (re_int) (re_bin op_fdivW os_div (re_ix (re_var 0) (re_int)) (re_var 1))) (rs_one (rs_ret (re_var 2))))) (rs_nil)) (rs_cons (rs_sto 0 (re_int) (re_bin op_addU os_add (re_ix (re_var 0) (re_int)) (re_int))) (rs_cons (rs_if (rt_cmp op_le os_cmp (nomark _) (re_ix (re_var 0) (re_int)) (re_b1 call_len cs_len (by rfl) T.z_len PySem.boot_len (re_ix (re_var 0) (re_int)))) (rs_cons (rs_set 3 sc_law_next.nd (re_ix (re_ix (re_var 0) (re_int)) (re_bin op_sub os_sub (re_ix (re_var 0) (re_int)) (re_int)))) (rs_cons (rs_sto 0 (re_int) (re_if (rt_cmp op_ge os_cmp (nomark _) (re_var 3) (re_bin op_pow os_pow (re_int) (re_int))) (re_bin op_fdivW os_div (re_var 3) (re_var 1)) (re_int))) (rs_one (rs_ret (re_bin op_mod os_mod (re_var 3) (re_var 1)))))) (rs_nil)) (rs_cons (rs_sto 0 (re_int) (re_bin op_mod os_mod (re_bin op_mulU os_mul (re_ix (re_var 0) (re_int)) (re_int)) (re_int))) (rs_one (rs_ret (re_bin op_mod os_mod (re_bin op_fdivW os_div (re_ix (re_var 0) (re_int)) (re_int)) (re_var 1)))))))
set_option maxRecDepth 100000 in
theorem ok_law_row (F : Fun K "_law_row" "_law_row" s_law_row f fd) (T : Txt P w K mg base cn)  : FnOk P w K mg base CX0 1 f fd ["_law_number"] (LSp0 K cn sp_law_row) :=
  fn_ok0 F sc_law_row (by intro xs g Qu Qx h; first | (refine Or.elim h (fun h => ?_) (fun h => ?_) <;> first | (refine Or.elim h (fun h => ?_) (fun h => ?_) <;> first | (obtain ⟨rfl, _⟩ := h; rfl) | (obtain ⟨_, rfl, _⟩ := h; rfl) | (obtain ⟨_, _, rfl, _⟩ := h; rfl) | (obtain ⟨_, _, _, rfl, _⟩ := h; rfl) | (obtain ⟨_, _, _, _, rfl, _⟩ := h; rfl) | (obtain ⟨_, _, _, _, _, rfl, _⟩ := h; rfl) | (obtain ⟨_, _, _, _, _, _, rfl, _⟩ := h; rfl) | (obtain ⟨_, _, _, _, _, _, _, rfl, _⟩ := h; rfl) | (obtain ⟨_, _, _, _, _, _, _, _, rfl, _⟩ := h; rfl) | (obtain ⟨_, _, _, _, _, _, _, _, _, rfl, _⟩ := h; rfl)) | (obtain ⟨rfl, _⟩ := h; rfl) | (obtain ⟨_, rfl, _⟩ := h; rfl) | (obtain ⟨_, _, rfl, _⟩ := h; rfl) | (obtain ⟨_, _, _, rfl, _⟩ := h; rfl) | (obtain ⟨_, _, _, _, rfl, _⟩ := h; rfl) | (obtain ⟨_, _, _, _, _, rfl, _⟩ := h; rfl) | (obtain ⟨_, _, _, _, _, _, rfl, _⟩ := h; rfl) | (obtain ⟨_, _, _, _, _, _, _, rfl, _⟩ := h; rfl) | (obtain ⟨_, _, _, _, _, _, _, _, rfl, _⟩ := h; rfl) | (obtain ⟨_, _, _, _, _, _, _, _, _, rfl, _⟩ := h; rfl)) | (obtain ⟨rfl, _⟩ := h; rfl) | (obtain ⟨_, rfl, _⟩ := h; rfl) | (obtain ⟨_, _, rfl, _⟩ := h; rfl) | (obtain ⟨_, _, _, rfl, _⟩ := h; rfl) | (obtain ⟨_, _, _, _, rfl, _⟩ := h; rfl) | (obtain ⟨_, _, _, _, _, rfl, _⟩ := h; rfl) | (obtain ⟨_, _, _, _, _, _, rfl, _⟩ := h; rfl) | (obtain ⟨_, _, _, _, _, _, _, rfl, _⟩ := h; rfl) | (obtain ⟨_, _, _, _, _, _, _, _, rfl, _⟩ := h; rfl) | (obtain ⟨_, _, _, _, _, _, _, _, _, rfl, _⟩ := h; rfl)) t_law_row fun cdv A outer s H E hr =>
  rs_cons (rs_setO 1 sc_law_row.nd (re_lst (ra_nil))) (rs_cons (rs_while PassesOwn.never (rt_cmp op_gt os_cmp (nomark _) (re_var 0) (re_int)) (rs_cons (rs_app 1 (re_bin op_mod os_mod (re_var 0) (re_int))) (rs_one (rs_set 0 sc_law_row.nd (re_bin op_fdivW os_div (re_var 0) (re_int)))))) (rs_cons (rs_while PassesOwn.never (rt_cmp (op_eqD (room64 hr)) os_eq (nomark _) (re_ix (re_var 1) (re_int)) (re_int)) (rs_one (rs_popD 1 (re_int)))) (rs_one (rs_ret (re_t1 call_tuple_of cs_tuple (by rfl) T.z_tuple PyProof.Rows.boot_tuple (re_rev (re_var 1)))))))
set_option maxRecDepth 100000 in
theorem ok_law_smooth (F : Fun K "_law_smooth" "_law_smooth" s_law_smooth f fd) (T : Txt P w K mg base cn) (c_law_next : Cl0 P w K mg base cn 1 "_law_next" sp_law_next) : FnOk P w K mg base CX0 2 f fd ["_law_d"] (LSp0 K cn sp_law_smooth) :=
  fn_ok0 F sc_law_smooth (by intro xs g Qu Qx h; first | (refine Or.elim h (fun h => ?_) (fun h => ?_) <;> first | (refine Or.elim h (fun h => ?_) (fun h => ?_) <;> first | (obtain ⟨rfl, _⟩ := h; rfl) | (obtain ⟨_, rfl, _⟩ := h; rfl) | (obtain ⟨_, _, rfl, _⟩ := h; rfl) | (obtain ⟨_, _, _, rfl, _⟩ := h; rfl) | (obtain ⟨_, _, _, _, rfl, _⟩ := h; rfl) | (obtain ⟨_, _, _, _, _, rfl, _⟩ := h; rfl) | (obtain ⟨_, _, _, _, _, _, rfl, _⟩ := h; rfl) | (obtain ⟨_, _, _, _, _, _, _, rfl, _⟩ := h; rfl) | (obtain ⟨_, _, _, _, _, _, _, _, rfl, _⟩ := h; rfl) | (obtain ⟨_, _, _, _, _, _, _, _, _, rfl, _⟩ := h; rfl)) | (obtain ⟨rfl, _⟩ := h; rfl) | (obtain ⟨_, rfl, _⟩ := h; rfl) | (obtain ⟨_, _, rfl, _⟩ := h; rfl) | (obtain ⟨_, _, _, rfl, _⟩ := h; rfl) | (obtain ⟨_, _, _, _, rfl, _⟩ := h; rfl) | (obtain ⟨_, _, _, _, _, rfl, _⟩ := h; rfl) | (obtain ⟨_, _, _, _, _, _, rfl, _⟩ := h; rfl) | (obtain ⟨_, _, _, _, _, _, _, rfl, _⟩ := h; rfl) | (obtain ⟨_, _, _, _, _, _, _, _, rfl, _⟩ := h; rfl) | (obtain ⟨_, _, _, _, _, _, _, _, _, rfl, _⟩ := h; rfl)) | (obtain ⟨rfl, _⟩ := h; rfl) | (obtain ⟨_, rfl, _⟩ := h; rfl) | (obtain ⟨_, _, rfl, _⟩ := h; rfl) | (obtain ⟨_, _, _, rfl, _⟩ := h; rfl) | (obtain ⟨_, _, _, _, rfl, _⟩ := h; rfl) | (obtain ⟨_, _, _, _, _, rfl, _⟩ := h; rfl) | (obtain ⟨_, _, _, _, _, _, rfl, _⟩ := h; rfl) | (obtain ⟨_, _, _, _, _, _, _, rfl, _⟩ := h; rfl) | (obtain ⟨_, _, _, _, _, _, _, _, rfl, _⟩ := h; rfl) | (obtain ⟨_, _, _, _, _, _, _, _, _, rfl, _⟩ := h; rfl)) t_law_smooth fun cdv A outer s H E hr =>
  rs_cons (rs_set 1 sc_law_smooth.nd (re_int)) (rs_cons (rs_for PassesOwn.never rfl (ri_seq (re_lst (ra_cons (re_int) (ra_cons (re_int) (ra_cons (re_int) (ra_nil)))))) (pg_name (i := 2) sc_law_smooth.nd rfl (by first | exact Or.inl rfl | exact Or.inr rfl)) (tg_n 2) (rs_one (rs_for PassesOwn.never rfl (ri_r1 (by rfl) T.z_range (ra_cons (re_ix (re_lst (ra_cons (re_call0 c_law_next (hr.mono (by first | decide | omega)) (by rfl) (ra_cons (re_var 0) (ra_cons (re_int) (ra_nil)))) (ra_cons (re_call0 c_law_next (hr.mono (by first | decide | omega)) (by rfl) (ra_cons (re_var 0) (ra_cons (re_int) (ra_nil)))) (ra_nil)))) (re_t1 call_intU cs_int (by rfl) T.z_int PyProof.Rows.boot_int (re_cmp (op_eqD (room64 hr)) os_eq (nomark _) (re_call0 c_law_next (hr.mono (by first | decide | omega)) (by rfl) (ra_cons (re_var 0) (ra_cons (re_int) (ra_nil)))) (re_int)))) (ra_nil))) (pg_name (i := 3) sc_law_smooth.nd rfl (by first | exact Or.inl rfl | exact Or.inr rfl)) (tg_n 3) (rs_one (rs_set 1 sc_law_smooth.nd (re_bin op_mulU os_mul (re_var 1) (re_var 2))))))) (rs_one (rs_ret (re_var 1))))
set_option maxRecDepth 100000 in
theorem ok_law_drawn (F : Fun K "_law_drawn" "_law_drawn" s_law_drawn f fd) (T : Txt P w K mg base cn) (c_law_next : Cl0 P w K mg base cn 1 "_law_next" sp_law_next) (c_law_row : Cl0 P w K mg base cn 1 "_law_row" sp_law_row) (c_law_smooth : Cl0 P w K mg base cn 2 "_law_smooth" sp_law_smooth) : FnOk P w K mg base CX0 3 f fd ["_law_d", "_law_most"] (LSp0 K cn sp_law_drawn) :=
  fn_ok0 F sc_law_drawn (by intro xs g Qu Qx h; first | (refine Or.elim h (fun h => ?_) (fun h => ?_) <;> first | (refine Or.elim h (fun h => ?_) (fun h => ?_) <;> first | (obtain ⟨rfl, _⟩ := h; rfl) | (obtain ⟨_, rfl, _⟩ := h; rfl) | (obtain ⟨_, _, rfl, _⟩ := h; rfl) | (obtain ⟨_, _, _, rfl, _⟩ := h; rfl) | (obtain ⟨_, _, _, _, rfl, _⟩ := h; rfl) | (obtain ⟨_, _, _, _, _, rfl, _⟩ := h; rfl) | (obtain ⟨_, _, _, _, _, _, rfl, _⟩ := h; rfl) | (obtain ⟨_, _, _, _, _, _, _, rfl, _⟩ := h; rfl) | (obtain ⟨_, _, _, _, _, _, _, _, rfl, _⟩ := h; rfl) | (obtain ⟨_, _, _, _, _, _, _, _, _, rfl, _⟩ := h; rfl)) | (obtain ⟨rfl, _⟩ := h; rfl) | (obtain ⟨_, rfl, _⟩ := h; rfl) | (obtain ⟨_, _, rfl, _⟩ := h; rfl) | (obtain ⟨_, _, _, rfl, _⟩ := h; rfl) | (obtain ⟨_, _, _, _, rfl, _⟩ := h; rfl) | (obtain ⟨_, _, _, _, _, rfl, _⟩ := h; rfl) | (obtain ⟨_, _, _, _, _, _, rfl, _⟩ := h; rfl) | (obtain ⟨_, _, _, _, _, _, _, rfl, _⟩ := h; rfl) | (obtain ⟨_, _, _, _, _, _, _, _, rfl, _⟩ := h; rfl) | (obtain ⟨_, _, _, _, _, _, _, _, _, rfl, _⟩ := h; rfl)) | (obtain ⟨rfl, _⟩ := h; rfl) | (obtain ⟨_, rfl, _⟩ := h; rfl) | (obtain ⟨_, _, rfl, _⟩ := h; rfl) | (obtain ⟨_, _, _, rfl, _⟩ := h; rfl) | (obtain ⟨_, _, _, _, rfl, _⟩ := h; rfl) | (obtain ⟨_, _, _, _, _, rfl, _⟩ := h; rfl) | (obtain ⟨_, _, _, _, _, _, rfl, _⟩ := h; rfl) | (obtain ⟨_, _, _, _, _, _, _, rfl, _⟩ := h; rfl) | (obtain ⟨_, _, _, _, _, _, _, _, rfl, _⟩ := h; rfl) | (obtain ⟨_, _, _, _, _, _, _, _, _, rfl, _⟩ := h; rfl)) t_law_drawn fun cdv A outer s H E hr =>
  rs_cons (rs_set 2 sc_law_drawn.nd (re_call0 c_law_next (hr.mono (by first | decide | omega)) (by rfl) (ra_cons (re_var 0) (ra_cons (re_int) (ra_nil))))) (rs_cons (rs_if (rt_cmp (op_eqD (room64 hr)) os_eq (nomark _) (re_var 2) (re_int)) (rs_one (rs_ret (re_call0 c_law_row (hr.mono (by first | decide | omega)) (by rfl) (ra_cons (re_bin op_addU os_add (re_int) (re_call0 c_law_next (hr.mono (by first | decide | omega)) (by rfl) (ra_cons (re_var 0) (ra_cons (re_int) (ra_nil))))) (ra_nil))))) (rs_nil)) (rs_cons (rs_if (rt_cmp op_lt os_cmp (nomark _) (re_var 2) (re_int)) (rs_one (rs_set 3 sc_law_drawn.nd (re_call0 c_law_row (hr.mono (by first | decide | omega)) (by rfl) (ra_cons (re_bin op_mulU os_mul (re_call0 c_law_smooth (hr.mono (by first | decide | omega)) (by rfl) (ra_cons (re_var 0) (ra_nil))) (re_ix (re_lst (ra_cons (re_int) (ra_cons (re_int) (ra_cons (re_int) (ra_cons (re_int) (ra_cons (re_int) (ra_cons (re_int) (ra_nil)))))))) (re_call0 c_law_next (hr.mono (by first | decide | omega)) (by rfl) (ra_cons (re_var 0) (ra_cons (re_int) (ra_nil)))))) (ra_nil))))) (rs_cons (rs_setLc 4 rfl sc_law_drawn.nd (own := [("_law_k", 5)]) (ri_r1 (by rfl) T.z_range (ra_cons (re_bin op_addU os_add (re_int) (re_call0 c_law_next (hr.mono (by first | decide | omega)) (by rfl) (ra_cons (re_var 0) (ra_cons (re_var 1) (ra_nil))))) (ra_nil))) (blkOk_by (own := [("_law_k", 5)]) (N := N_law_drawn) (sc := defScope s_law_drawn) (by decide +kernel)) (tg_n 5) (by decide) (fun _ _ _ _ _ => pg_name (i := 5) sc_law_drawn.nd rfl (by first | exact Or.inl rfl | exact Or.inr rfl)) (fun _ _ _ _ _ => rts_nil) (fun _ _ _ _ _ => re_call0 c_law_next (hr.mono (by first | decide | omega)) (by rfl) (ra_cons (re_var 0) (ra_cons (re_int) (ra_nil))))) (rs_one (rs_set 3 sc_law_drawn.nd (re_bin op_addU os_add (re_bin op_addU os_add (re_tup (ra_cons (re_bin op_addU os_add (re_int) (re_call0 c_law_next (hr.mono (by first | decide | omega)) (by rfl) (ra_cons (re_var 0) (ra_cons (re_int) (ra_nil))))) (ra_nil))) (re_t1 call_tuple_of cs_tuple (by rfl) T.z_tuple PyProof.Rows.boot_tuple (re_var 4))) (re_tup (ra_cons (re_bin op_addU os_add (re_int) (re_call0 c_law_next (hr.mono (by first | decide | omega)) (by rfl) (ra_cons (re_var 0) (ra_cons (re_int) (ra_nil))))) (ra_nil)))))))) (rs_one (rs_ret (re_if (rt_cmp op_gt os_cmp (nomark _) (re_ix (re_sl (re_var 3) (ro_none) (ro_some (re_var 1))) (re_neg (re_int))) (re_int)) (re_sl (re_var 3) (ro_none) (ro_some (re_var 1))) (re_tup (ra_cons (re_int) (ra_cons (re_int) (ra_nil)))))))))
set_option maxRecDepth 100000 in
theorem okQ_law_left (F : Fun K "_law_left" "_law_left" s_law_left f fd) (T : Txt P w K mg base cn) : FnHq P w K mg base CX0 1 f fd ["_law_number"] (fun _ => LSp0 K cn sp_law_left) :=
  fn_okHq F sc_law_left (fun _ => (by intro xs g Qu Qx h; first | (refine Or.elim h (fun h => ?_) (fun h => ?_) <;> first | (refine Or.elim h (fun h => ?_) (fun h => ?_) <;> first | (obtain ⟨rfl, _⟩ := h; rfl) | (obtain ⟨_, rfl, _⟩ := h; rfl) | (obtain ⟨_, _, rfl, _⟩ := h; rfl) | (obtain ⟨_, _, _, rfl, _⟩ := h; rfl) | (obtain ⟨_, _, _, _, rfl, _⟩ := h; rfl) | (obtain ⟨_, _, _, _, _, rfl, _⟩ := h; rfl) | (obtain ⟨_, _, _, _, _, _, rfl, _⟩ := h; rfl) | (obtain ⟨_, _, _, _, _, _, _, rfl, _⟩ := h; rfl) | (obtain ⟨_, _, _, _, _, _, _, _, rfl, _⟩ := h; rfl) | (obtain ⟨_, _, _, _, _, _, _, _, _, rfl, _⟩ := h; rfl)) | (obtain ⟨rfl, _⟩ := h; rfl) | (obtain ⟨_, rfl, _⟩ := h; rfl) | (obtain ⟨_, _, rfl, _⟩ := h; rfl) | (obtain ⟨_, _, _, rfl, _⟩ := h; rfl) | (obtain ⟨_, _, _, _, rfl, _⟩ := h; rfl) | (obtain ⟨_, _, _, _, _, rfl, _⟩ := h; rfl) | (obtain ⟨_, _, _, _, _, _, rfl, _⟩ := h; rfl) | (obtain ⟨_, _, _, _, _, _, _, rfl, _⟩ := h; rfl) | (obtain ⟨_, _, _, _, _, _, _, _, rfl, _⟩ := h; rfl) | (obtain ⟨_, _, _, _, _, _, _, _, _, rfl, _⟩ := h; rfl)) | (obtain ⟨rfl, _⟩ := h; rfl) | (obtain ⟨_, rfl, _⟩ := h; rfl) | (obtain ⟨_, _, rfl, _⟩ := h; rfl) | (obtain ⟨_, _, _, rfl, _⟩ := h; rfl) | (obtain ⟨_, _, _, _, rfl, _⟩ := h; rfl) | (obtain ⟨_, _, _, _, _, rfl, _⟩ := h; rfl) | (obtain ⟨_, _, _, _, _, _, rfl, _⟩ := h; rfl) | (obtain ⟨_, _, _, _, _, _, _, rfl, _⟩ := h; rfl) | (obtain ⟨_, _, _, _, _, _, _, _, rfl, _⟩ := h; rfl) | (obtain ⟨_, _, _, _, _, _, _, _, _, rfl, _⟩ := h; rfl))) fun cdv A outer s H E p qs hot hr xs g Qu Qx h =>
    ⟨wSeq (wFor (wItL (wLst (wCons (wC (.int 2)) (wCons (wC (.int 3)) (wCons (wC (.int 5)) (wNil)))))) (gN 1) (wWhile (wT (wBin eqU (wBin modU (wVar 0) (wVar 1)) (wC (.int 0)))) (wSet 0 (wBin divU (wVar 0) (wVar 1))))) (wRet (wVar 0)), t_law_left xs g Qu Qx h, rs_cons (rs_forQ PassesOwn.never ⟨p, hot.1, hot.2, hot.3⟩ (riq_list (re_lst (ra_cons (re_int) (ra_cons (re_int) (ra_cons (re_int) (ra_nil)))))) (pg_name (i := 1) sc_law_left.nd rfl (by first | exact Or.inl rfl | exact Or.inr rfl)) (tg_n 1) (rs_one (rs_while PassesOwn.never (rt_cmp (op_eqD (room64H hr)) os_eq (nomark _) (re_bin op_mod os_mod (re_var 0) (re_var 1)) (re_int)) (rs_one (rs_set 0 sc_law_left.nd (re_bin op_fdivW os_div (re_var 0) (re_var 1))))))) (rs_one (rs_ret (re_var 0)))⟩
set_option maxRecDepth 100000 in
theorem ok_law_left (F : Fun K "_law_left" "_law_left" s_law_left f fd) (T : Txt P w K mg base cn)  : FnOk P w K mg base CX0 1 f fd ["_law_number"] (LSp0 K cn sp_law_left) :=
  fn_ok0 F sc_law_left (by intro xs g Qu Qx h; first | (refine Or.elim h (fun h => ?_) (fun h => ?_) <;> first | (refine Or.elim h (fun h => ?_) (fun h => ?_) <;> first | (obtain ⟨rfl, _⟩ := h; rfl) | (obtain ⟨_, rfl, _⟩ := h; rfl) | (obtain ⟨_, _, rfl, _⟩ := h; rfl) | (obtain ⟨_, _, _, rfl, _⟩ := h; rfl) | (obtain ⟨_, _, _, _, rfl, _⟩ := h; rfl) | (obtain ⟨_, _, _, _, _, rfl, _⟩ := h; rfl) | (obtain ⟨_, _, _, _, _, _, rfl, _⟩ := h; rfl) | (obtain ⟨_, _, _, _, _, _, _, rfl, _⟩ := h; rfl) | (obtain ⟨_, _, _, _, _, _, _, _, rfl, _⟩ := h; rfl) | (obtain ⟨_, _, _, _, _, _, _, _, _, rfl, _⟩ := h; rfl)) | (obtain ⟨rfl, _⟩ := h; rfl) | (obtain ⟨_, rfl, _⟩ := h; rfl) | (obtain ⟨_, _, rfl, _⟩ := h; rfl) | (obtain ⟨_, _, _, rfl, _⟩ := h; rfl) | (obtain ⟨_, _, _, _, rfl, _⟩ := h; rfl) | (obtain ⟨_, _, _, _, _, rfl, _⟩ := h; rfl) | (obtain ⟨_, _, _, _, _, _, rfl, _⟩ := h; rfl) | (obtain ⟨_, _, _, _, _, _, _, rfl, _⟩ := h; rfl) | (obtain ⟨_, _, _, _, _, _, _, _, rfl, _⟩ := h; rfl) | (obtain ⟨_, _, _, _, _, _, _, _, _, rfl, _⟩ := h; rfl)) | (obtain ⟨rfl, _⟩ := h; rfl) | (obtain ⟨_, rfl, _⟩ := h; rfl) | (obtain ⟨_, _, rfl, _⟩ := h; rfl) | (obtain ⟨_, _, _, rfl, _⟩ := h; rfl) | (obtain ⟨_, _, _, _, rfl, _⟩ := h; rfl) | (obtain ⟨_, _, _, _, _, rfl, _⟩ := h; rfl) | (obtain ⟨_, _, _, _, _, _, rfl, _⟩ := h; rfl) | (obtain ⟨_, _, _, _, _, _, _, rfl, _⟩ := h; rfl) | (obtain ⟨_, _, _, _, _, _, _, _, rfl, _⟩ := h; rfl) | (obtain ⟨_, _, _, _, _, _, _, _, _, rfl, _⟩ := h; rfl)) t_law_left fun cdv A outer s H E hr =>
  rs_cons (rs_for PassesOwn.never rfl (ri_seq (re_lst (ra_cons (re_int) (ra_cons (re_int) (ra_cons (re_int) (ra_nil)))))) (pg_name (i := 1) sc_law_left.nd rfl (by first | exact Or.inl rfl | exact Or.inr rfl)) (tg_n 1) (rs_one (rs_while PassesOwn.never (rt_cmp (op_eqD (room64 hr)) os_eq (nomark _) (re_bin op_mod os_mod (re_var 0) (re_var 1)) (re_int)) (rs_one (rs_set 0 sc_law_left.nd (re_bin op_fdivW os_div (re_var 0) (re_var 1))))))) (rs_one (rs_ret (re_var 0)))
set_option maxRecDepth 100000 in
theorem ok_law_is (F : Fun K "_law_is" "_law_is" s_law_is f fd) (T : Txt P w K mg base cn) : FnHp P w K mg base CX0 1 f fd ["_law_e", "_law_word"] (fun p => LSp0 K cn (sp_law_is cn R_is p)) :=
  fn_okH F sc_law_is (fun p xs g Qu Qx h => by obtain ⟨_, _, _, rfl, _⟩ := h; rfl) fun cdv A outer s H E p hot hr xs g Qu Qx h => by
    obtain ⟨dd, x, w, rfl, hE, hR, hw, hq⟩ := h
    obtain ⟨C_BadRow, h_BadRow⟩ := T.IS.y "BadRow" (by decide)
    obtain ⟨C_NotTurned, h_NotTurned⟩ := T.IS.y "NotTurned" (by decide)
    obtain ⟨C_NoSide, h_NoSide⟩ := T.IS.y "NoSide" (by decide)
    obtain ⟨C_BadStep, h_BadStep⟩ := T.IS.y "BadStep" (by decide)
    obtain ⟨C_BadText, h_BadText⟩ := T.IS.y "BadText" (by decide)
    exact ⟨m_law_is p.1 dd x, t_law_is hw hq, rs_cons (rs_set 2 sc_law_is.nd (re_lst (ra_cons (re_isX List.mem_cons_self hE (fun C hC => ⟨T.IS.e _ hR C hC, h_BadRow.2 _ hR C hC⟩) (by rfl) T.z_isinstance (re_var 0) (pe_glob (v := .ref C_BadRow) (by rfl) h_BadRow.1 rfl) (fun u r => r)) (ra_cons (re_isX List.mem_cons_self hE (fun C hC => ⟨T.IS.e _ hR C hC, h_NotTurned.2 _ hR C hC⟩) (by rfl) T.z_isinstance (re_var 0) (pe_glob (v := .ref C_NotTurned) (by rfl) h_NotTurned.1 rfl) (fun u r => r)) (ra_cons (re_isX List.mem_cons_self hE (fun C hC => ⟨T.IS.e _ hR C hC, h_NoSide.2 _ hR C hC⟩) (by rfl) T.z_isinstance (re_var 0) (pe_glob (v := .ref C_NoSide) (by rfl) h_NoSide.1 rfl) (fun u r => r)) (ra_cons (re_isX List.mem_cons_self hE (fun C hC => ⟨T.IS.e _ hR C hC, h_BadStep.2 _ hR C hC⟩) (by rfl) T.z_isinstance (re_var 0) (pe_glob (v := .ref C_BadStep) (by rfl) h_BadStep.1 rfl) (fun u r => r)) (ra_nil))))))) (rs_cons (rs_set 2 sc_law_is.nd (re_bin op_addU os_add (re_var 2) (re_lst (ra_cons (re_isX List.mem_cons_self hE (fun C hC => ⟨T.IS.e _ hR C hC, h_BadText.2 _ hR C hC⟩) (by rfl) T.z_isinstance (re_var 0) (pe_glob (v := .ref C_BadText) (by rfl) h_BadText.1 rfl) (fun u r => r)) (ra_nil))))) (rs_cons (rs_set 3 sc_law_is.nd (re_lst (ra_cons (re_str) (ra_cons (re_str) (ra_cons (re_str) (ra_cons (re_str) (ra_cons (re_str) (ra_nil)))))))) (rs_one (rs_ret (re_and (re_isX List.mem_cons_self hE (fun C hC => ⟨T.IS.e _ hR C hC, T.IS.v _ hR C hC⟩) (by rfl) T.z_isinstance (re_var 0) (pe_bltn (v := .ty "ValueError") (by rfl) T.z_ValueError boot_VE rfl) (fun u r => r)) (re_one (re_cmp (op_eqD (room64H hr)) os_eq (nomark _) (re_var 2) (re_lcH ⟨p, hot, List.mem_cons_self⟩ sc_law_is.nd (own := [("_law_one", 4)]) (rih_list (re_var 3)) (blkOk_by (own := [("_law_one", 4)]) (N := N_law_is) (sc := defScope s_law_is) (by decide +kernel)) (tg_n 4) (by decide) (fun _ _ _ _ _ _ => pg_name (i := 4) sc_law_is.nd rfl (by first | exact Or.inl rfl | exact Or.inr rfl)) (fun _ _ _ _ _ _ => rts_nil) (fun _ _ _ _ _ _ => re_cmp (op_eqD (room64H hr)) os_eq (nomark _) (re_var 1) (re_var 4))))))))))⟩
set_option maxRecDepth 100000 in
theorem okQ_law_like (F : Fun K "_law_like" "_law_like" s_law_like f fd) (T : Txt P w K mg base cn) (hmg : mg "_law_like" = some (.ref f)) (hkp : PySem.W.keepIn K (.ref f) = true) (hbn : Binds K fd ["_law_found", "_law_due"] []) : ∀ n : Nat, FnHq P w K mg base CX0 (n + 1) f fd ["_law_found", "_law_due"] (fun _ => LSp0 K cn (sp_law_like_n n))
  | 0 => FnHq.no
  | n + 1 => fn_okHq F sc_law_like (fun _ => (by intro xs g Qu Qx h; first | (refine Or.elim h (fun h => ?_) (fun h => ?_) <;> first | (refine Or.elim h (fun h => ?_) (fun h => ?_) <;> first | (obtain ⟨rfl, _⟩ := h; rfl) | (obtain ⟨_, rfl, _⟩ := h; rfl) | (obtain ⟨_, _, rfl, _⟩ := h; rfl) | (obtain ⟨_, _, _, rfl, _⟩ := h; rfl) | (obtain ⟨_, _, _, _, rfl, _⟩ := h; rfl) | (obtain ⟨_, _, _, _, _, rfl, _⟩ := h; rfl) | (obtain ⟨_, _, _, _, _, _, rfl, _⟩ := h; rfl) | (obtain ⟨_, _, _, _, _, _, _, rfl, _⟩ := h; rfl) | (obtain ⟨_, _, _, _, _, _, _, _, rfl, _⟩ := h; rfl) | (obtain ⟨_, _, _, _, _, _, _, _, _, rfl, _⟩ := h; rfl)) | (obtain ⟨rfl, _⟩ := h; rfl) | (obtain ⟨_, rfl, _⟩ := h; rfl) | (obtain ⟨_, _, rfl, _⟩ := h; rfl) | (obtain ⟨_, _, _, rfl, _⟩ := h; rfl) | (obtain ⟨_, _, _, _, rfl, _⟩ := h; rfl) | (obtain ⟨_, _, _, _, _, rfl, _⟩ := h; rfl) | (obtain ⟨_, _, _, _, _, _, rfl, _⟩ := h; rfl) | (obtain ⟨_, _, _, _, _, _, _, rfl, _⟩ := h; rfl) | (obtain ⟨_, _, _, _, _, _, _, _, rfl, _⟩ := h; rfl) | (obtain ⟨_, _, _, _, _, _, _, _, _, rfl, _⟩ := h; rfl)) | (obtain ⟨rfl, _⟩ := h; rfl) | (obtain ⟨_, rfl, _⟩ := h; rfl) | (obtain ⟨_, _, rfl, _⟩ := h; rfl) | (obtain ⟨_, _, _, rfl, _⟩ := h; rfl) | (obtain ⟨_, _, _, _, rfl, _⟩ := h; rfl) | (obtain ⟨_, _, _, _, _, rfl, _⟩ := h; rfl) | (obtain ⟨_, _, _, _, _, _, rfl, _⟩ := h; rfl) | (obtain ⟨_, _, _, _, _, _, _, rfl, _⟩ := h; rfl) | (obtain ⟨_, _, _, _, _, _, _, _, rfl, _⟩ := h; rfl) | (obtain ⟨_, _, _, _, _, _, _, _, _, rfl, _⟩ := h; rfl))) fun cdv A outer s H E p qs hot hr xs g Qu Qx h =>
    have c_self : ClHq P w K mg base cn (n + 1) "_law_like" (fun _ => sp_law_like_n n) := ⟨f, fd, _, okQ_law_like F T hmg hkp hbn n, hmg, hkp, hbn⟩
    ⟨m_law_like (sp_law_like_n n), t_law_like n xs g Qu Qx h, rs_cons (rs_if (rt_val (re_bn call_isi ca_isi (by rfl) T.z_isinstance PyProof.Rows.boot_isinstance (ra_cons (re_var 1) (ra_cons (re_bltn (v := .ty "str") (by rfl) T.z_str PyProof.Rows.boot_str rfl (fun _ => Rp.ty _)) (ra_nil))))) (rs_one (rs_ret (re_and (re_bn call_isi ca_isi (by rfl) T.z_isinstance PyProof.Rows.boot_isinstance (ra_cons (re_var 0) (ra_cons (re_bltn (v := .ty "str") (by rfl) T.z_str PyProof.Rows.boot_str rfl (fun _ => Rp.ty _)) (ra_nil)))) (re_one (re_cmp (op_eqD (room64H hr)) os_eq (nomark _) (re_var 0) (re_var 1)))))) (rs_nil)) (rs_cons (rs_if (rt_val (re_bn call_isi ca_isi (by rfl) T.z_isinstance PyProof.Rows.boot_isinstance (ra_cons (re_var 1) (ra_cons (re_bltn (v := .ty "int") (by rfl) T.z_int PyProof.Rows.boot_int rfl (fun _ => Rp.ty _)) (ra_nil))))) (rs_one (rs_ret (re_and (re_bn call_isi ca_isi (by rfl) T.z_isinstance PyProof.Rows.boot_isinstance (ra_cons (re_var 0) (ra_cons (re_bltn (v := .ty "int") (by rfl) T.z_int PyProof.Rows.boot_int rfl (fun _ => Rp.ty _)) (ra_nil)))) (re_and (re_not (re_bn call_isi ca_isi (by rfl) T.z_isinstance PyProof.Rows.boot_isinstance (ra_cons (re_var 0) (ra_cons (re_bltn (v := .ty "bool") (by rfl) T.z_bool PyProof.Rows.boot_bool rfl (fun _ => Rp.ty _)) (ra_nil))))) (re_one (re_cmp (op_eqD (room64H hr)) os_eq (nomark _) (re_var 0) (re_var 1))))))) (rs_nil)) (rs_cons (rs_if (rt_cmp op_isN os_is (nomark _) (re_var 1) (re_non)) (rs_one (rs_ret (re_cmp op_isN os_is (nomark _) (re_var 0) (re_non)))) (rs_nil)) (rs_cons (rs_if (rt_w (rw_or (rt_cmp (op_neD (room64H hr)) os_ne (nomark _) (re_bn call_isi ca_isi (by rfl) T.z_isinstance PyProof.Rows.boot_isinstance (ra_cons (re_var 1) (ra_cons (re_bltn (v := .ty "tuple") (by rfl) T.z_tuple PyProof.Rows.boot_tuple rfl (fun _ => Rp.ty _)) (ra_nil)))) (re_bn call_isi ca_isi (by rfl) T.z_isinstance PyProof.Rows.boot_isinstance (ra_cons (re_var 0) (ra_cons (re_bltn (v := .ty "tuple") (by rfl) T.z_tuple PyProof.Rows.boot_tuple rfl (fun _ => Rp.ty _)) (ra_nil))))) (rw_or1 (rt_cmp (op_neD (room64H hr)) os_ne (nomark _) (re_bn call_isi ca_isi (by rfl) T.z_isinstance PyProof.Rows.boot_isinstance (ra_cons (re_var 1) (ra_cons (re_bltn (v := .ty "list") (by rfl) T.z_list PyProof.Rows.boot_list rfl (fun _ => Rp.ty _)) (ra_nil)))) (re_bn call_isi ca_isi (by rfl) T.z_isinstance PyProof.Rows.boot_isinstance (ra_cons (re_var 0) (ra_cons (re_bltn (v := .ty "list") (by rfl) T.z_list PyProof.Rows.boot_list rfl (fun _ => Rp.ty _)) (ra_nil)))))))) (rs_one (rs_ret (re_bl))) (rs_nil)) (rs_cons (rs_if (rt_cmp (op_neD (room64H hr)) os_ne (nomark _) (re_b1 call_len cs_len (by rfl) T.z_len PySem.boot_len (re_var 0)) (re_b1 call_len cs_len (by rfl) T.z_len PySem.boot_len (re_var 1))) (rs_one (rs_ret (re_bl))) (rs_nil)) (rs_cons (rs_forQ PassesOwn.never ⟨p, hot.1, hot.2, hot.3⟩ (riq_r1 (by rfl) T.z_range (ra_cons (re_b1 call_len cs_len (by rfl) T.z_len PySem.boot_len (re_var 1)) (ra_nil))) (pg_name (i := 2) sc_law_like.nd rfl (by first | exact Or.inl rfl | exact Or.inr rfl)) (tg_n 2) (rs_one (rs_if (rt_not (rt_val (re_callQ c_self (by intro xs g Q X h; cases n <;> exact h) (hr.mono (by first | decide | omega)) ⟨hot.1, hot.2, hot.3⟩ ⟨qs, rfl⟩ (by rfl) (ra_cons (re_ix (re_var 0) (re_var 2)) (ra_cons (re_ix (re_var 1) (re_var 2)) (ra_nil)))))) (rs_one (rs_ret (re_bl))) (rs_nil)))) (rs_one (rs_ret (re_bl))))))))⟩
set_option maxRecDepth 100000 in
theorem ok_law_like (F : Fun K "_law_like" "_law_like" s_law_like f fd) (T : Txt P w K mg base cn) (hmg : mg "_law_like" = some (.ref f)) (hkp : PySem.W.keepIn K (.ref f) = true) (hbn : Binds K fd ["_law_found", "_law_due"] [])  : ∀ n : Nat, FnOk P w K mg base CX0 (n + 1) f fd ["_law_found", "_law_due"] (LSp0 K cn (sp_law_like_n n))
  | 0 => FnOk.no
  | n + 1 => fn_ok0 F sc_law_like (by intro xs g Qu Qx h; first | (refine Or.elim h (fun h => ?_) (fun h => ?_) <;> first | (refine Or.elim h (fun h => ?_) (fun h => ?_) <;> first | (obtain ⟨rfl, _⟩ := h; rfl) | (obtain ⟨_, rfl, _⟩ := h; rfl) | (obtain ⟨_, _, rfl, _⟩ := h; rfl) | (obtain ⟨_, _, _, rfl, _⟩ := h; rfl) | (obtain ⟨_, _, _, _, rfl, _⟩ := h; rfl) | (obtain ⟨_, _, _, _, _, rfl, _⟩ := h; rfl) | (obtain ⟨_, _, _, _, _, _, rfl, _⟩ := h; rfl) | (obtain ⟨_, _, _, _, _, _, _, rfl, _⟩ := h; rfl) | (obtain ⟨_, _, _, _, _, _, _, _, rfl, _⟩ := h; rfl) | (obtain ⟨_, _, _, _, _, _, _, _, _, rfl, _⟩ := h; rfl)) | (obtain ⟨rfl, _⟩ := h; rfl) | (obtain ⟨_, rfl, _⟩ := h; rfl) | (obtain ⟨_, _, rfl, _⟩ := h; rfl) | (obtain ⟨_, _, _, rfl, _⟩ := h; rfl) | (obtain ⟨_, _, _, _, rfl, _⟩ := h; rfl) | (obtain ⟨_, _, _, _, _, rfl, _⟩ := h; rfl) | (obtain ⟨_, _, _, _, _, _, rfl, _⟩ := h; rfl) | (obtain ⟨_, _, _, _, _, _, _, rfl, _⟩ := h; rfl) | (obtain ⟨_, _, _, _, _, _, _, _, rfl, _⟩ := h; rfl) | (obtain ⟨_, _, _, _, _, _, _, _, _, rfl, _⟩ := h; rfl)) | (obtain ⟨rfl, _⟩ := h; rfl) | (obtain ⟨_, rfl, _⟩ := h; rfl) | (obtain ⟨_, _, rfl, _⟩ := h; rfl) | (obtain ⟨_, _, _, rfl, _⟩ := h; rfl) | (obtain ⟨_, _, _, _, rfl, _⟩ := h; rfl) | (obtain ⟨_, _, _, _, _, rfl, _⟩ := h; rfl) | (obtain ⟨_, _, _, _, _, _, rfl, _⟩ := h; rfl) | (obtain ⟨_, _, _, _, _, _, _, rfl, _⟩ := h; rfl) | (obtain ⟨_, _, _, _, _, _, _, _, rfl, _⟩ := h; rfl) | (obtain ⟨_, _, _, _, _, _, _, _, _, rfl, _⟩ := h; rfl)) (t_law_like n) fun cdv A outer s H E hr =>
    have c_self : Cl0 P w K mg base cn (n + 1) "_law_like" (sp_law_like_n n) := ⟨f, fd, _, ok_law_like F T hmg hkp hbn  n, hmg, hkp, hbn⟩
  rs_cons (rs_if (rt_val (re_bn call_isi ca_isi (by rfl) T.z_isinstance PyProof.Rows.boot_isinstance (ra_cons (re_var 1) (ra_cons (re_bltn (v := .ty "str") (by rfl) T.z_str PyProof.Rows.boot_str rfl (fun _ => Rp.ty _)) (ra_nil))))) (rs_one (rs_ret (re_and (re_bn call_isi ca_isi (by rfl) T.z_isinstance PyProof.Rows.boot_isinstance (ra_cons (re_var 0) (ra_cons (re_bltn (v := .ty "str") (by rfl) T.z_str PyProof.Rows.boot_str rfl (fun _ => Rp.ty _)) (ra_nil)))) (re_one (re_cmp (op_eqD (room64 hr)) os_eq (nomark _) (re_var 0) (re_var 1)))))) (rs_nil)) (rs_cons (rs_if (rt_val (re_bn call_isi ca_isi (by rfl) T.z_isinstance PyProof.Rows.boot_isinstance (ra_cons (re_var 1) (ra_cons (re_bltn (v := .ty "int") (by rfl) T.z_int PyProof.Rows.boot_int rfl (fun _ => Rp.ty _)) (ra_nil))))) (rs_one (rs_ret (re_and (re_bn call_isi ca_isi (by rfl) T.z_isinstance PyProof.Rows.boot_isinstance (ra_cons (re_var 0) (ra_cons (re_bltn (v := .ty "int") (by rfl) T.z_int PyProof.Rows.boot_int rfl (fun _ => Rp.ty _)) (ra_nil)))) (re_and (re_not (re_bn call_isi ca_isi (by rfl) T.z_isinstance PyProof.Rows.boot_isinstance (ra_cons (re_var 0) (ra_cons (re_bltn (v := .ty "bool") (by rfl) T.z_bool PyProof.Rows.boot_bool rfl (fun _ => Rp.ty _)) (ra_nil))))) (re_one (re_cmp (op_eqD (room64 hr)) os_eq (nomark _) (re_var 0) (re_var 1))))))) (rs_nil)) (rs_cons (rs_if (rt_cmp op_isN os_is (nomark _) (re_var 1) (re_non)) (rs_one (rs_ret (re_cmp op_isN os_is (nomark _) (re_var 0) (re_non)))) (rs_nil)) (rs_cons (rs_if (rt_w (rw_or (rt_cmp (op_neD (room64 hr)) os_ne (nomark _) (re_bn call_isi ca_isi (by rfl) T.z_isinstance PyProof.Rows.boot_isinstance (ra_cons (re_var 1) (ra_cons (re_bltn (v := .ty "tuple") (by rfl) T.z_tuple PyProof.Rows.boot_tuple rfl (fun _ => Rp.ty _)) (ra_nil)))) (re_bn call_isi ca_isi (by rfl) T.z_isinstance PyProof.Rows.boot_isinstance (ra_cons (re_var 0) (ra_cons (re_bltn (v := .ty "tuple") (by rfl) T.z_tuple PyProof.Rows.boot_tuple rfl (fun _ => Rp.ty _)) (ra_nil))))) (rw_or1 (rt_cmp (op_neD (room64 hr)) os_ne (nomark _) (re_bn call_isi ca_isi (by rfl) T.z_isinstance PyProof.Rows.boot_isinstance (ra_cons (re_var 1) (ra_cons (re_bltn (v := .ty "list") (by rfl) T.z_list PyProof.Rows.boot_list rfl (fun _ => Rp.ty _)) (ra_nil)))) (re_bn call_isi ca_isi (by rfl) T.z_isinstance PyProof.Rows.boot_isinstance (ra_cons (re_var 0) (ra_cons (re_bltn (v := .ty "list") (by rfl) T.z_list PyProof.Rows.boot_list rfl (fun _ => Rp.ty _)) (ra_nil)))))))) (rs_one (rs_ret (re_bl))) (rs_nil)) (rs_cons (rs_if (rt_cmp (op_neD (room64 hr)) os_ne (nomark _) (re_b1 call_len cs_len (by rfl) T.z_len PySem.boot_len (re_var 0)) (re_b1 call_len cs_len (by rfl) T.z_len PySem.boot_len (re_var 1))) (rs_one (rs_ret (re_bl))) (rs_nil)) (rs_cons (rs_for PassesOwn.never rfl (ri_r1 (by rfl) T.z_range (ra_cons (re_b1 call_len cs_len (by rfl) T.z_len PySem.boot_len (re_var 1)) (ra_nil))) (pg_name (i := 2) sc_law_like.nd rfl (by first | exact Or.inl rfl | exact Or.inr rfl)) (tg_n 2) (rs_one (rs_if (rt_not (rt_val (re_call0 c_self (hr.mono (by first | decide | omega)) (by rfl) (ra_cons (re_ix (re_var 0) (re_var 2)) (ra_cons (re_ix (re_var 1) (re_var 2)) (ra_nil)))))) (rs_one (rs_ret (re_bl))) (rs_nil)))) (rs_one (rs_ret (re_bl))))))))
set_option maxRecDepth 100000 in
theorem okQ_law_whole_of (F : Fun K "_law_whole_of" "_law_whole_of" s_law_whole_of f fd) (T : Txt P w K mg base cn) : FnHq P w K mg base CX0 1 f fd ["_law_row_here"] (fun _ => LSp0 K cn sp_law_whole_of) :=
  fn_okHq F sc_law_whole_of (fun _ => (by intro xs g Qu Qx h; first | (refine Or.elim h (fun h => ?_) (fun h => ?_) <;> first | (refine Or.elim h (fun h => ?_) (fun h => ?_) <;> first | (obtain ⟨rfl, _⟩ := h; rfl) | (obtain ⟨_, rfl, _⟩ := h; rfl) | (obtain ⟨_, _, rfl, _⟩ := h; rfl) | (obtain ⟨_, _, _, rfl, _⟩ := h; rfl) | (obtain ⟨_, _, _, _, rfl, _⟩ := h; rfl) | (obtain ⟨_, _, _, _, _, rfl, _⟩ := h; rfl) | (obtain ⟨_, _, _, _, _, _, rfl, _⟩ := h; rfl) | (obtain ⟨_, _, _, _, _, _, _, rfl, _⟩ := h; rfl) | (obtain ⟨_, _, _, _, _, _, _, _, rfl, _⟩ := h; rfl) | (obtain ⟨_, _, _, _, _, _, _, _, _, rfl, _⟩ := h; rfl)) | (obtain ⟨rfl, _⟩ := h; rfl) | (obtain ⟨_, rfl, _⟩ := h; rfl) | (obtain ⟨_, _, rfl, _⟩ := h; rfl) | (obtain ⟨_, _, _, rfl, _⟩ := h; rfl) | (obtain ⟨_, _, _, _, rfl, _⟩ := h; rfl) | (obtain ⟨_, _, _, _, _, rfl, _⟩ := h; rfl) | (obtain ⟨_, _, _, _, _, _, rfl, _⟩ := h; rfl) | (obtain ⟨_, _, _, _, _, _, _, rfl, _⟩ := h; rfl) | (obtain ⟨_, _, _, _, _, _, _, _, rfl, _⟩ := h; rfl) | (obtain ⟨_, _, _, _, _, _, _, _, _, rfl, _⟩ := h; rfl)) | (obtain ⟨rfl, _⟩ := h; rfl) | (obtain ⟨_, rfl, _⟩ := h; rfl) | (obtain ⟨_, _, rfl, _⟩ := h; rfl) | (obtain ⟨_, _, _, rfl, _⟩ := h; rfl) | (obtain ⟨_, _, _, _, rfl, _⟩ := h; rfl) | (obtain ⟨_, _, _, _, _, rfl, _⟩ := h; rfl) | (obtain ⟨_, _, _, _, _, _, rfl, _⟩ := h; rfl) | (obtain ⟨_, _, _, _, _, _, _, rfl, _⟩ := h; rfl) | (obtain ⟨_, _, _, _, _, _, _, _, rfl, _⟩ := h; rfl) | (obtain ⟨_, _, _, _, _, _, _, _, _, rfl, _⟩ := h; rfl))) fun cdv A outer s H E p qs hot hr xs g Qu Qx h =>
    ⟨wSeq (wSet 1 (wC (.int 0))) (wSeq (wFor (wR1 (wCons (wUn lenU (wVar 0)) (wNil))) (gN 2) (wSet 1 (wBin addU (wBin mulU (wVar 1) (wC (.int 60))) (wBin ixU (wVar 0) (wVar 2))))) (wRet (wVar 1))), t_law_whole_of xs g Qu Qx h, rs_cons (rs_set 1 sc_law_whole_of.nd (re_int)) (rs_cons (rs_forQ PassesOwn.never ⟨p, hot.1, hot.2, hot.3⟩ (riq_r1 (by rfl) T.z_range (ra_cons (re_b1 call_len cs_len (by rfl) T.z_len PySem.boot_len (re_var 0)) (ra_nil))) (pg_name (i := 2) sc_law_whole_of.nd rfl (by first | exact Or.inl rfl | exact Or.inr rfl)) (tg_n 2) (rs_one (rs_set 1 sc_law_whole_of.nd (re_bin op_addU os_add (re_bin op_mulU os_mul (re_var 1) (re_int)) (re_ix (re_var 0) (re_var 2)))))) (rs_one (rs_ret (re_var 1))))⟩
set_option maxRecDepth 100000 in
theorem ok_law_whole_of (F : Fun K "_law_whole_of" "_law_whole_of" s_law_whole_of f fd) (T : Txt P w K mg base cn)  : FnOk P w K mg base CX0 1 f fd ["_law_row_here"] (LSp0 K cn sp_law_whole_of) :=
  fn_ok0 F sc_law_whole_of (by intro xs g Qu Qx h; first | (refine Or.elim h (fun h => ?_) (fun h => ?_) <;> first | (refine Or.elim h (fun h => ?_) (fun h => ?_) <;> first | (obtain ⟨rfl, _⟩ := h; rfl) | (obtain ⟨_, rfl, _⟩ := h; rfl) | (obtain ⟨_, _, rfl, _⟩ := h; rfl) | (obtain ⟨_, _, _, rfl, _⟩ := h; rfl) | (obtain ⟨_, _, _, _, rfl, _⟩ := h; rfl) | (obtain ⟨_, _, _, _, _, rfl, _⟩ := h; rfl) | (obtain ⟨_, _, _, _, _, _, rfl, _⟩ := h; rfl) | (obtain ⟨_, _, _, _, _, _, _, rfl, _⟩ := h; rfl) | (obtain ⟨_, _, _, _, _, _, _, _, rfl, _⟩ := h; rfl) | (obtain ⟨_, _, _, _, _, _, _, _, _, rfl, _⟩ := h; rfl)) | (obtain ⟨rfl, _⟩ := h; rfl) | (obtain ⟨_, rfl, _⟩ := h; rfl) | (obtain ⟨_, _, rfl, _⟩ := h; rfl) | (obtain ⟨_, _, _, rfl, _⟩ := h; rfl) | (obtain ⟨_, _, _, _, rfl, _⟩ := h; rfl) | (obtain ⟨_, _, _, _, _, rfl, _⟩ := h; rfl) | (obtain ⟨_, _, _, _, _, _, rfl, _⟩ := h; rfl) | (obtain ⟨_, _, _, _, _, _, _, rfl, _⟩ := h; rfl) | (obtain ⟨_, _, _, _, _, _, _, _, rfl, _⟩ := h; rfl) | (obtain ⟨_, _, _, _, _, _, _, _, _, rfl, _⟩ := h; rfl)) | (obtain ⟨rfl, _⟩ := h; rfl) | (obtain ⟨_, rfl, _⟩ := h; rfl) | (obtain ⟨_, _, rfl, _⟩ := h; rfl) | (obtain ⟨_, _, _, rfl, _⟩ := h; rfl) | (obtain ⟨_, _, _, _, rfl, _⟩ := h; rfl) | (obtain ⟨_, _, _, _, _, rfl, _⟩ := h; rfl) | (obtain ⟨_, _, _, _, _, _, rfl, _⟩ := h; rfl) | (obtain ⟨_, _, _, _, _, _, _, rfl, _⟩ := h; rfl) | (obtain ⟨_, _, _, _, _, _, _, _, rfl, _⟩ := h; rfl) | (obtain ⟨_, _, _, _, _, _, _, _, _, rfl, _⟩ := h; rfl)) t_law_whole_of fun cdv A outer s H E hr =>
  rs_cons (rs_set 1 sc_law_whole_of.nd (re_int)) (rs_cons (rs_for PassesOwn.never rfl (ri_r1 (by rfl) T.z_range (ra_cons (re_b1 call_len cs_len (by rfl) T.z_len PySem.boot_len (re_var 0)) (ra_nil))) (pg_name (i := 2) sc_law_whole_of.nd rfl (by first | exact Or.inl rfl | exact Or.inr rfl)) (tg_n 2) (rs_one (rs_set 1 sc_law_whole_of.nd (re_bin op_addU os_add (re_bin op_mulU os_mul (re_var 1) (re_int)) (re_ix (re_var 0) (re_var 2)))))) (rs_one (rs_ret (re_var 1))))
set_option maxRecDepth 100000 in
theorem ok_need_row (F : Fun K "need_row" "need_row" s_need_row f fd) (T : Txt P w K mg base cn)  : FnOk P w K mg base (L2N.CX P w) 1 f fd ["row"] (LSp K cn sp_need_row) :=
  fn_ok F sc_need_row (by intro xs g Qu Qx h; first | (refine Or.elim h (fun h => ?_) (fun h => ?_) <;> first | (refine Or.elim h (fun h => ?_) (fun h => ?_) <;> first | (obtain ⟨rfl, _⟩ := h; rfl) | (obtain ⟨_, rfl, _⟩ := h; rfl) | (obtain ⟨_, _, rfl, _⟩ := h; rfl) | (obtain ⟨_, _, _, rfl, _⟩ := h; rfl) | (obtain ⟨_, _, _, _, rfl, _⟩ := h; rfl) | (obtain ⟨_, _, _, _, _, rfl, _⟩ := h; rfl) | (obtain ⟨_, _, _, _, _, _, rfl, _⟩ := h; rfl) | (obtain ⟨_, _, _, _, _, _, _, rfl, _⟩ := h; rfl) | (obtain ⟨_, _, _, _, _, _, _, _, rfl, _⟩ := h; rfl) | (obtain ⟨_, _, _, _, _, _, _, _, _, rfl, _⟩ := h; rfl)) | (obtain ⟨rfl, _⟩ := h; rfl) | (obtain ⟨_, rfl, _⟩ := h; rfl) | (obtain ⟨_, _, rfl, _⟩ := h; rfl) | (obtain ⟨_, _, _, rfl, _⟩ := h; rfl) | (obtain ⟨_, _, _, _, rfl, _⟩ := h; rfl) | (obtain ⟨_, _, _, _, _, rfl, _⟩ := h; rfl) | (obtain ⟨_, _, _, _, _, _, rfl, _⟩ := h; rfl) | (obtain ⟨_, _, _, _, _, _, _, rfl, _⟩ := h; rfl) | (obtain ⟨_, _, _, _, _, _, _, _, rfl, _⟩ := h; rfl) | (obtain ⟨_, _, _, _, _, _, _, _, _, rfl, _⟩ := h; rfl)) | (obtain ⟨rfl, _⟩ := h; rfl) | (obtain ⟨_, rfl, _⟩ := h; rfl) | (obtain ⟨_, _, rfl, _⟩ := h; rfl) | (obtain ⟨_, _, _, rfl, _⟩ := h; rfl) | (obtain ⟨_, _, _, _, rfl, _⟩ := h; rfl) | (obtain ⟨_, _, _, _, _, rfl, _⟩ := h; rfl) | (obtain ⟨_, _, _, _, _, _, rfl, _⟩ := h; rfl) | (obtain ⟨_, _, _, _, _, _, _, rfl, _⟩ := h; rfl) | (obtain ⟨_, _, _, _, _, _, _, _, rfl, _⟩ := h; rfl) | (obtain ⟨_, _, _, _, _, _, _, _, _, rfl, _⟩ := h; rfl)) t_need_row fun cdv A outer s H E hr =>
  rs_cons (rs_if (rt_w (rw_or (rt_not (rt_chain op_le os_cmp op_le os_cmp (re_int) (re_b1 call_len cs_len (by rfl) T.z_len PySem.boot_len (re_var 0)) (re_gint (by rfl) T.k_MOST_FIGURES))) (rw_or (rt_cmp (op_eqD (room64 hr)) os_eq (nomark _) (re_ix (re_var 0) (re_int)) (re_int)) (rw_or1 (rt_cmp (op_eqD (room64 hr)) os_eq (nomark _) (re_ix (re_var 0) (re_neg (re_int))) (re_int)))))) (rs_one (rs_raiseM T.p_BadRow rfl takesN (by rfl))) (rs_nil)) (rs_one (rs_for PassesOwn.leaving rfl (ri_seq (re_var 0)) (pg_name (i := 1) sc_need_row.nd rfl (by first | exact Or.inl rfl | exact Or.inr rfl)) (tg_n 1) (rs_one (rs_if (rt_not (rt_chain op_le os_cmp op_lt os_cmp (re_int) (re_var 1) (re_int))) (rs_one (rs_raiseM T.p_BadRow rfl takesN (by rfl))) (rs_nil)))))
set_option maxRecDepth 100000 in
theorem ok_row_of (F : Fun K "row_of" "row_of" s_row_of f fd) (T : Txt P w K mg base cn)  : FnOk P w K mg base CX0 1 f fd ["number"] (LSp0 K cn sp_row_of) :=
  fn_ok0 F sc_row_of (by intro xs g Qu Qx h; first | (refine Or.elim h (fun h => ?_) (fun h => ?_) <;> first | (refine Or.elim h (fun h => ?_) (fun h => ?_) <;> first | (obtain ⟨rfl, _⟩ := h; rfl) | (obtain ⟨_, rfl, _⟩ := h; rfl) | (obtain ⟨_, _, rfl, _⟩ := h; rfl) | (obtain ⟨_, _, _, rfl, _⟩ := h; rfl) | (obtain ⟨_, _, _, _, rfl, _⟩ := h; rfl) | (obtain ⟨_, _, _, _, _, rfl, _⟩ := h; rfl) | (obtain ⟨_, _, _, _, _, _, rfl, _⟩ := h; rfl) | (obtain ⟨_, _, _, _, _, _, _, rfl, _⟩ := h; rfl) | (obtain ⟨_, _, _, _, _, _, _, _, rfl, _⟩ := h; rfl) | (obtain ⟨_, _, _, _, _, _, _, _, _, rfl, _⟩ := h; rfl)) | (obtain ⟨rfl, _⟩ := h; rfl) | (obtain ⟨_, rfl, _⟩ := h; rfl) | (obtain ⟨_, _, rfl, _⟩ := h; rfl) | (obtain ⟨_, _, _, rfl, _⟩ := h; rfl) | (obtain ⟨_, _, _, _, rfl, _⟩ := h; rfl) | (obtain ⟨_, _, _, _, _, rfl, _⟩ := h; rfl) | (obtain ⟨_, _, _, _, _, _, rfl, _⟩ := h; rfl) | (obtain ⟨_, _, _, _, _, _, _, rfl, _⟩ := h; rfl) | (obtain ⟨_, _, _, _, _, _, _, _, rfl, _⟩ := h; rfl) | (obtain ⟨_, _, _, _, _, _, _, _, _, rfl, _⟩ := h; rfl)) | (obtain ⟨rfl, _⟩ := h; rfl) | (obtain ⟨_, rfl, _⟩ := h; rfl) | (obtain ⟨_, _, rfl, _⟩ := h; rfl) | (obtain ⟨_, _, _, rfl, _⟩ := h; rfl) | (obtain ⟨_, _, _, _, rfl, _⟩ := h; rfl) | (obtain ⟨_, _, _, _, _, rfl, _⟩ := h; rfl) | (obtain ⟨_, _, _, _, _, _, rfl, _⟩ := h; rfl) | (obtain ⟨_, _, _, _, _, _, _, rfl, _⟩ := h; rfl) | (obtain ⟨_, _, _, _, _, _, _, _, rfl, _⟩ := h; rfl) | (obtain ⟨_, _, _, _, _, _, _, _, _, rfl, _⟩ := h; rfl)) t_row_of fun cdv A outer s H E hr =>
  rs_cons (rs_while PassesOwn.never (rt_cmp (op_eqD (room64 hr)) os_eq (nomark _) (re_bin op_mod os_mod (re_var 0) (re_int)) (re_int)) (rs_one (rs_set 0 sc_row_of.nd (re_bin op_fdivW os_div (re_var 0) (re_int))))) (rs_cons (rs_set 1 sc_row_of.nd (re_tup (ra_nil))) (rs_cons (rs_while PassesOwn.never (rt_cmp op_gt os_cmp (nomark _) (re_var 0) (re_int)) (rs_cons (rs_set 1 sc_row_of.nd (re_bin op_addU os_add (re_tup (ra_cons (re_bin op_mod os_mod (re_var 0) (re_int)) (ra_nil))) (re_var 1))) (rs_one (rs_set 0 sc_row_of.nd (re_bin op_fdivW os_div (re_var 0) (re_int)))))) (rs_one (rs_ret (re_var 1)))))
set_option maxRecDepth 100000 in
theorem ok_shared (F : Fun K "shared" "shared" s_shared f fd) (T : Txt P w K mg base cn)  : FnOk P w K mg base CX0 1 f fd ["one", "other"] (LSp0 K cn sp_shared) :=
  fn_ok0 F sc_shared (by intro xs g Qu Qx h; first | (refine Or.elim h (fun h => ?_) (fun h => ?_) <;> first | (refine Or.elim h (fun h => ?_) (fun h => ?_) <;> first | (obtain ⟨rfl, _⟩ := h; rfl) | (obtain ⟨_, rfl, _⟩ := h; rfl) | (obtain ⟨_, _, rfl, _⟩ := h; rfl) | (obtain ⟨_, _, _, rfl, _⟩ := h; rfl) | (obtain ⟨_, _, _, _, rfl, _⟩ := h; rfl) | (obtain ⟨_, _, _, _, _, rfl, _⟩ := h; rfl) | (obtain ⟨_, _, _, _, _, _, rfl, _⟩ := h; rfl) | (obtain ⟨_, _, _, _, _, _, _, rfl, _⟩ := h; rfl) | (obtain ⟨_, _, _, _, _, _, _, _, rfl, _⟩ := h; rfl) | (obtain ⟨_, _, _, _, _, _, _, _, _, rfl, _⟩ := h; rfl)) | (obtain ⟨rfl, _⟩ := h; rfl) | (obtain ⟨_, rfl, _⟩ := h; rfl) | (obtain ⟨_, _, rfl, _⟩ := h; rfl) | (obtain ⟨_, _, _, rfl, _⟩ := h; rfl) | (obtain ⟨_, _, _, _, rfl, _⟩ := h; rfl) | (obtain ⟨_, _, _, _, _, rfl, _⟩ := h; rfl) | (obtain ⟨_, _, _, _, _, _, rfl, _⟩ := h; rfl) | (obtain ⟨_, _, _, _, _, _, _, rfl, _⟩ := h; rfl) | (obtain ⟨_, _, _, _, _, _, _, _, rfl, _⟩ := h; rfl) | (obtain ⟨_, _, _, _, _, _, _, _, _, rfl, _⟩ := h; rfl)) | (obtain ⟨rfl, _⟩ := h; rfl) | (obtain ⟨_, rfl, _⟩ := h; rfl) | (obtain ⟨_, _, rfl, _⟩ := h; rfl) | (obtain ⟨_, _, _, rfl, _⟩ := h; rfl) | (obtain ⟨_, _, _, _, rfl, _⟩ := h; rfl) | (obtain ⟨_, _, _, _, _, rfl, _⟩ := h; rfl) | (obtain ⟨_, _, _, _, _, _, rfl, _⟩ := h; rfl) | (obtain ⟨_, _, _, _, _, _, _, rfl, _⟩ := h; rfl) | (obtain ⟨_, _, _, _, _, _, _, _, rfl, _⟩ := h; rfl) | (obtain ⟨_, _, _, _, _, _, _, _, _, rfl, _⟩ := h; rfl)) t_shared fun cdv A outer s H E hr =>
  rs_cons (rs_while PassesOwn.never (rt_cmp op_gt os_cmp (nomark _) (re_var 1) (re_int)) (rs_one (rs_par 0 1 rfl sc_shared.nd (ra_cons (re_var 1) (ra_cons (re_bin op_mod os_mod (re_var 0) (re_var 1)) (ra_nil)))))) (rs_one (rs_ret (re_var 0)))
set_option maxRecDepth 100000 in
theorem ok_taken_out (F : Fun K "taken_out" "taken_out" s_taken_out f fd) (T : Txt P w K mg base cn)  : FnOk P w K mg base CX0 1 f fd ["number"] (LSp0 K cn sp_taken_out) :=
  fn_ok0 F sc_taken_out (by intro xs g Qu Qx h; first | (refine Or.elim h (fun h => ?_) (fun h => ?_) <;> first | (refine Or.elim h (fun h => ?_) (fun h => ?_) <;> first | (obtain ⟨rfl, _⟩ := h; rfl) | (obtain ⟨_, rfl, _⟩ := h; rfl) | (obtain ⟨_, _, rfl, _⟩ := h; rfl) | (obtain ⟨_, _, _, rfl, _⟩ := h; rfl) | (obtain ⟨_, _, _, _, rfl, _⟩ := h; rfl) | (obtain ⟨_, _, _, _, _, rfl, _⟩ := h; rfl) | (obtain ⟨_, _, _, _, _, _, rfl, _⟩ := h; rfl) | (obtain ⟨_, _, _, _, _, _, _, rfl, _⟩ := h; rfl) | (obtain ⟨_, _, _, _, _, _, _, _, rfl, _⟩ := h; rfl) | (obtain ⟨_, _, _, _, _, _, _, _, _, rfl, _⟩ := h; rfl)) | (obtain ⟨rfl, _⟩ := h; rfl) | (obtain ⟨_, rfl, _⟩ := h; rfl) | (obtain ⟨_, _, rfl, _⟩ := h; rfl) | (obtain ⟨_, _, _, rfl, _⟩ := h; rfl) | (obtain ⟨_, _, _, _, rfl, _⟩ := h; rfl) | (obtain ⟨_, _, _, _, _, rfl, _⟩ := h; rfl) | (obtain ⟨_, _, _, _, _, _, rfl, _⟩ := h; rfl) | (obtain ⟨_, _, _, _, _, _, _, rfl, _⟩ := h; rfl) | (obtain ⟨_, _, _, _, _, _, _, _, rfl, _⟩ := h; rfl) | (obtain ⟨_, _, _, _, _, _, _, _, _, rfl, _⟩ := h; rfl)) | (obtain ⟨rfl, _⟩ := h; rfl) | (obtain ⟨_, rfl, _⟩ := h; rfl) | (obtain ⟨_, _, rfl, _⟩ := h; rfl) | (obtain ⟨_, _, _, rfl, _⟩ := h; rfl) | (obtain ⟨_, _, _, _, rfl, _⟩ := h; rfl) | (obtain ⟨_, _, _, _, _, rfl, _⟩ := h; rfl) | (obtain ⟨_, _, _, _, _, _, rfl, _⟩ := h; rfl) | (obtain ⟨_, _, _, _, _, _, _, rfl, _⟩ := h; rfl) | (obtain ⟨_, _, _, _, _, _, _, _, rfl, _⟩ := h; rfl) | (obtain ⟨_, _, _, _, _, _, _, _, _, rfl, _⟩ := h; rfl)) t_taken_out fun cdv A outer s H E hr =>
  rs_cons (rs_setO 1 sc_taken_out.nd (re_lst (ra_nil))) (rs_cons (rs_for PassesOwn.never rfl (ri_seq (re_gtup (by rfl) T.k_PRIMES (fun F => .cons (.int _) (.cons (.int _) (.cons (.int _) (.nil)))))) (pg_name (i := 2) sc_taken_out.nd rfl (by first | exact Or.inl rfl | exact Or.inr rfl)) (tg_n 2) (rs_cons (rs_set 3 sc_taken_out.nd (re_int)) (rs_cons (rs_while PassesOwn.never (rt_cmp (op_eqD (room64 hr)) os_eq (nomark _) (re_bin op_mod os_mod (re_var 0) (re_var 2)) (re_int)) (rs_cons (rs_set 0 sc_taken_out.nd (re_bin op_fdivW os_div (re_var 0) (re_var 2))) (rs_one (rs_set 3 sc_taken_out.nd (re_bin op_addU os_add (re_var 3) (re_int)))))) (rs_one (rs_app 1 (re_var 3)))))) (rs_one (rs_ret (re_tup (ra_cons (re_t1 call_tuple_of cs_tuple (by rfl) T.z_tuple PyProof.Rows.boot_tuple (re_var 1)) (ra_cons (re_var 0) (ra_nil)))))))
set_option maxRecDepth 100000 in
theorem ok_whole_of (F : Fun K "whole_of" "whole_of" s_whole_of f fd) (T : Txt P w K mg base cn)  : FnOk P w K mg base CX0 1 f fd ["row"] (LSp0 K cn sp_whole_of) :=
  fn_ok0 F sc_whole_of (by intro xs g Qu Qx h; first | (refine Or.elim h (fun h => ?_) (fun h => ?_) <;> first | (refine Or.elim h (fun h => ?_) (fun h => ?_) <;> first | (obtain ⟨rfl, _⟩ := h; rfl) | (obtain ⟨_, rfl, _⟩ := h; rfl) | (obtain ⟨_, _, rfl, _⟩ := h; rfl) | (obtain ⟨_, _, _, rfl, _⟩ := h; rfl) | (obtain ⟨_, _, _, _, rfl, _⟩ := h; rfl) | (obtain ⟨_, _, _, _, _, rfl, _⟩ := h; rfl) | (obtain ⟨_, _, _, _, _, _, rfl, _⟩ := h; rfl) | (obtain ⟨_, _, _, _, _, _, _, rfl, _⟩ := h; rfl) | (obtain ⟨_, _, _, _, _, _, _, _, rfl, _⟩ := h; rfl) | (obtain ⟨_, _, _, _, _, _, _, _, _, rfl, _⟩ := h; rfl)) | (obtain ⟨rfl, _⟩ := h; rfl) | (obtain ⟨_, rfl, _⟩ := h; rfl) | (obtain ⟨_, _, rfl, _⟩ := h; rfl) | (obtain ⟨_, _, _, rfl, _⟩ := h; rfl) | (obtain ⟨_, _, _, _, rfl, _⟩ := h; rfl) | (obtain ⟨_, _, _, _, _, rfl, _⟩ := h; rfl) | (obtain ⟨_, _, _, _, _, _, rfl, _⟩ := h; rfl) | (obtain ⟨_, _, _, _, _, _, _, rfl, _⟩ := h; rfl) | (obtain ⟨_, _, _, _, _, _, _, _, rfl, _⟩ := h; rfl) | (obtain ⟨_, _, _, _, _, _, _, _, _, rfl, _⟩ := h; rfl)) | (obtain ⟨rfl, _⟩ := h; rfl) | (obtain ⟨_, rfl, _⟩ := h; rfl) | (obtain ⟨_, _, rfl, _⟩ := h; rfl) | (obtain ⟨_, _, _, rfl, _⟩ := h; rfl) | (obtain ⟨_, _, _, _, rfl, _⟩ := h; rfl) | (obtain ⟨_, _, _, _, _, rfl, _⟩ := h; rfl) | (obtain ⟨_, _, _, _, _, _, rfl, _⟩ := h; rfl) | (obtain ⟨_, _, _, _, _, _, _, rfl, _⟩ := h; rfl) | (obtain ⟨_, _, _, _, _, _, _, _, rfl, _⟩ := h; rfl) | (obtain ⟨_, _, _, _, _, _, _, _, _, rfl, _⟩ := h; rfl)) t_whole_of fun cdv A outer s H E hr =>
  rs_cons (rs_set 1 sc_whole_of.nd (re_int)) (rs_cons (rs_for PassesOwn.never rfl (ri_seq (re_var 0)) (pg_name (i := 2) sc_whole_of.nd rfl (by first | exact Or.inl rfl | exact Or.inr rfl)) (tg_n 2) (rs_one (rs_set 1 sc_whole_of.nd (re_bin op_addU os_add (re_bin op_mulU os_mul (re_var 1) (re_int)) (re_var 2))))) (rs_one (rs_ret (re_var 1))))
set_option maxRecDepth 100000 in
theorem ok_parted (F : Fun K "parted" "parted" s_parted f fd) (T : Txt P w K mg base cn) (c_row_of : Cl0 P w K mg base cn 1 "row_of" sp_row_of) (c_shared : Cl0 P w K mg base cn 1 "shared" sp_shared) (c_taken_out : Cl0 P w K mg base cn 1 "taken_out" sp_taken_out) (c_whole_of : Cl0 P w K mg base cn 1 "whole_of" sp_whole_of) : FnOk P w K mg base (L2N.CX P w) 3 f fd ["one", "other"] (LSp K cn sp_parted) :=
  fn_ok F sc_parted (by intro xs g Qu Qx h; first | (refine Or.elim h (fun h => ?_) (fun h => ?_) <;> first | (refine Or.elim h (fun h => ?_) (fun h => ?_) <;> first | (obtain ⟨rfl, _⟩ := h; rfl) | (obtain ⟨_, rfl, _⟩ := h; rfl) | (obtain ⟨_, _, rfl, _⟩ := h; rfl) | (obtain ⟨_, _, _, rfl, _⟩ := h; rfl) | (obtain ⟨_, _, _, _, rfl, _⟩ := h; rfl) | (obtain ⟨_, _, _, _, _, rfl, _⟩ := h; rfl) | (obtain ⟨_, _, _, _, _, _, rfl, _⟩ := h; rfl) | (obtain ⟨_, _, _, _, _, _, _, rfl, _⟩ := h; rfl) | (obtain ⟨_, _, _, _, _, _, _, _, rfl, _⟩ := h; rfl) | (obtain ⟨_, _, _, _, _, _, _, _, _, rfl, _⟩ := h; rfl)) | (obtain ⟨rfl, _⟩ := h; rfl) | (obtain ⟨_, rfl, _⟩ := h; rfl) | (obtain ⟨_, _, rfl, _⟩ := h; rfl) | (obtain ⟨_, _, _, rfl, _⟩ := h; rfl) | (obtain ⟨_, _, _, _, rfl, _⟩ := h; rfl) | (obtain ⟨_, _, _, _, _, rfl, _⟩ := h; rfl) | (obtain ⟨_, _, _, _, _, _, rfl, _⟩ := h; rfl) | (obtain ⟨_, _, _, _, _, _, _, rfl, _⟩ := h; rfl) | (obtain ⟨_, _, _, _, _, _, _, _, rfl, _⟩ := h; rfl) | (obtain ⟨_, _, _, _, _, _, _, _, _, rfl, _⟩ := h; rfl)) | (obtain ⟨rfl, _⟩ := h; rfl) | (obtain ⟨_, rfl, _⟩ := h; rfl) | (obtain ⟨_, _, rfl, _⟩ := h; rfl) | (obtain ⟨_, _, _, rfl, _⟩ := h; rfl) | (obtain ⟨_, _, _, _, rfl, _⟩ := h; rfl) | (obtain ⟨_, _, _, _, _, rfl, _⟩ := h; rfl) | (obtain ⟨_, _, _, _, _, _, rfl, _⟩ := h; rfl) | (obtain ⟨_, _, _, _, _, _, _, rfl, _⟩ := h; rfl) | (obtain ⟨_, _, _, _, _, _, _, _, rfl, _⟩ := h; rfl) | (obtain ⟨_, _, _, _, _, _, _, _, _, rfl, _⟩ := h; rfl)) t_parted fun cdv A outer s H E hr =>
  rs_cons (rs_set 2 sc_parted.nd (re_callZ c_whole_of (fun _ _ _ _ h => h) (hr.mono (by first | decide | omega)) (by rfl) (ra_cons (re_var 0) (ra_nil)))) (rs_cons (rs_asg (re_callZ c_taken_out (fun _ _ _ _ h => h) (hr.mono (by first | decide | omega)) (by rfl) (ra_cons (re_callZ c_whole_of (fun _ _ _ _ h => h) (hr.mono (by first | decide | omega)) (by rfl) (ra_cons (re_var 1) (ra_nil))) (ra_nil))) (pg_any rfl (pgs_cons (pg_name (i := 3) sc_parted.nd rfl (by first | exact Or.inl rfl | exact Or.inr rfl)) (pgs_cons (pg_name (i := 4) sc_parted.nd rfl (by first | exact Or.inl rfl | exact Or.inr rfl)) (pgs_nil)))) (tg_t [3, 4])) (rs_cons (rs_set 4 sc_parted.nd (re_bin op_fdivW os_div (re_var 4) (re_callZ c_shared (fun _ _ _ _ h => h) (hr.mono (by first | decide | omega)) (by rfl) (ra_cons (re_var 4) (ra_cons (re_var 2) (ra_nil)))))) (rs_cons (rs_if (rt_cmp op_gt os_cmp (nomark _) (re_var 4) (re_int)) (rs_one (rs_raiseFN T.f_NotTurned rfl takesN hr (by first | decide | omega) (by rfl) (ra_cons (re_var 4) (ra_nil)))) (rs_nil)) (rs_cons (rs_set 5 sc_parted.nd (re_callZ c_whole_of (fun _ _ _ _ h => h) (hr.mono (by first | decide | omega)) (by rfl) (ra_cons (re_var 1) (ra_nil)))) (rs_cons (rs_while PassesOwn.leaving (rt_cmp (op_neD (room64 hr)) os_ne (nomark _) (re_bin op_mod os_mod (re_var 2) (re_var 5)) (re_int)) (rs_one (rs_set 2 sc_parted.nd (re_bin op_mulU os_mul (re_var 2) (re_int))))) (rs_one (rs_ret (re_callZ c_row_of (fun _ _ _ _ h => h) (hr.mono (by first | decide | omega)) (by rfl) (ra_cons (re_bin op_fdivW os_div (re_var 2) (re_var 5)) (ra_nil))))))))))
set_option maxRecDepth 100000 in
theorem ok_part (F : Fun K "part" "part" s_part f fd) (T : Txt P w K mg base cn) (c_need_row : Cl (L2N.CX P w) P w K mg base cn 1 "need_row" sp_need_row) (c_parted : Cl (L2N.CX P w) P w K mg base cn 3 "parted" sp_parted) : FnOk P w K mg base (L2N.CX P w) 4 f fd ["one", "other"] (LSp K cn sp_part) :=
  fn_ok F sc_part (by intro xs g Qu Qx h; first | (refine Or.elim h (fun h => ?_) (fun h => ?_) <;> first | (refine Or.elim h (fun h => ?_) (fun h => ?_) <;> first | (obtain ⟨rfl, _⟩ := h; rfl) | (obtain ⟨_, rfl, _⟩ := h; rfl) | (obtain ⟨_, _, rfl, _⟩ := h; rfl) | (obtain ⟨_, _, _, rfl, _⟩ := h; rfl) | (obtain ⟨_, _, _, _, rfl, _⟩ := h; rfl) | (obtain ⟨_, _, _, _, _, rfl, _⟩ := h; rfl) | (obtain ⟨_, _, _, _, _, _, rfl, _⟩ := h; rfl) | (obtain ⟨_, _, _, _, _, _, _, rfl, _⟩ := h; rfl) | (obtain ⟨_, _, _, _, _, _, _, _, rfl, _⟩ := h; rfl) | (obtain ⟨_, _, _, _, _, _, _, _, _, rfl, _⟩ := h; rfl)) | (obtain ⟨rfl, _⟩ := h; rfl) | (obtain ⟨_, rfl, _⟩ := h; rfl) | (obtain ⟨_, _, rfl, _⟩ := h; rfl) | (obtain ⟨_, _, _, rfl, _⟩ := h; rfl) | (obtain ⟨_, _, _, _, rfl, _⟩ := h; rfl) | (obtain ⟨_, _, _, _, _, rfl, _⟩ := h; rfl) | (obtain ⟨_, _, _, _, _, _, rfl, _⟩ := h; rfl) | (obtain ⟨_, _, _, _, _, _, _, rfl, _⟩ := h; rfl) | (obtain ⟨_, _, _, _, _, _, _, _, rfl, _⟩ := h; rfl) | (obtain ⟨_, _, _, _, _, _, _, _, _, rfl, _⟩ := h; rfl)) | (obtain ⟨rfl, _⟩ := h; rfl) | (obtain ⟨_, rfl, _⟩ := h; rfl) | (obtain ⟨_, _, rfl, _⟩ := h; rfl) | (obtain ⟨_, _, _, rfl, _⟩ := h; rfl) | (obtain ⟨_, _, _, _, rfl, _⟩ := h; rfl) | (obtain ⟨_, _, _, _, _, rfl, _⟩ := h; rfl) | (obtain ⟨_, _, _, _, _, _, rfl, _⟩ := h; rfl) | (obtain ⟨_, _, _, _, _, _, _, rfl, _⟩ := h; rfl) | (obtain ⟨_, _, _, _, _, _, _, _, rfl, _⟩ := h; rfl) | (obtain ⟨_, _, _, _, _, _, _, _, _, rfl, _⟩ := h; rfl)) t_part fun cdv A outer s H E hr =>
  rs_cons (rs_expr (re_callR c_need_row (hr.mono (by first | decide | omega)) (by rfl) (hx_N takesN) (ra_cons (re_var 0) (ra_nil)))) (rs_cons (rs_expr (re_callR c_need_row (hr.mono (by first | decide | omega)) (by rfl) (hx_N takesN) (ra_cons (re_var 1) (ra_nil)))) (rs_one (rs_ret (re_callR c_parted (hr.mono (by first | decide | omega)) (by rfl) (hx_N takesN) (ra_cons (re_var 0) (ra_cons (re_var 1) (ra_nil)))))))
set_option maxRecDepth 100000 in
theorem ok_turned (F : Fun K "turned" "turned" s_turned f fd) (T : Txt P w K mg base cn) (c_part : Cl (L2N.CX P w) P w K mg base cn 4 "part" sp_part) : FnOk P w K mg base (L2N.CX P w) 5 f fd ["row"] (LSp K cn sp_turned) :=
  fn_ok F sc_turned (by intro xs g Qu Qx h; first | (refine Or.elim h (fun h => ?_) (fun h => ?_) <;> first | (refine Or.elim h (fun h => ?_) (fun h => ?_) <;> first | (obtain ⟨rfl, _⟩ := h; rfl) | (obtain ⟨_, rfl, _⟩ := h; rfl) | (obtain ⟨_, _, rfl, _⟩ := h; rfl) | (obtain ⟨_, _, _, rfl, _⟩ := h; rfl) | (obtain ⟨_, _, _, _, rfl, _⟩ := h; rfl) | (obtain ⟨_, _, _, _, _, rfl, _⟩ := h; rfl) | (obtain ⟨_, _, _, _, _, _, rfl, _⟩ := h; rfl) | (obtain ⟨_, _, _, _, _, _, _, rfl, _⟩ := h; rfl) | (obtain ⟨_, _, _, _, _, _, _, _, rfl, _⟩ := h; rfl) | (obtain ⟨_, _, _, _, _, _, _, _, _, rfl, _⟩ := h; rfl)) | (obtain ⟨rfl, _⟩ := h; rfl) | (obtain ⟨_, rfl, _⟩ := h; rfl) | (obtain ⟨_, _, rfl, _⟩ := h; rfl) | (obtain ⟨_, _, _, rfl, _⟩ := h; rfl) | (obtain ⟨_, _, _, _, rfl, _⟩ := h; rfl) | (obtain ⟨_, _, _, _, _, rfl, _⟩ := h; rfl) | (obtain ⟨_, _, _, _, _, _, rfl, _⟩ := h; rfl) | (obtain ⟨_, _, _, _, _, _, _, rfl, _⟩ := h; rfl) | (obtain ⟨_, _, _, _, _, _, _, _, rfl, _⟩ := h; rfl) | (obtain ⟨_, _, _, _, _, _, _, _, _, rfl, _⟩ := h; rfl)) | (obtain ⟨rfl, _⟩ := h; rfl) | (obtain ⟨_, rfl, _⟩ := h; rfl) | (obtain ⟨_, _, rfl, _⟩ := h; rfl) | (obtain ⟨_, _, _, rfl, _⟩ := h; rfl) | (obtain ⟨_, _, _, _, rfl, _⟩ := h; rfl) | (obtain ⟨_, _, _, _, _, rfl, _⟩ := h; rfl) | (obtain ⟨_, _, _, _, _, _, rfl, _⟩ := h; rfl) | (obtain ⟨_, _, _, _, _, _, _, rfl, _⟩ := h; rfl) | (obtain ⟨_, _, _, _, _, _, _, _, rfl, _⟩ := h; rfl) | (obtain ⟨_, _, _, _, _, _, _, _, _, rfl, _⟩ := h; rfl)) t_turned fun cdv A outer s H E hr =>
  rs_one (rs_ret (re_callR c_part (hr.mono (by first | decide | omega)) (by rfl) (hx_N takesN) (ra_cons (re_tup (ra_cons (re_int) (ra_nil))) (ra_cons (re_var 0) (ra_nil)))))
set_option maxRecDepth 100000 in
theorem ok_law_refused (F : Fun K "_law_refused" "_law_refused" s_law_refused f fd) (T : Txt P w K mg base cn) (cQ_law_left : ClHq P w K mg base cn 1 "_law_left" fun _ => sp_law_left) (cQ_law_like : ClHq P w K mg base cn 9 "_law_like" fun _ => sp_law_like) (cQ_law_whole_of : ClHq P w K mg base cn 1 "_law_whole_of" fun _ => sp_law_whole_of) (c_law_is : ClH P w K mg base cn 1 "_law_is" (sp_law_is cn R_is)) (c_law_left : Cl0 P w K mg base cn 1 "_law_left" sp_law_left) (c_law_like : Cl0 P w K mg base cn 9 "_law_like" sp_law_like) (c_law_whole_of : Cl0 P w K mg base cn 1 "_law_whole_of" sp_law_whole_of) (c_turned : Cl (L2N.CX P w) P w K mg base cn 5 "turned" sp_turned) : FnOk P w K mg base CX0 10 f fd ["_law_row_here"] (LSp0 K cn sp_law_refused) :=
  fn_ok0 F sc_law_refused (by intro xs g Qu Qx h; first | (refine Or.elim h (fun h => ?_) (fun h => ?_) <;> first | (refine Or.elim h (fun h => ?_) (fun h => ?_) <;> first | (obtain ⟨rfl, _⟩ := h; rfl) | (obtain ⟨_, rfl, _⟩ := h; rfl) | (obtain ⟨_, _, rfl, _⟩ := h; rfl) | (obtain ⟨_, _, _, rfl, _⟩ := h; rfl) | (obtain ⟨_, _, _, _, rfl, _⟩ := h; rfl) | (obtain ⟨_, _, _, _, _, rfl, _⟩ := h; rfl) | (obtain ⟨_, _, _, _, _, _, rfl, _⟩ := h; rfl) | (obtain ⟨_, _, _, _, _, _, _, rfl, _⟩ := h; rfl) | (obtain ⟨_, _, _, _, _, _, _, _, rfl, _⟩ := h; rfl) | (obtain ⟨_, _, _, _, _, _, _, _, _, rfl, _⟩ := h; rfl)) | (obtain ⟨rfl, _⟩ := h; rfl) | (obtain ⟨_, rfl, _⟩ := h; rfl) | (obtain ⟨_, _, rfl, _⟩ := h; rfl) | (obtain ⟨_, _, _, rfl, _⟩ := h; rfl) | (obtain ⟨_, _, _, _, rfl, _⟩ := h; rfl) | (obtain ⟨_, _, _, _, _, rfl, _⟩ := h; rfl) | (obtain ⟨_, _, _, _, _, _, rfl, _⟩ := h; rfl) | (obtain ⟨_, _, _, _, _, _, _, rfl, _⟩ := h; rfl) | (obtain ⟨_, _, _, _, _, _, _, _, rfl, _⟩ := h; rfl) | (obtain ⟨_, _, _, _, _, _, _, _, _, rfl, _⟩ := h; rfl)) | (obtain ⟨rfl, _⟩ := h; rfl) | (obtain ⟨_, rfl, _⟩ := h; rfl) | (obtain ⟨_, _, rfl, _⟩ := h; rfl) | (obtain ⟨_, _, _, rfl, _⟩ := h; rfl) | (obtain ⟨_, _, _, _, rfl, _⟩ := h; rfl) | (obtain ⟨_, _, _, _, _, rfl, _⟩ := h; rfl) | (obtain ⟨_, _, _, _, _, _, rfl, _⟩ := h; rfl) | (obtain ⟨_, _, _, _, _, _, _, rfl, _⟩ := h; rfl) | (obtain ⟨_, _, _, _, _, _, _, _, rfl, _⟩ := h; rfl) | (obtain ⟨_, _, _, _, _, _, _, _, _, rfl, _⟩ := h; rfl)) t_law_refused fun cdv A outer s H E hr =>
  rs_cons (Exists.elim T.g_SixtyError.ex fun cM hM => rs_tryAs rfl rfl ⟨cM, ⟨by rfl, by decide, .inl hM⟩, cat_cons (cltX T.m_BadRow_SixtyError hM) (cat_cons (cltX T.m_NotTurned_SixtyError hM) (cat_nil))⟩ takesN0 rfl sc_law_refused.nd rfl rfl (fun W pn xe tk po => rs_one (rs_expr (re_callR c_turned (hr.mono (by first | decide | omega)) (by rfl) (hx_N tk) (ra_cons (re_var 0) (ra_nil))))) (fun a oe cls d pn dd x hz hf hx hot hC => rs_one (rs_ret (re_and (re_is c_law_is (L2H.roomH_mark (hr.mono (by first | decide | omega)) _) hot List.mem_cons_self (hotE_of hz hf hx hC) (by rfl) (ra_cons (re_var 1) (ra_cons (re_str) (ra_nil)))) (re_one (re_callQ cQ_law_like (fun _ _ _ _ h => h) (L2H.roomH_mark (hr.mono (by first | decide | omega)) _) (Hot2.of_1 hot List.mem_cons_self) ⟨pn, rfl⟩ (by rfl) (ra_cons (re_xf (nms := ["NotTurned"]) hz hf hx (mem_one T.x_NotTurned_left (fun _ h => nomatch h)) (re_var 1)) (ra_cons (re_callQ cQ_law_left (fun _ _ _ _ h => h) (L2H.roomH_mark (hr.mono (by first | decide | omega)) _) (Hot2.of_1 hot List.mem_cons_self) ⟨pn, rfl⟩ (by rfl) (ra_cons (re_callQ cQ_law_whole_of (fun _ _ _ _ h => h) (L2H.roomH_mark (hr.mono (by first | decide | omega)) _) (Hot2.of_1 hot List.mem_cons_self) ⟨pn, rfl⟩ (by rfl) (ra_cons (re_var 0) (ra_nil))) (ra_nil))) (ra_nil))))))))) (rs_one (rs_ret (re_bl)))
set_option maxRecDepth 100000 in
theorem ok_times (F : Fun K "times" "times" s_times f fd) (T : Txt P w K mg base cn) (c_need_row : Cl (L2N.CX P w) P w K mg base cn 1 "need_row" sp_need_row) (c_row_of : Cl0 P w K mg base cn 1 "row_of" sp_row_of) (c_whole_of : Cl0 P w K mg base cn 1 "whole_of" sp_whole_of) : FnOk P w K mg base (L2N.CX P w) 2 f fd ["one", "other"] (LSp K cn sp_times) :=
  fn_ok F sc_times (by intro xs g Qu Qx h; first | (refine Or.elim h (fun h => ?_) (fun h => ?_) <;> first | (refine Or.elim h (fun h => ?_) (fun h => ?_) <;> first | (obtain ⟨rfl, _⟩ := h; rfl) | (obtain ⟨_, rfl, _⟩ := h; rfl) | (obtain ⟨_, _, rfl, _⟩ := h; rfl) | (obtain ⟨_, _, _, rfl, _⟩ := h; rfl) | (obtain ⟨_, _, _, _, rfl, _⟩ := h; rfl) | (obtain ⟨_, _, _, _, _, rfl, _⟩ := h; rfl) | (obtain ⟨_, _, _, _, _, _, rfl, _⟩ := h; rfl) | (obtain ⟨_, _, _, _, _, _, _, rfl, _⟩ := h; rfl) | (obtain ⟨_, _, _, _, _, _, _, _, rfl, _⟩ := h; rfl) | (obtain ⟨_, _, _, _, _, _, _, _, _, rfl, _⟩ := h; rfl)) | (obtain ⟨rfl, _⟩ := h; rfl) | (obtain ⟨_, rfl, _⟩ := h; rfl) | (obtain ⟨_, _, rfl, _⟩ := h; rfl) | (obtain ⟨_, _, _, rfl, _⟩ := h; rfl) | (obtain ⟨_, _, _, _, rfl, _⟩ := h; rfl) | (obtain ⟨_, _, _, _, _, rfl, _⟩ := h; rfl) | (obtain ⟨_, _, _, _, _, _, rfl, _⟩ := h; rfl) | (obtain ⟨_, _, _, _, _, _, _, rfl, _⟩ := h; rfl) | (obtain ⟨_, _, _, _, _, _, _, _, rfl, _⟩ := h; rfl) | (obtain ⟨_, _, _, _, _, _, _, _, _, rfl, _⟩ := h; rfl)) | (obtain ⟨rfl, _⟩ := h; rfl) | (obtain ⟨_, rfl, _⟩ := h; rfl) | (obtain ⟨_, _, rfl, _⟩ := h; rfl) | (obtain ⟨_, _, _, rfl, _⟩ := h; rfl) | (obtain ⟨_, _, _, _, rfl, _⟩ := h; rfl) | (obtain ⟨_, _, _, _, _, rfl, _⟩ := h; rfl) | (obtain ⟨_, _, _, _, _, _, rfl, _⟩ := h; rfl) | (obtain ⟨_, _, _, _, _, _, _, rfl, _⟩ := h; rfl) | (obtain ⟨_, _, _, _, _, _, _, _, rfl, _⟩ := h; rfl) | (obtain ⟨_, _, _, _, _, _, _, _, _, rfl, _⟩ := h; rfl)) t_times fun cdv A outer s H E hr =>
  rs_cons (rs_expr (re_callR c_need_row (hr.mono (by first | decide | omega)) (by rfl) (hx_N takesN) (ra_cons (re_var 0) (ra_nil)))) (rs_cons (rs_expr (re_callR c_need_row (hr.mono (by first | decide | omega)) (by rfl) (hx_N takesN) (ra_cons (re_var 1) (ra_nil)))) (rs_one (rs_ret (re_callZ c_row_of (fun _ _ _ _ h => h) (hr.mono (by first | decide | omega)) (by rfl) (ra_cons (re_bin op_mulU os_mul (re_callZ c_whole_of (fun _ _ _ _ h => h) (hr.mono (by first | decide | omega)) (by rfl) (ra_cons (re_var 0) (ra_nil))) (re_callZ c_whole_of (fun _ _ _ _ h => h) (hr.mono (by first | decide | omega)) (by rfl) (ra_cons (re_var 1) (ra_nil)))) (ra_nil))))))
set_option maxRecDepth 100000 in
theorem ok_turnables (F : Fun K "turnables" "turnables" s_turnables f fd) (T : Txt P w K mg base cn) (c_row_of : Cl0 P w K mg base cn 1 "row_of" sp_row_of) : FnOk P w K mg base CX0 2 f fd ["places"] (LSp0 K cn sp_turnables) :=
  fn_ok0 F sc_turnables (by intro xs g Qu Qx h; first | (refine Or.elim h (fun h => ?_) (fun h => ?_) <;> first | (refine Or.elim h (fun h => ?_) (fun h => ?_) <;> first | (obtain ⟨rfl, _⟩ := h; rfl) | (obtain ⟨_, rfl, _⟩ := h; rfl) | (obtain ⟨_, _, rfl, _⟩ := h; rfl) | (obtain ⟨_, _, _, rfl, _⟩ := h; rfl) | (obtain ⟨_, _, _, _, rfl, _⟩ := h; rfl) | (obtain ⟨_, _, _, _, _, rfl, _⟩ := h; rfl) | (obtain ⟨_, _, _, _, _, _, rfl, _⟩ := h; rfl) | (obtain ⟨_, _, _, _, _, _, _, rfl, _⟩ := h; rfl) | (obtain ⟨_, _, _, _, _, _, _, _, rfl, _⟩ := h; rfl) | (obtain ⟨_, _, _, _, _, _, _, _, _, rfl, _⟩ := h; rfl)) | (obtain ⟨rfl, _⟩ := h; rfl) | (obtain ⟨_, rfl, _⟩ := h; rfl) | (obtain ⟨_, _, rfl, _⟩ := h; rfl) | (obtain ⟨_, _, _, rfl, _⟩ := h; rfl) | (obtain ⟨_, _, _, _, rfl, _⟩ := h; rfl) | (obtain ⟨_, _, _, _, _, rfl, _⟩ := h; rfl) | (obtain ⟨_, _, _, _, _, _, rfl, _⟩ := h; rfl) | (obtain ⟨_, _, _, _, _, _, _, rfl, _⟩ := h; rfl) | (obtain ⟨_, _, _, _, _, _, _, _, rfl, _⟩ := h; rfl) | (obtain ⟨_, _, _, _, _, _, _, _, _, rfl, _⟩ := h; rfl)) | (obtain ⟨rfl, _⟩ := h; rfl) | (obtain ⟨_, rfl, _⟩ := h; rfl) | (obtain ⟨_, _, rfl, _⟩ := h; rfl) | (obtain ⟨_, _, _, rfl, _⟩ := h; rfl) | (obtain ⟨_, _, _, _, rfl, _⟩ := h; rfl) | (obtain ⟨_, _, _, _, _, rfl, _⟩ := h; rfl) | (obtain ⟨_, _, _, _, _, _, rfl, _⟩ := h; rfl) | (obtain ⟨_, _, _, _, _, _, _, rfl, _⟩ := h; rfl) | (obtain ⟨_, _, _, _, _, _, _, _, rfl, _⟩ := h; rfl) | (obtain ⟨_, _, _, _, _, _, _, _, _, rfl, _⟩ := h; rfl)) t_turnables fun cdv A outer s H E hr =>
  rs_cons (rs_setO 1 sc_turnables.nd (re_lst (ra_nil))) (rs_cons (rs_set 2 sc_turnables.nd (re_int)) (rs_cons (rs_for PassesOwn.never rfl (ri_r1 (by rfl) T.z_range (ra_cons (re_var 0) (ra_nil))) (pg_name (i := 3) sc_turnables.nd rfl (by first | exact Or.inl rfl | exact Or.inr rfl)) (tg_n 3) (rs_one (rs_set 2 sc_turnables.nd (re_bin op_mulU os_mul (re_var 2) (re_int))))) (rs_cons (rs_set 4 sc_turnables.nd (re_int)) (rs_cons (rs_while PassesOwn.never (rt_cmp op_lt os_cmp (nomark _) (re_var 4) (re_var 2)) (rs_cons (rs_set 5 sc_turnables.nd (re_var 4)) (rs_cons (rs_while PassesOwn.never (rt_cmp op_lt os_cmp (nomark _) (re_var 5) (re_var 2)) (rs_cons (rs_set 6 sc_turnables.nd (re_var 5)) (rs_cons (rs_while PassesOwn.never (rt_cmp op_lt os_cmp (nomark _) (re_var 6) (re_var 2)) (rs_cons (rs_if (rt_cmp (op_neD (room64 hr)) os_ne (nomark _) (re_bin op_mod os_mod (re_var 6) (re_int)) (re_int)) (rs_one (rs_app 1 (re_call0 c_row_of (hr.mono (by first | decide | omega)) (by rfl) (ra_cons (re_var 6) (ra_nil))))) (rs_nil)) (rs_one (rs_set 6 sc_turnables.nd (re_bin op_mulU os_mul (re_var 6) (re_int)))))) (rs_one (rs_set 5 sc_turnables.nd (re_bin op_mulU os_mul (re_var 5) (re_int))))))) (rs_one (rs_set 4 sc_turnables.nd (re_bin op_mulU os_mul (re_var 4) (re_int))))))) (rs_one (rs_ret (re_b1 cr_sortA cs_sort (by rfl) T.z_sorted PyProof.Rows.boot_sorted (re_var 1))))))))
set_option maxRecDepth 100000 in
theorem ok_law (F : Fun K "law" "law" s_law f fd) (T : Txt P w K mg base cn) (c_law_count : Cl0 P w K mg base cn 2 "_law_count" sp_law_count) (c_law_dice : Cl0 P w K mg base cn 1 "_law_dice" sp_law_dice) (c_law_drawn : Cl0 P w K mg base cn 3 "_law_drawn" sp_law_drawn) (c_law_left : Cl0 P w K mg base cn 1 "_law_left" sp_law_left) (c_law_next : Cl0 P w K mg base cn 1 "_law_next" sp_law_next) (c_law_refused : Cl0 P w K mg base cn 10 "_law_refused" sp_law_refused) (c_law_row : Cl0 P w K mg base cn 1 "_law_row" sp_law_row) (c_law_whole_of : Cl0 P w K mg base cn 1 "_law_whole_of" sp_law_whole_of) (c_times : Cl (L2N.CX P w) P w K mg base cn 2 "times" sp_times) (c_turnables : Cl0 P w K mg base cn 2 "turnables" sp_turnables) (c_turned : Cl (L2N.CX P w) P w K mg base cn 5 "turned" sp_turned) : FnOk P w K mg base CX0 11 f fd ["_law_script"] (LSp0 K cn spLaw) :=
  fn_ok0 F sc_law (by intro xs g Qu Qx h; first | (refine Or.elim h (fun h => ?_) (fun h => ?_) <;> first | (refine Or.elim h (fun h => ?_) (fun h => ?_) <;> first | (obtain ⟨rfl, _⟩ := h; rfl) | (obtain ⟨_, rfl, _⟩ := h; rfl) | (obtain ⟨_, _, rfl, _⟩ := h; rfl) | (obtain ⟨_, _, _, rfl, _⟩ := h; rfl) | (obtain ⟨_, _, _, _, rfl, _⟩ := h; rfl) | (obtain ⟨_, _, _, _, _, rfl, _⟩ := h; rfl) | (obtain ⟨_, _, _, _, _, _, rfl, _⟩ := h; rfl) | (obtain ⟨_, _, _, _, _, _, _, rfl, _⟩ := h; rfl) | (obtain ⟨_, _, _, _, _, _, _, _, rfl, _⟩ := h; rfl) | (obtain ⟨_, _, _, _, _, _, _, _, _, rfl, _⟩ := h; rfl)) | (obtain ⟨rfl, _⟩ := h; rfl) | (obtain ⟨_, rfl, _⟩ := h; rfl) | (obtain ⟨_, _, rfl, _⟩ := h; rfl) | (obtain ⟨_, _, _, rfl, _⟩ := h; rfl) | (obtain ⟨_, _, _, _, rfl, _⟩ := h; rfl) | (obtain ⟨_, _, _, _, _, rfl, _⟩ := h; rfl) | (obtain ⟨_, _, _, _, _, _, rfl, _⟩ := h; rfl) | (obtain ⟨_, _, _, _, _, _, _, rfl, _⟩ := h; rfl) | (obtain ⟨_, _, _, _, _, _, _, _, rfl, _⟩ := h; rfl) | (obtain ⟨_, _, _, _, _, _, _, _, _, rfl, _⟩ := h; rfl)) | (obtain ⟨rfl, _⟩ := h; rfl) | (obtain ⟨_, rfl, _⟩ := h; rfl) | (obtain ⟨_, _, rfl, _⟩ := h; rfl) | (obtain ⟨_, _, _, rfl, _⟩ := h; rfl) | (obtain ⟨_, _, _, _, rfl, _⟩ := h; rfl) | (obtain ⟨_, _, _, _, _, rfl, _⟩ := h; rfl) | (obtain ⟨_, _, _, _, _, _, rfl, _⟩ := h; rfl) | (obtain ⟨_, _, _, _, _, _, _, rfl, _⟩ := h; rfl) | (obtain ⟨_, _, _, _, _, _, _, _, rfl, _⟩ := h; rfl) | (obtain ⟨_, _, _, _, _, _, _, _, _, rfl, _⟩ := h; rfl)) t_law fun cdv A outer s H E hr =>
  rs_cons (rs_setO 1 sc_law.nd (re_call0 c_law_dice (hr.mono (by first | decide | omega)) (by rfl) (ra_cons (re_var 0) (ra_nil)))) (rs_share 1 (rs_cons (rs_set 2 sc_law.nd (re_ix (re_lst (ra_cons (re_bin op_addU os_add (re_int) (re_call0 c_law_next (hr.mono (by first | decide | omega)) (by rfl) (ra_cons (re_var 1) (ra_cons (re_int) (ra_nil))))) (ra_cons (re_int) (ra_nil)))) (re_t1 call_intU cs_int (by rfl) T.z_int PyProof.Rows.boot_int (re_cmp (op_eqD (room64 hr)) os_eq (nomark _) (re_call0 c_law_next (hr.mono (by first | decide | omega)) (by rfl) (ra_cons (re_var 1) (ra_cons (re_int) (ra_nil)))) (re_int))))) (rs_cons (rs_setO 3 sc_law.nd (re_call0 c_turnables (hr.mono (by first | decide | omega)) (by rfl) (ra_cons (re_var 2) (ra_nil)))) (rs_cons (rs_if (rt_w (rw_or (rt_cmp (op_neD (room64 hr)) os_ne (nomark _) (re_var 3) (re_sset rfl (room64 hr) (by rfl) rfl T.z_sorted (by rfl) rfl T.z_set (re_var 3))) (rw_or1 (rt_cmp (op_neD (room64 hr)) os_ne (nomark _) (re_lcB 3 rfl sc_law.nd (own := [("_law_row_here", 5)]) (blkOk_by (own := [("_law_row_here", 5)]) (N := N_law) (sc := defScope s_law) (by decide +kernel)) (tg_n 5) (by decide) (fun _ _ _ _ _ => pg_name (i := 5) sc_law.nd rfl (by first | exact Or.inl rfl | exact Or.inr rfl)) (fun _ _ _ _ _ => rts_one (rt_cmp op_gt os_cmp (nomark _) (re_call0 c_law_left (hr.mono (by first | decide | omega)) (by rfl) (ra_cons (re_call0 c_law_whole_of (hr.mono (by first | decide | omega)) (by rfl) (ra_cons (re_var 5) (ra_nil))) (ra_nil))) (re_int))) (fun _ _ _ _ _ => re_var 5)) (re_lst (ra_nil)))))) (rs_one (rs_ret (re_bl))) (rs_nil)) (rs_cons (rs_if (rt_cmp (op_neD (room64 hr)) os_ne (nomark _) (re_lcB 3 rfl sc_law.nd (own := [("_law_row_here", 5)]) (blkOk_by (own := [("_law_row_here", 5)]) (N := N_law) (sc := defScope s_law) (by decide +kernel)) (tg_n 5) (by decide) (fun _ _ _ _ _ => pg_name (i := 5) sc_law.nd rfl (by first | exact Or.inl rfl | exact Or.inr rfl)) (fun _ _ _ _ _ => rts_one (rt_w (rw_or (rt_not (rt_chain op_le os_cmp op_le os_cmp (re_int) (re_b1 call_len cs_len (by rfl) T.z_len PySem.boot_len (re_var 5)) (re_var 2))) (rw_or (rt_cmp (op_eqD (room64 hr)) os_eq (nomark _) (re_ix (re_var 5) (re_neg (re_int))) (re_int)) (rw_or1 (rt_cmp (op_eqD (room64 hr)) os_eq (nomark _) (re_ix (re_var 5) (re_int)) (re_int))))))) (fun _ _ _ _ _ => re_var 5)) (re_lst (ra_nil))) (rs_one (rs_ret (re_bl))) (rs_nil)) (rs_cons (rs_if (rt_cmp (op_neD (room64 hr)) os_ne (nomark _) (re_b1 call_len cs_len (by rfl) T.z_len PySem.boot_len (re_var 3)) (re_call0 c_law_count (hr.mono (by first | decide | omega)) (by rfl) (ra_cons (re_var 2) (ra_nil)))) (rs_one (rs_ret (re_bl))) (rs_nil)) (rs_cons (rs_for PassesOwn.never rfl (ri_r1 (by rfl) T.z_range (ra_cons (re_int) (ra_nil))) (pg_name (i := 4) sc_law.nd rfl (by first | exact Or.inl rfl | exact Or.inr rfl)) (tg_n 4) (rs_cons (rs_set 5 sc_law.nd (re_call0 c_law_drawn (hr.mono (by first | decide | omega)) (by rfl) (ra_cons (re_var 1) (ra_cons (re_int) (ra_nil))))) (rs_one (rs_if (rt_cmp op_gt os_cmp (nomark _) (re_call0 c_law_left (hr.mono (by first | decide | omega)) (by rfl) (ra_cons (re_call0 c_law_whole_of (hr.mono (by first | decide | omega)) (by rfl) (ra_cons (re_var 5) (ra_nil))) (ra_nil))) (re_int)) (rs_one (rs_if (rt_w (rw_or (rt_cmp (op_inU (room65 hr)) (os_in (neg := false)) (by rfl) (re_var 5) (re_var 3)) (rw_or1 (rt_not (rt_val (re_call0 c_law_refused (hr.mono (by first | decide | omega)) (by rfl) (ra_cons (re_var 5) (ra_nil)))))))) (rs_one (rs_ret (re_bl))) (rs_nil))) (rs_cons (rs_if (rt_cmp (op_neD (room64 hr)) os_ne (nomark _) (re_cmp (op_inU (room65 hr)) (os_in (neg := false)) (by rfl) (re_var 5) (re_var 3)) (re_cmp op_le os_cmp (nomark _) (re_b1 call_len cs_len (by rfl) T.z_len PySem.boot_len (re_var 5)) (re_var 2))) (rs_one (rs_ret (re_bl))) (rs_nil)) (rs_cons (rs_set 6 sc_law.nd (re_callR c_turned (hr.mono (by first | decide | omega)) (by rfl) hx_0N (ra_cons (re_var 5) (ra_nil)))) (rs_cons (rs_if (rt_w (rw_or (rt_cmp (op_neD (room64 hr)) os_ne (nomark _) (re_call0 c_law_row (hr.mono (by first | decide | omega)) (by rfl) (ra_cons (re_bin op_mulU os_mul (re_call0 c_law_whole_of (hr.mono (by first | decide | omega)) (by rfl) (ra_cons (re_var 6) (ra_nil))) (re_call0 c_law_whole_of (hr.mono (by first | decide | omega)) (by rfl) (ra_cons (re_var 5) (ra_nil)))) (ra_nil))) (re_tup (ra_cons (re_int) (ra_nil)))) (rw_or1 (rt_cmp (op_neD (room64 hr)) os_ne (nomark _) (re_callR c_times (hr.mono (by first | decide | omega)) (by rfl) hx_0N (ra_cons (re_var 6) (ra_cons (re_var 5) (ra_nil)))) (re_tup (ra_cons (re_int) (ra_nil))))))) (rs_one (rs_ret (re_bl))) (rs_nil)) (rs_one (rs_if (rt_cmp (op_neD (room64 hr)) os_ne (nomark _) (re_callR c_turned (hr.mono (by first | decide | omega)) (by rfl) hx_0N (ra_cons (re_var 6) (ra_nil))) (re_var 5)) (rs_one (rs_ret (re_bl))) (rs_nil)))))))))) (rs_cons (rs_clrO 3) (rs_one (rs_ret (re_cmp (op_eqD (room64 hr)) os_eq (nomark _) (re_b1 call_len cs_len (by rfl) T.z_len PySem.boot_len (re_call0 c_turnables (hr.mono (by first | decide | omega)) (by rfl) (ra_cons (re_int) (ra_nil)))) (re_call0 c_law_count (hr.mono (by first | decide | omega)) (by rfl) (ra_cons (re_int) (ra_nil))))))))))))))
end
theorem all_mk {l : PySem.W.OpenLaw} {w : World} {K : PySem.W.Frag} {h : Heap} {mg : Str → Option Value} {fa : Addr} (X : K.In h) (G : h.Ns mainGlobals mg) (hfa : mg "law" = some (.ref fa))
    {f0 : Addr} {od0 an0 : Option Addr} {sl0 : Array (Option Value)} {oc0 kV0 dc0 pm0 cd0 ct0 : Value}
    {f1 : Addr} {od1 an1 : Option Addr} {sl1 : Array (Option Value)} {oc1 kV1 dc1 pm1 cd1 ct1 : Value}
    {f2 : Addr} {od2 an2 : Option Addr} {sl2 : Array (Option Value)} {oc2 kV2 dc2 pm2 cd2 ct2 : Value}
    {f3 : Addr} {od3 an3 : Option Addr} {sl3 : Array (Option Value)} {oc3 kV3 dc3 pm3 cd3 ct3 : Value}
    {f4 : Addr} {od4 an4 : Option Addr} {sl4 : Array (Option Value)} {oc4 kV4 dc4 pm4 cd4 ct4 : Value}
    {f5 : Addr} {od5 an5 : Option Addr} {sl5 : Array (Option Value)} {oc5 kV5 dc5 pm5 cd5 ct5 : Value}
    {f6 : Addr} {od6 an6 : Option Addr} {sl6 : Array (Option Value)} {oc6 kV6 dc6 pm6 cd6 ct6 : Value}
    {f7 : Addr} {od7 an7 : Option Addr} {sl7 : Array (Option Value)} {oc7 kV7 dc7 pm7 cd7 ct7 : Value}
    {f8 : Addr} {od8 an8 : Option Addr} {sl8 : Array (Option Value)} {oc8 kV8 dc8 pm8 cd8 ct8 : Value}
    {f9 : Addr} {od9 an9 : Option Addr} {sl9 : Array (Option Value)} {oc9 kV9 dc9 pm9 cd9 ct9 : Value}
    {f10 : Addr} {od10 an10 : Option Addr} {sl10 : Array (Option Value)} {oc10 kV10 dc10 pm10 cd10 ct10 : Value}
    {f11 : Addr} {od11 an11 : Option Addr} {sl11 : Array (Option Value)} {oc11 kV11 dc11 pm11 cd11 ct11 : Value}
    {f12 : Addr} {od12 an12 : Option Addr} {sl12 : Array (Option Value)} {oc12 kV12 dc12 pm12 cd12 ct12 : Value}
    {f13 : Addr} {od13 an13 : Option Addr} {sl13 : Array (Option Value)} {oc13 kV13 dc13 pm13 cd13 ct13 : Value}
    {f14 : Addr} {od14 an14 : Option Addr} {sl14 : Array (Option Value)} {oc14 kV14 dc14 pm14 cd14 ct14 : Value}
    {f15 : Addr} {od15 an15 : Option Addr} {sl15 : Array (Option Value)} {oc15 kV15 dc15 pm15 cd15 ct15 : Value}
    {f16 : Addr} {od16 an16 : Option Addr} {sl16 : Array (Option Value)} {oc16 kV16 dc16 pm16 cd16 ct16 : Value}
    {f17 : Addr} {od17 an17 : Option Addr} {sl17 : Array (Option Value)} {oc17 kV17 dc17 pm17 cd17 ct17 : Value}
    {f18 : Addr} {od18 an18 : Option Addr} {sl18 : Array (Option Value)} {oc18 kV18 dc18 pm18 cd18 ct18 : Value}
    {f19 : Addr} {od19 an19 : Option Addr} {sl19 : Array (Option Value)} {oc19 kV19 dc19 pm19 cd19 ct19 : Value}
    {f20 : Addr} {od20 an20 : Option Addr} {sl20 : Array (Option Value)} {oc20 kV20 dc20 pm20 cd20 ct20 : Value}
    {f21 : Addr} {od21 an21 : Option Addr} {sl21 : Array (Option Value)} {oc21 kV21 dc21 pm21 cd21 ct21 : Value}
    {f22 : Addr} {od22 an22 : Option Addr} {sl22 : Array (Option Value)} {oc22 kV22 dc22 pm22 cd22 ct22 : Value}
    (a0 : PySem.W.nsIn K mainGlobals "_law_power" = some (some (.ref f0))) (l0 : K.lookup f0 = some ⟨oc0, od0, .func (PySem.W.fnOf "_law_power" "_law_power" (defArgs s_law_power) (defBody s_law_power) (defScope s_law_power) .none kV0 dc0 pm0 an0 cd0 ct0), sl0⟩) (c0 : PySem.W.codeIn K cd0 "_law_power" = true) (k0 : PySem.W.keepIn K (.ref f0) = true)
    (a1 : PySem.W.nsIn K mainGlobals "_law_count" = some (some (.ref f1))) (l1 : K.lookup f1 = some ⟨oc1, od1, .func (PySem.W.fnOf "_law_count" "_law_count" (defArgs s_law_count) (defBody s_law_count) (defScope s_law_count) .none kV1 dc1 pm1 an1 cd1 ct1), sl1⟩) (c1 : PySem.W.codeIn K cd1 "_law_count" = true) (k1 : PySem.W.keepIn K (.ref f1) = true)
    (a2 : PySem.W.nsIn K mainGlobals "_law_dice" = some (some (.ref f2))) (l2 : K.lookup f2 = some ⟨oc2, od2, .func (PySem.W.fnOf "_law_dice" "_law_dice" (defArgs s_law_dice) (defBody s_law_dice) (defScope s_law_dice) .none kV2 dc2 pm2 an2 cd2 ct2), sl2⟩) (c2 : PySem.W.codeIn K cd2 "_law_dice" = true) (k2 : PySem.W.keepIn K (.ref f2) = true)
    (a3 : PySem.W.nsIn K mainGlobals "_law_next" = some (some (.ref f3))) (l3 : K.lookup f3 = some ⟨oc3, od3, .func (PySem.W.fnOf "_law_next" "_law_next" (defArgs s_law_next) (defBody s_law_next) (defScope s_law_next) .none kV3 dc3 pm3 an3 cd3 ct3), sl3⟩) (c3 : PySem.W.codeIn K cd3 "_law_next" = true) (k3 : PySem.W.keepIn K (.ref f3) = true)
    (a4 : PySem.W.nsIn K mainGlobals "_law_row" = some (some (.ref f4))) (l4 : K.lookup f4 = some ⟨oc4, od4, .func (PySem.W.fnOf "_law_row" "_law_row" (defArgs s_law_row) (defBody s_law_row) (defScope s_law_row) .none kV4 dc4 pm4 an4 cd4 ct4), sl4⟩) (c4 : PySem.W.codeIn K cd4 "_law_row" = true) (k4 : PySem.W.keepIn K (.ref f4) = true)
    (a5 : PySem.W.nsIn K mainGlobals "_law_smooth" = some (some (.ref f5))) (l5 : K.lookup f5 = some ⟨oc5, od5, .func (PySem.W.fnOf "_law_smooth" "_law_smooth" (defArgs s_law_smooth) (defBody s_law_smooth) (defScope s_law_smooth) .none kV5 dc5 pm5 an5 cd5 ct5), sl5⟩) (c5 : PySem.W.codeIn K cd5 "_law_smooth" = true) (k5 : PySem.W.keepIn K (.ref f5) = true)
    (a6 : PySem.W.nsIn K mainGlobals "_law_drawn" = some (some (.ref f6))) (l6 : K.lookup f6 = some ⟨oc6, od6, .func (PySem.W.fnOf "_law_drawn" "_law_drawn" (defArgs s_law_drawn) (defBody s_law_drawn) (defScope s_law_drawn) .none kV6 dc6 pm6 an6 cd6 ct6), sl6⟩) (c6 : PySem.W.codeIn K cd6 "_law_drawn" = true) (k6 : PySem.W.keepIn K (.ref f6) = true)
    (a7 : PySem.W.nsIn K mainGlobals "_law_left" = some (some (.ref f7))) (l7 : K.lookup f7 = some ⟨oc7, od7, .func (PySem.W.fnOf "_law_left" "_law_left" (defArgs s_law_left) (defBody s_law_left) (defScope s_law_left) .none kV7 dc7 pm7 an7 cd7 ct7), sl7⟩) (c7 : PySem.W.codeIn K cd7 "_law_left" = true) (k7 : PySem.W.keepIn K (.ref f7) = true)
    (a8 : PySem.W.nsIn K mainGlobals "_law_is" = some (some (.ref f8))) (l8 : K.lookup f8 = some ⟨oc8, od8, .func (PySem.W.fnOf "_law_is" "_law_is" (defArgs s_law_is) (defBody s_law_is) (defScope s_law_is) .none kV8 dc8 pm8 an8 cd8 ct8), sl8⟩) (c8 : PySem.W.codeIn K cd8 "_law_is" = true) (k8 : PySem.W.keepIn K (.ref f8) = true)
    (a9 : PySem.W.nsIn K mainGlobals "_law_like" = some (some (.ref f9))) (l9 : K.lookup f9 = some ⟨oc9, od9, .func (PySem.W.fnOf "_law_like" "_law_like" (defArgs s_law_like) (defBody s_law_like) (defScope s_law_like) .none kV9 dc9 pm9 an9 cd9 ct9), sl9⟩) (c9 : PySem.W.codeIn K cd9 "_law_like" = true) (k9 : PySem.W.keepIn K (.ref f9) = true)
    (a10 : PySem.W.nsIn K mainGlobals "_law_whole_of" = some (some (.ref f10))) (l10 : K.lookup f10 = some ⟨oc10, od10, .func (PySem.W.fnOf "_law_whole_of" "_law_whole_of" (defArgs s_law_whole_of) (defBody s_law_whole_of) (defScope s_law_whole_of) .none kV10 dc10 pm10 an10 cd10 ct10), sl10⟩) (c10 : PySem.W.codeIn K cd10 "_law_whole_of" = true) (k10 : PySem.W.keepIn K (.ref f10) = true)
    (a11 : PySem.W.nsIn K mainGlobals "need_row" = some (some (.ref f11))) (l11 : K.lookup f11 = some ⟨oc11, od11, .func (PySem.W.fnOf "need_row" "need_row" (defArgs s_need_row) (defBody s_need_row) (defScope s_need_row) .none kV11 dc11 pm11 an11 cd11 ct11), sl11⟩) (c11 : PySem.W.codeIn K cd11 "need_row" = true) (k11 : PySem.W.keepIn K (.ref f11) = true)
    (a12 : PySem.W.nsIn K mainGlobals "row_of" = some (some (.ref f12))) (l12 : K.lookup f12 = some ⟨oc12, od12, .func (PySem.W.fnOf "row_of" "row_of" (defArgs s_row_of) (defBody s_row_of) (defScope s_row_of) .none kV12 dc12 pm12 an12 cd12 ct12), sl12⟩) (c12 : PySem.W.codeIn K cd12 "row_of" = true) (k12 : PySem.W.keepIn K (.ref f12) = true)
    (a13 : PySem.W.nsIn K mainGlobals "shared" = some (some (.ref f13))) (l13 : K.lookup f13 = some ⟨oc13, od13, .func (PySem.W.fnOf "shared" "shared" (defArgs s_shared) (defBody s_shared) (defScope s_shared) .none kV13 dc13 pm13 an13 cd13 ct13), sl13⟩) (c13 : PySem.W.codeIn K cd13 "shared" = true) (k13 : PySem.W.keepIn K (.ref f13) = true)
    (a14 : PySem.W.nsIn K mainGlobals "taken_out" = some (some (.ref f14))) (l14 : K.lookup f14 = some ⟨oc14, od14, .func (PySem.W.fnOf "taken_out" "taken_out" (defArgs s_taken_out) (defBody s_taken_out) (defScope s_taken_out) .none kV14 dc14 pm14 an14 cd14 ct14), sl14⟩) (c14 : PySem.W.codeIn K cd14 "taken_out" = true) (k14 : PySem.W.keepIn K (.ref f14) = true)
    (a15 : PySem.W.nsIn K mainGlobals "whole_of" = some (some (.ref f15))) (l15 : K.lookup f15 = some ⟨oc15, od15, .func (PySem.W.fnOf "whole_of" "whole_of" (defArgs s_whole_of) (defBody s_whole_of) (defScope s_whole_of) .none kV15 dc15 pm15 an15 cd15 ct15), sl15⟩) (c15 : PySem.W.codeIn K cd15 "whole_of" = true) (k15 : PySem.W.keepIn K (.ref f15) = true)
    (a16 : PySem.W.nsIn K mainGlobals "parted" = some (some (.ref f16))) (l16 : K.lookup f16 = some ⟨oc16, od16, .func (PySem.W.fnOf "parted" "parted" (defArgs s_parted) (defBody s_parted) (defScope s_parted) .none kV16 dc16 pm16 an16 cd16 ct16), sl16⟩) (c16 : PySem.W.codeIn K cd16 "parted" = true) (k16 : PySem.W.keepIn K (.ref f16) = true)
    (a17 : PySem.W.nsIn K mainGlobals "part" = some (some (.ref f17))) (l17 : K.lookup f17 = some ⟨oc17, od17, .func (PySem.W.fnOf "part" "part" (defArgs s_part) (defBody s_part) (defScope s_part) .none kV17 dc17 pm17 an17 cd17 ct17), sl17⟩) (c17 : PySem.W.codeIn K cd17 "part" = true) (k17 : PySem.W.keepIn K (.ref f17) = true)
    (a18 : PySem.W.nsIn K mainGlobals "turned" = some (some (.ref f18))) (l18 : K.lookup f18 = some ⟨oc18, od18, .func (PySem.W.fnOf "turned" "turned" (defArgs s_turned) (defBody s_turned) (defScope s_turned) .none kV18 dc18 pm18 an18 cd18 ct18), sl18⟩) (c18 : PySem.W.codeIn K cd18 "turned" = true) (k18 : PySem.W.keepIn K (.ref f18) = true)
    (a19 : PySem.W.nsIn K mainGlobals "_law_refused" = some (some (.ref f19))) (l19 : K.lookup f19 = some ⟨oc19, od19, .func (PySem.W.fnOf "_law_refused" "_law_refused" (defArgs s_law_refused) (defBody s_law_refused) (defScope s_law_refused) .none kV19 dc19 pm19 an19 cd19 ct19), sl19⟩) (c19 : PySem.W.codeIn K cd19 "_law_refused" = true) (k19 : PySem.W.keepIn K (.ref f19) = true)
    (a20 : PySem.W.nsIn K mainGlobals "times" = some (some (.ref f20))) (l20 : K.lookup f20 = some ⟨oc20, od20, .func (PySem.W.fnOf "times" "times" (defArgs s_times) (defBody s_times) (defScope s_times) .none kV20 dc20 pm20 an20 cd20 ct20), sl20⟩) (c20 : PySem.W.codeIn K cd20 "times" = true) (k20 : PySem.W.keepIn K (.ref f20) = true)
    (a21 : PySem.W.nsIn K mainGlobals "turnables" = some (some (.ref f21))) (l21 : K.lookup f21 = some ⟨oc21, od21, .func (PySem.W.fnOf "turnables" "turnables" (defArgs s_turnables) (defBody s_turnables) (defScope s_turnables) .none kV21 dc21 pm21 an21 cd21 ct21), sl21⟩) (c21 : PySem.W.codeIn K cd21 "turnables" = true) (k21 : PySem.W.keepIn K (.ref f21) = true)
    (a22 : PySem.W.nsIn K mainGlobals "law" = some (some (.ref f22))) (l22 : K.lookup f22 = some ⟨oc22, od22, .func (PySem.W.fnOf "law" "law" (defArgs s_law) (defBody s_law) (defScope s_law) .none kV22 dc22 pm22 an22 cd22 ct22), sl22⟩) (c22 : PySem.W.codeIn K cd22 "law" = true) (k22 : PySem.W.keepIn K (.ref f22) = true)
    (z_ValueError : PySem.W.nsIn K mainGlobals "ValueError" = some none)
    (z_bool : PySem.W.nsIn K mainGlobals "bool" = some none)
    (z_int : PySem.W.nsIn K mainGlobals "int" = some none)
    (z_isinstance : PySem.W.nsIn K mainGlobals "isinstance" = some none)
    (z_len : PySem.W.nsIn K mainGlobals "len" = some none)
    (z_list : PySem.W.nsIn K mainGlobals "list" = some none)
    (z_range : PySem.W.nsIn K mainGlobals "range" = some none)
    (z_set : PySem.W.nsIn K mainGlobals "set" = some none)
    (z_sorted : PySem.W.nsIn K mainGlobals "sorted" = some none)
    (z_str : PySem.W.nsIn K mainGlobals "str" = some none)
    (z_tuple : PySem.W.nsIn K mainGlobals "tuple" = some none)
    {t_MOST_FIGURES : Tok} (k_MOST_FIGURES : PySem.W.nsIn K mainGlobals "MOST_FIGURES" = some (some (.int 12 t_MOST_FIGURES)))
    {a_PRIMES : Addr} {od_PRIMES : Option Addr} {sl_PRIMES : Array (Option Value)} {n_PRIMES : Nat} {t_PRIMES_0 t_PRIMES_1 t_PRIMES_2 : Tok} (k_PRIMES : PySem.W.nsIn K mainGlobals "PRIMES" = some (some (.ref a_PRIMES))) (o_PRIMES : K.lookup a_PRIMES = some ⟨.type "tuple", od_PRIMES, .seq #[.int 2 t_PRIMES_0, .int 3 t_PRIMES_1, .int 5 t_PRIMES_2] n_PRIMES, sl_PRIMES⟩)
    {C_BadRow : Addr}
    {C_BadStep : Addr}
    {C_BadText : Addr}
    {C_NoSide : Addr}
    {C_NotTurned : Addr}
    {C_SixtyError : Addr}
    (x_BadRow : PySem.W.nsIn K mainGlobals "BadRow" = some (some (.ref C_BadRow)))
    (b_BadRow : PySem.W.subIn K (.ref C_BadRow) (.type "BaseException") = some true) (t_BadRow : PySem.W.typeIn K (.ref C_BadRow) = some (.type "type"))
    (kc_BadRow : PySem.W.keepIn K (.ref C_BadRow) = true)
    (e_BadRow : PySem.W.excIn K C_BadRow [.type "ValueError", .type "Exception", .type "BaseException", .type "object"] "ValueError.__new__" = true)
    (h_BadRow : PySem.W.hasDictIn K C_BadRow = true)
    (x_BadStep : PySem.W.nsIn K mainGlobals "BadStep" = some (some (.ref C_BadStep)))
    (b_BadStep : PySem.W.subIn K (.ref C_BadStep) (.type "BaseException") = some true) (t_BadStep : PySem.W.typeIn K (.ref C_BadStep) = some (.type "type"))
    (h_BadStep : PySem.W.hasDictIn K C_BadStep = true)
    (x_BadText : PySem.W.nsIn K mainGlobals "BadText" = some (some (.ref C_BadText)))
    (b_BadText : PySem.W.subIn K (.ref C_BadText) (.type "BaseException") = some true) (t_BadText : PySem.W.typeIn K (.ref C_BadText) = some (.type "type"))
    (h_BadText : PySem.W.hasDictIn K C_BadText = true)
    (x_NoSide : PySem.W.nsIn K mainGlobals "NoSide" = some (some (.ref C_NoSide)))
    (b_NoSide : PySem.W.subIn K (.ref C_NoSide) (.type "BaseException") = some true) (t_NoSide : PySem.W.typeIn K (.ref C_NoSide) = some (.type "type"))
    (h_NoSide : PySem.W.hasDictIn K C_NoSide = true)
    (x_NotTurned : PySem.W.nsIn K mainGlobals "NotTurned" = some (some (.ref C_NotTurned)))
    (b_NotTurned : PySem.W.subIn K (.ref C_NotTurned) (.type "BaseException") = some true) (t_NotTurned : PySem.W.typeIn K (.ref C_NotTurned) = some (.type "type"))
    (kc_NotTurned : PySem.W.keepIn K (.ref C_NotTurned) = true)
    (h_NotTurned : PySem.W.hasDictIn K C_NotTurned = true)
    {q1_NotTurned q2_NotTurned : Str} {q3_NotTurned : Addr} {q4_NotTurned : List Value} {q5_NotTurned : List Str} {q6_NotTurned : List Value} {q7_NotTurned : Bool} {q8_NotTurned : Option Bool} {q9_NotTurned : Option Addr} {r1_NotTurned r2_NotTurned r3_NotTurned r4_NotTurned r5_NotTurned : Option Value}
    (L_NotTurned : K.lookup C_NotTurned = some (excClassObj q1_NotTurned q2_NotTurned C_NotTurned q3_NotTurned q4_NotTurned [.ref C_SixtyError, .type "ValueError", .type "Exception", .type "BaseException", .type "object"] true q5_NotTurned q6_NotTurned q7_NotTurned q8_NotTurned q9_NotTurned r1_NotTurned r2_NotTurned r3_NotTurned r4_NotTurned r5_NotTurned "ValueError.__new__"))
    (sa_NotTurned : PySem.W.findIn K (.ref C_NotTurned) "__setattr__" = some (some (.builtin "object.__setattr__")))
    {I_NotTurned : Addr} {iod_NotTurned ian_NotTurned : Option Addr} {isl_NotTurned : Array (Option Value)} {ioc_NotTurned ikV_NotTurned idc_NotTurned ipm_NotTurned icd_NotTurned ict_NotTurned : Value}
    (i_NotTurned : PySem.W.findIn K (.ref C_NotTurned) "__init__" = some (some (.ref I_NotTurned))) (ti_NotTurned : PySem.W.typeIn K (.ref I_NotTurned) = some (.type "function"))
    (li_NotTurned : K.lookup I_NotTurned = some ⟨ioc_NotTurned, iod_NotTurned, .func (PySem.W.fnOf "__init__" "NotTurned.__init__" (defArgs s_ini_NotTurned) (defBody s_ini_NotTurned) (defScope s_ini_NotTurned) .none ikV_NotTurned idc_NotTurned ipm_NotTurned ian_NotTurned icd_NotTurned ict_NotTurned), isl_NotTurned⟩) (ci_NotTurned : PySem.W.codeIn K icd_NotTurned "NotTurned.__init__" = true) (ki_NotTurned : PySem.W.keepIn K (.ref I_NotTurned) = true)
    (n_NotTurned_left : PySem.W.findIn K (.ref C_NotTurned) "left" = some none)
    (x_SixtyError : PySem.W.nsIn K mainGlobals "SixtyError" = some (some (.ref C_SixtyError)))
    (b_SixtyError : PySem.W.subIn K (.ref C_SixtyError) (.type "BaseException") = some true) (t_SixtyError : PySem.W.typeIn K (.ref C_SixtyError) = some (.type "type"))
    (h_SixtyError : PySem.W.hasDictIn K C_SixtyError = true)
    (ga_SixtyError : PySem.W.specialIn K (.ref C_SixtyError) "__getattribute__" = some (some (.builtin "type.__getattribute__"))) (rd_SixtyError : PySem.W.readsIn K C_SixtyError (.type "type") = true) (fc_SixtyError : PySem.W.findCls K (.ref C_SixtyError) (.type "type") "__init__" = some (.val (.builtin "ValueError.__init__")))
    (s_BadRow_BadRow : PySem.W.subIn K (.ref C_BadRow) (.ref C_BadRow) = some true)
    (s_BadRow_BadStep : PySem.W.subIn K (.ref C_BadRow) (.ref C_BadStep) = some false)
    (s_BadRow_BadText : PySem.W.subIn K (.ref C_BadRow) (.ref C_BadText) = some false)
    (s_BadRow_NoSide : PySem.W.subIn K (.ref C_BadRow) (.ref C_NoSide) = some false)
    (s_BadRow_NotTurned : PySem.W.subIn K (.ref C_BadRow) (.ref C_NotTurned) = some false)
    (s_BadRow_SixtyError : PySem.W.subIn K (.ref C_BadRow) (.ref C_SixtyError) = some true)
    (s_NotTurned_BadRow : PySem.W.subIn K (.ref C_NotTurned) (.ref C_BadRow) = some false)
    (s_NotTurned_BadStep : PySem.W.subIn K (.ref C_NotTurned) (.ref C_BadStep) = some false)
    (s_NotTurned_BadText : PySem.W.subIn K (.ref C_NotTurned) (.ref C_BadText) = some false)
    (s_NotTurned_NoSide : PySem.W.subIn K (.ref C_NotTurned) (.ref C_NoSide) = some false)
    (s_NotTurned_NotTurned : PySem.W.subIn K (.ref C_NotTurned) (.ref C_NotTurned) = some true)
    (s_NotTurned_SixtyError : PySem.W.subIn K (.ref C_NotTurned) (.ref C_SixtyError) = some true)
    (iv_BadRow : PySem.W.kitOne K (.ref C_BadRow) (.type "ValueError") = some true) (ic_BadRow : PySem.W.findIn K (.ref C_BadRow) "__class__" = some (some (.builtin "object.__class__"))) (im_BadRow : PySem.W.mroIn K C_BadRow (.type "object") = some true)
    (iv_NotTurned : PySem.W.kitOne K (.ref C_NotTurned) (.type "ValueError") = some true) (ic_NotTurned : PySem.W.findIn K (.ref C_NotTurned) "__class__" = some (some (.builtin "object.__class__"))) (im_NotTurned : PySem.W.mroIn K C_NotTurned (.type "object") = some true)
    (i_gn : PySem.W.specialIn K (.builtin "object.__class__") "__get__" = some (some (.builtin "getset_descriptor.__get__"))) (i_tk : PySem.W.takesIn K (.builtin "object.__class__") = some true)
    (xg_BadRow : PySem.W.findIn K (.ref C_BadRow) "__getattribute__" = some (some (.builtin "BaseException.__getattribute__"))) (xk_BadRow : PySem.W.findIn K (.ref C_BadRow) "__getattr__" = some none) (xd_BadRow : PySem.W.hasDictIn K C_BadRow = true)
    (xg_NotTurned : PySem.W.findIn K (.ref C_NotTurned) "__getattribute__" = some (some (.builtin "BaseException.__getattribute__"))) (xk_NotTurned : PySem.W.findIn K (.ref C_NotTurned) "__getattr__" = some none) (xd_NotTurned : PySem.W.hasDictIn K C_NotTurned = true) :
    ∃ (cn : Str → Option Addr) (fd : FuncData), (∀ (s : Shared) (v : Value), BindsTo s fd ⟨[v], []⟩ [("_law_script", v)]) ∧ ∀ base : Heap, K.In base → base.Ns mainGlobals mg → FnOk l.prog w K mg base CX0 11 fa fd ["_law_script"] (LSp0 K cn spLaw) := by
  have e := hfa.symm.trans (PySem.W.mg_of X G a22)
  cases e
  obtain ⟨cn, hcn⟩ : ∃ cn : Str → Option Addr, cn = fun nm => ([("BadRow", C_BadRow), ("NotTurned", C_NotTurned)] : List (Str × Addr)).lookup nm := ⟨_, rfl⟩
  have n_BadRow : cn "BadRow" = some C_BadRow := by rw [hcn]; rfl
  have n_NotTurned : cn "NotTurned" = some C_NotTurned := by rw [hcn]; rfl
  have F0 := fun_mk (st := s_law_power) l0 c0 k0
  have b0 := F0.binds (ps := ["_law_one", "_law_many_here"]) fun _ _ _ _ _ _ us hl => match us, hl with | [_, _], _ => rfl
  have F1 := fun_mk (st := s_law_count) l1 c1 k1
  have b1 := F1.binds (ps := ["_law_places"]) fun _ _ _ _ _ _ us hl => match us, hl with | [_], _ => rfl
  have F2 := fun_mk (st := s_law_dice) l2 c2 k2
  have b2 := F2.binds (ps := ["_law_script"]) fun _ _ _ _ _ _ us hl => match us, hl with | [_], _ => rfl
  have F3 := fun_mk (st := s_law_next) l3 c3 k3
  have b3 := F3.binds (ps := ["_law_dice_here", "_law_many_here"]) fun _ _ _ _ _ _ us hl => match us, hl with | [_, _], _ => rfl
  have F4 := fun_mk (st := s_law_row) l4 c4 k4
  have b4 := F4.binds (ps := ["_law_number"]) fun _ _ _ _ _ _ us hl => match us, hl with | [_], _ => rfl
  have F5 := fun_mk (st := s_law_smooth) l5 c5 k5
  have b5 := F5.binds (ps := ["_law_d"]) fun _ _ _ _ _ _ us hl => match us, hl with | [_], _ => rfl
  have F6 := fun_mk (st := s_law_drawn) l6 c6 k6
  have b6 := F6.binds (ps := ["_law_d", "_law_most"]) fun _ _ _ _ _ _ us hl => match us, hl with | [_, _], _ => rfl
  have F7 := fun_mk (st := s_law_left) l7 c7 k7
  have b7 := F7.binds (ps := ["_law_number"]) fun _ _ _ _ _ _ us hl => match us, hl with | [_], _ => rfl
  have F8 := fun_mk (st := s_law_is) l8 c8 k8
  have b8 := F8.binds (ps := ["_law_e", "_law_word"]) fun _ _ _ _ _ _ us hl => match us, hl with | [_, _], _ => rfl
  have F9 := fun_mk (st := s_law_like) l9 c9 k9
  have b9 := F9.binds (ps := ["_law_found", "_law_due"]) fun _ _ _ _ _ _ us hl => match us, hl with | [_, _], _ => rfl
  have F10 := fun_mk (st := s_law_whole_of) l10 c10 k10
  have b10 := F10.binds (ps := ["_law_row_here"]) fun _ _ _ _ _ _ us hl => match us, hl with | [_], _ => rfl
  have F11 := fun_mk (st := s_need_row) l11 c11 k11
  have b11 := F11.binds (ps := ["row"]) fun _ _ _ _ _ _ us hl => match us, hl with | [_], _ => rfl
  have F12 := fun_mk (st := s_row_of) l12 c12 k12
  have b12 := F12.binds (ps := ["number"]) fun _ _ _ _ _ _ us hl => match us, hl with | [_], _ => rfl
  have F13 := fun_mk (st := s_shared) l13 c13 k13
  have b13 := F13.binds (ps := ["one", "other"]) fun _ _ _ _ _ _ us hl => match us, hl with | [_, _], _ => rfl
  have F14 := fun_mk (st := s_taken_out) l14 c14 k14
  have b14 := F14.binds (ps := ["number"]) fun _ _ _ _ _ _ us hl => match us, hl with | [_], _ => rfl
  have F15 := fun_mk (st := s_whole_of) l15 c15 k15
  have b15 := F15.binds (ps := ["row"]) fun _ _ _ _ _ _ us hl => match us, hl with | [_], _ => rfl
  have F16 := fun_mk (st := s_parted) l16 c16 k16
  have b16 := F16.binds (ps := ["one", "other"]) fun _ _ _ _ _ _ us hl => match us, hl with | [_, _], _ => rfl
  have F17 := fun_mk (st := s_part) l17 c17 k17
  have b17 := F17.binds (ps := ["one", "other"]) fun _ _ _ _ _ _ us hl => match us, hl with | [_, _], _ => rfl
  have F18 := fun_mk (st := s_turned) l18 c18 k18
  have b18 := F18.binds (ps := ["row"]) fun _ _ _ _ _ _ us hl => match us, hl with | [_], _ => rfl
  have F19 := fun_mk (st := s_law_refused) l19 c19 k19
  have b19 := F19.binds (ps := ["_law_row_here"]) fun _ _ _ _ _ _ us hl => match us, hl with | [_], _ => rfl
  have F20 := fun_mk (st := s_times) l20 c20 k20
  have b20 := F20.binds (ps := ["one", "other"]) fun _ _ _ _ _ _ us hl => match us, hl with | [_, _], _ => rfl
  have F21 := fun_mk (st := s_turnables) l21 c21 k21
  have b21 := F21.binds (ps := ["places"]) fun _ _ _ _ _ _ us hl => match us, hl with | [_], _ => rfl
  have F22 := fun_mk (st := s_law) l22 c22 k22
  have T_SixtyError : CIni K mg "SixtyError" := ⟨_, PySem.W.mg_of X G x_SixtyError, ga_SixtyError, rd_SixtyError, fc_SixtyError⟩
  have Fi_NotTurned := fun_mk (st := s_ini_NotTurned) li_NotTurned ci_NotTurned ki_NotTurned
  have bi_NotTurned := Fi_NotTurned.binds (ps := ["self", "left"]) fun _ _ _ _ _ _ us hl => match us, hl with | [_, _], _ => rfl
  have O_NotTurned : OexC K C_NotTurned := ⟨⟨q1_NotTurned, q2_NotTurned, q3_NotTurned, q4_NotTurned, _, q5_NotTurned, q6_NotTurned, q7_NotTurned, q8_NotTurned, q9_NotTurned, r1_NotTurned, r2_NotTurned, r3_NotTurned, r4_NotTurned, r5_NotTurned, L_NotTurned, by rfl⟩, sa_NotTurned, b_NotTurned, t_NotTurned, kc_NotTurned⟩
  refine ⟨cn, PySem.W.fnOf "law" "law" (defArgs s_law) (defBody s_law) (defScope s_law) .none kV22 dc22 pm22 an22 cd22 ct22, fun s v => .of_eq rfl, fun base _ _ => ?_⟩
  have T : Txt l.prog w K mg base cn := ⟨PySem.W.mg_none_of X G z_ValueError, PySem.W.mg_none_of X G z_bool, PySem.W.mg_none_of X G z_int, PySem.W.mg_none_of X G z_isinstance, PySem.W.mg_none_of X G z_len, PySem.W.mg_none_of X G z_list, PySem.W.mg_none_of X G z_range, PySem.W.mg_none_of X G z_set, PySem.W.mg_none_of X G z_sorted, PySem.W.mg_none_of X G z_str, PySem.W.mg_none_of X G z_tuple, ⟨_, PySem.W.mg_of X G k_MOST_FIGURES⟩, ⟨_, PySem.W.mg_of X G k_PRIMES, sqt_K o_PRIMES (Nat.le_of_lt (small1000 (n := 3) (by decide))) (.cons ⟨_, rfl⟩ (.cons ⟨_, rfl⟩ (.cons ⟨_, rfl⟩ (.nil))))⟩, ⟨_, n_BadRow, PySem.W.mg_of X G x_BadRow, e_BadRow, kc_BadRow, b_BadRow, t_BadRow⟩, ⟨_, _, _, _, n_NotTurned, PySem.W.mg_of X G x_NotTurned, O_NotTurned, i_NotTurned, ti_NotTurned, mem_one n_NotTurned_left (fun _ h => nomatch h), ini_NotTurned Fi_NotTurned T_SixtyError, iniH_NotTurned Fi_NotTurned T_SixtyError, bi_NotTurned⟩, exM_of n_BadRow (PySem.W.mg_of X G x_SixtyError) b_SixtyError h_SixtyError t_SixtyError s_BadRow_SixtyError, exM_of n_NotTurned (PySem.W.mg_of X G x_SixtyError) b_SixtyError h_SixtyError t_SixtyError s_NotTurned_SixtyError, ⟨_, PySem.W.mg_of X G x_SixtyError⟩, ⟨_, n_NotTurned, ⟨xg_NotTurned, xk_NotTurned, b_NotTurned, xd_NotTurned⟩, n_NotTurned_left⟩, ⟨mem_one ⟨_, PySem.W.mg_of X G x_BadRow, lk_nm (mem_one ⟨_, n_BadRow, kitOne_of h_BadRow t_BadRow s_BadRow_BadRow (fun _ => s_BadRow_BadRow)⟩ (mem_one ⟨_, n_NotTurned, kitOne_of h_BadRow t_BadRow s_NotTurned_BadRow (fun _ => s_NotTurned_NotTurned)⟩ (fun _ h => nomatch h)))⟩ (mem_one ⟨_, PySem.W.mg_of X G x_NotTurned, lk_nm (mem_one ⟨_, n_BadRow, kitOne_of h_NotTurned t_NotTurned s_BadRow_NotTurned (fun _ => s_BadRow_BadRow)⟩ (mem_one ⟨_, n_NotTurned, kitOne_of h_NotTurned t_NotTurned s_NotTurned_NotTurned (fun _ => s_NotTurned_NotTurned)⟩ (fun _ h => nomatch h)))⟩ (mem_one ⟨_, PySem.W.mg_of X G x_NoSide, lk_nm (mem_one ⟨_, n_BadRow, kitOne_of h_NoSide t_NoSide s_BadRow_NoSide (fun _ => s_BadRow_BadRow)⟩ (mem_one ⟨_, n_NotTurned, kitOne_of h_NoSide t_NoSide s_NotTurned_NoSide (fun _ => s_NotTurned_NotTurned)⟩ (fun _ h => nomatch h)))⟩ (mem_one ⟨_, PySem.W.mg_of X G x_BadStep, lk_nm (mem_one ⟨_, n_BadRow, kitOne_of h_BadStep t_BadStep s_BadRow_BadStep (fun _ => s_BadRow_BadRow)⟩ (mem_one ⟨_, n_NotTurned, kitOne_of h_BadStep t_BadStep s_NotTurned_BadStep (fun _ => s_NotTurned_NotTurned)⟩ (fun _ h => nomatch h)))⟩ (mem_one ⟨_, PySem.W.mg_of X G x_BadText, lk_nm (mem_one ⟨_, n_BadRow, kitOne_of h_BadText t_BadText s_BadRow_BadText (fun _ => s_BadRow_BadRow)⟩ (mem_one ⟨_, n_NotTurned, kitOne_of h_BadText t_BadText s_NotTurned_BadText (fun _ => s_NotTurned_NotTurned)⟩ (fun _ h => nomatch h)))⟩ (fun _ h => nomatch h))))), lk_nm (mem_one ⟨_, n_BadRow, iv_BadRow⟩ (mem_one ⟨_, n_NotTurned, iv_NotTurned⟩ (fun _ h => nomatch h))), lk_nm (mem_one ⟨_, n_BadRow, ⟨hasDict_cls h_BadRow, xg_BadRow, xk_BadRow, b_BadRow, ic_BadRow, i_gn, i_tk, im_BadRow⟩⟩ (mem_one ⟨_, n_NotTurned, ⟨hasDict_cls h_NotTurned, xg_NotTurned, xk_NotTurned, b_NotTurned, ic_NotTurned, i_gn, i_tk, im_NotTurned⟩⟩ (fun _ h => nomatch h)))⟩, trivial⟩
  have c_law_power : Cl0 l.prog w K mg base cn 1 "_law_power" sp_law_power := ⟨f0, _, _, (ok_law_power F0 T ), PySem.W.mg_of X G a0, k0, b0⟩
  have c_law_count : Cl0 l.prog w K mg base cn 2 "_law_count" sp_law_count := ⟨f1, _, _, (ok_law_count F1 T c_law_power), PySem.W.mg_of X G a1, k1, b1⟩
  have c_law_dice : Cl0 l.prog w K mg base cn 1 "_law_dice" sp_law_dice := ⟨f2, _, _, (ok_law_dice F2 T ), PySem.W.mg_of X G a2, k2, b2⟩
  have c_law_next : Cl0 l.prog w K mg base cn 1 "_law_next" sp_law_next := ⟨f3, _, _, (ok_law_next F3 T ), PySem.W.mg_of X G a3, k3, b3⟩
  have c_law_row : Cl0 l.prog w K mg base cn 1 "_law_row" sp_law_row := ⟨f4, _, _, (ok_law_row F4 T ), PySem.W.mg_of X G a4, k4, b4⟩
  have c_law_smooth : Cl0 l.prog w K mg base cn 2 "_law_smooth" sp_law_smooth := ⟨f5, _, _, (ok_law_smooth F5 T c_law_next), PySem.W.mg_of X G a5, k5, b5⟩
  have c_law_drawn : Cl0 l.prog w K mg base cn 3 "_law_drawn" sp_law_drawn := ⟨f6, _, _, (ok_law_drawn F6 T c_law_next c_law_row c_law_smooth), PySem.W.mg_of X G a6, k6, b6⟩
  have cQ_law_left : ClHq l.prog w K mg base cn 1 "_law_left" (fun _ => sp_law_left) := ⟨f7, _, _, okQ_law_left F7 T, PySem.W.mg_of X G a7, k7, b7⟩
  have c_law_left : Cl0 l.prog w K mg base cn 1 "_law_left" sp_law_left := ⟨f7, _, _, (ok_law_left F7 T ), PySem.W.mg_of X G a7, k7, b7⟩
  have c_law_is : ClH l.prog w K mg base cn 1 "_law_is" (sp_law_is cn R_is) := ⟨f8, _, _, (ok_law_is F8 T ), PySem.W.mg_of X G a8, k8, b8⟩
  have cQ_law_like : ClHq l.prog w K mg base cn 9 "_law_like" (fun _ => sp_law_like) := ⟨f9, _, _, okQ_law_like F9 T (PySem.W.mg_of X G a9) k9 b9 8, PySem.W.mg_of X G a9, k9, b9⟩
  have c_law_like : Cl0 l.prog w K mg base cn 9 "_law_like" sp_law_like := ⟨f9, _, _, (ok_law_like F9 T (PySem.W.mg_of X G a9) k9 b9  8), PySem.W.mg_of X G a9, k9, b9⟩
  have cQ_law_whole_of : ClHq l.prog w K mg base cn 1 "_law_whole_of" (fun _ => sp_law_whole_of) := ⟨f10, _, _, okQ_law_whole_of F10 T, PySem.W.mg_of X G a10, k10, b10⟩
  have c_law_whole_of : Cl0 l.prog w K mg base cn 1 "_law_whole_of" sp_law_whole_of := ⟨f10, _, _, (ok_law_whole_of F10 T ), PySem.W.mg_of X G a10, k10, b10⟩
  have c_need_row : Cl (L2N.CX l.prog w) l.prog w K mg base cn 1 "need_row" sp_need_row := ⟨f11, _, _, (ok_need_row F11 T ), PySem.W.mg_of X G a11, k11, b11⟩
  have c_row_of : Cl0 l.prog w K mg base cn 1 "row_of" sp_row_of := ⟨f12, _, _, (ok_row_of F12 T ), PySem.W.mg_of X G a12, k12, b12⟩
  have c_shared : Cl0 l.prog w K mg base cn 1 "shared" sp_shared := ⟨f13, _, _, (ok_shared F13 T ), PySem.W.mg_of X G a13, k13, b13⟩
  have c_taken_out : Cl0 l.prog w K mg base cn 1 "taken_out" sp_taken_out := ⟨f14, _, _, (ok_taken_out F14 T ), PySem.W.mg_of X G a14, k14, b14⟩
  have c_whole_of : Cl0 l.prog w K mg base cn 1 "whole_of" sp_whole_of := ⟨f15, _, _, (ok_whole_of F15 T ), PySem.W.mg_of X G a15, k15, b15⟩
  have c_parted : Cl (L2N.CX l.prog w) l.prog w K mg base cn 3 "parted" sp_parted := ⟨f16, _, _, (ok_parted F16 T c_row_of c_shared c_taken_out c_whole_of), PySem.W.mg_of X G a16, k16, b16⟩
  have c_part : Cl (L2N.CX l.prog w) l.prog w K mg base cn 4 "part" sp_part := ⟨f17, _, _, (ok_part F17 T c_need_row c_parted), PySem.W.mg_of X G a17, k17, b17⟩
  have c_turned : Cl (L2N.CX l.prog w) l.prog w K mg base cn 5 "turned" sp_turned := ⟨f18, _, _, (ok_turned F18 T c_part), PySem.W.mg_of X G a18, k18, b18⟩
  have c_law_refused : Cl0 l.prog w K mg base cn 10 "_law_refused" sp_law_refused := ⟨f19, _, _, (ok_law_refused F19 T cQ_law_left cQ_law_like cQ_law_whole_of c_law_is c_law_left c_law_like c_law_whole_of c_turned), PySem.W.mg_of X G a19, k19, b19⟩
  have c_times : Cl (L2N.CX l.prog w) l.prog w K mg base cn 2 "times" sp_times := ⟨f20, _, _, (ok_times F20 T c_need_row c_row_of c_whole_of), PySem.W.mg_of X G a20, k20, b20⟩
  have c_turnables : Cl0 l.prog w K mg base cn 2 "turnables" sp_turnables := ⟨f21, _, _, (ok_turnables F21 T c_row_of), PySem.W.mg_of X G a21, k21, b21⟩
  exact ok_law F22 T c_law_count c_law_dice c_law_drawn c_law_left c_law_next c_law_refused c_law_row c_law_whole_of c_times c_turnables c_turned
end Y

open PySem PySem.W PyProof.Rows in
set_option maxRecDepth 100000 in
set_option maxHeartbeats 0 in
theorem PySem.Challenge.cw_sixtyfold_k04_turned_and_turnables_holds : PySem.Challenge.rw_sixtyfold_k04_turned_and_turnables.Holds := by
  w_on; o_law; k_head; (case hw => w_witness2)
  k_fill
  refine Y.law_walk1 (l := PySem.Challenge.rw_sixtyfold_k04_turned_and_turnables) (k := 11) (x := "_law_script") rfl rfl ⟨rfl, by decide, by decide⟩ (fun w h Y => PySem.W.kIn_of Y) ?F
  case F =>
    intro w mg fa h KX G hmg
    refine' Y.all_mk KX G hmg ?a0 ?l0 ?c0 ?k0 ?a1 ?l1 ?c1 ?k1 ?a2 ?l2 ?c2 ?k2 ?a3 ?l3 ?c3 ?k3 ?a4 ?l4 ?c4 ?k4 ?a5 ?l5 ?c5 ?k5 ?a6 ?l6 ?c6 ?k6 ?a7 ?l7 ?c7 ?k7 ?a8 ?l8 ?c8 ?k8 ?a9 ?l9 ?c9 ?k9 ?a10 ?l10 ?c10 ?k10 ?a11 ?l11 ?c11 ?k11 ?a12 ?l12 ?c12 ?k12 ?a13 ?l13 ?c13 ?k13 ?a14 ?l14 ?c14 ?k14 ?a15 ?l15 ?c15 ?k15 ?a16 ?l16 ?c16 ?k16 ?a17 ?l17 ?c17 ?k17 ?a18 ?l18 ?c18 ?k18 ?a19 ?l19 ?c19 ?k19 ?a20 ?l20 ?c20 ?k20 ?a21 ?l21 ?c21 ?k21 ?a22 ?l22 ?c22 ?k22 ?z_ValueError ?z_bool ?z_int ?z_isinstance ?z_len ?z_list ?z_range ?z_set ?z_sorted ?z_str ?z_tuple ?k_MOST_FIGURES ?k_PRIMES ?o_PRIMES ?x_BadRow ?b_BadRow ?t_BadRow ?kc_BadRow ?e_BadRow ?h_BadRow ?x_BadStep ?b_BadStep ?t_BadStep ?h_BadStep ?x_BadText ?b_BadText ?t_BadText ?h_BadText ?x_NoSide ?b_NoSide ?t_NoSide ?h_NoSide ?x_NotTurned ?b_NotTurned ?t_NotTurned ?kc_NotTurned ?h_NotTurned ?L_NotTurned ?sa_NotTurned ?i_NotTurned ?ti_NotTurned ?li_NotTurned ?ci_NotTurned ?ki_NotTurned ?n_NotTurned_left ?x_SixtyError ?b_SixtyError ?t_SixtyError ?h_SixtyError ?ga_SixtyError ?rd_SixtyError ?fc_SixtyError ?s_BadRow_BadRow ?s_BadRow_BadStep ?s_BadRow_BadText ?s_BadRow_NoSide ?s_BadRow_NotTurned ?s_BadRow_SixtyError ?s_NotTurned_BadRow ?s_NotTurned_BadStep ?s_NotTurned_BadText ?s_NotTurned_NoSide ?s_NotTurned_NotTurned ?s_NotTurned_SixtyError ?iv_BadRow ?ic_BadRow ?im_BadRow ?iv_NotTurned ?ic_NotTurned ?im_NotTurned ?i_gn ?i_tk ?xg_BadRow ?xk_BadRow ?xd_BadRow ?xg_NotTurned ?xk_NotTurned ?xd_NotTurned
    (case a0 => k_is)
    (case l0 => k_is)
    (case c0 => k_is)
    (case k0 => k_is)
    (case a1 => k_is)
    (case l1 => k_is)
    (case c1 => k_is)
    (case k1 => k_is)
    (case a2 => k_is)
    (case l2 => k_is)
    (case c2 => k_is)
    (case k2 => k_is)
    (case a3 => k_is)
    (case l3 => k_is)
    (case c3 => k_is)
    (case k3 => k_is)
    (case a4 => k_is)
    (case l4 => k_is)
    (case c4 => k_is)
    (case k4 => k_is)
    (case a5 => k_is)
    (case l5 => k_is)
    (case c5 => k_is)
    (case k5 => k_is)
    (case a6 => k_is)
    (case l6 => k_is)
    (case c6 => k_is)
    (case k6 => k_is)
    (case a7 => k_is)
    (case l7 => k_is)
    (case c7 => k_is)
    (case k7 => k_is)
    (case a8 => k_is)
    (case l8 => k_is)
    (case c8 => k_is)
    (case k8 => k_is)
    (case a9 => k_is)
    (case l9 => k_is)
    (case c9 => k_is)
    (case k9 => k_is)
    (case a10 => k_is)
    (case l10 => k_is)
    (case c10 => k_is)
    (case k10 => k_is)
    (case a11 => k_is)
    (case l11 => k_is)
    (case c11 => k_is)
    (case k11 => k_is)
    (case a12 => k_is)
    (case l12 => k_is)
    (case c12 => k_is)
    (case k12 => k_is)
    (case a13 => k_is)
    (case l13 => k_is)
    (case c13 => k_is)
    (case k13 => k_is)
    (case a14 => k_is)
    (case l14 => k_is)
    (case c14 => k_is)
    (case k14 => k_is)
    (case a15 => k_is)
    (case l15 => k_is)
    (case c15 => k_is)
    (case k15 => k_is)
    (case a16 => k_is)
    (case l16 => k_is)
    (case c16 => k_is)
    (case k16 => k_is)
    (case a17 => k_is)
    (case l17 => k_is)
    (case c17 => k_is)
    (case k17 => k_is)
    (case a18 => k_is)
    (case l18 => k_is)
    (case c18 => k_is)
    (case k18 => k_is)
    (case a19 => k_is)
    (case l19 => k_is)
    (case c19 => k_is)
    (case k19 => k_is)
    (case a20 => k_is)
    (case l20 => k_is)
    (case c20 => k_is)
    (case k20 => k_is)
    (case a21 => k_is)
    (case l21 => k_is)
    (case c21 => k_is)
    (case k21 => k_is)
    (case a22 => k_is)
    (case l22 => k_is)
    (case c22 => k_is)
    (case k22 => k_is)
    (case z_ValueError => k_is)
    (case z_bool => k_is)
    (case z_int => k_is)
    (case z_isinstance => k_is)
    (case z_len => k_is)
    (case z_list => k_is)
    (case z_range => k_is)
    (case z_set => k_is)
    (case z_sorted => k_is)
    (case z_str => k_is)
    (case z_tuple => k_is)
    (case k_MOST_FIGURES => k_is)
    (case k_PRIMES => k_is)
    (case o_PRIMES => k_is)
    (case x_BadRow => k_is)
    (case b_BadRow => k_is)
    (case t_BadRow => k_is)
    (case kc_BadRow => k_is)
    (case e_BadRow => k_exc)
    (case h_BadRow => k_is)
    (case x_BadStep => k_is)
    (case b_BadStep => k_is)
    (case t_BadStep => k_is)
    (case h_BadStep => k_is)
    (case x_BadText => k_is)
    (case b_BadText => k_is)
    (case t_BadText => k_is)
    (case h_BadText => k_is)
    (case x_NoSide => k_is)
    (case b_NoSide => k_is)
    (case t_NoSide => k_is)
    (case h_NoSide => k_is)
    (case x_NotTurned => k_is)
    (case b_NotTurned => k_is)
    (case t_NotTurned => k_is)
    (case kc_NotTurned => k_is)
    (case h_NotTurned => k_is)
    (case L_NotTurned => k_is)
    (case sa_NotTurned => k_is)
    (case i_NotTurned => k_is)
    (case ti_NotTurned => k_is)
    (case li_NotTurned => k_is)
    (case ci_NotTurned => k_is)
    (case ki_NotTurned => k_is)
    (case n_NotTurned_left => k_is)
    (case x_SixtyError => k_is)
    (case b_SixtyError => k_is)
    (case t_SixtyError => k_is)
    (case h_SixtyError => k_is)
    (case ga_SixtyError => k_is)
    (case rd_SixtyError => k_is)
    (case fc_SixtyError => k_is)
    (case s_BadRow_BadRow => first | rfl | k_is)
    (case s_BadRow_BadStep => first | rfl | k_is)
    (case s_BadRow_BadText => first | rfl | k_is)
    (case s_BadRow_NoSide => first | rfl | k_is)
    (case s_BadRow_NotTurned => first | rfl | k_is)
    (case s_BadRow_SixtyError => first | rfl | k_is)
    (case s_NotTurned_BadRow => first | rfl | k_is)
    (case s_NotTurned_BadStep => first | rfl | k_is)
    (case s_NotTurned_BadText => first | rfl | k_is)
    (case s_NotTurned_NoSide => first | rfl | k_is)
    (case s_NotTurned_NotTurned => first | rfl | k_is)
    (case s_NotTurned_SixtyError => first | rfl | k_is)
    (case iv_BadRow => first | rfl | k_is | decide +kernel)
    (case ic_BadRow => k_is)
    (case im_BadRow => k_is)
    (case iv_NotTurned => first | rfl | k_is | decide +kernel)
    (case ic_NotTurned => k_is)
    (case im_NotTurned => k_is)
    (case i_gn => k_is)
    (case i_tk => k_is)
    (case xg_BadRow => k_is)
    (case xk_BadRow => k_is)
    (case xd_BadRow => k_is)
    (case xg_NotTurned => k_is)
    (case xk_NotTurned => k_is)
    (case xd_NotTurned => k_is)

#print axioms PySem.Challenge.cw_sixtyfold_k04_turned_and_turnables_holds
