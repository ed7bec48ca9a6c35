import PyProof.Rows.All
import Wide.All
import OpenK.AllK
import Wide.FinOn
import HandS.ForMost
import HandS.ForExc
import HandS.Flow
import HandS.Deep
import HandS.Walk
import HandS.SortOrd
import KE.SortData
import KE.SortLaws
import KE.DataCmp
import KE.GoesEnum
import KE.DataEq
import KE.DataAny
import KE.DataFind
import KE.DataIsa
import KE.DataMinMax
import HandS.TupAny
import HandS.Style
import HandS.Zip
import PyProof.ListCopy
import HandS.More
import HandS.Star
import HandS.ExcOwn
import KE.KDictDisplayH
import HandS.DictComp
import HandS.Conv
import HandS.TryOnly
import HandS.SetKeys
import HandS.Words
import HandS.WordsExc
import HandS.SetFor
import PySem.Challenge.RW_tokensmove_k01_all_markings_where_they_a
set_option Elab.async false
set_option linter.all false
set_option maxRecDepth 100000
set_option maxHeartbeats 2000000
/-! Ly: data, the state of the small language, and how they stand in the hand layer's heap. -/
namespace Ly
open PySem PySem.Spec PyProof.Rows L2

abbrev D := PyData
/-- the draw, as a value -/
abbrev drw : D := .dict [(.none, .none)]
/-- a tuple whose object is known, as a value -/
abbrev xtD (ds : List PyData) : D := .dict [(.bool true, .tuple ds)]
def keyD : Key → D
  | .inl i => .int i
  | .inr x => .str x

/-! ### values stand for data -/
mutual
inductive Rep (K : PySem.W.Frag) (a0 : Addr) (F : Hp) : V → D → Prop
  | non : Rep K a0 F .non .none
  | bl (b : Bool) : Rep K a0 F (.bl b) (.bool b)
  | int (i : Int) : Rep K a0 F (.int i) (.int i)
  | str (x : Str) : Rep K a0 F (.str x) (.str x)
  | tup {a : Addr} {xs : List V} {ds : List D} : F a = some (.tup xs) → RepL K a0 F xs ds → Rep K a0 F (.ref a) (.tuple ds)
  | mu {a : Addr} {o : HO} {d : D} : F a = some o → Cont K a0 F o d → Rep K a0 F (.ref a) d
  | drw : Rep K a0 F (.ref a0) drw
  | xt {a : Addr} {o : Obj} {xs : List V} {ds : List D} : F a = some (.frz o (.tup xs)) → o.cls = .type "tuple" → o.dict = none → RepL K a0 F xs ds → Rep K a0 F (.ref a) (xtD ds)
inductive RepL (K : PySem.W.Frag) (a0 : Addr) (F : Hp) : List V → List D → Prop
  | nil : RepL K a0 F [] []
  | cons {v : V} {vs : List V} {d : D} {ds : List D} : Rep K a0 F v d → RepL K a0 F vs ds → RepL K a0 F (v :: vs) (d :: ds)
inductive Cont (K : PySem.W.Frag) (a0 : Addr) (F : Hp) : HO → D → Prop
  | lst {vs : List V} {ds : List D} : RepL K a0 F vs ds → Cont K a0 F (.lst vs) (.list ds)
  | dK {kvs : List (Key × V)} {ps : List (D × D)} : ps.map (·.1) = kvs.map (fun p => keyD p.1) → RepL K a0 F (kvs.map (·.2)) (ps.map (·.2)) → Cont K a0 F (.dK kvs) (.dict ps)
  | dT {kvs : List (List Key × V)} {ps : List (D × D)} : ps.map (·.1) = kvs.map (fun p => .tuple (p.1.map keyD)) → RepL K a0 F (kvs.map (·.2)) (ps.map (·.2)) → Cont K a0 F (.dT kvs) (.dict ((.bool false, .none) :: ps))
end

section
variable {K : PySem.W.Frag} {a0 : Addr} {F F' H H' : Hp}
theorem SqT.mono (h : Same F F') {a : Addr} {xs : List V} (q : SqT K F a xs) : SqT K F' a xs := by
  rcases q with (q | ⟨o, q⟩) | q
  · exact .inl (.inl (h _ _ q))
  · exact .inl (.inr ⟨o, h _ _ q⟩)
  · exact .inr q
mutual
theorem Rep.mono (h : Same F F') : ∀ {v : V} {d : D}, Rep K a0 F v d → Rep K a0 F' v d
  | _, _, .non => .non
  | _, _, .bl b => .bl b
  | _, _, .int i => .int i
  | _, _, .str x => .str x
  | _, _, .tup q r => .tup (h _ _ q) (RepL.mono h r)
  | _, _, .mu q r => .mu (h _ _ q) (Cont.mono h r)
  | _, _, .drw => .drw
  | _, _, .xt q c d r => .xt (h _ _ q) c d (RepL.mono h r)
theorem RepL.mono (h : Same F F') : ∀ {vs : List V} {ds : List D}, RepL K a0 F vs ds → RepL K a0 F' vs ds
  | _, _, .nil => .nil
  | _, _, .cons q r => .cons (Rep.mono h q) (RepL.mono h r)
theorem Cont.mono (h : Same F F') : ∀ {o : HO} {d : D}, Cont K a0 F o d → Cont K a0 F' o d
  | _, _, .lst r => .lst (RepL.mono h r)
  | _, _, .dK e r => .dK e (RepL.mono h r)
  | _, _, .dT e r => .dT e (RepL.mono h r)
end
theorem RepL.length : ∀ {vs : List V} {ds : List D}, RepL K a0 F vs ds → vs.length = ds.length
  | _, _, .nil => rfl
  | _, _, .cons _ r => by rw [List.length_cons, List.length_cons, RepL.length r]
theorem RepL.get : ∀ {vs : List V} {ds : List D}, RepL K a0 F vs ds → ∀ {i : Nat} {v : V} {d : D}, vs[i]? = some v → ds[i]? = some d → Rep K a0 F v d
  | _, _, .nil, _, _, _, e, _ => by simp at e
  | _, _, .cons q r, 0, _, _, e, e' => by simp at e e'; subst e e'; exact q
  | _, _, .cons q r, i + 1, _, _, e, e' => RepL.get r (i := i) (by simpa using e) (by simpa using e')
theorem RepL.getV : ∀ {vs : List V} {ds : List D}, RepL K a0 F vs ds → ∀ {i : Nat} {v : V}, vs[i]? = some v → ∃ d, ds[i]? = some d ∧ Rep K a0 F v d
  | _, _, .nil, _, _, e => by simp at e
  | _, _, .cons q r, 0, _, e => by simp at e; subst e; exact ⟨_, rfl, q⟩
  | _, _, .cons q r, i + 1, _, e => by
    obtain ⟨d, h1, h2⟩ := RepL.getV r (i := i) (by simpa using e)
    exact ⟨d, by simpa using h1, h2⟩
theorem RepL.getD' : ∀ {vs : List V} {ds : List D}, RepL K a0 F vs ds → ∀ {i : Nat} {d : D}, ds[i]? = some d → ∃ v, vs[i]? = some v ∧ Rep K a0 F v d
  | _, _, .nil, _, _, e => by simp at e
  | _, _, .cons q r, 0, _, e => by simp at e; subst e; exact ⟨_, rfl, q⟩
  | _, _, .cons q r, i + 1, _, e => by
    obtain ⟨d, h1, h2⟩ := RepL.getD' r (i := i) (by simpa using e)
    exact ⟨d, by simpa using h1, h2⟩
theorem RepL.append : ∀ {vs ws : List V} {ds es : List D}, RepL K a0 F vs ds → RepL K a0 F ws es → RepL K a0 F (vs ++ ws) (ds ++ es)
  | _, _, _, _, .nil, s => s
  | _, _, _, _, .cons q r, s => .cons q (RepL.append r s)
theorem RepL.one {v : V} {d : D} (h : Rep K a0 F v d) : RepL K a0 F [v] [d] := .cons h .nil
theorem RepL.take : ∀ (n : Nat) {vs : List V} {ds : List D}, RepL K a0 F vs ds → RepL K a0 F (vs.take n) (ds.take n)
  | 0, _, _, _ => by simp only [List.take_zero]; exact .nil
  | _ + 1, _, _, .nil => by simp only [List.take_nil]; exact .nil
  | n + 1, _, _, .cons q r => by simp only [List.take_succ_cons]; exact .cons q (RepL.take n r)
theorem RepL.drop : ∀ (n : Nat) {vs : List V} {ds : List D}, RepL K a0 F vs ds → RepL K a0 F (vs.drop n) (ds.drop n)
  | 0, _, _, r => by simpa using r
  | _ + 1, _, _, .nil => by simp only [List.drop_nil]; exact .nil
  | n + 1, _, _, .cons q r => by simp only [List.drop_succ_cons]; exact RepL.drop n r
theorem RepL.set : ∀ (i : Nat) {vs : List V} {ds : List D} {v : V} {d : D}, RepL K a0 F vs ds → Rep K a0 F v d → RepL K a0 F (vs.set i v) (ds.set i d)
  | _, _, _, _, _, .nil, _ => by simp only [List.set_nil]; exact .nil
  | 0, _, _, _, _, .cons q r, h => by simp only [List.set_cons_zero]; exact .cons h r
  | i + 1, _, _, _, _, .cons q r, h => by simp only [List.set_cons_succ]; exact .cons q (RepL.set i r h)
theorem RepL.reverse {vs : List V} {ds : List D} (h : RepL K a0 F vs ds) : RepL K a0 F vs.reverse ds.reverse := by
  induction vs generalizing ds with
  | nil => cases h; exact .nil
  | cons v vs ih =>
    cases h with
    | cons q r => rw [List.reverse_cons, List.reverse_cons]; exact (ih r).append (.one q)
theorem RepL.ints : ∀ (is : List Int), RepL K a0 F (is.map V.int) (is.map PyData.int)
  | [] => .nil
  | i :: is => .cons (.int i) (RepL.ints is)
theorem RepL.rep {vs : List V} {ds : List D} (h : RepL K a0 F vs ds) : ∀ n : Nat, RepL K a0 F (List.replicate n vs).flatten (List.replicate n ds).flatten
  | 0 => .nil
  | n + 1 => by rw [List.replicate_succ, List.replicate_succ, List.flatten_cons, List.flatten_cons]; exact h.append (RepL.rep h n)

/-! ### as the library's data -/
theorem SqL.of_hp {a : Addr} {xs : List V} (h : H a = some (.lst xs)) : SqL K H a xs := .inl (.inl h)
mutual
theorem Rep.dp (h : Same F H) : ∀ (d : D) {v : V}, Rep K a0 F v d → d.plain = true → Dp K H v d
  | .none, _, r, _ => by
    cases r with
    | non => exact .non
    | mu _ q => cases q
  | .bool b, _, r, _ => by
    cases r with
    | bl => exact .bl b
    | mu _ q => cases q
  | .int b, _, r, _ => by
    cases r with
    | int => exact .int b
    | mu _ q => cases q
  | .str b, _, r, _ => by
    cases r with
    | str => exact .str b
    | mu _ q => cases q
  | .list ds, _, r, c => by
    cases r with
    | mu e q =>
      cases q with
      | lst q => exact .lst (.inl (.inl (h _ _ e))) (RepL.dp h ds q (by simpa [PyData.plain] using c))
  | .tuple ds, _, r, c => by
    cases r with
    | tup e q => exact .tup (.inl (.inl (h _ _ e))) (RepL.dp h ds q (by simpa [PyData.plain] using c))
    | mu _ q => cases q
  | .dict _, _, _, c => by simp [PyData.plain] at c
theorem RepL.dp (h : Same F H) : ∀ (ds : List D) {vs : List V}, RepL K a0 F vs ds → PyData.plainAll ds = true → DpAll K H vs ds
  | [], _, r, _ => by cases r; exact .nil
  | d :: ds, _, r, c => by
    have c' : PyData.plain d = true ∧ PyData.plainAll ds = true := by simpa [PyData.plainAll] using c
    cases r with
    | cons q r => exact .cons (Rep.dp h d q c'.1) (RepL.dp h ds r c'.2)
end
end

/-! ### what is hidden -/
open Classical in
noncomputable def hid (W : Addr → Prop) (H : Hp) : Hp := fun b => if W b then none else H b
section
variable {W W' : Addr → Prop} {H H' : Hp} {b : Addr} {o : HO}
theorem hid_yes (h : W b) : hid W H b = none := by unfold hid; rw [if_pos h]
theorem hid_no (h : ¬ W b) : hid W H b = H b := by unfold hid; rw [if_neg h]
theorem hid_of (h : hid W H b = some o) : ¬ W b ∧ H b = some o := by
  by_cases q : W b
  · rw [hid_yes q] at h; cases h
  · rw [hid_no q] at h; exact ⟨q, h⟩
theorem hid_some (h : ¬ W b) (e : H b = some o) : hid W H b = some o := by rw [hid_no h]; exact e
theorem hid_same : Same (hid W H) H := fun _ _ h => (hid_of h).2
theorem hid_mono (hw : ∀ b, W' b → W b) (hh : ∀ b o, ¬ W b → H b = some o → H' b = some o) : Same (hid W H) (hid W' H') := fun b o h => by
  obtain ⟨h1, h2⟩ := hid_of h
  exact hid_some (fun q => h1 (hw b q)) (hh b o h1 h2)
end

/-! ### the state -/
structure Dr where
  cells : List Int
  i : Int
  r : Int
  s : Int
/-- a slot: nothing, data that no one changes, a list or dict that this def alone holds -/
inductive Sl where
  | un | fz (d : D) | ow (d : D)
structure S where
  env : List Sl
  dr : Dr
/-- what an expression gives -/
inductive R (α : Type) where
  | ok (a : α) (dr : Dr)
  | err (e : Nat) (dr : Dr)
  | stk
/-- what a statement gives -/
inductive Out (α : Type) where
  | ok (a : α) (s : S)
  | err (e : Nat) (s : S)
  | stk
structure Cc where
  a0 : Addr
  W0 : Addr → Prop
  G : Hp

def DrOk (H : Hp) (a0 : Addr) (W : Addr → Prop) (dr : Dr) : Prop :=
  ∃ c, H a0 = some (.lst [.ref c, .int dr.i, .int dr.r, .int dr.s]) ∧ hid W H c = some (.lst (dr.cells.map V.int))
def OwnAt (K : PySem.W.Frag) (c : Cc) (W : Addr → Prop) (H : Hp) (x : Option (Option V)) (d : D) : Prop :=
  ∃ a o, x = some (some (.ref a)) ∧ a ≠ c.a0 ∧ W a ∧ H a = some o ∧ Cont K c.a0 (hid W H) o d
def SlOk (K : PySem.W.Frag) (c : Cc) (W : Addr → Prop) (H : Hp) (x : Option (Option V)) : Sl → Prop
  | .un => True
  | .fz d => ∃ v, x = some (some v) ∧ Rep K c.a0 (hid W H) v d
  | .ow d => OwnAt K c W H x d ∧ ∀ a, x = some (some (.ref a)) → c.G a = none ∧ ¬ c.W0 a
def Sl.held : Sl → Bool
  | .ow _ => true
  | _ => false
structure Mt (K : PySem.W.Frag) (c : Cc) (s : S) (σ : L2.St) (H : Hp) (W : Addr → Prop) : Prop where
  len : s.env.length = σ.length
  sl : ∀ (i : Nat) (x : Sl), s.env[i]? = some x → SlOk K c W H (σ[i]?) x
  inj : ∀ (i j : Nat) (x y : Sl) (v : V), s.env[i]? = some x → s.env[j]? = some y → x.held = true → y.held = true → σ[i]? = some (some v) → σ[j]? = some (some v) → i = j
  dr : DrOk H c.a0 W s.dr
  wa : W c.a0
  w0 : ∀ b, c.W0 b → W b
  dom : ∀ b, W b → H b ≠ none
  keep : ∀ b o, b ≠ c.a0 → c.G b = some o → H b = some o
/-- growth by an expression: all stands (but the draw) -/
structure GrE (c : Cc) (H : Hp) (H' : Hp) : Prop where
  hp : ∀ b o, b ≠ c.a0 → H b = some o → H' b = some o
  a0 : H' c.a0 ≠ none
/-- growth by a statement: what is not held stands -/
structure GrS (W : Addr → Prop) (H : Hp) (W' : Addr → Prop) (H' : Hp) : Prop where
  hp : ∀ b o, ¬ W b → H b = some o → ¬ W' b ∧ H' b = some o

section
variable {K : PySem.W.Frag} {c : Cc} {q q' : S} {σ σ' : L2.St} {H H' H2 : Hp} {W W' W2 : Addr → Prop}
theorem DrOk.a0 {dr : Dr} {a0 : Addr} (h : DrOk H a0 W dr) : H a0 ≠ none := by
  obtain ⟨_, e, _⟩ := h
  rw [e]; simp
theorem GrE.refl (h : H c.a0 ≠ none) : GrE c H H := ⟨fun _ _ _ h => h, h⟩
theorem GrE.trans (a : GrE c H H') (b : GrE c H' H2) : GrE c H H2 := ⟨fun x o n h => b.hp x o n (a.hp x o n h), b.a0⟩
theorem GrE.same (h0 : H c.a0 ≠ none) (a : Same H H') : GrE c H H' := ⟨fun x o _ h => a x o h, fun z => by
  cases e : H c.a0 with
  | none => exact h0 e
  | some o => rw [a _ _ e] at z; cases z⟩
theorem GrS.refl : GrS W H W H := ⟨fun _ _ n h => ⟨n, h⟩⟩
theorem GrS.trans (a : GrS W H W' H') (b : GrS W' H' W2 H2) : GrS W H W2 H2 := ⟨fun x o n h => b.hp x o (a.hp x o n h).1 (a.hp x o n h).2⟩
theorem GrE.st (wa : W c.a0) (a : GrE c H H') : GrS W H W H' := ⟨fun x o n h => ⟨n, a.hp x o (fun e => n (e ▸ wa)) h⟩⟩
theorem GrS.hid (a : GrS W H W' H') : Same (hid W H) (hid W' H') := fun b o h => by
  obtain ⟨h1, h2⟩ := hid_of h
  exact hid_some (a.hp b o h1 h2).1 (a.hp b o h1 h2).2
theorem GrE.hid (wa : W c.a0) (a : GrE c H H') : Same (hid W H) (hid W H') := (a.st wa).hid
theorem GrE.dom (a : GrE c H H') (d : ∀ b, W b → H b ≠ none) : ∀ b, W b → H' b ≠ none := fun b w z => by
  by_cases e : b = c.a0
  · exact a.a0 (e ▸ z)
  · cases q : H b with
    | none => exact d b w q
    | some o => rw [a.hp b o e q] at z; cases z
theorem OwnAt.up (wa : W c.a0) (g : GrE c H H') {x : Option (Option V)} {d : D} (h : OwnAt K c W H x d) : OwnAt K c W H' x d := by
  obtain ⟨a, o, e, ne, w, ha, hc⟩ := h
  exact ⟨a, o, e, ne, w, g.hp a o ne ha, Cont.mono (g.hid wa) hc⟩
theorem SlOk.up (wa : W c.a0) (g : GrE c H H') {x : Option (Option V)} : ∀ {y : Sl}, SlOk K c W H x y → SlOk K c W H' x y
  | .un, _ => trivial
  | .fz _, ⟨v, e, r⟩ => ⟨v, e, Rep.mono (g.hid wa) r⟩
  | .ow _, ⟨o, n⟩ => ⟨o.up wa g, n⟩
/-- behind an expression -/
theorem Mt.up {dr' : Dr} (m : Mt K c q σ H W) (g : GrE c H H') (d : DrOk H' c.a0 W dr') : Mt K c ⟨q.env, dr'⟩ σ H' W :=
  ⟨m.len, fun i x e => (m.sl i x e).up m.wa g, m.inj, d, m.wa, m.w0, g.dom m.dom, fun b o n e => g.hp b o n (m.keep b o n e)⟩
theorem Mt.gr (m : Mt K c q σ H W) : GrE c H H := GrE.refl m.dr.a0

/-- what a borrowed value is -/
def RepB (K : PySem.W.Frag) (c : Cc) (W : Addr → Prop) (H : Hp) (v : V) (d : D) : Prop :=
  Rep K c.a0 (hid W H) v d ∨ OwnAt K c W H (some (some v)) d
abbrev RepF (K : PySem.W.Frag) (c : Cc) (W : Addr → Prop) (H : Hp) (v : V) (d : D) : Prop := Rep K c.a0 (hid W H) v d
inductive RepBL (K : PySem.W.Frag) (c : Cc) (W : Addr → Prop) (H : Hp) : List V → List D → Prop
  | nil : RepBL K c W H [] []
  | cons {v : V} {vs : List V} {d : D} {ds : List D} : RepB K c W H v d → RepBL K c W H vs ds → RepBL K c W H (v :: vs) (d :: ds)
theorem Rep.b {v : V} {d : D} (h : Rep K c.a0 (hid W H) v d) : RepB K c W H v d := .inl h
theorem RepB.grow (wa : W c.a0) (g : GrE c H H') {v : V} {d : D} (h : RepB K c W H v d) : RepB K c W H' v d := by
  rcases h with h | h
  · exact .inl (Rep.mono (g.hid wa) h)
  · exact .inr (h.up wa g)
theorem RepBL.grow (wa : W c.a0) (g : GrE c H H') : ∀ {vs : List V} {ds : List D}, RepBL K c W H vs ds → RepBL K c W H' vs ds
  | _, _, .nil => .nil
  | _, _, .cons q r => .cons (q.grow wa g) (RepBL.grow wa g r)
theorem RepL.b : ∀ {vs : List V} {ds : List D}, RepL K c.a0 (hid W H) vs ds → RepBL K c W H vs ds
  | _, _, .nil => .nil
  | _, _, .cons q r => .cons q.b (RepL.b r)
/-- a borrowed value's looks -/
theorem RepB.int {v : V} {i : Int} (h : RepB K c W H v (.int i)) : v = .int i := by
  rcases h with h | ⟨a, o, _, _, _, _, hc⟩
  · cases h with
    | int => rfl
    | mu _ q => cases q
  · cases hc
theorem RepB.bool {v : V} {i : Bool} (h : RepB K c W H v (.bool i)) : v = .bl i := by
  rcases h with h | ⟨a, o, _, _, _, _, hc⟩
  · cases h with
    | bl => rfl
    | mu _ q => cases q
  · cases hc
theorem RepB.str {v : V} {i : Str} (h : RepB K c W H v (.str i)) : v = .str i := by
  rcases h with h | ⟨a, o, _, _, _, _, hc⟩
  · cases h with
    | str => rfl
    | mu _ q => cases q
  · cases hc
theorem RepB.none {v : V} (h : RepB K c W H v .none) : v = .non := by
  rcases h with h | ⟨a, o, _, _, _, _, hc⟩
  · cases h with
    | non => rfl
    | mu _ q => cases q
  · cases hc
theorem RepB.tup {v : V} {ds : List D} (h : RepB K c W H v (.tuple ds)) : ∃ a xs, v = .ref a ∧ H a = some (.tup xs) ∧ RepL K c.a0 (hid W H) xs ds := by
  rcases h with h | ⟨a, o, _, _, _, _, hc⟩
  · cases h with
    | tup q r => exact ⟨_, _, rfl, hid_same _ _ q, r⟩
    | mu _ q => cases q
  · cases hc
theorem no_xt {K : PySem.W.Frag} {a0 : Addr} {F : Hp} {o : HO} {ds : List D} (h : Cont K a0 F o (xtD ds)) : False := by
  generalize hd : xtD ds = d at h
  cases h with
  | lst _ => cases hd
  | @dK kvs ps e _ =>
    cases hd
    cases kvs with
    | nil => cases e
    | cons p t =>
      obtain ⟨pk, pv⟩ := p
      have := (List.cons.inj e).1
      cases pk <;> cases this
  | @dT kvs ps e _ => cases hd
theorem Rep.xt_inv {K : PySem.W.Frag} {a0 : Addr} {F : Hp} {v : V} {ds : List D} (h : Rep K a0 F v (xtD ds)) : ∃ a o xs, v = .ref a ∧ F a = some (.frz o (.tup xs)) ∧ o.cls = .type "tuple" ∧ o.dict = Option.none ∧ RepL K a0 F xs ds := by
  generalize hd : xtD ds = d at h
  cases h with
  | xt q c d r => cases hd; exact ⟨_, _, _, rfl, q, c, d, r⟩
  | mu _ q => subst hd; exact (no_xt q).elim
  | _ => cases hd
theorem RepB.xt {v : V} {ds : List D} (h : RepB K c W H v (xtD ds)) : ∃ a o xs, v = .ref a ∧ ¬ W a ∧ H a = some (.frz o (.tup xs)) ∧ o.cls = .type "tuple" ∧ o.dict = Option.none ∧ RepL K c.a0 (hid W H) xs ds := by
  rcases h with h | ⟨a, o, _, _, _, _, hc⟩
  · obtain ⟨a, o, xs, rfl, q, r1, r2, r⟩ := h.xt_inv
    exact ⟨a, o, xs, rfl, (hid_of q).1, (hid_of q).2, r1, r2, r⟩
  · exact (no_xt hc).elim
theorem RepB.lst (wa : W c.a0) {v : V} {ds : List D} (h : RepB K c W H v (.list ds)) : ∃ a xs, v = .ref a ∧ a ≠ c.a0 ∧ H a = some (.lst xs) ∧ RepL K c.a0 (hid W H) xs ds := by
  rcases h with h | ⟨a, o, e, ne, _, ha, hc⟩
  · cases h with
    | @mu a o _ q r =>
      cases r with
      | lst r => exact ⟨a, _, rfl, fun e => (hid_of q).1 (e ▸ wa), (hid_of q).2, r⟩
  · cases e
    cases hc with
    | lst r => exact ⟨a, _, rfl, ne, ha, r⟩
end
end Ly

set_option Elab.async false
set_option linter.all false
set_option maxRecDepth 100000
set_option maxHeartbeats 2000000
/-! Ly: rules that the hand layer lacks: a tuple turned round, rows of zip and enumerate over lists and tuples in any mix. -/
namespace Ly
open PySem PySem.Spec PyProof.Rows L2 HT

/-! ### t[::-1] -/
theorem adjust_rev (n : Nat) : Builtin.Slice.sliceAdjust none none (-1) (n : Int) = ((n : Int) - 1, -1) := by
  unfold Builtin.Slice.sliceAdjust
  have h1 : ((-1 : Int) < 0) := by decide
  simp only [h1, if_true]
theorem places_rev (n : Nat) : Builtin.Slice.slicePlaces ((n : Int) - 1) (-1) (-1) = n := by
  unfold Builtin.Slice.slicePlaces
  have h1 : ¬ ((-1 : Int) > 0) := by decide
  simp only [h1, if_false]
  split
  · rw [show (- -1 : Int) = 1 by decide, Int.ediv_one]; omega
  · omega
theorem fm_some {α β : Type} {f : α → Option β} {g : α → β} : ∀ {l : List α}, (∀ x ∈ l, f x = some (g x)) → l.filterMap f = l.map g
  | [], _ => rfl
  | x :: l, h => by
    rw [List.filterMap_cons, h x (List.mem_cons_self ..), List.map_cons, fm_some fun y hy => h y (List.mem_cons_of_mem _ hy)]
theorem pick_rev (xs : Array Value) : ((List.range xs.size).filterMap fun (m : Nat) => xs[(((xs.size : Int) - 1) + (m : Int) * (-1)).toNat]?).toArray = xs.toList.reverse.toArray := by
  congr 1
  rw [fm_some (g := fun m => xs.getD (xs.size - 1 - m) .none) fun m hm => ?_]
  · refine List.ext_getElem (by simp) fun i h1 h2 => ?_
    have h3 : i < xs.size := by simpa using h1
    have h4 : xs.size - 1 - i < xs.size := by omega
    simp [Array.getD, h4]
  · have hm := List.mem_range.mp hm
    have e1 : (((xs.size : Int) - 1) + (m : Int) * (-1)).toNat = xs.size - 1 - m := by omega
    have h4 : xs.size - 1 - m < xs.size := by omega
    rw [e1]
    simp [Array.getD, h4]
section
variable {prog : Program} {w : World} {A : Around} {E : Value → Shared → Prop} {s : Shared}
theorem sliceApplied_rev {sl : Addr} {vs : Value} {n : Nat} {Q : Int × Int × Nat → Shared → Prop} (hs : s.heap.IsSliceOf sl .none .none vs) (ps : IsPart vs (some (-1)))
    (h : Q ((n : Int) - 1, -1, n) s) : wpAny (model prog w) A (Builtin.Slice.sliceApplied (.ref sl) (pure (n : Int))) Q E s := by
  obtain ⟨os, hos, hcs, hds⟩ := id hs
  unfold Builtin.Slice.sliceApplied Builtin.Slice.sliceFields
  refine wpAny_bind (wpAny_bind (wpAny_field hos hds (x := .none) rfl (wpAny_bind (wpAny_field hos hds (x := .none) rfl (wpAny_bind (wpAny_field hos hds (x := vs) rfl (wpAny_pure ?_)))))))
  refine wpAny_bind (slicePart_ ps ?_)
  show wpAny _ _ (if ((-1 : Int) == 0) = true then _ else _) _ _ s
  rw [if_neg (by decide)]
  refine wpAny_bind (slicePart_none (wpAny_bind (slicePart_none (wpAny_bind (wpAny_pure ?_)))))
  show wpAny _ _ (match Builtin.Slice.sliceAdjust none none (-1) (n : Int) with | (lo, hi) => pure (lo, (-1 : Int), Builtin.Slice.slicePlaces lo hi (-1))) _ _ s
  rw [adjust_rev n]
  show wpAny _ _ (pure ((n : Int) - 1, (-1 : Int), Builtin.Slice.slicePlaces ((n : Int) - 1) (-1) (-1))) _ _ s
  rw [places_rev]
  exact wpAny_pure h
theorem getItem_tuple_rev {t sl : Addr} {items : Array Value} {vs : Value} {Q : Value → Shared → Prop} (ht : IsTup s.heap t items) (hs : s.heap.IsSliceOf sl .none .none vs) (ps : IsPart vs (some (-1)))
    (h : Q (.ref s.heap.objs.size) { s with heap := s.heap.push { cls := .type "tuple", data := .seq items.toList.reverse.toArray } })
    (hsz : items.size ≤ sizeLine) : wpAny (model prog w) A (getItem (.ref t) (.ref sl)) Q E s := by
  have htake : sizeOk (.seq items.toList.reverse.toArray) := by
    show items.toList.reverse.toArray.size ≤ sizeLine
    rw [List.size_toArray, List.length_reverse, Array.length_toList]
    exact hsz
  obtain ⟨os, hos, hcs, hds⟩ := id hs
  have hTs : s.TypeIs (.ref sl) "slice" := ⟨os, hos, hcs⟩
  unfold getItem
  try with_reducible refine wpAny_holding ?_
  first | refine wpAny_bind (wpAny_pure ?_) | skip
  refine wpAny_bind (wpAny_sequenceKey ht.typeIs (by decide) ?_)
  refine wpAny_bind (wpAny_callSpecial?_slot (name := Str.ofString "__getitem__") ht.typeIs PyProof.Rows.slot_tuple_getitem
    (wpAny_call_entry PyProof.Rows.slot_tuple_getitem ht.typeIs entry_tuple_getitem ?_ (args_tuple_getitem _ _)))
  show wpAny _ _ (Builtin.Tuple.tupleItemsOf (.ref t) >>= _) _ _ s
  refine wpAny_bind (tupleItemsOf_ ht ?_)
  refine wpAny_bind (wpAny_typeOf hTs ?_)
  rw [if_pos (by decide)]
  refine wpAny_bind (sliceApplied_rev hs ps ?_)
  have hno : ¬ ((((items.size : Int) - 1) == 0 && (-1 : Int) == 1 && items.size == items.size) = true) := by
    rw [show ((-1 : Int) == 1) = false from by decide]; simp
  show wpAny _ _ (if (((items.size : Int) - 1) == 0 && (-1 : Int) == 1 && items.size == items.size) = true then _ else _) _ _ s
  rw [if_neg hno, pick_rev]
  first
    | exact wpAny_bind (m := Builtin.Tuple.tupleExact _) (wpAny_newObj_type (wpAny_pure ⟨_, rfl, wpAny_pure h⟩) htake)
    | exact wpAny_bind (m := Builtin.Tuple.tupleExact _) (wpAny_newObj_type (wpAny_bind (wpAny_pure (wpAny_pure ⟨_, rfl, wpAny_pure h⟩))) htake)
    | exact wpAny_bind (wpAny_bind (m := Builtin.Tuple.tupleExact _) (wpAny_newObj_type (wpAny_pure (wpAny_pure ⟨_, rfl, wpAny_pure h⟩)) htake))
    | exact wpAny_bind (wpAny_bind (m := Builtin.Tuple.tupleExact _) (wpAny_newObj_type (wpAny_pure ⟨_, rfl, wpAny_pure h⟩) htake))
end
/-- a list or a tuple -/
def SqB (K : PySem.W.Frag) (b : Bool) (H : Hp) (a : Addr) (xs : List V) : Prop := match b with
  | true => SqL K H a xs
  | false => SqT K H a xs
def tRevB (K : PySem.W.Frag) (te : TE) : TE := fun σ H Q => te σ H fun x H1 => ∃ b a xs, x = .ref a ∧ SqB K b H1 a xs ∧ ∀ p, H1 p = none → Q (.ref p) (upd H1 p (match b with
  | true => .lst xs.reverse
  | false => .tup xs.reverse))
theorem pe_revB {X : Cx} {e : Expr} {te : TE} {k : Nat} {p1 p2 p3 pos : Pos} (he : PE X e te) : PE X (.Subscript e (.Slice none none (some (.UnaryOp .USub (.Constant (.int 1) k p1) p2)) p3) pos) (tRevB X.K te) := by
  refine ⟨fun pins s σ H Q I h => ?_⟩
  refine Subscript_ (thn (he.run pins s σ H _ I h) fun v s1 ⟨x, H1, I1, r1, q1⟩ => ?_)
  obtain ⟨b, a, xs, ex, hx, q⟩ := q1
  subst ex
  cases r1
  have hst : PO X (some (.UnaryOp .USub (.Constant (.int 1) k p1) p2)) (tPart (tUn (rU fun i => .int (-i)) (tC (.int 1)))) := po_some (pe_un un_neg pe_int)
  refine wpAny_Slice (thn (po_none.run pins s1 σ H1 (fun o H2 => o = none ∧ H2 = H1) I1 ⟨rfl, rfl⟩) fun vl s2 ⟨l, H2, I2, pl, el, e2⟩ => ?_)
  subst el e2
  refine thn (po_none.run pins s2 σ H2 (fun o H3 => o = none ∧ H3 = H2) I2 ⟨rfl, rfl⟩) fun vu s3 ⟨u, H3, I3, pu, eu, e3⟩ => ?_
  subst eu e3
  refine thn (hst.run pins s3 σ H3 (fun o H4 => o = some (-1) ∧ H4 = H3) I3 ⟨1, rfl, -1, rfl, rfl, rfl⟩) fun vs s4 ⟨o, H4, I4, ps, eo, e4⟩ => ?_
  subst eo e4
  have I5 : Inv X pins σ H4 { s4 with heap := s4.heap.push { cls := .type "slice", data := .fields #[vl, vu, vs] } } := I4.kept (t' := s4.toks) fun b ob q => Heap.get?_push_of_some _ q
  show wpAny (model X.prog X.w) X.A (subscriptTail e (.Slice none none (some (.UnaryOp .USub (.Constant (.int 1) k p1) p2)) p3) (.ref a) (.ref s4.heap.objs.size)) (EP X pins σ Q) X.xe { s4 with heap := s4.heap.push { cls := .type "slice", data := .fields #[vl, vu, vs] } }
  cases b with
  | true =>
    obtain ⟨its, r, ht, hz⟩ := I5.list hx
    have hlen := r.length
    refine tail_any (ops := [.ref a, .ref s4.heap.objs.size]) ht.isList.typeIs (PySem.slot_list_getitem.lookup) ?_ (by with_unfolding_all rfl)
    refine wpAny_getItem_list_slice ht.isList (Heap.IsSliceOf.new _ vl vu vs) pl pu ps (by decide) ?_ (by rw [List.size_toArray]; omega)
    rw [PySem.W.krv_pick]
    refine ⟨.ref _, _, I5.laid (t' := s4.toks) (o := .lst xs.reverse) (fun b ob q => Heap.get?_push_of_some _ q) (Nat.le_refl _) ?_, rfl, q _ (I5.hok.fresh (Nat.le_refl _))⟩
    exact ⟨by rw [List.length_reverse]; exact hz, _, 0, r.reverse, Heap.get?_push_size _ rfl⟩
  | false =>
    obtain ⟨its, r, ht, hz⟩ := I5.tuple hx
    have hlen := r.length
    cases pl
    cases pu
    refine tail_any (ops := [.ref a, .ref s4.heap.objs.size]) ht.typeIs (PyProof.Rows.slot_tuple_getitem.lookup) ?_ (by with_unfolding_all rfl)
    refine getItem_tuple_rev ht (Heap.IsSliceOf.new _ .none .none vs) ps ?_ (by rw [List.size_toArray]; omega)
    refine ⟨.ref _, _, I5.laid (t' := s4.toks) (o := .tup xs.reverse) (fun b ob q => Heap.get?_push_of_some _ q) (Nat.le_refl _) ?_, rfl, q _ (I5.hok.fresh (Nat.le_refl _))⟩
    exact ⟨by rw [List.length_reverse]; exact hz, _, r.reverse, ⟨_, Heap.get?_push_size _ rfl, rfl, _, rfl⟩⟩
end Ly

set_option Elab.async false
set_option linter.all false
set_option maxRecDepth 100000
set_option maxHeartbeats 2000000
/-! Ly: rows of zip and enumerate. -/
namespace Ly
open PySem PySem.Spec PyProof.Rows L2 HT

/-! ### a list or a tuple as a source -/
def itB (b : Bool) (h : Heap) (it a : Addr) (i : Nat) : Prop := match b with
  | true => h.IsListIter it a i
  | false => h.IsTupleIter it a i
def srcB (b : Bool) (h : Heap) (a : Addr) (items : Array Value) : Prop := match b with
  | true => h.IsList a items
  | false => h.IsTuple a items
def oB (b : Bool) (a : Addr) : Obj := match b with
  | true => { cls := .type "list_iterator", data := .fields #[.ref a, .int 0 0] }
  | false => { cls := .type "tuple_iterator", data := .fields #[.ref a, .int 0 0] }
section
variable {X : Cx} {pins : List (Addr × Obj)} {σ : L2.St} {H : Hp} {s : Shared} {b : Bool} {a it : Addr} {xs ys : List V} {i : Nat} {h h' : Heap}
theorem SqB.src (I : Inv X pins σ H s) (q : SqB X.K b H a xs) : ∃ its : List Value, Vals xs its ∧ srcB b s.heap a its.toArray ∧ xs.length ≤ sizeLine ∧ a < s.heap.objs.size := by
  cases b with
  | true =>
    obtain ⟨its, r, p, hz⟩ := I.list q
    exact ⟨its, r, p.isList, hz, p.lt⟩
  | false =>
    obtain ⟨its, r, p, hz⟩ := I.tuple q
    obtain ⟨o, ho, _⟩ := id p
    exact ⟨its, r, p, hz, Heap.lt_size ho⟩
theorem SqB.inj (I : Inv X pins σ H s) (q : SqB X.K b H a xs) (q' : SqB X.K b H a ys) : xs = ys := by
  cases b with
  | true => exact I.list_inj q q'
  | false => exact I.tuple_inj q q'
theorem itB_keep (st : itB b h it a i) (k : ∀ o, h.get? it = some o → h'.get? it = some o) : itB b h' it a i := by
  cases b with
  | true => exact Heap.IsListIter.at st k
  | false => exact Heap.IsTupleIter.at st k
theorem itB_obj (st : itB b h it a i) : ∃ o, h.get? it = some o ∧ ∀ v, o.data ≠ .cell v := by
  cases b with
  | true =>
    obtain ⟨o, e, c, d⟩ := st
    exact ⟨o, e, fun v z => by rw [d] at z; cases z⟩
  | false =>
    obtain ⟨o, e, c, d⟩ := st
    exact ⟨o, e, fun v z => by rw [d] at z; cases z⟩
theorem itB_new (e : h.get? it = some (oB b a)) : itB b h it a 0 := by
  cases b with
  | true => exact ⟨_, e, rfl, rfl⟩
  | false => exact ⟨_, e, rfl, rfl⟩
theorem beginsB (b : Bool) (a : Addr) (items : Array Value) : Begins (.ref a) (oB b a) (fun h => srcB b h a items) := by
  cases b with
  | true => exact begins_list a items
  | false => exact begins_tuple a items
theorem drawsB {prog : Program} {w : World} {A : Around} (hh : A.handled = none) (b : Bool) (it a : Addr) (hne : a ≠ it) (items : Array Value) :
    Draws prog w A it [it, a] items.size (fun i v => items[i]? = some v) (fun i h => itB b h it a i ∧ srcB b h a items) := by
  cases b with
  | true => exact Draws.list hh it a hne items
  | false => exact Draws.tuple hh it a hne items
end

/-! ### rows -/
/-- each row in a new tuple; the rows told by what stands at each turn -/
def ItR (rows : Hp → List (List V) → Prop) : It :=
  ⟨fun i H => ∃ rs r, rows H rs ∧ rs[i]? = some r, fun i H v H' => ∃ T r, v = .ref T ∧ H T = none ∧ H' = upd H T (.tup r) ∧ ∀ rs, rows H rs → rs[i]? = some r, fun i H => ∃ rs, rows H rs ∧ i = rs.length⟩
structure RowT (P : Program) (w : World) (K : PySem.W.Frag) (rows : Hp → List (List V) → Prop) (I : Addr) (wr : List Addr) (tn : Nat → Heap → Prop) : Prop where
  mem : I ∈ wr
  obj : ∀ i h, tn i h → ∀ b ∈ wr, ∃ o, h.get? b = some o ∧ ∀ v, o.data ≠ .cell v
  keep : ∀ i h h', tn i h → (∀ b ∈ wr, ∀ o, h.get? b = some o → h'.get? b = some o) → tn i h'
  one : ∀ (X : Cx), X.prog = P → X.w = w → X.K = K → ∀ {pins σ H s} (_ : Inv X pins σ H s) {rs rs'}, rows H rs → rows H rs' → rs = rs'
  wk : ∀ (X : Cx), X.prog = P → X.w = w → X.K = K → X.calm = true → ∀ {i pins σ H s} (_ : Inv X pins σ H s) {rs}, rows H rs → tn i s.heap →
    ∃ fp wr' Pt St Mid, WalksT P w X.A I fp wr' rs.length Pt St Mid ∧ (∀ b ∈ wr', b ∈ wr) ∧ St i s.heap ∧ (∀ j vals, Pt j vals → ∃ r, rs[j]? = some r ∧ Vals r vals.toList ∧ r.length ≤ sizeLine) ∧ ∀ j h, St j h → tn j h
  self : ∀ (A : Around) (i : Nat) (s : Shared) (Q : Value → Shared → Prop) (E : Value → Shared → Prop), tn i s.heap → Q (.ref I) s → wpAny (model P w) A (pyIter (.ref I)) Q E s
theorem RowT.turn {P : Program} {w : World} {K : PySem.W.Frag} {rows : Hp → List (List V) → Prop} {I : Addr} {wr : List Addr} {tn : Nat → Heap → Prop} {elts : List Expr} {kk : Nat} {tpos : Pos} (R : RowT P w K rows I wr tn) :
    Turn P w K (.Tuple elts kk tpos) (ItR rows) wr I tn where
  mem := R.mem
  obj := R.obj
  keep := R.keep
  self := R.self
  item := by
    intro X hP hw hK hc i pins s σ H E I0 hf st hg
    obtain ⟨rs, r, hr, hri⟩ := hg
    obtain ⟨fp, wr', Pt, St, Mid, W, hsub, hst, hpt, hback⟩ := R.wk X hP hw hK hc I0 hr st
    have hlt : i < rs.length := (List.getElem?_eq_some_iff.mp hri).1
    refine W.item i s _ _ hlt hst fun T vals h' tk hp hT hI hm hk => ?_
    refine ⟨_, rfl, W.go _ _ _ i T { s with heap := h', toks := tk } _ _ hm fun h2 hst2 hk2 => ?_⟩
    obtain ⟨r', hr', rv, hz⟩ := hpt i vals hp
    cases hri.symm.trans hr'
    obtain ⟨o, ho, hcl, n, hd⟩ := hI
    have hT2 : h2.get? T = some o := hk2 T o (W.apart i T h' hm) ho
    have new : ObjOk X.prog X.w (upd H T (.tup r)) h2 T (.tup r) := ⟨hz, vals.toList, rv, ⟨o, hT2, hcl, n, by simpa using hd⟩⟩
    have I1 : Inv X pins σ (upd H T (.tup r)) { s with heap := h2, toks := tk } :=
      I0.turnedNew (ch := wr) (fun b ob hb q => hk2 b ob (fun z => hb (hsub b z)) (hk b ob (fun z => hb (hsub b z)) q)) hf hT new
    refine ⟨.ref T, _, I1, rfl, ⟨T, r, rfl, I0.hok.fresh hT, rfl, fun rs' h' => by rw [R.one X hP hw hK I0 h' hr]; exact hri⟩, hback _ _ hst2, fun b hb => ?_⟩
    obtain ⟨ob, hob, _⟩ := R.obj i _ st b hb
    have hne : b ≠ T := fun z => by
      have := Heap.lt_size hob
      rw [z] at this
      exact absurd (Nat.lt_of_lt_of_le this hT) (Nat.lt_irrefl _)
    rw [upd_ne hne]
    exact (hf b hb).1
  done := by
    intro X hP hw hK hc i pins s σ H E I0 hf st hg
    obtain ⟨rs, hr, rfl⟩ := hg
    obtain ⟨fp, wr', Pt, St, Mid, W, hsub, hst, hpt, hback⟩ := R.wk X hP hw hK hc I0 hr st
    subst hP hw
    exact W.done s _ _ hst fun h' tk hk => ⟨rfl, I0.turnedL (t' := tk) (ch := wr) (fun b o hb q => hk b o (fun z => hb (hsub b z)) q) hf⟩
/-- as a walk -/
def YRow (rs : List (List V)) : Nat → Hp → V → Hp → Prop := fun i H v H' => ∃ T r, v = .ref T ∧ H T = none ∧ H' = upd H T (.tup r) ∧ rs[i]? = some r
theorem walk_rows {rows : Hp → List (List V) → Prop} {rs : List (List V)} {n : Nat} (hn : n = rs.length) : Walk (ItR rows) n (fun H => rows H rs) (YRow rs) := by
  subst hn
  refine ⟨fun i _ hi q => ⟨rs, rs[i], q, by simp [hi]⟩, fun _ q => ⟨rs, q, rfl⟩, fun i H v H' _ q y => ?_⟩
  obtain ⟨T, r, h1, h2, h3, h4⟩ := y
  exact ⟨T, r, h1, h2, h3, h4 rs q⟩

/-! ### zip of two, of three; enumerate -/
def rows2 (K : PySem.W.Frag) (b1 b2 : Bool) (a1 a2 : Addr) : Hp → List (List V) → Prop := fun H rs => ∃ xs ys, SqB K b1 H a1 xs ∧ SqB K b2 H a2 ys ∧ rs = List.zipWith (fun x y => [x, y]) xs ys
def row3 : List V → List V → List V → List (List V)
  | x :: xs, y :: ys, z :: zs => [x, y, z] :: row3 xs ys zs
  | _, _, _ => []
theorem row3_get : ∀ {xs ys zs : List V} {i : Nat} {x y z : V}, xs[i]? = some x → ys[i]? = some y → zs[i]? = some z → (row3 xs ys zs)[i]? = some [x, y, z]
  | x :: xs, y :: ys, z :: zs, 0, _, _, _, h1, h2, h3 => by simp at h1 h2 h3; subst h1 h2 h3; rfl
  | x :: xs, y :: ys, z :: zs, i + 1, _, _, _, h1, h2, h3 => by
    show (row3 xs ys zs)[i]? = _
    exact row3_get (by simpa using h1) (by simpa using h2) (by simpa using h3)
  | [], _, _, _, _, _, _, h1, _, _ => by simp at h1
  | _ :: _, [], _, _, _, _, _, _, h2, _ => by simp at h2
  | _ :: _, _ :: _, [], _, _, _, _, _, _, h3 => by simp at h3
theorem row3_length : ∀ (xs ys zs : List V), (row3 xs ys zs).length = min (min xs.length ys.length) zs.length
  | x :: xs, y :: ys, z :: zs => by
    show (row3 xs ys zs).length + 1 = _
    rw [row3_length xs ys zs]
    simp only [List.length_cons]
    omega
  | [], _, _ => by simp [row3]
  | _ :: _, [], _ => by simp [row3]
  | _ :: _, _ :: _, [] => by simp [row3]
def rows3 (K : PySem.W.Frag) (b1 b2 b3 : Bool) (a1 a2 a3 : Addr) : Hp → List (List V) → Prop := fun H rs => ∃ xs ys zs, SqB K b1 H a1 xs ∧ SqB K b2 H a2 ys ∧ SqB K b3 H a3 zs ∧ rs = row3 xs ys zs
def rowE (k : Nat) : List V → List (List V)
  | [] => []
  | x :: xs => [.int (k : Nat), x] :: rowE (k + 1) xs
theorem rowE_length : ∀ (k : Nat) (xs : List V), (rowE k xs).length = xs.length
  | _, [] => rfl
  | k, x :: xs => by unfold rowE; rw [List.length_cons, List.length_cons, rowE_length]
theorem rowE_get : ∀ (k : Nat) {xs : List V} {i : Nat} {x : V}, xs[i]? = some x → (rowE k xs)[i]? = some [.int ((k + i : Nat)), x]
  | _, [], _, _, h => by simp at h
  | k, y :: xs, 0, x, h => by simp at h; subst h; rfl
  | k, y :: xs, i + 1, x, h => by
    show (rowE (k + 1) xs)[i]? = _
    rw [rowE_get (k + 1) (by simpa using h)]
    congr 4; omega
def rowsE (K : PySem.W.Frag) (b : Bool) (a : Addr) : Hp → List (List V) → Prop := fun H rs => ∃ xs, SqB K b H a xs ∧ rs = rowE 0 xs
section
variable {P : Program} {w : World} {K : PySem.W.Frag}
theorem vals_get {xs : List V} {its : List Value} (r : Vals xs its) {i : Nat} {u : Value} (h : its.toArray[i]? = some u) : ∃ x, xs[i]? = some x ∧ RelV x u := by
  have h : its[i]? = some u := by simpa using h
  have hl := r.length
  have hi : i < xs.length := by rw [hl]; exact (List.getElem?_eq_some_iff.mp h).1
  obtain ⟨u', e, ru⟩ := r.get (i := i) (x := xs[i]) (by simp [hi])
  cases h.symm.trans e
  exact ⟨xs[i], by simp [hi], ru⟩
theorem rowT2 {b1 b2 : Bool} {a1 a2 z TI TO i1 i2 : Addr} (S : ZipSep2 z TI TO i1 i2 [i1, a1] [i2, a2]) (n1 : a1 ≠ i1) (n2 : a2 ≠ i2) : RowT P w K (rows2 K b1 b2 a1 a2) z [z, TI, TO, i1, i2]
    (fun i h => IsZip h z TI TO .none ∧ IsTupOf2 h TI (.ref i1) (.ref i2) ∧ (∃ a1 a2, IsTupOf2 h TO a1 a2) ∧ itB b1 h i1 a1 i ∧ itB b2 h i2 a2 i) where
  mem := by simp
  obj := fun i h st c hc => by
    obtain ⟨hz, hTI, ⟨x, y, hTO⟩, h1, h2⟩ := st
    have e' : c = z ∨ c = TI ∨ c = TO ∨ c = i1 ∨ c = i2 := by simpa using hc
    rcases e' with rfl | rfl | rfl | rfl | rfl
    · exact ⟨_, hz, fun v q => nomatch q⟩
    · exact ⟨_, hTI, fun v q => nomatch q⟩
    · exact ⟨_, hTO, fun v q => nomatch q⟩
    · exact itB_obj h1
    · exact itB_obj h2
  keep := fun i h h' st k => by
    obtain ⟨hz, hTI, ⟨x, y, hTO⟩, h1, h2⟩ := st
    exact ⟨k z (by simp) _ hz, k TI (by simp) _ hTI, ⟨x, y, k TO (by simp) _ hTO⟩, itB_keep h1 fun o q => k i1 (by simp) o q, itB_keep h2 fun o q => k i2 (by simp) o q⟩
  one := fun X hP hw hK _ _ _ _ I rs rs' h h' => by
    subst hK
    obtain ⟨xs, ys, q1, q2, rfl⟩ := h
    obtain ⟨xs', ys', q1', q2', rfl⟩ := h'
    rw [SqB.inj I q1 q1', SqB.inj I q2 q2']
  wk := fun X hP hw hK hc i pins σ H s I rs hr st => by
    subst hP hw hK
    obtain ⟨xs, ys, q1, q2, rfl⟩ := hr
    obtain ⟨its1, r1, s1, z1, _⟩ := q1.src I
    obtain ⟨its2, r2, s2, z2, _⟩ := q2.src I
    obtain ⟨hz, hTI, hTO, h1, h2⟩ := st
    have W := WalksT.zipD2 S (drawsB (prog := X.prog) (w := X.w) (A := X.A.in1) (I.ok.hd hc) b1 i1 a1 n1 its1.toArray) (drawsB (A := X.A.in1) (I.ok.hd hc) b2 i2 a2 n2 its2.toArray)
    have hn : min its1.toArray.size its2.toArray.size = (List.zipWith (fun x y => [x, y]) xs ys).length := by
      rw [List.length_zipWith, List.size_toArray, List.size_toArray, r1.length, r2.length]
    rw [hn] at W
    refine ⟨_, _, _, _, _, W, fun b hb => ?_, ⟨hz, hTI, hTO, ⟨h1, s1⟩, ⟨h2, s2⟩⟩, fun j vals hp => ?_, fun j h st => ⟨st.1, st.2.1, st.2.2.1, st.2.2.2.1.1, st.2.2.2.2.1⟩⟩
    · have e' : b = z ∨ b = TO ∨ b = i1 ∨ b = i2 := by simpa using hb
      rcases e' with rfl | rfl | rfl | rfl <;> simp
    · obtain ⟨x1, x2, p1, p2, rfl⟩ := hp
      obtain ⟨y1, e1, v1⟩ := vals_get r1 p1
      obtain ⟨y2, e2, v2⟩ := vals_get r2 p2
      exact ⟨[y1, y2], by rw [List.getElem?_zipWith, e1, e2], .cons v1 (.cons v2 .nil), by show 2 ≤ sizeLine; decide⟩
  self := fun A i s Q E st h => wpAny_pyIter_zip st.1 h
theorem rowT3 {b1 b2 b3 : Bool} {a1 a2 a3 z TI TO i1 i2 i3 : Addr} (S : ZipSep3 z TI TO i1 i2 i3 [i1, a1] [i2, a2] [i3, a3]) (n1 : a1 ≠ i1) (n2 : a2 ≠ i2) (n3 : a3 ≠ i3) : RowT P w K (rows3 K b1 b2 b3 a1 a2 a3) z [z, TI, TO, i1, i2, i3]
    (fun i h => IsZip h z TI TO .none ∧ IsTupOf3 h TI (.ref i1) (.ref i2) (.ref i3) ∧ (∃ a1 a2 a3, IsTupOf3 h TO a1 a2 a3) ∧ itB b1 h i1 a1 i ∧ itB b2 h i2 a2 i ∧ itB b3 h i3 a3 i) where
  mem := by simp
  obj := fun i h st c hc => by
    obtain ⟨hz, hTI, ⟨x, y, u, hTO⟩, h1, h2, h3⟩ := st
    have e' : c = z ∨ c = TI ∨ c = TO ∨ c = i1 ∨ c = i2 ∨ c = i3 := by simpa using hc
    rcases e' with rfl | rfl | rfl | rfl | rfl | rfl
    · exact ⟨_, hz, fun v q => nomatch q⟩
    · exact ⟨_, hTI, fun v q => nomatch q⟩
    · exact ⟨_, hTO, fun v q => nomatch q⟩
    · exact itB_obj h1
    · exact itB_obj h2
    · exact itB_obj h3
  keep := fun i h h' st k => by
    obtain ⟨hz, hTI, ⟨x, y, u, hTO⟩, h1, h2, h3⟩ := st
    exact ⟨k z (by simp) _ hz, k TI (by simp) _ hTI, ⟨x, y, u, k TO (by simp) _ hTO⟩, itB_keep h1 fun o q => k i1 (by simp) o q, itB_keep h2 fun o q => k i2 (by simp) o q, itB_keep h3 fun o q => k i3 (by simp) o q⟩
  one := fun X hP hw hK _ _ _ _ I rs rs' h h' => by
    subst hK
    obtain ⟨xs, ys, zs, q1, q2, q3, rfl⟩ := h
    obtain ⟨xs', ys', zs', q1', q2', q3', rfl⟩ := h'
    rw [SqB.inj I q1 q1', SqB.inj I q2 q2', SqB.inj I q3 q3']
  wk := fun X hP hw hK hc i pins σ H s I rs hr st => by
    subst hP hw hK
    obtain ⟨xs, ys, zs, q1, q2, q3, rfl⟩ := hr
    obtain ⟨its1, r1, s1, z1, _⟩ := q1.src I
    obtain ⟨its2, r2, s2, z2, _⟩ := q2.src I
    obtain ⟨its3, r3, s3, z3, _⟩ := q3.src I
    obtain ⟨hz, hTI, hTO, h1, h2, h3⟩ := st
    have W := WalksT.zipD3 S (drawsB (prog := X.prog) (w := X.w) (A := X.A.in1) (I.ok.hd hc) b1 i1 a1 n1 its1.toArray) (drawsB (A := X.A.in1) (I.ok.hd hc) b2 i2 a2 n2 its2.toArray) (drawsB (A := X.A.in1) (I.ok.hd hc) b3 i3 a3 n3 its3.toArray)
    have hn : min (min its1.toArray.size its2.toArray.size) its3.toArray.size = (row3 xs ys zs).length := by
      rw [row3_length, List.size_toArray, List.size_toArray, List.size_toArray, r1.length, r2.length, r3.length]
    rw [hn] at W
    refine ⟨_, _, _, _, _, W, fun b hb => ?_, ⟨hz, hTI, hTO, ⟨h1, s1⟩, ⟨h2, s2⟩, ⟨h3, s3⟩⟩, fun j vals hp => ?_, fun j h st => ⟨st.1, st.2.1, st.2.2.1, st.2.2.2.1.1, st.2.2.2.2.1.1, st.2.2.2.2.2.1⟩⟩
    · have e' : b = z ∨ b = TO ∨ b = i1 ∨ b = i2 ∨ b = i3 := by simpa using hb
      rcases e' with rfl | rfl | rfl | rfl | rfl <;> simp
    · obtain ⟨x1, x2, x3, p1, p2, p3, rfl⟩ := hp
      obtain ⟨y1, e1, v1⟩ := vals_get r1 p1
      obtain ⟨y2, e2, v2⟩ := vals_get r2 p2
      obtain ⟨y3, e3, v3⟩ := vals_get r3 p3
      exact ⟨[y1, y2, y3], row3_get e1 e2 e3, .cons v1 (.cons v2 (.cons v3 .nil)), by show 3 ≤ sizeLine; decide⟩
  self := fun A i s Q E st h => wpAny_pyIter_zip st.1 h
theorem rowTE {b : Bool} {a e it : Addr} (n0 : e ≠ it) (n1 : a ≠ it) (n2 : e ≠ a) : RowT P w K (rowsE K b a) e [e, it]
    (fun i h => (∃ old, IsEnum h e it i old) ∧ itB b h it a i) where
  mem := by simp
  obj := fun i h st c hc => by
    obtain ⟨⟨old, he⟩, h1⟩ := st
    have e' : c = e ∨ c = it := by simpa using hc
    rcases e' with rfl | rfl
    · exact ⟨_, he, fun v q => nomatch q⟩
    · exact itB_obj h1
  keep := fun i h h' st k => by
    obtain ⟨⟨old, he⟩, h1⟩ := st
    exact ⟨⟨old, k e (by simp) _ he⟩, itB_keep h1 fun o q => k it (by simp) o q⟩
  one := fun X hP hw hK _ _ _ _ I rs rs' h h' => by
    subst hK
    obtain ⟨xs, q1, rfl⟩ := h
    obtain ⟨xs', q1', rfl⟩ := h'
    rw [SqB.inj I q1 q1']
  wk := fun X hP hw hK hc i pins σ H s I rs hr st => by
    subst hP hw hK
    obtain ⟨xs, q1, rfl⟩ := hr
    obtain ⟨its1, r1, s1, z1, _⟩ := q1.src I
    obtain ⟨he, h1⟩ := st
    have W := WalksT.enumerateD (drawsB (prog := X.prog) (w := X.w) (A := X.A.in1) (I.ok.hd hc) b it a n1 its1.toArray) e n0 (by simp [n0, n2]) (by simp)
    have hn : its1.toArray.size = (rowE 0 xs).length := by
      rw [rowE_length, List.size_toArray, r1.length]
    rw [hn] at W
    refine ⟨_, _, _, _, _, W, fun b hb => hb, ⟨he, h1, s1⟩, fun j vals hp => ?_, fun j h st => ⟨st.1, st.2.1⟩⟩
    obtain ⟨t, x1, p1, rfl⟩ := hp
    obtain ⟨y1, e1, v1⟩ := vals_get r1 p1
    refine ⟨[.int (j : Nat), y1], by rw [rowE_get 0 e1, Nat.zero_add], .cons ⟨_, rfl⟩ (.cons v1 .nil), by show 2 ≤ sizeLine; decide⟩
  self := fun A i s Q E st h => by
    obtain ⟨old, he⟩ := st.1
    exact wpAny_pyIter_enum he h
end
set_option maxHeartbeats 1000000 in
theorem meets_enum1 {v : Value} {o : Obj} {H : Heap → Prop} (B : Begins v o H) :
    Meets (Builtin.«enumerate.__new__» ⟨[.type "enumerate", v], []⟩) (fun _ R s => H s.heap ∧
      R (.ok (.ret (.ref (s.heap.push o).objs.size))) { s with heap := (s.heap.push o).push { cls := .type "enumerate", data := .fields #[.none, .bool false, .ref s.heap.objs.size, rawInt 0, .none, .none] } }) :=
  .of_wp fun prog w A R s h => by
    obtain ⟨hp, g, d, tk, os⟩ := s
    obtain ⟨h1, h⟩ := h
    have hsub := sub_enumerate
    have q1 : ∀ {A' : Around} {E : Value → Shared → Prop} {Q : Value → Shared → Prop}, Q (.ref hp.objs.size) ⟨hp.push o, g, d, tk, os⟩ → wpAny (model prog w) A' (pyIter v) Q E ⟨hp, g, d, tk, os⟩ :=
      fun q => B.iter prog w _ _ ⟨hp, g, d, tk, os⟩ _ h1 q
    wp_walk using q1
    refine wpAny_stack_any fun st => wpAny_pure ?_
    split
    · rename_i c _ _ _ _ _
      cases (c == Value.type "enumerate")
      · wp_walk using q1
        exact ⟨_, rfl, h⟩
      · wp_walk using q1
        exact ⟨_, rfl, h⟩
    · wp_walk using q1
      exact ⟨_, rfl, h⟩
section
variable {prog : Program} {w : World} {A : Around} {E : Value → Shared → Prop} {s : Shared}
theorem enum_begins1 {v : Value} {o : Obj} {H : Heap → Prop} {Q : Value → Shared → Prop} (B : Begins v o H) (h1 : H s.heap)
    (h : ∀ h', IsEnum h' (s.heap.objs.size + 1) s.heap.objs.size 0 .none → h'.get? s.heap.objs.size = some o → h'.objs.size = s.heap.objs.size + 2 →
      (∀ b o, s.heap.get? b = some o → h'.get? b = some o) → Q (.ref (s.heap.objs.size + 1)) { s with heap := h' }) :
    wpAny (model prog w) A (call (.type "enumerate") [v]) Q E s := by
  refine callType_new F.called_enumerate (by decide) (F.typeCall_enumerate_1 _) (F.newCall_enumerate_1 _) (fun obj => F.args_object_init_2 obj _) F.entry_enumerate_new
    (meets_enum1 B) ⟨h1, ?_⟩
  have hz : (s.heap.push o).objs.size = s.heap.objs.size + 1 := Heap.size_push ..
  show _ ∧ _
  rw [hz]
  have he : IsEnum ((s.heap.push o).push { cls := .type "enumerate", data := .fields #[.none, .bool false, .ref s.heap.objs.size, rawInt 0, .none, .none] }) (s.heap.objs.size + 1) s.heap.objs.size 0 .none := by
    have := Heap.get?_push_size (s.heap.push o) (o := { cls := .type "enumerate", data := .fields #[.none, .bool false, .ref s.heap.objs.size, rawInt 0, .none, .none] }) rfl
    rw [hz] at this; exact this
  refine ⟨⟨_, he, rfl⟩, h _ he (Heap.get?_push_of_some _ (Heap.get?_push_size _ B.free)) (by rw [Heap.size_push, hz]) fun b o x => Heap.get?_push_of_some _ (Heap.get?_push_of_some _ x)⟩
end
/-! ### the calls -/
section
variable {X : Cx} {tg e e2 e3 : Expr} {ta : TA} {p pos tpos : Pos} {elts : List Expr} {kk : Nat}
def iEnuB (K : PySem.W.Frag) (ta : TA) : TI := fun σ H R => ta σ H fun vs H1 => ∃ b a xs, vs = [.ref a] ∧ SqB K b H1 a xs ∧ (xs.length ≤ sizeLine → R (ItR (rowsE K b a)) H1)
theorem pi_enuB (hg : Gl X "enumerate") (hm : X.mg "enumerate" = none) (ha : PA X [e] ta) (hs : starEach [e] X.env = [(false, eval e X.env)]) :
    PI X (.Tuple elts kk tpos) (.Call (.Name "enumerate" p) [e] [] pos) (iEnuB X.K ta) := by
  refine ⟨fun pins s σ H R I h => ?_⟩
  refine Call_ (ld_blt I hg hm boot_enumerate (PyProof.Rows.callWith_type1 (thn (ha.run pos pins s σ H _ I h) fun us s1 ⟨vs, H1, I1, r1, q1⟩ => ?_) hs rfl))
  obtain ⟨b, a, xs, ex, hq, q⟩ := q1
  subst ex
  cases r1 with
  | cons r rr =>
    cases rr
    cases r
    obtain ⟨its, rv, p', hz, hlt⟩ := hq.src I1
    refine enum_begins1 (beginsB b a its.toArray) p' fun h' he hit hsz hk => wpAny_pyIter_enum he ?_
    have I2 : Inv X pins σ H1 { s1 with heap := h' } := I1.kept (t' := s1.toks) hk
    have n1 : a ≠ s1.heap.objs.size := Nat.ne_of_lt hlt
    have n2 : s1.heap.objs.size + 1 ≠ a := fun z => by
      have h1 : a < s1.heap.objs.size := hlt
      rw [← z] at h1
      exact Nat.not_lt.mpr (Nat.le_succ _) h1
    refine ⟨s1.heap.objs.size + 1, [s1.heap.objs.size + 1, s1.heap.objs.size], _, _, H1, rfl, I2, (rowTE (b := b) (a := a) (Nat.succ_ne_self _) n1 n2).turn, ⟨⟨.none, he⟩, itB_new hit⟩, fun c hc => ?_, q hz⟩
    have e' : c = s1.heap.objs.size + 1 ∨ c = s1.heap.objs.size := by simpa using hc
    have hle : s1.heap.objs.size ≤ c := by
      rcases e' with z | z
      · rw [z]; exact Nat.le_add_right _ _
      · rw [z]; exact Nat.le_refl _
    exact I1.fpOk hle (I1.hok.fresh hle)
def iZipB (K : PySem.W.Frag) (ta : TA) : TI := fun σ H R => ta σ H fun vs H1 => ∃ b1 b2 a1 a2 xs ys, vs = [.ref a1, .ref a2] ∧ SqB K b1 H1 a1 xs ∧ SqB K b2 H1 a2 ys ∧ (xs.length ≤ sizeLine → ys.length ≤ sizeLine → R (ItR (rows2 K b1 b2 a1 a2)) H1)
theorem pi_zipB (hg : Gl X "zip") (hm : X.mg "zip" = none) (ha : PA X [e, e2] ta)
    (hs : starEach [e, e2] X.env = (false, eval e X.env) :: starEach [e2] X.env) (hpl : (backTo pos (starEach [e2] X.env)).any (·.1) = false) :
    PI X (.Tuple elts kk tpos) (.Call (.Name "zip" p) [e, e2] [] pos) (iZipB X.K ta) := by
  refine ⟨fun pins s σ H R I h => ?_⟩
  refine Call_ (ld_blt I hg hm PyProof.Rows.boot_zip (PyProof.Rows.callWith_type1 (thn (ha.run pos pins s σ H _ I h) fun us s1 ⟨vs, H1, I1, r1, q1⟩ => ?_) hs hpl))
  obtain ⟨b1, b2, a1, a2, xs, ys, ex, hq1, hq2, q⟩ := q1
  subst ex
  cases r1 with
  | cons r rr =>
    cases rr with
    | cons r' rr =>
      cases rr
      cases r
      cases r'
      obtain ⟨its1, rv1, p1, hz1, hl1⟩ := hq1.src I1
      obtain ⟨its2, rv2, p2, hz2, hl2⟩ := hq2.src I1
      refine zip_begins2 (beginsB b1 a1 its1.toArray) (beginsB b2 a2 its2.toArray) p1 p2 fun h' hz hTI hTO g1 g2 hsz hk => wpAny_pyIter_zip hz ?_
      have I2 : Inv X pins σ H1 { s1 with heap := h' } := I1.kept (t' := s1.toks) hk
      have S := zip_sep2 (N := s1.heap.objs.size) (fp1 := [a1]) (fp2 := [a2]) (fun b hb => by rw [List.mem_singleton.mp hb]; exact hl1) (fun b hb => by rw [List.mem_singleton.mp hb]; exact hl2)
      have n1 : a1 ≠ s1.heap.objs.size := Nat.ne_of_lt hl1
      have n2 : a2 ≠ s1.heap.objs.size + 1 := Nat.ne_of_lt (Nat.lt_succ_of_lt hl2)
      refine ⟨s1.heap.objs.size + 4, [s1.heap.objs.size + 4, s1.heap.objs.size + 2, s1.heap.objs.size + 3, s1.heap.objs.size, s1.heap.objs.size + 1], _, _, H1, rfl, I2, (rowT2 S n1 n2).turn, ⟨hz, hTI, ⟨_, _, hTO⟩, itB_new g1, itB_new g2⟩, fun c hcm => ?_, q hz1 hz2⟩
      have e' : c = s1.heap.objs.size + 4 ∨ c = s1.heap.objs.size + 2 ∨ c = s1.heap.objs.size + 3 ∨ c = s1.heap.objs.size ∨ c = s1.heap.objs.size + 1 := by simpa using hcm
      have hle : s1.heap.objs.size ≤ c := by
        rcases e' with z | z | z | z | z
        · rw [z]; exact Nat.le_add_right _ _
        · rw [z]; exact Nat.le_add_right _ _
        · rw [z]; exact Nat.le_add_right _ _
        · rw [z]; exact Nat.le_refl _
        · rw [z]; exact Nat.le_add_right _ _
      exact I1.fpOk hle (I1.hok.fresh hle)
def iZip3B (K : PySem.W.Frag) (ta : TA) : TI := fun σ H R => ta σ H fun vs H1 => ∃ b1 b2 b3 a1 a2 a3 xs ys zs, vs = [.ref a1, .ref a2, .ref a3] ∧ SqB K b1 H1 a1 xs ∧ SqB K b2 H1 a2 ys ∧ SqB K b3 H1 a3 zs ∧
  (xs.length ≤ sizeLine → ys.length ≤ sizeLine → zs.length ≤ sizeLine → R (ItR (rows3 K b1 b2 b3 a1 a2 a3)) H1)
theorem pi_zip3B (hg : Gl X "zip") (hm : X.mg "zip" = none) (ha : PA X [e, e2, e3] ta)
    (hs : starEach [e, e2, e3] X.env = (false, eval e X.env) :: starEach [e2, e3] X.env) (hpl : (backTo pos (starEach [e2, e3] X.env)).any (·.1) = false) :
    PI X (.Tuple elts kk tpos) (.Call (.Name "zip" p) [e, e2, e3] [] pos) (iZip3B X.K ta) := by
  refine ⟨fun pins s σ H R I h => ?_⟩
  refine Call_ (ld_blt I hg hm PyProof.Rows.boot_zip (PyProof.Rows.callWith_type1 (thn (ha.run pos pins s σ H _ I h) fun us s1 ⟨vs, H1, I1, r1, q1⟩ => ?_) hs hpl))
  obtain ⟨b1, b2, b3, a1, a2, a3, xs, ys, zs, ex, hq1, hq2, hq3, q⟩ := q1
  subst ex
  cases r1 with
  | cons r rr =>
    cases rr with
    | cons r' rr =>
      cases rr with
      | cons r'' rr =>
        cases rr
        cases r
        cases r'
        cases r''
        obtain ⟨its1, rv1, p1, hz1, hl1⟩ := hq1.src I1
        obtain ⟨its2, rv2, p2, hz2, hl2⟩ := hq2.src I1
        obtain ⟨its3, rv3, p3, hz3, hl3⟩ := hq3.src I1
        refine zip_begins3 (beginsB b1 a1 its1.toArray) (beginsB b2 a2 its2.toArray) (beginsB b3 a3 its3.toArray) p1 p2 p3 fun h' hz hTI hTO g1 g2 g3 hsz hk => wpAny_pyIter_zip hz ?_
        have I2 : Inv X pins σ H1 { s1 with heap := h' } := I1.kept (t' := s1.toks) hk
        have S := zip_sep3 (N := s1.heap.objs.size) (fp1 := [a1]) (fp2 := [a2]) (fp3 := [a3]) (fun b hb => by rw [List.mem_singleton.mp hb]; exact hl1) (fun b hb => by rw [List.mem_singleton.mp hb]; exact hl2) (fun b hb => by rw [List.mem_singleton.mp hb]; exact hl3)
        have n1 : a1 ≠ s1.heap.objs.size := Nat.ne_of_lt hl1
        have n2 : a2 ≠ s1.heap.objs.size + 1 := Nat.ne_of_lt (Nat.lt_succ_of_lt hl2)
        have n3 : a3 ≠ s1.heap.objs.size + 2 := Nat.ne_of_lt (Nat.lt_succ_of_lt (Nat.lt_succ_of_lt hl3))
        refine ⟨s1.heap.objs.size + 5, [s1.heap.objs.size + 5, s1.heap.objs.size + 3, s1.heap.objs.size + 4, s1.heap.objs.size, s1.heap.objs.size + 1, s1.heap.objs.size + 2], _, _, H1, rfl, I2, (rowT3 S n1 n2 n3).turn, ⟨hz, hTI, ⟨_, _, _, hTO⟩, itB_new g1, itB_new g2, itB_new g3⟩, fun c hcm => ?_, q hz1 hz2 hz3⟩
        have e' : c = s1.heap.objs.size + 5 ∨ c = s1.heap.objs.size + 3 ∨ c = s1.heap.objs.size + 4 ∨ c = s1.heap.objs.size ∨ c = s1.heap.objs.size + 1 ∨ c = s1.heap.objs.size + 2 := by simpa using hcm
        have hle : s1.heap.objs.size ≤ c := by
          rcases e' with z | z | z | z | z | z
          · rw [z]; exact Nat.le_add_right _ _
          · rw [z]; exact Nat.le_add_right _ _
          · rw [z]; exact Nat.le_add_right _ _
          · rw [z]; exact Nat.le_refl _
          · rw [z]; exact Nat.le_add_right _ _
          · rw [z]; exact Nat.le_add_right _ _
        exact I1.fpOk hle (I1.hok.fresh hle)
end
end Ly

set_option Elab.async false
set_option linter.all false
set_option maxRecDepth 100000
set_option maxHeartbeats 2000000
/-! Ly: the small language and what it computes. -/
namespace Ly
open PySem PySem.Spec PyProof.Rows L2

inductive Bo where
  | add | sub | mul | fdiv | mod
inductive Co where
  | eq | ne | lt | le | gt | ge | isin | notin | is | isnot
inductive Ty where
  | int | bool | str | tuple | list | dict
/-- built-ins -/
inductive Bf where
  | len | tuple | xtup | list | sum | max | min | any | all | sorted | sset | abs | int | isi (t : Ty)
/-- methods that change nothing -/
inductive Me where
  | count | index | get
inductive Md where
  | frz | bor | tst
mutual
inductive Ex where
  | var (i : Nat)
  | con (d : D)
  | bin (o : Bo) (a b : Ex)
  | neg (a : Ex)
  | cmp (o : Co) (a b : Ex)
  | chn (o p : Co) (a b c : Ex)
  | and (a b : Ex)
  | or (a b : Ex)
  | not (a : Ex)
  | ite (c a b : Ex)
  | tup (xs : Exs)
  | lst (xs : Exs)
  | idx (a b : Ex)
  | slc (a : Ex) (lo hi : Exo)
  | bf (f : Bf) (xs : Exs)
  | me (m : Me) (a : Ex) (xs : Exs)
  | call (f : Nat) (xs : Exs)
  | lc (own : List Nat) (tg : Tg) (it : Itx) (cs : Exs) (elt : Ex)
  | rev (a : Ex)
  | dct0 (t : Bool)
  | lrg (xs : Exs)
  | trg (xs : Exs)
  | dc (own : List Nat) (tg : Tg) (it : Itx) (cs : Exs) (kx vx : Ex)
  | dct1 (t : Bool) (k v : Ex)
  | dg1 (a k : Ex)
  | ixo (a b : Ex)
  | dg2 (a k v : Ex)
  | xt0
  | lc2 (own own1 : List Nat) (tg : Tg) (it : Itx) (cs : Exs) (tg1 : Tg) (it1 : Itx) (cs1 : Exs) (elt : Ex)
inductive Exs where
  | nil
  | cons (x : Ex) (xs : Exs)
inductive Exo where
  | none
  | some (x : Ex)
inductive Itx where
  | seq (a : Ex)
  | rng (xs : Exs)
  | rlen (a : Ex)
  | zip (xs : Exs)
  | enu (a : Ex)
  | zst (a : Ex)
inductive Tg where
  | nm (i : Nat)
  | tup (ts : Tgs)
inductive Tgs where
  | nil
  | cons (t : Tg) (ts : Tgs)
end
mutual
inductive St where
  | asg (tg : Tg) (x : Ex)
  | own (i : Nat) (x : Ex)
  | par (ts : List (Nat × Bool)) (xs : Exs)
  | frz (i : Nat)
  | app (i : Nat) (x : Ex)
  | setI (i : Nat) (k x : Ex)
  | augI (o : Bo) (i : Nat) (k x : Ex)
  | aug (o : Bo) (i : Nat) (x : Ex)
  | pop (tg : Tg) (i : Nat) (k : Exo)
  | exp (x : Ex)
  | ret (x : Ex)
  | retN
  | ifs (c : Ex) (a b : Sts)
  | «for» (tg : Tg) (it : Itx) (b : Sts)
  | whl (c : Ex) (b : Sts)
  | grp (x a b c : Nat) (e : Ex)
  | fpg (tg : Tg) (i j : Nat) (b : Sts)
  | rai (e : Nat)
  | «try» (b : Sts) (e : Nat) (h : Sts)
  | brk
  | cnt
  | pas
inductive Sts where
  | nil
  | cons (x : St) (xs : Sts)
end

/-! ### what the operators do -/
def okLen (n : Nat) : Bool := decide (n ≤ 16777216)
def addD : D → D → Option D
  | .int i, .int j => some (.int (i + j))
  | .tuple xs, .tuple ys => if okLen (xs.length + ys.length) then some (.tuple (xs ++ ys)) else none
  | .list xs, .list ys => if okLen (xs.length + ys.length) then some (.list (xs ++ ys)) else none
  | .str x, .str y => if okLen (x.length + y.length) then some (.str (x ++ y)) else none
  | _, _ => none
def subD : D → D → Option D
  | .int i, .int j => some (.int (i - j))
  | _, _ => none
def mulOk (i j : Int) : Bool := (decide (-(2 ^ 64) < i) && decide (i < 2 ^ 64)) || (decide (-(2 ^ 64) < j) && decide (j < 2 ^ 64))
def mulD : D → D → Option D
  | .int i, .int j => if mulOk i j then some (.int (i * j)) else none
  | .list xs, .int k => if decide (-(2 ^ 63) ≤ k) && decide (k < 2 ^ 63) && okLen (xs.length * k.toNat) then some (.list (List.replicate k.toNat xs).flatten) else none
  | _, _ => none
def fdivD : D → D → Option D
  | .int i, .int j => if decide (j ≠ 0) && decide (j.natAbs < 1073741824) then some (.int (i.fdiv j)) else none
  | _, _ => none
def modD : D → D → Option D
  | .int i, .int j => if decide (j ≠ 0) then some (.int (i.fmod j)) else none
  | _, _ => none
def binD : Bo → D → D → Option D
  | .add => addD
  | .sub => subD
  | .mul => mulD
  | .fdiv => fdivD
  | .mod => modD
def negD : D → Option D
  | .int i => some (.int (-i))
  | _ => none
/-- data that == may look at -/
def shp (d : D) : Bool := d.plain && decide (d.depth ≤ 64)
def eqD (x y : D) : Option Bool := if shp x && shp y then some (PyData.eqv x y) else none
def isNon : D → Bool
  | .none => true
  | _ => false
def ltD : D → D → Option Bool
  | .int i, .int j => some (decide (i < j))
  | x, y => if shp x && shp y && PySem.W.alike x y && !isNon x then some (PySem.W.dataLt x y) else none
def leD : D → D → Option Bool
  | .int i, .int j => some (decide (i ≤ j))
  | x, y => if shp x && shp y && PySem.W.alike x y && !isNon x then some (!PySem.W.dataLt y x) else none
/-- a key of a dict -/
def isKey0 : D → Bool
  | .int _ => true
  | .str _ => true
  | _ => false
def isKey : D → Bool
  | .int _ => true
  | .str _ => true
  | .tuple ds => ds.all isKey0
  | _ => false
/-- equal keys -/
def keq0 : D → D → Bool
  | .int i, .int j => decide (i = j)
  | .str x, .str y => decide (x = y)
  | _, _ => false
def keqL : List D → List D → Bool
  | [], [] => true
  | x :: xs, y :: ys => keq0 x y && keqL xs ys
  | _, _ => false
def keq : D → D → Bool
  | .tuple xs, .tuple ys => keqL xs ys
  | x, y => keq0 x y
/-- a dict whose keys are tuples, as a value -/
abbrev dtD (ps : List (D × D)) : D := .dict ((.bool false, .none) :: ps)
def lookD (ps : List (D × D)) (k : D) : Option D := (ps.find? fun p => keq p.1 k).map (·.2)
def putD (ps : List (D × D)) (k v : D) : List (D × D) :=
  if ps.any fun p => keq p.1 k then ps.map fun p => if keq p.1 k then (p.1, v) else p else ps ++ [(k, v)]
/-- a dict's kind (keys tuples or not) and its pairs -/
def dsD : List (D × D) → Option (Bool × List (D × D))
  | [] => some (false, [])
  | (.bool false, .none) :: ps => some (true, ps)
  | (.int i, v) :: ps => some (false, (.int i, v) :: ps)
  | (.str i, v) :: ps => some (false, (.str i, v) :: ps)
  | _ => none
def keyOk : Bool → D → Bool
  | false, d => isKey0 d
  | true, .tuple ds => ds.all isKey0
  | true, _ => false
def dmk (t : Bool) (ps : List (D × D)) : D := if t then dtD ps else .dict ps
def isDct : D → Bool
  | .dict qs => (dsD qs).isSome
  | _ => false
/-- what stands at a key -/
def dgetD (d k : D) : Option (Option D) :=
  match d with
  | .dict qs => match dsD qs with
    | some (t, ps) => if keyOk t k then some (lookD ps k) else none
    | none => none
  | _ => none
def dputD (d k v : D) : Option D :=
  match d with
  | .dict qs => match dsD qs with
    | some (t, ps) => if keyOk t k && decide (ps.length < 16777216) then some (dmk t (putD ps k v)) else none
    | none => none
  | _ => none
def inD (x : D) : D → Option Bool
  | .list ds => if shp x && shp (.list ds) then some (ds.any fun d => PyData.eqv d x) else none
  | .tuple ds => if shp x && shp (.tuple ds) then some (ds.any fun d => PyData.eqv d x) else none
  | .dict qs => (dgetD (.dict qs) x).map (·.isSome)
  | _ => none
def cmpD : Co → D → D → Option Bool
  | .eq, x, y => eqD x y
  | .ne, x, y => (eqD x y).map (!·)
  | .lt, x, y => ltD x y
  | .le, x, y => leD x y
  | .gt, x, y => ltD y x
  | .ge, x, y => leD y x
  | .isin, x, y => inD x y
  | .notin, x, y => (inD x y).map (!·)
  | .is, x, y => if isNon y then some (isNon x) else none
  | .isnot, x, y => if isNon y then some (!isNon x) else none
def truD : D → Option Bool
  | .none => some false
  | .bool b => some b
  | .int i => some (i != 0)
  | .str x => if okLen x.length then some (x.length != 0) else none
  | .list ds => some (!ds.isEmpty)
  | .tuple ds => some (!ds.isEmpty)
  | .dict _ => none
def itemD (ds : List D) (i : Int) : Option D := L2.atI ds i
def idxS : D → D → Option D
  | .list ds, .int i => L2.atI ds i
  | .tuple ds, .int i => L2.atI ds i
  | .str x, .int i => if okLen x.length then (L2.atI x.cps.toList i).map fun c => .str ⟨#[c]⟩ else none
  | _, _ => none
def idxD (x y : D) : Option D :=
  match x with
  | .dict qs => match dgetD (.dict qs) y with
    | some o => o
    | none => none
  | x => idxS x y
def cutL (ds : List D) (lo hi : Option Int) : List D := (ds.drop (HT.sIx ds.length 0 lo)).take (HT.sIx ds.length ds.length hi - HT.sIx ds.length 0 lo)
def slcD (x : D) (l h : Option Int) : Option D :=
  match x with
  | .list ds => some (.list (cutL ds l h))
  | .tuple ds => some (.tuple (cutL ds l h))
  | _ => none
/-- the ints of a list, if all are -/
def intsD : List D → Option (List Int)
  | [] => some []
  | .int i :: r => (intsD r).map (i :: ·)
  | _ => none
def seqD : D → Option (List D)
  | .list ds => some ds
  | .tuple ds => some ds
  | _ => none
/-- truth of what is looked at by any, all -/
def tru0 : D → Option Bool
  | .none => some false
  | .bool b => some b
  | .int i => some (i != 0)
  | _ => none
def trusD : List D → Option (List Bool)
  | [] => some []
  | d :: r => match tru0 d, trusD r with
    | some b, some bs => some (b :: bs)
    | _, _ => none
def isTy : Ty → D → Bool
  | .int, .int _ => true
  | .int, .bool _ => true
  | .bool, .bool _ => true
  | .str, .str _ => true
  | .tuple, .tuple _ => true
  | .list, .list _ => true
  | .dict, .dict _ => true
  | _, _ => false
def dedup : List Int → List Int
  | [] => []
  | x :: r => if (dedup r).contains x then dedup r else x :: dedup r
/-- the distinct ints, rising -/
def ssL (is : List Int) : List Int := (dedup is).mergeSort (fun a b => decide (a ≤ b))
/-- all may be compared with one another -/
def alk (ds : List D) : Bool := ds.all fun d => shp d && !isNon d && ds.all fun e => PySem.W.alike d e
def isTup1 : D → Bool
  | .tuple (_ :: _) => true
  | _ => false
def isTup : D → Bool
  | .tuple _ => true
  | _ => false
def firstE : List D → Bool
  | .tuple [] :: _ => true
  | _ => false
def sortL (ds : List D) : List D := ds.mergeSort (PySem.W.dataLe false fun d => d)
def sortD (ds : List D) : Option (List D) :=
  if alk ds && (ds.all isTup1 || (ds.all fun d => !isTup d) || (firstE ds && ds.all isTup)) then some (sortL ds) else none
def maxD (ds : List D) : Option D :=
  match ds with
  | [] => none
  | d :: r => match intsD ds with
    | some is => some (.int (is.tail.foldl max (is.headD 0)))
    | none => if alk ds then some (PySem.W.maxD d r) else none
def minD (ds : List D) : Option D :=
  match ds with
  | [] => none
  | d :: r => match intsD ds with
    | some is => some (.int (is.tail.foldl min (is.headD 0)))
    | none => if alk ds then some (PySem.W.minD d r) else none
def bfD : Bf → List D → Option D
  | .len, [.list ds] => some (.int ds.length)
  | .len, [.tuple ds] => some (.int ds.length)
  | .len, [.str x] => if okLen x.length then some (.int x.length) else none
  | .len, [.dict qs] => match dsD qs with
    | some (false, ps) => some (.int ps.length)
    | _ => none
  | .tuple, [.list ds] => some (.tuple ds)
  | .tuple, [.tuple ds] => some (.tuple ds)
  | .xtup, [.list ds] => some (xtD ds)
  | .list, [.list ds] => some (.list ds)
  | .list, [.tuple ds] => some (.list ds)
  | .sum, [x] => match seqD x with
    | some ds => (intsD ds).map fun is => .int is.sum
    | none => none
  | .max, [.int i, .int j] => some (.int (if j > i then j else i))
  | .max, [x] => (seqD x).bind maxD
  | .min, [.int i, .int j] => some (.int (if j < i then j else i))
  | .min, [x] => (seqD x).bind minD
  | .any, [x] => match seqD x with
    | some ds => (trusD ds).map fun bs => .bool (bs.any id)
    | none => none
  | .all, [x] => match seqD x with
    | some ds => (trusD ds).map fun bs => .bool (bs.all id)
    | none => none
  | .sorted, [.list ds] => (sortD ds).map .list
  | .sorted, [.tuple ds] => (sortD ds).map .list
  | .sorted, [.dict qs] => match dsD qs with
    | some (false, ps) => match intsD (ps.map (·.1)) with
      | some is => if decide (is.length < 64) then some (.list ((is.mergeSort (fun a b => decide (a ≤ b))).map .int)) else none
      | none => none
    | _ => none
  | .sset, [.list ds] => match intsD ds with
    | some is => if decide (is.length ≤ 4000) && decide ((dedup is).length < 64) then some (.list ((ssL is).map .int)) else none
    | none => none
  | .sset, [.tuple ds] => match intsD ds with
    | some is => if decide (is.length ≤ 4000) && decide ((dedup is).length < 64) then some (.list ((ssL is).map .int)) else none
    | none => none
  | .abs, [.int i] => some (.int (if i < 0 then -i else i))
  | .int, [.int i] => some (.int i)
  | .int, [.bool b] => some (.int (if b then 1 else 0))
  | .isi t, [x] => match x with
    | .dict [(.bool true, .tuple _)] => some (.bool (isTy t (.tuple [])))
    | .dict _ => none
    | x => some (.bool (isTy t x))
  | _, _ => none
def meD : Me → D → List D → Option D
  | .count, .list ds, [y] => if shp y && shp (.list ds) then some (.int (ds.countP fun d => PyData.eqv d y : Nat)) else none
  | .index, .list ds, [y] => if SeqAt.shaped y && SeqAt.shaped (.list ds) then (ds.findIdx? fun d => PyData.eqv d y).map fun j => .int (j : Nat) else none
  | .count, .dict [(.bool true, .tuple ds)], [y] => if shp y && shp (.tuple ds) then some (.int (ds.countP fun d => PyData.eqv d y : Nat)) else none
  | _, _, _ => none
/-- turned round -/
def revD : D → Option D
  | .list ds => some (.list ds.reverse)
  | .tuple ds => some (.tuple ds.reverse)
  | .dict [(.bool true, .tuple ds)] => some (.tuple ds.reverse)
  | _ => none
/-- what is walked -/
def walkD : D → Option (List D)
  | .str x => if okLen x.length then some (x.cps.toList.map fun c => .str ⟨#[c]⟩) else none
  | .list ds => some ds
  | .tuple ds => some ds
  | .dict [(.bool true, .tuple ds)] => some ds
  | _ => none
theorem walkD_of {d : D} {ds : List D} (h : seqD d = some ds) : walkD d = some ds := by
  cases d <;> first | exact h | cases h

/-! ### the machine -/
def R.bind {α β : Type} : R α → (α → Dr → R β) → R β
  | .ok a dr, f => f a dr
  | .err e dr, _ => .err e dr
  | .stk, _ => .stk
def fin (m : Md) (d : D) (dr : Dr) : R D :=
  match m with
  | .tst => match truD d with
    | some b => .ok (.bool b) dr
    | none => .stk
  | _ => .ok d dr
def lift (m : Md) (o : Option D) (dr : Dr) : R D :=
  match o with
  | some d => fin m d dr
  | none => .stk
def liftB (o : Option Bool) (dr : Dr) : R D :=
  match o with
  | some b => .ok (.bool b) dr
  | none => .stk
def vari (m : Md) (x : Option Sl) (dr : Dr) : R D :=
  match x with
  | some (.fz d) => fin m d dr
  | some (.ow d) => match m with
    | .frz => .stk
    | _ => fin m d dr
  | _ => .stk
mutual
/-- what is stored to a target -/
def tgo : Tg → D → List Sl → Option (List Sl)
  | .nm i, d, env => some (env.set i (.fz d))
  | .tup ts, .tuple ds, env => tgos ts ds env
  | .tup ts, .list ds, env => tgos ts ds env
  | .tup _, _, _ => none
def tgos : Tgs → List D → List Sl → Option (List Sl)
  | .nil, [], env => some env
  | .cons t ts, d :: ds, env => match tgo t d env with
    | some e => tgos ts ds e
    | none => none
  | _, _, _ => none
end
def wipeE (env : List Sl) : List Nat → List Sl
  | [] => env
  | v :: vs => (wipeE env vs).set v .un
def lcGo (turn : D → Dr → Option (List D × Dr)) : List D → Dr → Option (List D × Dr)
  | [], dr => some ([], dr)
  | x :: xs, dr => match turn x dr with
    | none => none
    | some (r, dr') => match lcGo turn xs dr' with
      | none => none
      | some (ys, dr'') => some (r ++ ys, dr'')
/-- a turn of a comprehension -/
def tn1 (tg : Tg) (own : List Nat) (env : List Sl) (tst el : List Sl → Dr → R D) : D → Dr → Option (List D × Dr) := fun x dr =>
  match tgo tg x (wipeE env own) with
  | none => none
  | some env => match tst env dr with
    | .ok (.bool true) dr => match el env dr with
      | .ok d dr => some ([d], dr)
      | _ => none
    | .ok (.bool false) dr => some ([], dr)
    | _ => none
def tn2 (tg : Tg) (own : List Nat) (env : List Sl) (tst : List Sl → Dr → R D) (it : List Sl → Dr → R (List D)) (tn : List Sl → D → Dr → Option (List D × Dr)) : D → Dr → Option (List D × Dr) := fun x dr =>
  match tgo tg x (wipeE env own) with
  | none => none
  | some env => match tst env dr with
    | .ok (.bool true) dr => match it env dr with
      | .ok es dr => lcGo (tn env) es dr
      | _ => none
    | .ok (.bool false) dr => some ([], dr)
    | _ => none
def rngL (lo hi : Int) : List D := (List.range (hi - lo).toNat).map fun k => .int (lo + (k : Nat))
def rngOk (i : Int) : Bool := decide (-(2 ^ 62) ≤ i) && decide (i < 2 ^ 62)
def rngD : List D → Option (List D)
  | [.int j] => if rngOk j && okLen j.toNat then some (rngL 0 j) else none
  | [.int i, .int j] => if rngOk i && rngOk j && okLen (j - i).toNat then some (rngL i j) else none
  | _ => none
def lenD : D → Option Nat
  | .list ds => some ds.length
  | .tuple ds => some ds.length
  | _ => none
def zip2 (xs ys : List D) : List D := List.zipWith (fun x y => .tuple [x, y]) xs ys
def zip3 : List D → List D → List D → List D
  | x :: xs, y :: ys, z :: zs => .tuple [x, y, z] :: zip3 xs ys zs
  | _, _, _ => []
def zipD : List D → Option (List D)
  | [x, y] => match seqD x, seqD y with
    | some xs, some ys => some (zip2 xs ys)
    | _, _ => none
  | [x, y, z] => match seqD x, seqD y, seqD z with
    | some xs, some ys, some zs => some (zip3 xs ys zs)
    | _, _, _ => none
  | _ => none
/-- rows of a row of tuples -/
def tupsD : List D → Option (List (List D))
  | [] => some []
  | .tuple ds :: r => (tupsD r).map (ds :: ·)
  | _ => none
def colsD (n : Nat) (cs : List (List D)) : List D := (List.range n).map fun i => .tuple (cs.map fun c => c.getD i .none)
def zstD (x : D) : Option (List D) :=
  match seqD x with
  | some ds => match tupsD ds with
    | some (c :: cs) => if (c :: cs).all fun d => decide (d.length = c.length) then some (colsD c.length (c :: cs)) else none
    | _ => none
  | none => none
def enuL (k : Nat) : List D → List D
  | [] => []
  | x :: r => .tuple [.int k, x] :: enuL (k + 1) r
/-- a key and what stands there, one behind the other -/
def pairE (kel vel : List Sl → Dr → R D) : List Sl → Dr → R D := fun env dr => (kel env dr).bind fun k dr => (vel env dr).bind fun v dr => if isKey0 k then .ok (.tuple [k, v]) dr else .stk
/-- a dict of pairs -/
def dcP (r : List D) : List (D × D) := r.foldl (fun ps d => match d with
  | .tuple [k, v] => putD ps k v
  | _ => ps) []
inductive Oc where
  | ok (d : D) (dr : Dr)
  | err (e : Nat) (dr : Dr)
  | stk
section
variable (F : Nat → List D → Dr → Oc)
mutual
def ev (m : Md) : Ex → List Sl → Dr → R D
  | .var i, env, dr => vari m env[i]? dr
  | .con d, _, dr => fin m d dr
  | .bin o a b, env, dr => (ev .bor a env dr).bind fun x dr => (ev .bor b env dr).bind fun y dr => lift m (binD o x y) dr
  | .neg a, env, dr => (ev .bor a env dr).bind fun x dr => lift m (negD x) dr
  | .cmp o a b, env, dr => (ev .bor a env dr).bind fun x dr => (ev .bor b env dr).bind fun y dr => liftB (cmpD o x y) dr
  | .chn o p a b c, env, dr => (ev .bor a env dr).bind fun x dr => (ev .bor b env dr).bind fun y dr => match cmpD o x y with
    | some true => (ev .bor c env dr).bind fun z dr => liftB (cmpD p y z) dr
    | some false => .ok (.bool false) dr
    | none => .stk
  | .and a b, env, dr => match m with
    | .tst => (ev .tst a env dr).bind fun x dr => match x with
      | .bool true => ev .tst b env dr
      | d => .ok d dr
    | _ => (ev m a env dr).bind fun x dr => match truD x with
      | some true => ev m b env dr
      | some false => .ok x dr
      | none => .stk
  | .or a b, env, dr => match m with
    | .tst => (ev .tst a env dr).bind fun x dr => match x with
      | .bool false => ev .tst b env dr
      | d => .ok d dr
    | _ => (ev m a env dr).bind fun x dr => match truD x with
      | some false => ev m b env dr
      | some true => .ok x dr
      | none => .stk
  | .not a, env, dr => match m with
    | .tst => (ev .tst a env dr).bind fun x dr => match x with
      | .bool b => .ok (.bool (!b)) dr
      | _ => .stk
    | _ => (ev .bor a env dr).bind fun x dr => liftB ((truD x).map (!·)) dr
  | .ite c a b, env, dr => (ev .tst c env dr).bind fun x dr => match x with
    | .bool true => ev m a env dr
    | _ => ev m b env dr
  | .tup xs, env, dr => (evs .frz xs env dr).bind fun ds dr => lift m (if okLen ds.length then some (.tuple ds) else none) dr
  | .lst xs, env, dr => (evs .frz xs env dr).bind fun ds dr => lift m (if okLen ds.length then some (.list ds) else none) dr
  | .idx a b, env, dr => (ev .bor a env dr).bind fun x dr => (ev .bor b env dr).bind fun y dr => lift m (idxD x y) dr
  | .slc a lo hi, env, dr => (ev .bor a env dr).bind fun x dr => (evo lo env dr).bind fun l dr => (evo hi env dr).bind fun h dr => lift m (slcD x l h) dr
  | .bf f xs, env, dr => (evs .bor xs env dr).bind fun ds dr => lift m (bfD f ds) dr
  | .me f a xs, env, dr => (ev .bor a env dr).bind fun x dr => match x with
    | .list es => (evs .bor xs env dr).bind fun ds dr => lift m (meD f (.list es) ds) dr
    | .dict [(.bool true, .tuple es)] => (evs .bor xs env dr).bind fun ds dr => lift m (meD f (xtD es) ds) dr
    | _ => .stk
  | .rev a, env, dr => (ev .bor a env dr).bind fun x dr => lift m (revD x) dr
  | .xt0, _, dr => fin m (xtD []) dr
  | .dct0 t, _, dr => fin m (dmk t []) dr
  | .lrg xs, env, dr => (evs .bor xs env dr).bind fun ds dr => lift m ((rngD ds).map .list) dr
  | .trg xs, env, dr => (evs .bor xs env dr).bind fun ds dr => lift m ((rngD ds).map .tuple) dr
  | .dc own tg it cs kx vx, env, dr => (evi .bor it env dr).bind fun ds dr =>
    match lcGo (tn1 tg own env (fun env dr => evt cs env dr) (pairE (fun env dr => ev .frz kx env dr) fun env dr => ev .frz vx env dr)) ds dr with
    | some (r, dr) => fin m (.dict (dcP r)) dr
    | none => .stk
  | .dct1 t k v, env, dr => (ev .frz k env dr).bind fun x dr => (ev .frz v env dr).bind fun y dr => lift m (if keyOk t x then some (dmk t [(x, y)]) else none) dr
  | .ixo a b, env, dr => (ev .bor a env dr).bind fun x dr => match x with
    | .list es => (ev .bor b env dr).bind fun y dr => lift m (meD .index (.list es) [y]) dr
    | _ => .stk
  | .dg1 a k, env, dr => (ev .bor a env dr).bind fun x dr => if isDct x then (ev .bor k env dr).bind fun y dr => lift m ((dgetD x y).map fun o => o.getD .none) dr else .stk
  | .dg2 a k v, env, dr => (ev .bor a env dr).bind fun x dr => if isDct x then (ev .bor k env dr).bind fun y dr => (ev .frz v env dr).bind fun z dr => lift m ((dgetD x y).map fun o => o.getD z) dr else .stk
  | .call f xs, env, dr => (evs .frz xs env dr).bind fun ds dr => match F f ds dr with
    | .ok d dr => fin m d dr
    | .err e dr => .err e dr
    | .stk => .stk
  | .lc own tg it cs elt, env, dr => (evi .bor it env dr).bind fun ds dr =>
    match lcGo (tn1 tg own env (fun env dr => evt cs env dr) (fun env dr => ev .frz elt env dr)) ds dr with
    | some (r, dr) => fin m (.list r) dr
    | none => .stk
  | .lc2 own own1 tg it cs tg1 it1 cs1 elt, env, dr => (evi .bor it env dr).bind fun ds dr =>
    match lcGo (tn2 tg own env (fun env dr => evt cs env dr) (fun env dr => evi .frz it1 env dr) fun env => tn1 tg1 own1 env (fun env dr => evt cs1 env dr) (fun env dr => ev .frz elt env dr)) ds dr with
    | some (r, dr) => if okLen r.length then fin m (.list r) dr else .stk
    | none => .stk
def evs (m : Md) : Exs → List Sl → Dr → R (List D)
  | .nil, _, dr => .ok [] dr
  | .cons x xs, env, dr => (ev m x env dr).bind fun d dr => (evs m xs env dr).bind fun ds dr => .ok (d :: ds) dr
/-- tests of a comprehension, none or one -/
def evt : Exs → List Sl → Dr → R D
  | .nil, _, dr => .ok (.bool true) dr
  | .cons x .nil, env, dr => ev .tst x env dr
  | _, _, _ => .stk
def evo : Exo → List Sl → Dr → R (Option Int)
  | .none, _, dr => .ok none dr
  | .some x, env, dr => (ev .bor x env dr).bind fun d dr => match d with
    | .int i => .ok (some i) dr
    | _ => .stk
/-- what is walked -/
def evi (m : Md) : Itx → List Sl → Dr → R (List D)
  | .seq a, env, dr => (ev m a env dr).bind fun x dr => match walkD x with
    | some ds => .ok ds dr
    | none => .stk
  | .rng xs, env, dr => (evs .bor xs env dr).bind fun ds dr => match rngD ds with
    | some r => .ok r dr
    | none => .stk
  | .rlen a, env, dr => (ev .bor a env dr).bind fun x dr => match lenD x with
    | some n => .ok (rngL 0 n) dr
    | none => .stk
  | .zip xs, env, dr => (evs m xs env dr).bind fun ds dr => match zipD ds with
    | some r => .ok r dr
    | none => .stk
  | .enu a, env, dr => (ev m a env dr).bind fun x dr => match seqD x with
    | some ds => .ok (enuL 0 ds) dr
    | none => .stk
  | .zst a, env, dr => (ev m a env dr).bind fun x dr => match zstD x with
    | some ds => .ok ds dr
    | none => .stk
end
end
end Ly

set_option Elab.async false
set_option linter.all false
set_option maxRecDepth 100000
set_option maxHeartbeats 2000000
/-! Ly: statements, defs, runs. -/
namespace Ly
open PySem PySem.Spec PyProof.Rows L2

inductive Fl where
  | nx | bk | ct
  | rt (d : D)
def setE (s : S) (i : Nat) (x : Sl) : S := { s with env := s.env.set i x }
def forGo (turn : D → S → Out Fl) : List D → S → Out Fl
  | [], s => .ok .nx s
  | x :: xs, s => match turn x s with
    | .ok .nx s' => forGo turn xs s'
    | .ok .ct s' => forGo turn xs s'
    | .ok .bk s' => .ok .nx s'
    | .ok (.rt d) s' => .ok (.rt d) s'
    | .err e s' => .err e s'
    | .stk => .stk
def whlGo (c : S → R D) (b : S → Out Fl) : Nat → S → Out Fl
  | 0, _ => .stk
  | n + 1, s => match c s with
    | .ok (.bool true) dr => match b ⟨s.env, dr⟩ with
      | .ok .nx s' => whlGo c b n s'
      | .ok .ct s' => whlGo c b n s'
      | .ok .bk s' => .ok .nx s'
      | .ok (.rt d) s' => .ok (.rt d) s'
      | .err e s' => .err e s'
      | .stk => .stk
    | .ok (.bool false) dr => .ok .nx ⟨s.env, dr⟩
    | .ok _ _ => .stk
    | .err e dr => .err e ⟨s.env, dr⟩
    | .stk => .stk
/-- assigned, frozen or held, from the left -/
def parE : List (Nat × Bool) → List D → List Sl → Option (List Sl)
  | [], [], env => some env
  | (i, b) :: ts, d :: ds, env => parE ts ds (env.set i (if b then .ow d else .fz d))
  | _, _, _ => none
def setD (d k v : D) : Option D :=
  match d, k with
  | .list ds, .int i => (L2.ixN ds.length i).map fun j => .list (ds.set j v)
  | .dict qs, k => dputD (.dict qs) k v
  | _, _ => none
/-- taken out of a list: the last, or at a place -/
def popD (ds : List D) (j : Option Int) : Option (D × List D) :=
  match j with
  | none => ds.getLast?.map fun d => (d, ds.dropLast)
  | some i => if decide (-(2 ^ 63) ≤ i) && decide (i < 2 ^ 63) then (match seqIndex? i ds.length with
    | some k => ds[k]?.map fun d => (d, ds.eraseIdx k)
    | none => none) else none
/-- put into the list at a key -/
def grpPut : List (Int × List D) → Int → D → List (Int × List D)
  | [], k, v => [(k, [v])]
  | p :: r, k, v => if p.1 = k then (p.1, p.2 ++ [v]) :: r else p :: grpPut r k v
def grpGo (a b c : Nat) : List D → List (Int × List D) → List Sl → Option (List (Int × List D) × List Sl)
  | [], acc, env => some (acc, env)
  | .tuple [.int i, t, v] :: ds, acc, env => grpGo a b c ds (grpPut acc i v) (((env.set a (.fz (.int i))).set b (.fz t)).set c (.fz v))
  | _, _, _ => none
def grpT (acc : List (Int × List D)) : D := .dict (acc.map fun p => (.int p.1, .list p.2))
def grpE (x a b c : Nat) (d : D) (env : List Sl) : Option (List Sl) :=
  match d with
  | .tuple ds => if decide (ds.length < 16777216) && decide ([x, a, b, c].Nodup) && decide (a < env.length) && decide (c < env.length) then (grpGo a b c ds [] env).map fun p => p.2.set x (.ow (grpT p.1)) else none
  | _ => none
/-- d.get(k, []) -/
def getL (d k : D) : Option (List D) :=
  match d with
  | .dict ps => match dgetD (.dict ps) k with
    | some none => some []
    | some (some (.list ds)) => some ds
    | _ => none
  | _ => none
def slD : Sl → Option D
  | .fz d => some d
  | .ow d => some d
  | .un => none
def augD (o : Bo) (a : Int) (y : D) : Option Int :=
  match y with
  | .int b => match o with
    | .add => some (a + b)
    | .sub => some (a - b)
    | _ => none
  | _ => none
section
variable (F : Nat → List D → Dr → Oc) (W : Nat)
def R.toO {α β : Type} (r : R α) (env : List Sl) (f : α → S → Out β) : Out β :=
  match r with
  | .ok a dr => f a ⟨env, dr⟩
  | .err e dr => .err e ⟨env, dr⟩
  | .stk => .stk
def Out.bind {α β : Type} : Out α → (α → S → Out β) → Out β
  | .ok a s, f => f a s
  | .err e s, _ => .err e s
  | .stk, _ => .stk
mutual
def ex : St → S → Out Fl
  | .asg tg x, s => (ev F .frz x s.env s.dr).toO s.env fun d s => match tgo tg d s.env with
    | some env => .ok .nx { s with env := env }
    | none => .stk
  | .own i x, s => (ev F .frz x s.env s.dr).toO s.env fun d s => .ok .nx (setE s i (.ow d))
  | .par ts xs, s => (evs F .frz xs s.env s.dr).toO s.env fun ds s => match parE ts ds s.env with
    | some env => .ok .nx { s with env := env }
    | none => .stk
  | .app i x, s => match s.env[i]? with
    | some (.ow (.list ds)) => (ev F .frz x s.env s.dr).toO s.env fun d s => if decide (ds.length < 16777216) then .ok .nx (setE s i (.ow (.list (ds ++ [d])))) else .stk
    | _ => .stk
  | .setI i k x, s => match s.env[i]? with
    | some (.ow o) => (ev F .frz x s.env s.dr).toO s.env fun d s => (ev F .frz k s.env s.dr).toO s.env fun k s => match setD o k d with
      | some o' => .ok .nx (setE s i (.ow o'))
      | none => .stk
    | _ => .stk
  | .frz i, s => match s.env[i]? with
    | some (.ow d) => .ok .nx (setE s i (.fz d))
    | some _ => .ok .nx s
    | none => .stk
  | .augI _ _ _ _, _ => .stk
  | .aug o i x, s => match s.env[i]? with
    | some (.fz (.int a)) => (ev F .bor x s.env s.dr).toO s.env fun y s => match augD o a y with
      | some k => .ok .nx (setE s i (.fz (.int k)))
      | none => .stk
    | _ => .stk
  | .pop tg i k, s => match s.env[i]? with
    | some (.ow (.list ds)) => (evo F k s.env s.dr).toO s.env fun j s => match popD ds j with
      | some (d, r) => match tgo tg d (s.env.set i (.ow (.list r))) with
        | some env => .ok .nx { s with env := env }
        | none => .stk
      | none => .stk
    | _ => .stk
  | .exp x, s => (ev F .bor x s.env s.dr).toO s.env fun _ s => .ok .nx s
  | .ret x, s => (ev F .frz x s.env s.dr).toO s.env fun d s => .ok (.rt d) s
  | .retN, s => .ok (.rt .none) s
  | .ifs c a b, s => (ev F .tst c s.env s.dr).toO s.env fun d s => match d with
    | .bool true => exs a s
    | _ => exs b s
  | .for tg it b, s => (evi F .frz it s.env s.dr).toO s.env fun ds s => forGo (fun x s => match tgo tg x s.env with
      | some env => exs b { s with env := env }
      | none => .stk) ds s
  | .whl c b, s => whlGo (fun s => ev F .tst c s.env s.dr) (fun s => exs b s) W s
  | .grp x a b c e, s => match s.env[x]? with
    | some (.ow (.dict [])) => (ev F .frz e s.env s.dr).toO s.env fun d s => match grpE x a b c d s.env with
      | some env => .ok .nx { s with env := env }
      | none => .stk
    | _ => .stk
  | .fpg tg i j b, s => match s.env[j]?, s.env[i]? with
    | some (.ow (.list ds)), some y => if i = j then .stk else match popD ds none with
      | some (k, r) => match (slD y).bind fun d => getL d k with
        | some xs => forGo (fun x s => match tgo tg x s.env with
          | some env => exs b { s with env := env }
          | none => .stk) xs (setE s j (.ow (.list r)))
        | none => .stk
      | none => .stk
    | _, _ => .stk
  | .rai e, s => .err e s
  | .try b e h, s => match exs b s with
    | .ok f s => .ok f s
    | .err e' s => if e' = e then exs h s else .err e' s
    | .stk => .stk
  | .brk, s => .ok .bk s
  | .cnt, s => .ok .ct s
  | .pas, s => .ok .nx s
def exs : Sts → S → Out Fl
  | .nil, s => .ok .nx s
  | .cons x xs, s => (ex x s).bind fun f s => match f with
    | .nx => exs xs s
    | f => .ok f s
end
end
def Sts.app : Sts → Sts → Sts
  | .nil, ys => ys
  | .cons x xs, ys => .cons x (xs.app ys)
/-- a def: how many parameters, how many slots, its body -/
structure Df where
  ps : Nat
  n : Nat
  body : Sts
def runDf (F : Nat → List D → Dr → Oc) (W : Nat) (d : Df) (args : List D) (dr : Dr) : Oc :=
  if args.length = d.ps then
    match exs F W d.body ⟨args.map .fz ++ List.replicate (d.n - args.length) .un, dr⟩ with
    | .ok (.rt d) s => .ok d s.dr
    | .ok .nx s => .ok .none s.dr
    | .ok _ _ => .stk
    | .err e s => .err e s.dr
    | .stk => .stk
  else .stk
/-- runs of a table of defs, so many calls deep; sp: what the defs outside the table do -/
def run (T : Nat → Option Df) (sp : Nat → List D → Dr → Oc) (W : Nat) : Nat → Nat → List D → Dr → Oc
  | 0, _, _, _ => .stk
  | k + 1, f, args, dr => match T f with
    | some d => runDf (run T sp W k) W d args dr
    | none => sp f args dr
end Ly

set_option Elab.async false
set_option linter.all false
set_option maxRecDepth 100000
set_option maxHeartbeats 2000000
/-! Ly: dicts as data and in the heap. -/
namespace Ly
open PySem PySem.Spec PyProof.Rows L2

theorem keq0_keyD (a b : Key) : keq0 (keyD a) (keyD b) = decide (a = b) := by
  cases a with
  | inl i => cases b with
    | inl j => show decide (i = j) = _; exact decide_eq_decide.mpr ⟨fun h => by rw [h], fun h => by injection h⟩
    | inr y => exact (decide_eq_false (fun h => by cases h)).symm
  | inr x => cases b with
    | inl j => exact (decide_eq_false (fun h => by cases h)).symm
    | inr y => show decide (x = y) = _; exact decide_eq_decide.mpr ⟨fun h => by rw [h], fun h => by injection h⟩
theorem keq_keyD (a b : Key) : keq (keyD a) (keyD b) = decide (a = b) := by
  rw [← keq0_keyD]
  cases a <;> cases b <;> rfl
theorem keqL_keyD : ∀ (a b : List Key), keqL (a.map keyD) (b.map keyD) = decide (a = b)
  | [], [] => rfl
  | [], _ :: _ => (decide_eq_false (fun h => by cases h)).symm
  | _ :: _, [] => (decide_eq_false (fun h => by cases h)).symm
  | x :: xs, y :: ys => by
    show (keq0 (keyD x) (keyD y) && keqL (xs.map keyD) (ys.map keyD)) = _
    rw [keq0_keyD, keqL_keyD xs ys]
    by_cases e : x = y
    · by_cases e2 : xs = ys
      · simp [e, e2]
      · simp [e, e2]
    · simp [e]
def encT (k : List Key) : D := .tuple (k.map keyD)
theorem keq_encT (a b : List Key) : keq (encT a) (encT b) = decide (a = b) := keqL_keyD a b

section
variable {κ : Type} [DecidableEq κ] {enc : κ → D} {K : PySem.W.Frag} {a0 : Addr} {F : Hp}
/-- pairs that stand for pairs -/
def PR (enc : κ → D) (K : PySem.W.Frag) (a0 : Addr) (F : Hp) (kvs : List (κ × V)) (ps : List (D × D)) : Prop := ps.map (·.1) = kvs.map (fun p => enc p.1) ∧ RepL K a0 F (kvs.map (·.2)) (ps.map (·.2))
theorem PR.nil : PR enc K a0 F [] [] := ⟨rfl, .nil⟩
theorem PR.cons {k : κ} {v : V} {d : D} {kvs : List (κ × V)} {ps : List (D × D)} (h : Rep K a0 F v d) (r : PR enc K a0 F kvs ps) : PR enc K a0 F ((k, v) :: kvs) ((enc k, d) :: ps) := ⟨by rw [List.map_cons, List.map_cons, r.1], .cons h r.2⟩
theorem PR.inv {kvs : List (κ × V)} {p : D × D} {ps : List (D × D)} (h : PR enc K a0 F kvs (p :: ps)) : ∃ k v kvs' d, kvs = (k, v) :: kvs' ∧ p = (enc k, d) ∧ Rep K a0 F v d ∧ PR enc K a0 F kvs' ps := by
  cases kvs with
  | nil => cases h.1
  | cons q t =>
    obtain ⟨k, v⟩ := q
    obtain ⟨pk, pv⟩ := p
    have e := h.1
    rw [List.map_cons, List.map_cons] at e
    have r := h.2
    rw [List.map_cons, List.map_cons] at r
    cases r with
    | cons r1 r2 => exact ⟨k, v, t, pv, rfl, congrArg (fun z => (z, pv)) (List.cons.inj e).1, r1, (List.cons.inj e).2, r2⟩
theorem PR.length {kvs : List (κ × V)} {ps : List (D × D)} (h : PR enc K a0 F kvs ps) : kvs.length = ps.length := by
  have := congrArg List.length h.1
  simpa using this.symm
theorem PR.mono {F' : Hp} (s : Same F F') {kvs : List (κ × V)} {ps : List (D × D)} (h : PR enc K a0 F kvs ps) : PR enc K a0 F' kvs ps := ⟨h.1, RepL.mono s h.2⟩
def OR (K : PySem.W.Frag) (a0 : Addr) (F : Hp) (v : Option V) (d : Option D) : Prop := (v = none ∧ d = none) ∨ ∃ x y, v = some x ∧ d = some y ∧ Rep K a0 F x y
theorem OR.some_eq {v : Option V} {d : Option D} (h : OR K a0 F v d) : v.isSome = d.isSome := by
  rcases h with ⟨rfl, rfl⟩ | ⟨x, y, rfl, rfl, _⟩ <;> rfl
theorem lookD_cons {p : D × D} {ps : List (D × D)} {k : D} : lookD (p :: ps) k = if keq p.1 k then some p.2 else lookD ps k := by
  unfold lookD
  rw [List.find?_cons]
  split <;> rename_i h <;> simp [h]
theorem PR.look (he : ∀ a b, keq (enc a) (enc b) = decide (a = b)) (k : κ) : ∀ {kvs : List (κ × V)} {ps : List (D × D)}, PR enc K a0 F kvs ps → OR K a0 F (valV kvs k) (lookD ps (enc k))
  | kvs, [], h => by
    have := h.length
    cases kvs with
    | nil => exact .inl ⟨rfl, rfl⟩
    | cons => cases this
  | kvs, p :: ps, h => by
    obtain ⟨j, v, kvs', d, rfl, rfl, r, h'⟩ := h.inv
    rw [lookD_cons, he]
    by_cases e : j = k
    · rw [valV_pos (p := (j, v)) e, if_pos (decide_eq_true e)]
      exact .inr ⟨v, d, rfl, rfl, r⟩
    · rw [valV_neg (p := (j, v)) e, if_neg (by simp [e])]
      exact PR.look he k h'
theorem PR.any (he : ∀ a b, keq (enc a) (enc b) = decide (a = b)) (k : κ) : ∀ {kvs : List (κ × V)} {ps : List (D × D)}, PR enc K a0 F kvs ps → (ps.any fun p => keq p.1 (enc k)) = kvs.any fun kv => decide (kv.1 = k)
  | kvs, [], h => by
    have := h.length
    cases kvs with
    | nil => rfl
    | cons => cases this
  | kvs, p :: ps, h => by
    obtain ⟨j, v, kvs', d, rfl, rfl, r, h'⟩ := h.inv
    rw [List.any_cons, List.any_cons, he, PR.any he k h']
theorem PR.repl (he : ∀ a b, keq (enc a) (enc b) = decide (a = b)) (k : κ) {v : V} {d : D} (r : Rep K a0 F v d) : ∀ {kvs : List (κ × V)} {ps : List (D × D)}, PR enc K a0 F kvs ps → PR enc K a0 F (kvs.map fun kv => if kv.1 = k then (kv.1, v) else kv) (ps.map fun p => if keq p.1 (enc k) then (p.1, d) else p)
  | kvs, [], h => by
    have := h.length
    cases kvs with
    | nil => exact .nil
    | cons => cases this
  | kvs, p :: ps, h => by
    obtain ⟨j, v', kvs', d', rfl, rfl, r', h'⟩ := h.inv
    rw [List.map_cons, List.map_cons]
    simp only [he]
    by_cases e : j = k
    · rw [if_pos e, if_pos (decide_eq_true e)]
      exact PR.cons r (PR.repl he k r h')
    · rw [if_neg e, if_neg (by simp [e])]
      exact PR.cons r' (PR.repl he k r h')
theorem PR.put (he : ∀ a b, keq (enc a) (enc b) = decide (a = b)) (k : κ) {v : V} {d : D} (r : Rep K a0 F v d) {kvs : List (κ × V)} {ps : List (D × D)} (h : PR enc K a0 F kvs ps) : PR enc K a0 F (putK kvs k v) (putD ps (enc k) d) := by
  unfold putK putD
  rw [h.any he k]
  split
  · exact h.repl he k r
  · refine ⟨?_, ?_⟩
    · rw [List.map_append, List.map_append, h.1]; rfl
    · rw [List.map_append, List.map_append]; exact h.2.append (.one r)
end

section
variable {K : PySem.W.Frag} {c : Cc} {W : Addr → Prop} {H : Hp}
/-- an object that is a dict of a kind -/
def DcO (K : PySem.W.Frag) (a0 : Addr) (F : Hp) (o : HO) (t : Bool) (ps : List (D × D)) : Prop :=
  (t = false ∧ ∃ kvs, o = .dK kvs ∧ PR keyD K a0 F kvs ps) ∨ (t = true ∧ ∃ kvs, o = .dT kvs ∧ PR encT K a0 F kvs ps)
theorem DcO.cont {a0 : Addr} {F : Hp} {o : HO} {t : Bool} {ps : List (D × D)} (h : DcO K a0 F o t ps) : Cont K a0 F o (dmk t ps) := by
  rcases h with ⟨rfl, kvs, rfl, h⟩ | ⟨rfl, kvs, rfl, h⟩
  · exact .dK h.1 h.2
  · exact .dT h.1 h.2
theorem DcO.of {a0 : Addr} {F : Hp} {o : HO} {t : Bool} {qs ps : List (D × D)} (h : Cont K a0 F o (.dict qs)) (e : dsD qs = some (t, ps)) : DcO K a0 F o t ps ∧ .dict qs = dmk t ps := by
  cases h with
  | @dK kvs _ h1 h2 =>
    cases qs with
    | nil => cases e; exact ⟨.inl ⟨rfl, kvs, rfl, h1, h2⟩, rfl⟩
    | cons p qs =>
      obtain ⟨k, v, kvs', d, rfl, rfl, r, h'⟩ := PR.inv (enc := keyD) ⟨h1, h2⟩
      cases k with
      | inl i => cases e; exact ⟨.inl ⟨rfl, _, rfl, h1, h2⟩, rfl⟩
      | inr i => cases e; exact ⟨.inl ⟨rfl, _, rfl, h1, h2⟩, rfl⟩
  | @dT kvs ps' h1 h2 =>
    cases e
    exact ⟨.inr ⟨rfl, kvs, rfl, h1, h2⟩, rfl⟩
theorem DcO.mono {a0 : Addr} {F F' : Hp} {o : HO} {t : Bool} {ps : List (D × D)} (s : Same F F') (h : DcO K a0 F o t ps) : DcO K a0 F' o t ps := by
  rcases h with ⟨rfl, kvs, rfl, h⟩ | ⟨rfl, kvs, rfl, h⟩
  · exact .inl ⟨rfl, kvs, rfl, h.mono s⟩
  · exact .inr ⟨rfl, kvs, rfl, h.mono s⟩
theorem Rep.dict {a0 : Addr} {F : Hp} {v : V} {qs : List (D × D)} {t : Bool} {ps : List (D × D)} (h : Rep K a0 F v (.dict qs)) (e : dsD qs = some (t, ps)) : ∃ a o, v = .ref a ∧ F a = some o ∧ DcO K a0 F o t ps := by
  cases h with
  | mu q r => exact ⟨_, _, rfl, q, (DcO.of r e).1⟩
  | drw => cases e
  | xt => cases e
theorem RepB.dict {v : V} {qs : List (D × D)} {t : Bool} {ps : List (D × D)} (h : RepB K c W H v (.dict qs)) (e : dsD qs = some (t, ps)) : ∃ a o, v = .ref a ∧ H a = some o ∧ DcO K c.a0 (hid W H) o t ps := by
  rcases h with h | ⟨a, o, ea, _, _, ha, hc⟩
  · obtain ⟨a, o, e1, e2, e3⟩ := h.dict e
    exact ⟨a, o, e1, hid_same _ _ e2, e3⟩
  · cases ea
    exact ⟨a, o, rfl, ha, (DcO.of hc e).1⟩
/-- keys -/
theorem key0_of {F : Hp} {a0 : Addr} : ∀ {ds : List D} {xs : List V}, RepL K a0 F xs ds → ds.all isKey0 = true → ∃ ks : List Key, ds = ks.map keyD ∧ xs = ks.map kV
  | [], _, r, _ => by cases r; exact ⟨[], rfl, rfl⟩
  | d :: ds, _, r, h => by
    rw [List.all_cons, Bool.and_eq_true] at h
    cases r with
    | cons r1 r2 =>
      obtain ⟨ks, rfl, rfl⟩ := key0_of r2 h.2
      cases d with
      | int i =>
        cases r1 with
        | int => exact ⟨.inl i :: ks, rfl, rfl⟩
        | mu _ q => cases q
      | str i =>
        cases r1 with
        | str => exact ⟨.inr i :: ks, rfl, rfl⟩
        | mu _ q => cases q
      | _ => cases h.1
theorem RepB.key {y : V} {k : D} {t : Bool} (r : RepB K c W H y k) (h : keyOk t k = true) : (t = false ∧ ∃ x, k = keyD x ∧ y = kV x) ∨ (t = true ∧ ∃ b x, k = encT x ∧ y = .ref b ∧ H b = some (.tup (x.map kV))) := by
  cases t with
  | false =>
    refine .inl ⟨rfl, ?_⟩
    cases k with
    | int i => cases r.int; exact ⟨.inl i, rfl, rfl⟩
    | str i => cases r.str; exact ⟨.inr i, rfl, rfl⟩
    | _ => cases h
  | true =>
    refine .inr ⟨rfl, ?_⟩
    cases k with
    | tuple ds =>
      obtain ⟨a, xs, rfl, ha, ra⟩ := r.tup
      obtain ⟨ks, rfl, rfl⟩ := key0_of ra h
      exact ⟨a, ks, rfl, rfl, ha⟩
    | _ => cases h
theorem dget_ok {x y : V} {d k : D} {o : Option D} (rx : RepB K c W H x d) (ry : RepB K c W H y k) (h : dgetD d k = some o) : ∃ a ov, x = .ref a ∧ IsD H a ∧ DGet H a y ov ∧ OR K c.a0 (hid W H) ov o := by
  unfold dgetD at h
  split at h
  · rename_i qs
    split at h
    · rename_i t ps e
      split at h
      · rename_i hk
        cases h
        obtain ⟨a, o, rfl, ha, hd⟩ := rx.dict e
        rcases ry.key hk with ⟨rfl, z, rfl, rfl⟩ | ⟨rfl, b, z, rfl, rfl, hb⟩
        · rcases hd with ⟨_, kvs, rfl, hp⟩ | ⟨h, _⟩
          · exact ⟨a, _, rfl, .inl ⟨kvs, .inl ha⟩, DGet.k ha, hp.look keq_keyD z⟩
          · cases h
        · rcases hd with ⟨h, _⟩ | ⟨_, kvs, rfl, hp⟩
          · cases h
          · exact ⟨a, _, rfl, .inr ⟨kvs, .inl ha⟩, DGet.t ha hb, hp.look keq_encT z⟩
      · cases h
    · cases h
  · cases h
theorem RepB.isD {x : V} {d : D} (r : RepB K c W H x d) (h : isDct d = true) : ∃ a, x = .ref a ∧ IsD H a := by
  cases d with
  | dict qs =>
    obtain ⟨⟨t, ps⟩, e⟩ := Option.isSome_iff_exists.mp (show (dsD qs).isSome = true from h)
    obtain ⟨a, o, rfl, ha, hd⟩ := r.dict e
    rcases hd with ⟨_, kvs, rfl, _⟩ | ⟨_, kvs, rfl, _⟩
    · exact ⟨a, rfl, .inl ⟨kvs, .inl ha⟩⟩
    · exact ⟨a, rfl, .inr ⟨kvs, .inl ha⟩⟩
  | _ => cases h
theorem dput_ok {a : Addr} {o : HO} {y v : V} {d k e d' : D} {F : Hp} (ha : H a = some o) (hc : Cont K c.a0 F o d) (ry : RepB K c W H y k) (rv : Rep K c.a0 F v e) (h : dputD d k e = some d') : ∃ o', DPut H a y v (upd H a o') ∧ Cont K c.a0 F o' d' := by
  unfold dputD at h
  split at h
  · rename_i qs
    split at h
    · rename_i t ps e1
      split at h
      · rename_i hk
        rw [Bool.and_eq_true] at hk
        cases h
        have hd := (DcO.of hc e1).1
        have hl : ps.length < sizeLine := by rw [sizeLine_eq]; exact of_decide_eq_true hk.2
        rcases ry.key hk.1 with ⟨rfl, z, rfl, rfl⟩ | ⟨rfl, b, z, rfl, rfl, hb⟩
        · rcases hd with ⟨_, kvs, rfl, hp⟩ | ⟨h, _⟩
          · exact ⟨_, DPut.k ha (by rw [hp.length]; exact hl), (DcO.cont (.inl ⟨rfl, _, rfl, hp.put keq_keyD z rv⟩))⟩
          · cases h
        · rcases hd with ⟨h, _⟩ | ⟨_, kvs, rfl, hp⟩
          · cases h
          · exact ⟨_, DPut.t ha hb (by rw [hp.length]; exact hl), (DcO.cont (.inr ⟨rfl, _, rfl, hp.put keq_encT z rv⟩))⟩
      · cases h
    · cases h
  · cases h
end
end Ly

set_option Elab.async false
set_option linter.all false
set_option maxRecDepth 100000
set_option maxHeartbeats 2000000
/-! Ly: the operators do what the hand layer's do. -/
namespace Ly
open PySem PySem.Spec PyProof.Rows L2

theorem szl : sizeLine = 16777216 := sizeLine_eq
theorem okLen_of {n : Nat} (h : okLen n = true) : n ≤ sizeLine := by
  rw [szl]; exact of_decide_eq_true h

section
variable {X : Cx} {K : PySem.W.Frag} {c : Cc} {W : Addr → Prop} {H H' : Hp}

/-- a result: what stands, or a new tuple, list, dict -/
inductive New (K : PySem.W.Frag) (c : Cc) (W : Addr → Prop) (H : Hp) : Hp → V → D → Prop
  | old {v : V} {d : D} : Rep K c.a0 (hid W H) v d → New K c W H H v d
  | tup {p : Addr} {xs : List V} {ds : List D} : H p = none → RepL K c.a0 (hid W H) xs ds → New K c W H (upd H p (.tup xs)) (.ref p) (.tuple ds)
  | xt {p : Addr} {o : Obj} {xs : List V} {ds : List D} : H p = none → o.cls = .type "tuple" → o.dict = none → RepL K c.a0 (hid W H) xs ds → New K c W H (upd H p (.frz o (.tup xs))) (.ref p) (xtD ds)
  | mu {p : Addr} {o : HO} {d : D} : H p = none → Cont K c.a0 (hid W H) o d → New K c W H (upd H p o) (.ref p) d
theorem same_upd {p : Addr} {o : HO} (h : H p = none) : Same H (upd H p o) := fun b x e => by
  rw [upd_ne (ne_of_none e h)]; exact e
theorem New.same {v : V} {d : D} : New K c W H H' v d → Same H H'
  | .old _ => Same.refl _
  | .tup h _ => same_upd h
  | .xt h _ _ _ => same_upd h
  | .mu h _ => same_upd h
theorem hid_up {p : Addr} {o : HO} (h : H p = none) : Same (hid W H) (hid W (upd H p o)) := hid_mono (fun _ h => h) fun b x _ e => same_upd h b x e
theorem New.rep (dm : ∀ b, W b → H b ≠ none) {v : V} {d : D} : New K c W H H' v d → Rep K c.a0 (hid W H') v d
  | .old r => r
  | .tup h r => .tup (hid_some (fun w => dm _ w h) upd_same) (RepL.mono (hid_up h) r)
  | .xt h c d r => .xt (hid_some (fun w => dm _ w h) upd_same) c d (RepL.mono (hid_up h) r)
  | .mu h r => .mu (hid_some (fun w => dm _ w h) upd_same) (Cont.mono (hid_up h) r)
theorem New.gr (h0 : H c.a0 ≠ none) {v : V} {d : D} (n : New K c W H H' v d) : GrE c H H' := GrE.same h0 n.same
theorem DrOk.same {dr : Dr} {a0 : Addr} (s : Same H H') (h : DrOk H a0 W dr) : DrOk H' a0 W dr := by
  obtain ⟨a, e, e'⟩ := h
  exact ⟨a, s _ _ e, hid_mono (fun _ h => h) (fun b x _ e => s b x e) _ _ e'⟩

/-! ### two operands -/
def rOp (K : PySem.W.Frag) (c : Cc) (f : D → D → Option D) : R2 := fun x y H Q => ∃ W d1 d2 d, W c.a0 ∧ RepB K c W H x d1 ∧ RepB K c W H y d2 ∧ f d1 d2 = some d ∧ ∀ v H', New K c W H H' v d → Q v H'
theorem op_addD : OpR X (binaryOp .Add) (rOp X.K c addD) := by
  intro pins s σ H x y v u Q I rx ry h
  obtain ⟨W, d1, d2, d, wa, r1, r2, hf, q⟩ := h
  unfold addD at hf
  split at hf
  · cases hf
    cases r1.int; cases r2.int
    exact op_add pins s σ H _ _ v u Q I rx ry ⟨_, _, rfl, rfl, q _ _ (.old (.int _))⟩
  · split at hf
    · rename_i xs ys hl
      cases hf
      obtain ⟨a, vs, rfl, ha, ra⟩ := r1.tup
      obtain ⟨b, ws, rfl, hb, rb⟩ := r2.tup
      have e1 := ra.length
      have e2 := rb.length
      refine op_catA pins s σ H _ _ v u Q I rx ry ⟨a, b, vs, ws, rfl, rfl, .inl (.inl ha), .inl (.inl hb), by rw [e1, e2]; exact okLen_of hl, fun z => ?_, fun _ z => ?_, fun _ _ p hp => q _ _ (.tup hp (ra.append rb))⟩
      · subst z
        cases ra
        rcases r2 with r2 | ⟨_, _, _, _, _, _, z⟩
        · exact q _ _ (.old r2)
        · cases z
      · subst z
        cases rb
        rcases r1 with r1 | ⟨_, _, _, _, _, _, z⟩
        · exact q _ _ (.old (by simpa using r1))
        · cases z
    · cases hf
  · split at hf
    · rename_i xs ys hl
      cases hf
      obtain ⟨a, vs, rfl, na, ha, ra⟩ := r1.lst wa
      obtain ⟨b, ws, rfl, nb, hb, rb⟩ := r2.lst wa
      have e1 := ra.length
      have e2 := rb.length
      exact op_cat pins s σ H _ _ v u Q I rx ry ⟨a, b, vs, ws, rfl, rfl, ha, hb, by rw [e1, e2]; exact okLen_of hl, fun p hp => q _ _ (.mu hp (.lst (ra.append rb)))⟩
    · cases hf
  · split at hf
    · rename_i x y hl
      cases hf
      cases r1.str; cases r2.str
      exact op_add_str pins s σ H _ _ v u Q I rx ry ⟨_, _, rfl, rfl, okLen_of hl, q _ _ (.old (.str _))⟩
    · cases hf
  · cases hf
theorem op_subD : OpR X (binaryOp .Sub) (rOp X.K c subD) := by
  intro pins s σ H x y v u Q I rx ry h
  obtain ⟨W, d1, d2, d, wa, r1, r2, hf, q⟩ := h
  unfold subD at hf
  split at hf
  · cases hf
    cases r1.int; cases r2.int
    exact op_sub pins s σ H _ _ v u Q I rx ry ⟨_, _, rfl, rfl, q _ _ (.old (.int _))⟩
  · cases hf
theorem mulOk_of {i j : Int} (h : mulOk i j = true) : CMul i j := by
  unfold mulOk at h
  simp only [Bool.or_eq_true, Bool.and_eq_true, decide_eq_true_eq] at h
  exact h
theorem op_mulD : OpR X (binaryOp .Mult) (rOp X.K c mulD) := by
  intro pins s σ H x y v u Q I rx ry h
  obtain ⟨W, d1, d2, d, wa, r1, r2, hf, q⟩ := h
  unfold mulD at hf
  split at hf
  · split at hf
    · rename_i hm
      cases hf
      cases r1.int; cases r2.int
      exact op_mul pins s σ H _ _ v u Q I rx ry ⟨_, _, rfl, rfl, mulOk_of hm, q _ _ (.old (.int _))⟩
    · cases hf
  · split at hf
    · rename_i xs k hm
      cases hf
      simp only [Bool.and_eq_true, decide_eq_true_eq] at hm
      obtain ⟨⟨h1, h2⟩, h3⟩ := hm
      obtain ⟨a, vs, rfl, na, ha, ra⟩ := r1.lst wa
      cases r2.int
      exact op_rep pins s σ H _ _ v u Q I rx ry ⟨a, k, vs, rfl, rfl, ha, h1, h2, by rw [ra.length]; exact okLen_of h3, fun p hp => q _ _ (.mu hp (.lst (ra.rep _)))⟩
    · cases hf
  · cases hf
theorem op_fdivD : OpR X (binaryOp .FloorDiv) (rOp X.K c fdivD) := by
  intro pins s σ H x y v u Q I rx ry h
  obtain ⟨W, d1, d2, d, wa, r1, r2, hf, q⟩ := h
  unfold fdivD at hf
  split at hf
  · split at hf
    · rename_i hm
      cases hf
      cases r1.int; cases r2.int
      simp only [Bool.and_eq_true, decide_eq_true_eq] at hm
      exact op_fdivN pins s σ H _ _ v u Q I rx ry ⟨_, _, rfl, rfl, hm, q _ _ (.old (.int _))⟩
    · cases hf
  · cases hf
theorem op_modD : OpR X (binaryOp .Mod) (rOp X.K c modD) := by
  intro pins s σ H x y v u Q I rx ry h
  obtain ⟨W, d1, d2, d, wa, r1, r2, hf, q⟩ := h
  unfold modD at hf
  split at hf
  · split at hf
    · rename_i hm
      cases hf
      cases r1.int; cases r2.int
      exact op_modN pins s σ H _ _ v u Q I rx ry ⟨_, _, rfl, rfl, of_decide_eq_true hm, q _ _ (.old (.int _))⟩
    · cases hf
  · cases hf
def bOp : Bo → Operator
  | .add => .Add
  | .sub => .Sub
  | .mul => .Mult
  | .fdiv => .FloorDiv
  | .mod => .Mod
theorem op_binD (o : Bo) : OpR X (binaryOp (bOp o)) (rOp X.K c (binD o)) := by
  cases o with
  | add => exact op_addD
  | sub => exact op_subD
  | mul => exact op_mulD
  | fdiv => exact op_fdivD
  | mod => exact op_modD
def rUn1 (K : PySem.W.Frag) (c : Cc) (f : D → Option D) : V → Hp → VK → Prop := fun x H Q => ∃ W d1 d, W c.a0 ∧ RepB K c W H x d1 ∧ f d1 = some d ∧ ∀ v H', New K c W H H' v d → Q v H'
theorem un_negD : UnR X (unaryOp .USub) (rUn1 X.K c negD) := by
  intro pins s σ H x v Q I rx h
  obtain ⟨W, d1, d, wa, r1, hf, q⟩ := h
  unfold negD at hf
  split at hf
  · cases hf
    cases r1.int
    exact un_neg pins s σ H _ v Q I rx ⟨_, rfl, q _ _ (.old (.int _))⟩
  · cases hf

/-! ### comparisons -/
theorem RepB.dp (wa : W c.a0) {v : V} {d : D} (h : RepB K c W H v d) (cl : d.plain = true) : Dp K H v d := by
  rcases h with h | ⟨a, o, e, _, _, ha, hc⟩
  · exact Rep.dp hid_same d h cl
  · cases e
    cases hc with
    | lst r => exact .lst (.inl (.inl ha)) (RepL.dp hid_same _ r (by simpa [PyData.plain] using cl))
    | dK => simp [PyData.plain] at cl
    | dT => simp [PyData.plain] at cl
def rCmp (K : PySem.W.Frag) (c : Cc) (f : D → D → Option Bool) : R2 := fun x y H Q => ∃ W d1 d2 b, W c.a0 ∧ RepB K c W H x d1 ∧ RepB K c W H y d2 ∧ f d1 d2 = some b ∧ Q (.bl b) H
theorem shp_pl {d : D} (h : shp d = true) : d.plain = true := by
  unfold shp at h
  rw [Bool.and_eq_true] at h
  exact h.1
theorem shp_depth {d : D} (h : shp d = true) : d.depth ≤ 64 := by
  unfold shp at h
  rw [Bool.and_eq_true] at h
  exact of_decide_eq_true h.2
theorem op_eqDD (hu : X.A.units + 64 < cLine) : OpR X (compareOp .Eq) (rCmp X.K c eqD) := by
  intro pins s σ H x y v u Q I rx ry h
  obtain ⟨W, d1, d2, d, wa, r1, r2, hf, q⟩ := h
  unfold eqD at hf
  split at hf
  · rename_i hs
    cases hf
    rw [Bool.and_eq_true] at hs
    obtain ⟨as, q1⟩ := Dp.reads I _ x v (r1.dp wa (shp_pl hs.1)) rx
    obtain ⟨bs, q2⟩ := Dp.reads I _ y u (r2.dp wa (shp_pl hs.2)) ry
    have := shp_depth hs.1
    exact SeqAt.eq_plain q1 q2 (shp_pl hs.1) (shp_pl hs.2) (by omega) ⟨.bl _, H, I, rfl, q⟩
  · cases hf
theorem op_neDD (hu : X.A.units + 64 < cLine) : OpR X (compareOp .NotEq) (rCmp X.K c fun x y => (eqD x y).map (!·)) := by
  intro pins s σ H x y v u Q I rx ry h
  obtain ⟨W, d1, d2, d, wa, r1, r2, hf, q⟩ := h
  obtain ⟨b, hb, rfl⟩ := Option.map_eq_some_iff.mp hf
  unfold eqD at hb
  split at hb
  · rename_i hs
    cases hb
    rw [Bool.and_eq_true] at hs
    obtain ⟨as, q1⟩ := Dp.reads I _ x v (r1.dp wa (shp_pl hs.1)) rx
    obtain ⟨bs, q2⟩ := Dp.reads I _ y u (r2.dp wa (shp_pl hs.2)) ry
    have := shp_depth hs.1
    exact SeqAt.ne_plain q1 q2 (shp_pl hs.1) (shp_pl hs.2) (by omega) ⟨.bl _, H, I, rfl, q⟩
  · cases hb
theorem isNon_ne {d : D} (h : (!isNon d) = true) : d ≠ .none := by
  rintro rfl
  cases h
theorem op_ltDD (hu : X.A.units + 64 < cLine) : OpR X (compareOp .Lt) (rCmp X.K c ltD) := by
  intro pins s σ H x y v u Q I rx ry h
  obtain ⟨W, d1, d2, d, wa, r1, r2, hf, q⟩ := h
  unfold ltD at hf
  split at hf
  · cases hf
    cases r1.int; cases r2.int
    exact op_lt pins s σ H _ _ v u Q I rx ry ⟨_, _, rfl, rfl, q⟩
  · split at hf
    · rename_i hs
      cases hf
      simp only [Bool.and_eq_true] at hs
      obtain ⟨⟨⟨s1, s2⟩, al⟩, nn⟩ := hs
      obtain ⟨as, q1⟩ := Dp.reads I _ x v (r1.dp wa (shp_pl s1)) rx
      obtain ⟨bs, q2⟩ := Dp.reads I _ y u (r2.dp wa (shp_pl s2)) ry
      have := shp_depth s1
      exact PySem.W.lt_data q1 q2 al (isNon_ne nn) (by omega) ⟨.bl _, H, I, rfl, q⟩
    · cases hf
theorem op_leDD (hu : X.A.units + 64 < cLine) : OpR X (compareOp .LtE) (rCmp X.K c leD) := by
  intro pins s σ H x y v u Q I rx ry h
  obtain ⟨W, d1, d2, d, wa, r1, r2, hf, q⟩ := h
  unfold leD at hf
  split at hf
  · cases hf
    cases r1.int; cases r2.int
    exact op_le pins s σ H _ _ v u Q I rx ry ⟨_, _, rfl, rfl, q⟩
  · split at hf
    · rename_i hs
      cases hf
      simp only [Bool.and_eq_true] at hs
      obtain ⟨⟨⟨s1, s2⟩, al⟩, nn⟩ := hs
      obtain ⟨as, q1⟩ := Dp.reads I _ x v (r1.dp wa (shp_pl s1)) rx
      obtain ⟨bs, q2⟩ := Dp.reads I _ y u (r2.dp wa (shp_pl s2)) ry
      have := shp_depth s1
      exact PySem.W.le_data q1 q2 al (isNon_ne nn) (by omega) ⟨.bl _, H, I, rfl, q⟩
    · cases hf
theorem isNon_alike {x y : D} (h : PySem.W.alike x y = true) (n : (!isNon x) = true) : y ≠ .none := by
  rintro rfl
  cases x <;> simp [PySem.W.alike, isNon] at h n
theorem op_gtDD (hu : X.A.units + 64 < cLine) : OpR X (compareOp .Gt) (rCmp X.K c fun x y => ltD y x) := by
  intro pins s σ H x y v u Q I rx ry h
  obtain ⟨W, d1, d2, d, wa, r1, r2, hf, q⟩ := h
  unfold ltD at hf
  dsimp only at hf
  split at hf
  · cases hf
    cases r1.int; cases r2.int
    exact op_gt pins s σ H _ _ v u Q I rx ry ⟨_, _, rfl, rfl, q⟩
  · split at hf
    · rename_i hs
      cases hf
      simp only [Bool.and_eq_true] at hs
      obtain ⟨⟨⟨s1, s2⟩, al⟩, nn⟩ := hs
      obtain ⟨as, q1⟩ := Dp.reads I _ x v (r1.dp wa (shp_pl s2)) rx
      obtain ⟨bs, q2⟩ := Dp.reads I _ y u (r2.dp wa (shp_pl s1)) ry
      have := shp_depth s1
      exact PySem.W.gt_data q1 q2 (by rw [PySem.W.alike_comm]; exact al) (isNon_alike al nn) (by omega) ⟨.bl _, H, I, rfl, q⟩
    · cases hf
theorem op_geDD (hu : X.A.units + 64 < cLine) : OpR X (compareOp .GtE) (rCmp X.K c fun x y => leD y x) := by
  intro pins s σ H x y v u Q I rx ry h
  obtain ⟨W, d1, d2, d, wa, r1, r2, hf, q⟩ := h
  unfold leD at hf
  dsimp only at hf
  split at hf
  · cases hf
    cases r1.int; cases r2.int
    exact op_ge pins s σ H _ _ v u Q I rx ry ⟨_, _, rfl, rfl, q⟩
  · split at hf
    · rename_i hs
      cases hf
      simp only [Bool.and_eq_true] at hs
      obtain ⟨⟨⟨s1, s2⟩, al⟩, nn⟩ := hs
      obtain ⟨as, q1⟩ := Dp.reads I _ x v (r1.dp wa (shp_pl s2)) rx
      obtain ⟨bs, q2⟩ := Dp.reads I _ y u (r2.dp wa (shp_pl s1)) ry
      have := shp_depth s1
      exact PySem.W.ge_data q1 q2 (by rw [PySem.W.alike_comm]; exact al) (isNon_alike al nn) (by omega) ⟨.bl _, H, I, rfl, q⟩
    · cases hf
theorem non_iff {v : V} {d : D} (h : RepB K c W H v d) : decide (v = .non) = isNon d := by
  rcases h with h | ⟨a, o, e, _, _, _, hc⟩
  · cases h with
    | non => rfl
    | mu _ q => cases q <;> simp [isNon]
    | _ => simp [isNon]
  · cases e; cases hc <;> simp [isNon]
theorem of_non {v : V} {d : D} (h : RepB K c W H v d) (n : isNon d = true) : v = .non := by
  rw [← non_iff h] at n
  exact of_decide_eq_true n
theorem op_isDD : OpR X (compareOp .Is) (rCmp X.K c fun x y => if isNon y then some (isNon x) else none) := by
  intro pins s σ H x y v u Q I rx ry h
  obtain ⟨W, d1, d2, d, wa, r1, r2, hf, q⟩ := h
  dsimp only at hf
  split at hf
  · rename_i hn
    cases hf
    rw [← non_iff r1] at q
    exact op_isN pins s σ H _ _ v u Q I rx ry ⟨of_non r2 hn, q⟩
  · cases hf
theorem op_isnotDD : OpR X (compareOp .IsNot) (rCmp X.K c fun x y => if isNon y then some (!isNon x) else none) := by
  intro pins s σ H x y v u Q I rx ry h
  obtain ⟨W, d1, d2, d, wa, r1, r2, hf, q⟩ := h
  dsimp only at hf
  split at hf
  · rename_i hn
    cases hf
    rw [← non_iff r1] at q
    exact op_notN pins s σ H _ _ v u Q I rx ry ⟨of_non r2 hn, q⟩
  · cases hf
theorem op_inDD (hu : X.A.units + 65 < cLine) : OpR X (compareOp .In) (rCmp X.K c inD) := by
  intro pins s σ H x y v u Q I rx ry h
  obtain ⟨W, d1, d2, d, wa, r1, r2, hf, q⟩ := h
  obtain ⟨b, hb, rfl⟩ : ∃ b, inD d1 d2 = some b ∧ d = b := ⟨d, hf, rfl⟩
  unfold inD at hb
  split at hb
  · split at hb
    · rename_i ds hs
      cases hb
      rw [Bool.and_eq_true] at hs
      obtain ⟨as, q1⟩ := Dp.reads I _ x v (r1.dp wa (shp_pl hs.1)) rx
      obtain ⟨bs, q2⟩ := Dp.reads I _ y u (r2.dp wa (shp_pl hs.2)) ry
      have h1 := shp_depth hs.1
      have h2 : PyData.plainAll ds = true := by
        have := shp_pl hs.2
        simpa [PyData.plain] using this
      have h3 : min (PyData.depthAll ds) d1.depth ≤ d1.depth := Nat.min_le_right _ _
      exact SeqAt.in_list_data q2 q1 h2 (shp_pl hs.1) (by omega) ⟨.bl _, H, I, rfl, q⟩
    · cases hb
  · split at hb
    · rename_i ds hs
      cases hb
      rw [Bool.and_eq_true] at hs
      obtain ⟨as, q1⟩ := Dp.reads I _ x v (r1.dp wa (shp_pl hs.1)) rx
      obtain ⟨bs, q2⟩ := Dp.reads I _ y u (r2.dp wa (shp_pl hs.2)) ry
      have h1 := shp_depth hs.1
      have h2 : PyData.plainAll ds = true := by
        have := shp_pl hs.2
        simpa [PyData.plain] using this
      have h3 : min (PyData.depthAll ds) d1.depth ≤ d1.depth := Nat.min_le_right _ _
      exact SeqAt.in_tuple_data q2 q1 h2 (shp_pl hs.1) (by omega) ⟨.bl _, H, I, rfl, q⟩
    · cases hb
  · obtain ⟨o, ho, rfl⟩ := Option.map_eq_some_iff.mp hb
    obtain ⟨a, ov, rfl, _, g, r⟩ := dget_ok r2 r1 ho
    cases ry
    rw [← r.some_eq] at q
    exact d_in (by omega) I g rx fun s' I' => ⟨.bl _, H, I', rfl, q⟩
  · cases hb
theorem op_notinDD (hu : X.A.units + 65 < cLine) : OpR X (compareOp .NotIn) (rCmp X.K c fun x y => (inD x y).map (!·)) := by
  intro pins s σ H x y v u Q I rx ry h
  obtain ⟨W, d1, d2, d, wa, r1, r2, hf, q⟩ := h
  obtain ⟨b, hb, rfl⟩ : ∃ b, inD d1 d2 = some b ∧ d = !b := by
    obtain ⟨b, hb, e⟩ := Option.map_eq_some_iff.mp hf
    exact ⟨b, hb, e.symm⟩
  unfold inD at hb
  split at hb
  · split at hb
    · rename_i ds hs
      cases hb
      rw [Bool.and_eq_true] at hs
      obtain ⟨as, q1⟩ := Dp.reads I _ x v (r1.dp wa (shp_pl hs.1)) rx
      obtain ⟨bs, q2⟩ := Dp.reads I _ y u (r2.dp wa (shp_pl hs.2)) ry
      have h1 := shp_depth hs.1
      have h2 : PyData.plainAll ds = true := by
        have := shp_pl hs.2
        simpa [PyData.plain] using this
      have h3 : min (PyData.depthAll ds) d1.depth ≤ d1.depth := Nat.min_le_right _ _
      exact SeqAt.notIn_list_data q2 q1 h2 (shp_pl hs.1) (by omega) ⟨.bl _, H, I, rfl, q⟩
    · cases hb
  · split at hb
    · rename_i ds hs
      cases hb
      rw [Bool.and_eq_true] at hs
      obtain ⟨as, q1⟩ := Dp.reads I _ x v (r1.dp wa (shp_pl hs.1)) rx
      obtain ⟨bs, q2⟩ := Dp.reads I _ y u (r2.dp wa (shp_pl hs.2)) ry
      have h1 := shp_depth hs.1
      have h2 : PyData.plainAll ds = true := by
        have := shp_pl hs.2
        simpa [PyData.plain] using this
      have h3 : min (PyData.depthAll ds) d1.depth ≤ d1.depth := Nat.min_le_right _ _
      exact SeqAt.notIn_tuple_data q2 q1 h2 (shp_pl hs.1) (by omega) ⟨.bl _, H, I, rfl, q⟩
    · cases hb
  · obtain ⟨o, ho, rfl⟩ := Option.map_eq_some_iff.mp hb
    obtain ⟨a, ov, rfl, _, g, r⟩ := dget_ok r2 r1 ho
    cases ry
    rw [← r.some_eq] at q
    exact d_notIn (by omega) I g rx fun s' I' => ⟨.bl _, H, I', rfl, q⟩
  · cases hb
def cOp : Co → CmpOp
  | .eq => .Eq
  | .ne => .NotEq
  | .lt => .Lt
  | .le => .LtE
  | .gt => .Gt
  | .ge => .GtE
  | .isin => .In
  | .notin => .NotIn
  | .is => .Is
  | .isnot => .IsNot
theorem op_cmpD (hu : X.A.units + 65 < cLine) (o : Co) : OpR X (compareOp (cOp o)) (rCmp X.K c (cmpD o)) := by
  have hu' : X.A.units + 64 < cLine := by omega
  cases o with
  | eq => exact op_eqDD hu'
  | ne => exact op_neDD hu'
  | lt => exact op_ltDD hu'
  | le => exact op_leDD hu'
  | gt => exact op_gtDD hu'
  | ge => exact op_geDD hu'
  | isin => exact op_inDD hu
  | notin => exact op_notinDD hu
  | is => exact op_isDD
  | isnot => exact op_isnotDD

/-! ### truth -/
theorem tru_of (wa : W c.a0) {v : V} {d : D} {k : Bool} (r : RepB K c W H v d) (h : truD d = some k) : TruV K v H k := by
  cases d with
  | none => cases r.none; cases h; rfl
  | bool b => cases r.bool; cases h; rfl
  | int i => cases r.int; cases h; rfl
  | str x =>
    cases r.str
    have h' : (if okLen x.length then some (x.length != 0) else none) = some k := h
    split at h'
    · rename_i hl
      cases h'
      refine ⟨okLen_of hl, ?_⟩
      by_cases e : x.length = 0
      · rw [e]; rfl
      · have e1 : ((x.length : Int) != 0) = true := bne_iff_ne.mpr (by omega)
        have e2 : (x.length != 0) = true := bne_iff_ne.mpr e
        rw [e1, e2]
    · cases h'
  | list ds =>
    cases h
    obtain ⟨a, xs, rfl, _, ha, ra⟩ := r.lst wa
    refine .inl ⟨xs, .inl (.inl ha), ?_⟩
    cases ra <;> rfl
  | tuple ds =>
    cases h
    obtain ⟨a, xs, rfl, ha, ra⟩ := r.tup
    refine .inr (.inl ⟨xs, .inl (.inl ha), ?_⟩)
    cases ra <;> rfl
  | dict _ => cases h

/-! ### subscripts, slices -/
theorem RepL.atI {F : Hp} {a0 : Addr} {vs : List V} {ds : List D} (r : RepL K a0 F vs ds) {i : Int} {d : D} (h : L2.atI ds i = some d) : ∃ v, L2.atI vs i = some v ∧ Rep K a0 F v d := by
  unfold L2.atI at h ⊢
  rw [r.length]
  obtain ⟨j, hj, e⟩ := Option.bind_eq_some_iff.mp h
  obtain ⟨v, hv, rv⟩ := r.getD' e
  exact ⟨v, by rw [hj]; exact hv, rv⟩
theorem ix_D : IxR X (rOp X.K c idxS) := by
  intro va sl pins s σ H x y v u Q I rx ry h hss
  obtain ⟨W, d1, d2, d, wa, r1, r2, hf, q⟩ := h
  unfold idxS at hf
  split at hf
  · obtain ⟨a, xs, rfl, na, ha, ra⟩ := r1.lst wa
    cases r2.int
    obtain ⟨v', hv, rv⟩ := ra.atI hf
    exact ix_list va sl pins s σ H _ _ v u Q I rx ry ⟨a, xs, _, v', rfl, rfl, .inl (.inl ha), hv, q _ _ (.old rv)⟩ hss
  · obtain ⟨a, xs, rfl, ha, ra⟩ := r1.tup
    cases r2.int
    obtain ⟨v', hv, rv⟩ := ra.atI hf
    exact ix_tup va sl pins s σ H _ _ v u Q I rx ry ⟨a, xs, _, v', rfl, rfl, .inl (.inl ha), hv, q _ _ (.old rv)⟩ hss
  · split at hf
    · rename_i hl
      obtain ⟨z, hz, rfl⟩ := Option.map_eq_some_iff.mp hf
      cases r1.str; cases r2.int
      exact ix_str va sl pins s σ H _ _ v u Q I rx ry ⟨_, _, z, rfl, rfl, okLen_of hl, hz, q _ _ (.old (.str _))⟩ hss
    · cases hf
  · cases hf
theorem RepL.cut {F : Hp} {a0 : Addr} {vs : List V} {ds : List D} (r : RepL K a0 F vs ds) (lo hi : Option Int) : RepL K a0 F (cutV vs lo hi) (cutL ds lo hi) := by
  unfold cutV cutL
  rw [r.length]
  exact (r.drop _).take _
def rSlc (K : PySem.W.Frag) (c : Cc) : V → Option Int → Option Int → Hp → VK → Prop := fun x l h H Q => ∃ W d1 d, W c.a0 ∧ RepB K c W H x d1 ∧ (match d1 with | .list ds => some (PyData.list (cutL ds l h)) | .tuple ds => some (.tuple (cutL ds l h)) | _ => none) = some d ∧ ∀ v H', New K c W H H' v d → Q v H'
theorem sl_D : SlR X (rSlc X.K c) := by
  intro pins s σ H x v vl vu lo hi sl Q I rx hs pl pu h
  obtain ⟨W, d1, d, wa, r1, hf, q⟩ := h
  split at hf
  · cases hf
    obtain ⟨a, xs, rfl, na, ha, ra⟩ := r1.lst wa
    exact sl_list pins s σ H _ v vl vu lo hi sl Q I rx hs pl pu ⟨a, xs, rfl, .inl (.inl ha), fun p hp => q _ _ (.mu hp (.lst (ra.cut lo hi)))⟩
  · rename_i ds
    cases hf
    have r1' := r1
    obtain ⟨a, xs, rfl, ha, ra⟩ := r1.tup
    refine sl_tupA pins s σ H _ v vl vu lo hi sl Q I rx hs pl pu ⟨a, xs, rfl, .inl (.inl ha), fun z => ?_, fun _ p hp => q _ _ (.tup hp (ra.cut lo hi))⟩
    have e : cutL ds lo hi = ds := by
      unfold cutL
      rw [← ra.length, z.1, z.2, List.drop_zero, ra.length, Nat.sub_zero, List.take_length]
    rcases r1' with r | ⟨_, _, _, _, _, _, z⟩
    · exact q _ _ (.old (by rw [e]; exact r))
    · cases z
  · cases hf
end
end Ly

set_option Elab.async false
set_option linter.all false
set_option maxRecDepth 100000
set_option maxHeartbeats 2000000
/-! Ly: sorted of a tuple: list.sort on a new list of its items. -/
namespace Ly
open PySem PySem.Spec PyProof.Rows L2
section
open PySem.W
variable {prog : Program} {w : World} {A : Around} {E : Value → Shared → Prop} {s : Shared}
/-- the heap with the new list, filled -/
abbrev gathered (h : Heap) (vs : List Value) : Heap := (h.push (seqObj "list" #[] 0)).update h.objs.size (Obj.mapSeq (· ++ vs.toArray))
theorem gather_tup {l : Addr} {vs : List Value} {Q : List Value → Shared → Prop} (hl : s.heap.IsTuple l vs.toArray) (hz : vs.length ≤ sizeLine) (h : Q vs { s with heap := gathered s.heap vs }) : wpAny (model prog w) A (collect (.ref l)) Q E s := by
  obtain ⟨o, ho, hc, n, hd⟩ := hl
  have e0 : (s.heap.push (seqObj "list" #[] 0)).get? s.heap.objs.size = some (seqObj "list" #[] 0) := Heap.get?_push_size _ rfl
  have ol : (s.heap.push (seqObj "list" #[] 0)).get? l = some o := Heap.get?_push_of_some _ ho
  unfold collect
  refine wpAny_bind (wpAny_runValue (codeAny_builtin entry_proto_collect' (show wpAny _ _ (newList [] >>= fun b => again (.builtin "list.__iadd__" ⟨[b, .ref l], []⟩)) _ _ s from wpAny_bind (wpAny_newList (wpAny_pure ⟨Code.quiet_builtin _ (by decide +kernel), codeAny_builtin entry_list_iadd' ?_⟩)))))
  rw [Around.under_plainId (show plainId "list.__iadd__" = true by decide +kernel) _]
  have e1 := get?_update_seq e0 (· ++ vs.toArray)
  have e2 : (#[] ++ vs.toArray).toList = vs := by simp
  have fin : wpAny (model prog w) A (load s.heap.objs.size >>= fun o => match o.data with
    | .seq xs _ => pure xs.toList
    | _ => unsupported "internal:collect") Q E { s with heap := gathered s.heap vs } := wpAny_bind (wpAny_load e1 (show wpAny _ _ (pure (#[] ++ vs.toArray).toList) _ _ _ from wpAny_pure (by rw [e2]; exact h)))
  refine wpAny_mono (wpAny_extend_seq (s := { s with heap := s.heap.push (seqObj "list" #[] 0) }) (T := "tuple") (R := fun r s' => r = .ok (.ret (.ref s.heap.objs.size)) ∧ s' = { s with heap := gathered s.heap vs }) s.heap.objs.size l (.ref s.heap.objs.size) 0 (.inr rfl) e0 ol hc hd ⟨rfl, rfl⟩ (by simpa using hz)) (fun f s' hf => ?_) (fun e s' he => ?_)
  · cases f with
    | done f =>
      obtain ⟨h1, h2⟩ := hf
      cases h1
      subst h2
      exact fin
    | again c' =>
      obtain ⟨hq, hc'⟩ := hf
      refine ⟨hq, codeAny_mono hc' fun r s'' h12 => ?_⟩
      obtain ⟨h1, h2⟩ := h12
      subst h1
      subst h2
      exact fin
  · cases he.1
/-- sorted(t) -/
theorem sorted_tupV {κ} {l : Addr} {vs : List Value} {Q : Value → Shared → Prop} (hl : s.heap.IsTuple l vs.toArray) (S : SortsAt prog w A.in1.in1 { s with heap := sortingHeap (copyHeap s.heap vs) (s.heap.objs.size + 1) vs } κ vs) (hz : vs.length ≤ sizeLine)
    (h : Q (.ref (s.heap.objs.size + 1)) { s with heap := sortedAll s.heap vs (sortVals κ false vs vs).toArray }) : wpAny (model prog w) A (call (.builtin "sorted") [.ref l]) Q E s := by
  refine Calls.call_function_entry kind_sorted plain_sorted entry_sorted (args_sorted1 _) ?_
  show wpAny _ _ (checkCount "sorted" 1 1 1 >>= fun _ => collect (.ref l) >>= fun xs => newList xs >>= fun b => holding [b] (call (.builtin "list.sort") [b] []) >>= fun _ => ret b) _ _ s
  refine wpAny_bind (wpAny_pure (wpAny_bind (gather_tup hl hz (wpAny_bind (wpAny_newList ?_ hz)))))
  have hsz : (gathered s.heap vs).objs.size = s.heap.objs.size + 1 := by rw [Heap.size_update, size_push']
  have at1 := copyHeap_at s.heap vs
  rw [hsz]
  refine wpAny_bind (wpAny_holding (wpAny_call_entry (s := { s with heap := copyHeap s.heap vs }) slot_list_sort ⟨_, at1, rfl⟩ entry_list_sort ?_ (args_list_sort _)))
  exact list_sort_vals (s := { s with heap := copyHeap s.heap vs }) at1 S hz ⟨_, rfl, wpAny_pure ⟨_, rfl, h⟩⟩
end
end Ly

set_option Elab.async false
set_option linter.all false
set_option maxRecDepth 100000
set_option maxHeartbeats 2000000
/-! Ly: the built-ins do what the hand layer's do. -/
namespace Ly
open PySem PySem.Spec PyProof.Rows L2

section
variable {X : Cx} {K : PySem.W.Frag} {c : Cc} {W : Addr → Prop} {H H' : Hp}
theorem RepBL.one {vs : List V} {d : D} (h : RepBL K c W H vs [d]) : ∃ v, vs = [v] ∧ RepB K c W H v d := by
  cases h with
  | cons q r => cases r; exact ⟨_, rfl, q⟩
theorem RepBL.two {vs : List V} {d e : D} (h : RepBL K c W H vs [d, e]) : ∃ v w, vs = [v, w] ∧ RepB K c W H v d ∧ RepB K c W H w e := by
  cases h with
  | cons q r =>
    obtain ⟨w, rfl, r'⟩ := RepBL.one r
    exact ⟨_, _, rfl, q, r'⟩
def rBf (K : PySem.W.Frag) (c : Cc) (f : Bf) : List V → Hp → VK → Prop := fun vs H Q => ∃ W ds d, W c.a0 ∧ RepBL K c W H vs ds ∧ bfD f ds = some d ∧ ∀ v H', New K c W H H' v d → Q v H'
theorem bf_len : CallR X (.builtin "len") (rBf X.K c .len) := by
  intro pins s σ H vs us Q I r h
  obtain ⟨W, ds, d, wa, rb, hf, q⟩ := h
  unfold bfD at hf
  split at hf <;> first | contradiction | skip
  · cases hf
    obtain ⟨v, rfl, rv⟩ := rb.one
    obtain ⟨a, xs, rfl, _, ha, ra⟩ := rv.lst wa
    exact call_len_seq pins s σ H _ us Q I r ⟨a, xs, rfl, .inl (.inl (.inl ha)), by rw [ra.length]; exact q _ _ (.old (.int _))⟩
  · cases hf
    obtain ⟨v, rfl, rv⟩ := rb.one
    obtain ⟨a, xs, rfl, ha, ra⟩ := rv.tup
    exact call_len_seq pins s σ H _ us Q I r ⟨a, xs, rfl, .inr (.inl (.inl ha)), by rw [ra.length]; exact q _ _ (.old (.int _))⟩
  · split at hf
    · rename_i hl
      cases hf
      obtain ⟨v, rfl, rv⟩ := rb.one
      cases rv.str
      exact call_len_str pins s σ H _ us Q I r ⟨_, rfl, okLen_of hl, q _ _ (.old (.int _))⟩
    · cases hf
  · split at hf
    · rename_i qs _ ps e
      cases hf
      obtain ⟨v, rfl, rv⟩ := rb.one
      obtain ⟨a, o, rfl, ha, hd⟩ := rv.dict e
      rw [Vals.ref1 r]
      rcases hd with ⟨_, kvs, rfl, hp⟩ | ⟨h, _⟩
      · refine d_len I (.inl ha) fun t s' I' => ⟨.int _, H, I', ⟨_, rfl⟩, ?_⟩
        rw [hp.length]
        exact q _ _ (.old (.int _))
      · cases h
    · cases hf
theorem bf_tuple : CallR X (.type "tuple") (rBf X.K c .tuple) := by
  intro pins s σ H vs us Q I r h
  obtain ⟨W, ds, d, wa, rb, hf, q⟩ := h
  unfold bfD at hf
  split at hf <;> first | contradiction | skip
  · cases hf
    obtain ⟨v, rfl, rv⟩ := rb.one
    obtain ⟨a, xs, rfl, _, ha, ra⟩ := rv.lst wa
    exact call_tuple_of pins s σ H _ us Q I r ⟨a, xs, rfl, .inl ⟨.inl (.inl ha), fun l hl => q _ _ (.tup hl ra)⟩⟩
  · cases hf
    obtain ⟨v, rfl, rv⟩ := rb.one
    have rv' := rv
    obtain ⟨a, xs, rfl, ha, ra⟩ := rv.tup
    refine call_tuple_of pins s σ H _ us Q I r ⟨a, xs, rfl, .inr ⟨.inl (.inl ha), ?_⟩⟩
    rcases rv' with z | ⟨_, _, _, _, _, _, z⟩
    · exact q _ _ (.old z)
    · cases z
/-- tuple(list), its object known -/
theorem call_tuple_xt {X : Cx} : CallR X (.type "tuple") (fun xs H Q => ∃ p ys, xs = [.ref p] ∧ SqL X.K H p ys ∧ ∀ (l : Addr) (o : Obj), H l = none → o.cls = .type "tuple" → o.dict = none → Q (.ref l) (upd H l (.frz o (.tup ys)))) := by
  intro pins s σ H xs us Q I r h
  obtain ⟨p, ys, rfl, hq, q⟩ := h
  obtain ⟨u, rfl, rx⟩ := vals1 r
  cases rx
  obtain ⟨its, r', pl, hz⟩ := I.list hq
  have hlen := r'.length
  refine PySem.call_tuple_list pl.isList (fun h' kp => ?_) (by simp only [List.size_toArray] <;> omega)
  have J : Inv X pins σ H { s with heap := h' } := I.kept (t' := s.toks) kp
  have J2 : Inv X pins σ (upd H h'.objs.size (.frz { cls := .type "tuple", data := .seq its.toArray } (.tup ys))) { s with heap := h'.push { cls := .type "tuple", data := .seq its.toArray } } :=
    J.laid (t' := s.toks) (fun b o e => Heap.get?_push_of_some _ e) (Nat.le_refl _) ⟨Heap.get?_push_size _ rfl, hz, its, r', IsTup.new _ _⟩
  exact ⟨.ref h'.objs.size, _, J2, rfl, q _ _ (J.hok.fresh (Nat.le_refl _)) rfl rfl⟩
theorem bf_xtup : CallR X (.type "tuple") (rBf X.K c .xtup) := by
  intro pins s σ H vs us Q I r h
  obtain ⟨W, ds, d, wa, rb, hf, q⟩ := h
  unfold bfD at hf
  split at hf <;> first | contradiction | skip
  · cases hf
    obtain ⟨v, rfl, rv⟩ := rb.one
    obtain ⟨a, xs, rfl, _, ha, ra⟩ := rv.lst wa
    exact call_tuple_xt pins s σ H _ us Q I r ⟨a, xs, rfl, .inl (.inl ha), fun l o hl h1 h2 => q _ _ (.xt hl h1 h2 ra)⟩
theorem bf_list : CallR X (.type "list") (rBf X.K c .list) := by
  intro pins s σ H vs us Q I r h
  obtain ⟨W, ds, d, wa, rb, hf, q⟩ := h
  unfold bfD at hf
  split at hf <;> first | contradiction | skip
  · cases hf
    obtain ⟨v, rfl, rv⟩ := rb.one
    obtain ⟨a, xs, rfl, _, ha, ra⟩ := rv.lst wa
    exact call_list_of pins s σ H _ us Q I r ⟨a, xs, rfl, .inl (.inl (.inl ha)), fun l hl => q _ _ (.mu hl (.lst ra))⟩
  · cases hf
    obtain ⟨v, rfl, rv⟩ := rb.one
    obtain ⟨a, xs, rfl, ha, ra⟩ := rv.tup
    exact call_list_of pins s σ H _ us Q I r ⟨a, xs, rfl, .inr (.inl (.inl ha)), fun l hl => q _ _ (.mu hl (.lst ra))⟩
theorem intsD_some : ∀ {ds : List D} {is : List Int}, intsD ds = some is → ds = is.map PyData.int
  | [], is, h => by cases h; rfl
  | .int i :: r, is, h => by
    obtain ⟨js, hj, rfl⟩ := Option.map_eq_some_iff.mp h
    rw [intsD_some hj]; rfl
  | .none :: _, _, h => by cases h
  | .bool _ :: _, _, h => by cases h
  | .str _ :: _, _, h => by cases h
  | .list _ :: _, _, h => by cases h
  | .tuple _ :: _, _, h => by cases h
  | .dict _ :: _, _, h => by cases h
theorem intsD_map : ∀ is : List Int, intsD (is.map PyData.int) = some is
  | [] => rfl
  | i :: is => by
    show (intsD (is.map PyData.int)).map (i :: ·) = _
    rw [intsD_map is]; rfl
theorem RepL.ints_of {F : Hp} {a0 : Addr} : ∀ {is : List Int} {vs : List V}, RepL K a0 F vs (is.map PyData.int) → vs = is.map V.int
  | [], _, h => by cases h; rfl
  | i :: is, _, h => by
    cases h with
    | cons q r =>
      rw [RepL.ints_of r]
      cases q with
      | int => rfl
      | mu _ z => cases z
/-- what is walked: a list or a tuple -/
theorem RepB.seq (wa : W c.a0) {v : V} {d : D} {ds : List D} (h : RepB K c W H v d) (e : seqD d = some ds) : ∃ a xs, v = .ref a ∧ (H a = some (.lst xs) ∨ H a = some (.tup xs)) ∧ RepL K c.a0 (hid W H) xs ds := by
  unfold seqD at e
  split at e
  · cases e
    obtain ⟨a, xs, rfl, _, ha, ra⟩ := h.lst wa
    exact ⟨a, xs, rfl, .inl ha, ra⟩
  · cases e
    obtain ⟨a, xs, rfl, ha, ra⟩ := h.tup
    exact ⟨a, xs, rfl, .inr ha, ra⟩
  · cases e
theorem sum_tuple_raw {prog : Program} {w : World} {A : Around} {E : Value → Shared → Prop} {s : Shared} {l : Addr} {its : List Value} {ns : List Int} {Q : Value → Shared → Prop} (hh : A.handled = none) (hl : s.heap.IsTuple l its.toArray) (hi : IntsAre its ns)
    (h : ∀ h' tk t', (∀ b o, s.heap.get? b = some o → h'.get? b = some o) → Q (.int ns.sum t') { s with heap := h', toks := tk }) : wpAny (model prog w) A (call (.builtin "sum") [.ref l]) Q E s := by
  obtain ⟨xs, e⟩ := hi.allInts.items
  have hn : numsOf (intItems xs).toList = ns := by rw [← e]; exact hi.numsOf
  rw [nums_intItems] at hn
  rw [e] at hl
  refine call_sum_walkAnyS (PySem.W.iter_tupleW (A := A.in1) hh hl fun s₂ e2 Wk st hfp hw hk => ?_)
  refine ⟨_, _, _, _, _, _, _, numAt xs, rfl, Wk, st, hfp, fun _ _ => intItems_at, fun s' t' m => ?_⟩
  obtain ⟨h', tk, rfl, hk'⟩ := PySem.W.moved_old e2 rfl m
  have := h h' tk t' hk'
  rw [preSum_eq, List.take_of_length_le (by simp [intItems]), hn]
  exact this
theorem bf_sum (hc : X.calm = true) : CallR X (.builtin "sum") (rBf X.K c .sum) := by
  intro pins s σ H vs us Q I r h
  obtain ⟨W, ds, d, wa, rb, hf, q⟩ := h
  unfold bfD at hf
  split at hf <;> first | contradiction | skip
  · split at hf
    · rename_i hs
      obtain ⟨is, hi, rfl⟩ := Option.map_eq_some_iff.mp hf
      obtain ⟨v, rfl, rv⟩ := rb.one
      have e := intsD_some hi
      subst e
      obtain ⟨a, xs, rfl, ha, ra⟩ := rv.seq wa hs
      cases ra.ints_of
      rcases ha with ha | ha
      · exact cr_sum hc pins s σ H _ us Q I r ⟨a, is, rfl, .inl (.inl ha), q _ _ (.old (.int _))⟩
      · obtain ⟨its, r', ht, hz⟩ := I.tuple (.inl (.inl ha))
        rw [Vals.ref1 r]
        exact sum_tuple_raw (I.ok.hd hc) ht r'.ints fun h' tk t' hk => ⟨.int _, H, I.kept hk, ⟨_, rfl⟩, q _ _ (.old (.int _))⟩
    · cases hf
theorem RepL.reads {pins : List (Addr × Obj)} {s : Shared} {σ : L2.St} {xs : List V} {ds : List D} {us : List Value} (I : Inv X pins σ H s) (ra : RepL X.K c.a0 (hid W H) xs ds) (hp : PyData.plainAll ds = true) (rv : Vals xs us) : ∃ as, ReadsAll s.heap us ds as :=
  Dp.readsAll I ds xs us (RepL.dp hid_same ds ra hp) rv
theorem tru0_pl {d : D} {b : Bool} (h : tru0 d = some b) : d.plain = true ∧ d.fits63 ∧ d.truthy = b := by
  unfold tru0 at h
  split at h <;> first | (cases h; exact ⟨by simp [PyData.plain], trivial, rfl⟩) | cases h
theorem trusD_pl : ∀ {ds : List D} {bs : List Bool}, trusD ds = some bs → PyData.plainAll ds = true ∧ (∀ x ∈ ds, x.fits63) ∧ ds.map PyData.truthy = bs
  | [], _, h => by cases h; exact ⟨by simp [PyData.plainAll], fun _ h => absurd h (by simp), rfl⟩
  | d :: r, bs, h => by
    unfold trusD at h
    split at h
    · rename_i b bs' h1 h2
      cases h
      obtain ⟨a1, a2, a3⟩ := tru0_pl h1
      obtain ⟨b1, b2, b3⟩ := trusD_pl h2
      refine ⟨by simp [PyData.plainAll, a1, b1], fun x hx => ?_, by rw [List.map_cons, a3, b3]⟩
      rcases List.mem_cons.mp hx with rfl | hx
      · exact a2
      · exact b2 x hx
    · cases h
theorem any_map {ds : List D} {bs : List Bool} (h : ds.map PyData.truthy = bs) : ds.any PyData.truthy = bs.any id := by
  subst h; rw [List.any_map]; rfl
theorem all_map {ds : List D} {bs : List Bool} (h : ds.map PyData.truthy = bs) : ds.all PyData.truthy = bs.all id := by
  subst h; rw [List.all_map]; rfl
theorem bf_any (hc : X.calm = true) : CallR X (.builtin "any") (rBf X.K c .any) := by
  intro pins s σ H vs us Q I r h
  obtain ⟨W, ds, d, wa, rb, hf, q⟩ := h
  unfold bfD at hf
  split at hf <;> first | contradiction | skip
  · split at hf
    · rename_i hs
      obtain ⟨bs, hb, rfl⟩ := Option.map_eq_some_iff.mp hf
      obtain ⟨v, rfl, rv⟩ := rb.one
      obtain ⟨p1, p2, p3⟩ := trusD_pl hb
      obtain ⟨a, xs, rfl, ha, ra⟩ := rv.seq wa hs
      rw [Vals.ref1 r]
      rcases ha with ha | ha
      · obtain ⟨its, r', ht, hz⟩ := I.list (.inl (.inl ha))
        obtain ⟨as, rr⟩ := ra.reads I p1 r'
        exact PySem.W.any_list_data (I.ok.hd hc) ht.isList (by simpa using rr) p1 p2 fun h' tk hk => ⟨.bl _, H, I.kept hk, by rw [any_map p3]; rfl, q _ _ (.old (.bl _))⟩
      · obtain ⟨its, r', ht, hz⟩ := I.tuple (.inl (.inl ha))
        obtain ⟨as, rr⟩ := ra.reads I p1 r'
        exact PySem.W.any_tuple_data (I.ok.hd hc) ht (by simpa using rr) p1 p2 fun h' tk hk => ⟨.bl _, H, I.kept hk, by rw [any_map p3]; rfl, q _ _ (.old (.bl _))⟩
    · cases hf
theorem bf_all (hc : X.calm = true) : CallR X (.builtin "all") (rBf X.K c .all) := by
  intro pins s σ H vs us Q I r h
  obtain ⟨W, ds, d, wa, rb, hf, q⟩ := h
  unfold bfD at hf
  split at hf <;> first | contradiction | skip
  · split at hf
    · rename_i hs
      obtain ⟨bs, hb, rfl⟩ := Option.map_eq_some_iff.mp hf
      obtain ⟨v, rfl, rv⟩ := rb.one
      obtain ⟨p1, p2, p3⟩ := trusD_pl hb
      obtain ⟨a, xs, rfl, ha, ra⟩ := rv.seq wa hs
      rw [Vals.ref1 r]
      rcases ha with ha | ha
      · obtain ⟨its, r', ht, hz⟩ := I.list (.inl (.inl ha))
        obtain ⟨as, rr⟩ := ra.reads I p1 r'
        exact PySem.W.all_list_data (I.ok.hd hc) ht.isList (by simpa using rr) p1 p2 fun h' tk hk => ⟨.bl _, H, I.kept hk, by rw [all_map p3]; rfl, q _ _ (.old (.bl _))⟩
      · obtain ⟨its, r', ht, hz⟩ := I.tuple (.inl (.inl ha))
        obtain ⟨as, rr⟩ := ra.reads I p1 r'
        exact PySem.W.all_tuple_data (I.ok.hd hc) ht (by simpa using rr) p1 p2 fun h' tk hk => ⟨.bl _, H, I.kept hk, by rw [all_map p3]; rfl, q _ _ (.old (.bl _))⟩
    · cases hf
theorem alk_of {ds : List D} (h : alk ds = true) : PySem.W.AlikeAll ds ∧ PyData.plainAll ds = true ∧ ∀ d ∈ ds, d.depth ≤ 64 := by
  unfold alk at h
  rw [List.all_eq_true] at h
  have key : ∀ d ∈ ds, shp d = true ∧ (!isNon d) = true ∧ ∀ e ∈ ds, PySem.W.alike d e = true := fun d hd => by
    have := h d hd
    simp only [Bool.and_eq_true, List.all_eq_true] at this
    exact ⟨this.1.1, this.1.2, this.2⟩
  refine ⟨⟨fun d hd e he => (key d hd).2.2 e he, fun d hd => isNon_ne (key d hd).2.1⟩, ?_, fun d hd => shp_depth (key d hd).1⟩
  have gen : ∀ l : List D, (∀ d ∈ l, shp d = true) → PyData.plainAll l = true := by
    intro l
    induction l with
    | nil => intro _; simp [PyData.plainAll]
    | cons d l ih => intro hl; simp [PyData.plainAll, shp_pl (hl d List.mem_cons_self), ih fun e he => hl e (List.mem_cons_of_mem _ he)]
  exact gen ds fun d hd => (key d hd).1
theorem depthAll_le {n : Nat} : ∀ {ds : List D}, (∀ d ∈ ds, d.depth ≤ n) → PyData.depthAll ds ≤ n
  | [], _ => by simp [PyData.depthAll]
  | d :: ds, h => by
    have h1 := h d List.mem_cons_self
    have h2 := depthAll_le fun e he => h e (List.mem_cons_of_mem d he)
    simp only [PyData.depthAll]
    omega
theorem ints_alike (is : List Int) : PySem.W.AlikeAll (is.map PyData.int) ∧ PyData.plainAll (is.map PyData.int) = true ∧ ∀ d ∈ is.map PyData.int, d.depth ≤ 64 := by
  have e : ∀ d ∈ is.map PyData.int, ∃ i, d = .int i := fun d hd => by
    obtain ⟨i, _, rfl⟩ := List.mem_map.mp hd
    exact ⟨i, rfl⟩
  refine ⟨⟨fun d hd f hf => ?_, fun d hd => ?_⟩, ?_, fun d hd => ?_⟩
  · obtain ⟨i, rfl⟩ := e d hd
    obtain ⟨j, rfl⟩ := e f hf
    simp [PySem.W.alike]
  · obtain ⟨i, rfl⟩ := e d hd
    simp
  · clear e
    induction is with
    | nil => simp [PyData.plainAll]
    | cons i is ih => simp [PyData.plainAll, PyData.plain, ih]
  · obtain ⟨i, rfl⟩ := e d hd
    simp [PyData.depth]
theorem maxD_of {ds : List D} {d : D} (h : maxD ds = some d) : ∃ x xs, ds = x :: xs ∧ d = PySem.W.maxD x xs ∧ PySem.W.AlikeAll ds ∧ PyData.plainAll ds = true ∧ ∀ d ∈ ds, d.depth ≤ 64 := by
  unfold maxD at h
  split at h
  · cases h
  · rename_i x xs
    split at h
    · rename_i is hi
      cases h
      have e := intsD_some hi
      cases is with
      | nil => cases e
      | cons i is =>
        obtain ⟨e1, e2⟩ := List.cons.inj e
        subst e1 e2
        exact ⟨_, _, rfl, (PySem.W.maxD_ints i is).symm, ints_alike (i :: is)⟩
    · split at h
      · rename_i ha
        cases h
        exact ⟨_, _, rfl, rfl, alk_of ha⟩
      · cases h
theorem minD_of {ds : List D} {d : D} (h : minD ds = some d) : ∃ x xs, ds = x :: xs ∧ d = PySem.W.minD x xs ∧ PySem.W.AlikeAll ds ∧ PyData.plainAll ds = true ∧ ∀ d ∈ ds, d.depth ≤ 64 := by
  unfold minD at h
  split at h
  · cases h
  · rename_i x xs
    split at h
    · rename_i is hi
      cases h
      have e := intsD_some hi
      cases is with
      | nil => cases e
      | cons i is =>
        obtain ⟨e1, e2⟩ := List.cons.inj e
        subst e1 e2
        exact ⟨_, _, rfl, (PySem.W.minD_ints i is).symm, ints_alike (i :: is)⟩
    · split at h
      · rename_i ha
        cases h
        exact ⟨_, _, rfl, rfl, alk_of ha⟩
      · cases h
/-- the item of a row that the library hands back, as data -/
theorem best_of {pins : List (Addr × Obj)} {s : Shared} {σ : L2.St} {xs : List V} {ds : List D} {its : List Value} {i : Nat} {v : Value} {h' : Heap} {b : D} {bs : List Addr} (I : Inv X pins σ H s) (ra : RepL X.K c.a0 (hid W H) xs ds) (rv : Vals xs its)
    (pl : PyData.plainAll ds = true) (hv : its[i]? = some v) (hk : ∀ b o, s.heap.get? b = some o → h'.get? b = some o) (al : ∀ d ∈ ds, PySem.W.alike d b = true) (rd : Reads h' v b bs) : ∃ x, RelV x v ∧ Rep X.K c.a0 (hid W H) x b := by
  have hi : i < xs.length := by rw [rv.length]; exact (List.getElem?_eq_some_iff.mp hv).1
  obtain ⟨x, hx⟩ : ∃ x, xs[i]? = some x := ⟨_, List.getElem?_eq_getElem hi⟩
  obtain ⟨u, hu, ru⟩ := rv.get hx
  rw [hv] at hu
  cases hu
  obtain ⟨d, hd, rx⟩ := ra.getV hx
  have pd : d.plain = true := PySem.W.plain_mem pl (List.mem_of_getElem? hd)
  obtain ⟨as, r1⟩ := Dp.reads I d x v (Rep.dp hid_same d rx pd) ru
  have r2 : Reads h' v d as := PySem.W.reads_keeps hk r1
  have e : d = b := PySem.W.alike_unique _ _ _ _ _ (al d (List.mem_of_getElem? hd)) r2 rd
  exact ⟨x, ru, e ▸ rx⟩
theorem maxD_mem : ∀ (xs : List D) (x : D), PySem.W.maxD x xs ∈ x :: xs
  | [], x => by show x ∈ [x]; simp
  | y :: ys, x => by
    have h := maxD_mem ys (if PySem.W.dataLt x y then y else x)
    have e : PySem.W.maxD x (y :: ys) = PySem.W.maxD (if PySem.W.dataLt x y then y else x) ys := rfl
    rw [e]
    rcases List.mem_cons.mp h with q | q
    · rw [q]; split <;> simp
    · simp [q]
theorem bf_max (hc : X.calm = true) (hu : X.A.units + 128 < cLine) : CallR X (.builtin "max") (rBf X.K c .max) := by
  intro pins s σ H vs us Q I r h
  obtain ⟨W, ds, d, wa, rb, hf, q⟩ := h
  unfold bfD at hf
  split at hf <;> first | contradiction | skip
  · cases hf
    obtain ⟨v, w, rfl, rv, rw'⟩ := rb.two
    cases rv.int; cases rw'.int
    exact call_max2 hc pins s σ H _ us Q I r ⟨_, _, rfl, q _ _ (.old (.int _))⟩
  · obtain ⟨ds, hs, hm⟩ := Option.bind_eq_some_iff.mp hf
    obtain ⟨v, rfl, rv⟩ := rb.one
    obtain ⟨x, xs', rfl, rfl, al, pl, dp⟩ := maxD_of hm
    obtain ⟨a, xs, rfl, ha, ra⟩ := rv.seq wa hs
    have hd : X.A.units + 1 + PyData.depthAll (x :: xs') < cLine := by
      have := depthAll_le dp
      omega
    have am : ∀ d ∈ x :: xs', PySem.W.alike d (PySem.W.maxD x xs') = true := fun d hd => al.1 d hd _ (maxD_mem _ _)
    rw [Vals.ref1 r]
    rcases ha with ha | ha
    · obtain ⟨its, r', ht, hz⟩ := I.list (.inl (.inl ha))
      obtain ⟨as, rr⟩ := ra.reads I pl r'
      refine PySem.W.max_list_data (I.ok.hd hc) ht.isList (by simpa using rr) al hd fun i v h' tk bs hv rd hk => ?_
      obtain ⟨y, ry, rep⟩ := best_of I ra r' pl (by simpa using hv) hk am rd
      exact ⟨y, H, I.kept hk, ry, q _ _ (.old rep)⟩
    · obtain ⟨its, r', ht, hz⟩ := I.tuple (.inl (.inl ha))
      obtain ⟨as, rr⟩ := ra.reads I pl r'
      refine PySem.W.max_tuple_data (I.ok.hd hc) ht (by simpa using rr) al hd fun i v h' tk bs hv rd hk => ?_
      obtain ⟨y, ry, rep⟩ := best_of I ra r' pl (by simpa using hv) hk am rd
      exact ⟨y, H, I.kept hk, ry, q _ _ (.old rep)⟩
theorem minD_mem : ∀ (xs : List D) (x : D), PySem.W.minD x xs ∈ x :: xs
  | [], x => by show x ∈ [x]; simp
  | y :: ys, x => by
    have h := minD_mem ys (if PySem.W.dataLt y x then y else x)
    have e : PySem.W.minD x (y :: ys) = PySem.W.minD (if PySem.W.dataLt y x then y else x) ys := rfl
    rw [e]
    rcases List.mem_cons.mp h with q | q
    · rw [q]; split <;> simp
    · simp [q]
theorem bf_min (hc : X.calm = true) (hu : X.A.units + 128 < cLine) : CallR X (.builtin "min") (rBf X.K c .min) := by
  intro pins s σ H vs us Q I r h
  obtain ⟨W, ds, d, wa, rb, hf, q⟩ := h
  unfold bfD at hf
  split at hf <;> first | contradiction | skip
  · cases hf
    obtain ⟨v, w, rfl, rv, rw'⟩ := rb.two
    cases rv.int; cases rw'.int
    exact call_min2 hc pins s σ H _ us Q I r ⟨_, _, rfl, q _ _ (.old (.int _))⟩
  · obtain ⟨ds, hs, hm⟩ := Option.bind_eq_some_iff.mp hf
    obtain ⟨v, rfl, rv⟩ := rb.one
    obtain ⟨x, xs', rfl, rfl, al, pl, dp⟩ := minD_of hm
    obtain ⟨a, xs, rfl, ha, ra⟩ := rv.seq wa hs
    have hd : X.A.units + 1 + PyData.depthAll (x :: xs') < cLine := by
      have := depthAll_le dp
      omega
    have am : ∀ d ∈ x :: xs', PySem.W.alike d (PySem.W.minD x xs') = true := fun d hd => al.1 d hd _ (minD_mem _ _)
    rw [Vals.ref1 r]
    rcases ha with ha | ha
    · obtain ⟨its, r', ht, hz⟩ := I.list (.inl (.inl ha))
      obtain ⟨as, rr⟩ := ra.reads I pl r'
      refine PySem.W.min_list_data (I.ok.hd hc) ht.isList (by simpa using rr) al hd fun i v h' tk bs hv rd hk => ?_
      obtain ⟨y, ry, rep⟩ := best_of I ra r' pl (by simpa using hv) hk am rd
      exact ⟨y, H, I.kept hk, ry, q _ _ (.old rep)⟩
    · obtain ⟨its, r', ht, hz⟩ := I.tuple (.inl (.inl ha))
      obtain ⟨as, rr⟩ := ra.reads I pl r'
      refine PySem.W.min_tuple_data (I.ok.hd hc) ht (by simpa using rr) al hd fun i v h' tk bs hv rd hk => ?_
      obtain ⟨y, ry, rep⟩ := best_of I ra r' pl (by simpa using hv) hk am rd
      exact ⟨y, H, I.kept hk, ry, q _ _ (.old rep)⟩

/-! ### sorted -/
def RepR (X : Cx) (c : Cc) (W : Addr → Prop) (H : Hp) (v : Value) (d : D) : Prop := ∃ x, RelV x v ∧ Rep X.K c.a0 (hid W H) x d
theorem each_of {xs : List V} : ∀ {ds : List D} {us : List Value}, RepL X.K c.a0 (hid W H) xs ds → Vals xs us → PySem.W.EachIs (RepR X c W H) us ds := by
  induction xs with
  | nil => intro ds us h r; cases h; cases r; exact .nil
  | cons x xs ih =>
    intro ds us h r
    cases h with
    | cons q h =>
      cases r with
      | cons p r => exact .cons ⟨x, p, q⟩ (ih h r)
theorem of_each : ∀ {us : List Value} {ds : List D}, PySem.W.EachIs (RepR X c W H) us ds → ∃ xs, Vals xs us ∧ RepL X.K c.a0 (hid W H) xs ds
  | _, _, .nil => ⟨[], .nil, .nil⟩
  | _, _, .cons ⟨x, p, q⟩ t => by
    obtain ⟨xs, h1, h2⟩ := of_each t
    exact ⟨x :: xs, .cons p h1, .cons q h2⟩
end

/-! ### tuples, empty ones among them -/
section
open PySem.SeqAt PySem.W
variable {prog : Program} {w : World} {A : Around} {s : Shared} {M : Model} {E : Value → Shared → Prop}
theorem gen_mapM {α β : Type} {f : α → Sem β} (g : α → β) : ∀ (l : List α) {Q : List β → Shared → Prop}, (∀ v ∈ l, ∀ (Q' : β → Shared → Prop), Q' (g v) s → wpAny M A (f v) Q' E s) → Q (l.map g) s → wpAny M A (l.mapM f) Q E s
  | [], _, _, h => by rw [List.mapM_nil]; exact wpAny_pure h
  | x :: l, Q, hf, h => by
    rw [List.mapM_cons]
    exact wpAny_bind (hf x (.head _) _ (wpAny_bind (gen_mapM g l (Q := fun bs s' => wpAny M A (pure (g x :: bs)) Q E s') (fun v hv => hf v (.tail _ hv)) (wpAny_pure h))))
/-- the first item of the tuple at v -/
def fstOf (h : Heap) (v : Value) : Option Value :=
  match v with
  | .ref a => match h.get? a with
    | some o => match o.data with
      | .seq xs _ => xs[0]?
      | _ => none
    | none => none
  | _ => none
theorem fst_reads {h : Heap} {v : Value} {ds : List PyData} {as : List Addr} (r : Reads h v (.tuple ds) as) : (fstOf h v).isSome = !ds.isEmpty := by
  cases r with
  | @tuple a o xs n _ _ ho hc hd hr =>
    have e : xs.size = ds.length := by
      have := SeqAt.ReadsAll.length _ _ _ hr
      simpa using this
    unfold fstOf
    simp only [ho, hd]
    cases ds with
    | nil =>
      have : xs.size = 0 := by simpa using e
      simp [this]
    | cons d r =>
      have : 0 < xs.size := by rw [e]; simp
      simp [this]
theorem first_tup {v : Value} {ds : List PyData} {as : List Addr} {Q : Option Value → Shared → Prop} (r : Reads s.heap v (.tuple ds) as) (h : Q (fstOf s.heap v) s) : wpAny M A (firstOfTuple' v) Q E s := by
  cases r with
  | @tuple a o xs n _ _ ho hc hd hr =>
    rw [kas_first_eq]
    refine wpAny_bind (Looks.here (show Looks M s.heap (typeOf (.ref a)) o.cls from (Looks.ld ho).andThen .now) ?_)
    rw [hc, if_neg (by first | decide | simp)]
    refine wpAny_bind (listItems_at ho hd (wpAny_pure ?_))
    have e : fstOf s.heap (.ref a) = xs[0]? := by unfold fstOf; simp only [ho, hd]
    rw [← e]
    exact h
theorem oneLt_tup {xs ys : List PyData} {a b : Value} {as bs : List Addr} {Q : Bool → Shared → Prop} (ra : Reads s.heap a (.tuple xs) as) (rb : Reads s.heap b (.tuple ys) bs) (hal : alikeAll xs ys = true)
    (hu : A.units + min (PyData.tuple xs).depth (PyData.tuple ys).depth < cLine) (hq : Q (dataLt (.tuple xs) (.tuple ys)) s) : wpAny (model prog w) A (oneLt' true a b) Q E s := by
  cases ra with
  | @tuple l o vs n _ as₁ h1 h2 h3 h4 =>
    cases rb with
    | @tuple l' o' vs' n' _ bs₁ k1 k2 k3 k4 =>
      have n1 : vs.size = xs.length := by simpa using ReadsAll.length _ _ _ h4
      have n2 : vs'.size = ys.length := by simpa using ReadsAll.length _ _ _ k4
      rw [dataLt_tuple, ← firstLt_toks xs ys hal, ← n1, ← n2] at hq
      rw [oneLt'_eq]
      simp only [if_true]
      refine wpAny_bind (wpAny_cRoomFor (room_here hu) ?_)
      obtain ⟨cls, dd, data, sl⟩ := o
      obtain ⟨cls2, dd2, data2, sl2⟩ := o'
      simp only at h2 h3 k2 k3
      subst h2 h3 k2 k3
      refine wpAny_bind (wpAny_callSpecialIfBound?_slot (T := "tuple") ⟨_, h1, rfl⟩ F.slot_tuple_lt (call_meets F.slot_tuple_lt ⟨_, h1, rfl⟩ F.entry_tuple_lt (F.args_tuple_lt_2 _ _)
        (tuple_ltAt l l' vs vs' n n' dd dd2 sl sl2 (pairEq xs ys) (fun j => dataLt (xs.getD j .none) (ys.getD j .none))) ⟨h1, k1, fun j j1 j2 => ?_, fun j j1 j2 hj => ?_, ?_⟩))
      · have := eqAt_alikeAll xs ys A.in1 s vs.toList vs'.toList _ _ h4 k4 hal (room_in hu) j (by simpa using j1) (by simpa using j2)
        simpa using this
      · have := rcLt_alikeAll xs ys A.in1 s vs.toList vs'.toList _ _ h4 k4 hal (room_in hu) j (by simpa using j1) (by simpa using j2) hj
        simpa using this
      · exact wpAny_truthy_bool hq
/-- all are tuples, the first an empty one -/
theorem sortsAt_tup0 {vs : List Value} {ds : List PyData} (e : EachIs (fun v d => ∃ as, Reads s.heap v d as) vs (.tuple [] :: ds)) (hal : AllAlike (.tuple [] :: ds)) (ht : ∀ d ∈ ds, ∃ xs, d = .tuple xs)
    (hu : ∀ d, d ∈ (.tuple [] :: ds) → A.units + d.depth < cLine) : SortsAt prog w A s (dataKind s.heap (.tuple [] :: ds)) vs := by
  have ht' : ∀ d ∈ (PyData.tuple [] :: ds), ∃ xs, d = .tuple xs := fun d hd => by
    rcases List.mem_cons.mp hd with rfl | hd
    · exact ⟨_, rfl⟩
    · exact ht d hd
  refine ⟨fun v hv => ?_, oneType', ?_, fun h2 E Q hq => ?_⟩
  · obtain ⟨d, hd, as, r⟩ := e.left v hv
    exact ⟨_, dataKind_some hal hd r⟩
  · intro E x y a b Q ha hb hq
    obtain ⟨d, as, hd, ra, rfl⟩ := dataKind_inv ha
    obtain ⟨d', as', hd', rb, rfl⟩ := dataKind_inv hb
    obtain ⟨xs, rfl⟩ := ht' d hd
    obtain ⟨ys, rfl⟩ := ht' d' hd'
    rw [keyLt'_oneType]
    exact oneLt_tup ra rb (by simpa [alike] using hal _ hd _ hd') (Nat.lt_of_le_of_lt (Nat.add_le_add_left (Nat.min_le_left _ _) _) (hu _ hd)) hq
  · have er := e.left
    cases e with
    | @cons v₁ _ vr _ r1 t =>
      obtain ⟨as, r1⟩ := r1
      have f1 : fstOf s.heap v₁ = none := by
        have := fst_reads r1
        simpa using this
      rw [kat_kind_eq, List.mapM_toArray, map_eq_pure_bind]
      refine wpAny_bind (wpAny_bind (gen_mapM (fstOf s.heap) _ (fun v hv Q' hq' => ?_) (wpAny_pure ?_)))
      · obtain ⟨d, hd, as', r⟩ := er v hv
        obtain ⟨xs, rfl⟩ := ht' d hd
        exact first_tup r hq'
      · have hn : (((v₁ :: vr).map (fstOf s.heap)).toArray.all fun x => x.isSome) = false := by
          simp [f1]
        rw [if_neg (by rw [hn]; exact Bool.false_ne_true)]
        have h0 : ((((v₁ :: vr).map (fstOf s.heap)).toArray[0]?).bind id).isSome = false := by
          simp [f1]
        rw [if_neg (by rw [h0]; exact Bool.false_ne_true)]
        rw [oneTypeOnly'_eq, List.mapM_toArray, map_eq_pure_bind]
        refine wpAny_bind (wpAny_bind (wpAny_bind (kas_mapM (r := Value.type "tuple") _ (fun v hv Q' hq' => ?_) (wpAny_pure ?_))))
        · obtain ⟨d, hd, as', r⟩ := er v hv
          obtain ⟨xs, rfl⟩ := ht' d hd
          exact (looks_reads r).here hq'
        · have hall : ((List.map (fun _ => Value.type "tuple") (v₁ :: vr)).toArray.all fun x => x == Value.type "tuple") = true := by
            simp only [List.all_toArray, List.all_map, List.all_eq_true]
            intro _ _
            exact beq_self_eq_true _
          have h0' : (List.map (fun _ => Value.type "tuple") (v₁ :: vr)).toArray[0]? = some (Value.type "tuple") := by simp
          rw [h0']
          simp only [hall, if_true]
          exact wpAny_pure (wpAny_pure hq)
/-- the items at l are sorted, whatever tells how -/
def SrtAt (prog : Program) (w : World) (A : Around) (E : Value → Shared → Prop) (s : Shared) (l : Addr) (vs : List Value) : Prop := ∀ (κ : PyProof.Rows.KeyKind) (Q : Value → Shared → Prop),
  SortsAt prog w A.in1.in1 { s with heap := sortingHeap (copyHeap s.heap vs) (s.heap.objs.size + 1) vs } κ vs → vs.length ≤ sizeLine → Q (.ref (s.heap.objs.size + 1)) { s with heap := sortedAll s.heap vs (sortVals κ false vs vs).toArray } → wpAny (model prog w) A (call (.builtin "sorted") [.ref l]) Q E s
theorem sorted_tup0 {R : Value → PyData → Prop} {l : Addr} {vs : List Value} {ds : List PyData} {Q : Value → Shared → Prop} (hl : SrtAt prog w A E s l vs) (e : EachIs R vs (.tuple [] :: ds)) (er : EachIs (fun v b => ∃ as, Reads s.heap v b as) vs (.tuple [] :: ds))
    (hal : AllAlike (.tuple [] :: ds)) (ht : ∀ d ∈ ds, ∃ xs, d = .tuple xs) (hL : (PyData.tuple [] :: ds).length ≤ sizeLine)
    (hu : ∀ b, b ∈ (PyData.tuple [] :: ds) → A.units + 2 + b.depth < cLine) (h : ∀ out, out.length = (PyData.tuple [] :: ds).length → EachIs R out ((PyData.tuple [] :: ds).mergeSort (dataLe false fun d => d)) → Q (.ref (s.heap.objs.size + 1)) { s with heap := sortedAll s.heap vs (List.toArray out) }) :
    wpAny (model prog w) A (call (.builtin "sorted") [.ref l]) Q E s := by
  have er' : EachIs (fun v b => ∃ as, Reads (sortingHeap (copyHeap s.heap vs) (s.heap.objs.size + 1) vs) v b as) vs (.tuple [] :: ds) := er.mono fun _ _ ⟨as, r⟩ => ⟨as, PyProof.Rows.Reads.keeps (fun _ _ => sorting_copy_old) r⟩
  have hm : (PyData.tuple [] :: ds).map (fun d => d) = PyData.tuple [] :: ds := List.map_id' _
  refine hl _ _ (sortsAt_tup0 (s := { s with heap := sortingHeap (copyHeap s.heap vs) (s.heap.objs.size + 1) vs }) er' hal ht hu) (by rw [e.length]; exact hL) ?_
  have q := sortVals_data (h' := sortingHeap (copyHeap s.heap vs) (s.heap.objs.size + 1) vs) (R := R) (enc := fun d : PyData => d) (vs := vs) (bs := .tuple [] :: ds) false e er' (by rw [hm]; exact hal)
  rw [hm] at q
  exact h _ (by rw [sortVals_length false rfl]; exact e.length) q
theorem sorted_all {R : Value → PyData → Prop} {l : Addr} {vs : List Value} {ds : List PyData} {Q : Value → Shared → Prop} (hl : SrtAt prog w A E s l vs) (e : EachIs R vs ds) (er : EachIs (fun v b => ∃ as, Reads s.heap v b as) vs ds)
    (hal : AllAlike ds) (hk : Sortable ds) (hL : ds.length ≤ sizeLine)
    (hu : ∀ b, b ∈ ds → A.units + 2 + b.depth < cLine) (h : ∀ out, out.length = ds.length → EachIs R out (ds.mergeSort (dataLe false fun d => d)) → Q (.ref (s.heap.objs.size + 1)) { s with heap := sortedAll s.heap vs (List.toArray out) }) :
    wpAny (model prog w) A (call (.builtin "sorted") [.ref l]) Q E s := by
  have er' : EachIs (fun v b => ∃ as, Reads (sortingHeap (copyHeap s.heap vs) (s.heap.objs.size + 1) vs) v b as) vs ds := er.mono fun _ _ ⟨as, r⟩ => ⟨as, PyProof.Rows.Reads.keeps (fun _ _ => sorting_copy_old) r⟩
  have hm : ds.map (fun d => d) = ds := List.map_id' _
  refine hl _ _ (SortsAt.data (s := { s with heap := sortingHeap (copyHeap s.heap vs) (s.heap.objs.size + 1) vs }) er' hal hk hu) (by rw [e.length]; exact hL) ?_
  have q := sortVals_data (h' := sortingHeap (copyHeap s.heap vs) (s.heap.objs.size + 1) vs) (R := R) (enc := fun d : PyData => d) (vs := vs) (bs := ds) false e er' (by rw [hm]; exact hal)
  rw [hm] at q
  exact h _ (by rw [sortVals_length false rfl]; exact e.length) q
end

section
open PySem.W
variable {X : Cx} {c : Cc} {W : Addr → Prop} {H H' : Hp}
theorem each_reads {pins : List (Addr × Obj)} {s : Shared} {σ : L2.St} (I : Inv X pins σ H s) : ∀ {us : List Value} {ds : List D}, (∀ d ∈ ds, d.plain = true) → EachIs (RepR X c W H) us ds → EachIs (fun v b => ∃ as, Reads s.heap v b as) us ds
  | _, _, _, .nil => .nil
  | _, _, hp, .cons ⟨x, p, q⟩ t => .cons (Dp.reads I _ x _ (Rep.dp hid_same _ q (hp _ List.mem_cons_self)) p) (each_reads I (fun d hd => hp d (List.mem_cons_of_mem _ hd)) t)
theorem sorted_uniq {xs ys : List Int} (h : xs.Perm ys) (h1 : xs.Pairwise (· ≤ ·)) (h2 : ys.Pairwise (· ≤ ·)) : xs = ys := List.Perm.eq_of_pairwise (fun a b _ _ h1 h2 => by omega) h1 h2 h
theorem sorted_ms (is : List Int) : (is.mergeSort (fun a b => decide (a ≤ b))).Pairwise (· ≤ ·) :=
  (List.pairwise_mergeSort (fun a b c h h' => by simp only [decide_eq_true_eq] at *; omega) (fun a b => by simp only [Bool.or_eq_true, decide_eq_true_eq]; omega) is).imp fun h => of_decide_eq_true h
theorem keyD_ints : ∀ {ks : List Key} {is : List Int}, ks.map keyD = is.map PyData.int → ks = is.map Sum.inl
  | [], [], _ => rfl
  | [], _ :: _, h => by cases h
  | _ :: _, [], h => by cases h
  | k :: ks, i :: is, h => by
    rw [List.map_cons, List.map_cons] at h
    have h1 := (List.cons.inj h).1
    cases k with
    | inl j => cases h1; rw [List.map_cons, keyD_ints (List.cons.inj h).2]
    | inr j => cases h1
theorem bf_sorted (hc : X.calm = true) (hu : X.A.units + 128 < cLine) : CallR X (.builtin "sorted") (rBf X.K c .sorted) := by
  intro pins s σ H vs us Q I r h
  obtain ⟨W, ds, d, wa, rb, hf, q⟩ := h
  have main : ∀ (a : Addr) (xs : List V) (its : List Value) (ds : List D) (d : D), SrtAt X.prog X.w X.A X.xe s a its → RepL X.K c.a0 (hid W H) xs ds → Vals xs its → xs.length ≤ sizeLine → (sortD ds).map PyData.list = some d → (∀ v H', New X.K c W H H' v d → Q v H') →
      wpAny (model X.prog X.w) X.A (call (.builtin "sorted") [.ref a]) (EP X pins σ Q) X.xe s := by
    intro a xs its ds d hsrt ra r' hz hf q
    obtain ⟨es, hs, rfl⟩ := Option.map_eq_some_iff.mp hf
    unfold sortD at hs
    split at hs
    · rename_i hcnd
      cases hs
      rw [Bool.and_eq_true] at hcnd
      obtain ⟨hal, hty⟩ := hcnd
      obtain ⟨al, pl, dp⟩ := alk_of hal
      have e := each_of ra r'
      have er := each_reads I (fun d hd => plain_mem pl hd) e
      have hal' : AllAlike ds := fun d hd d' hd' => al.1 d hd d' hd'
      have hL : ds.length ≤ sizeLine := by rw [← ra.length]; exact hz
      have hu' : ∀ b, b ∈ ds → X.A.units + 2 + b.depth < cLine := fun b hb => by
        have := dp b hb
        omega
      have fin : ∀ out : List Value, out.length = ds.length → EachIs (RepR X c W H) out (ds.mergeSort (dataLe false fun d => d)) → EP X pins σ Q (.ref (s.heap.objs.size + 1)) { s with heap := sortedAll s.heap its (List.toArray out) } := fun out hlen ho => by
        obtain ⟨ys, ry, rep⟩ := of_each ho
        have hp : H (s.heap.objs.size + 1) = none := I.hok.fresh (Nat.le_succ _)
        obtain ⟨n, hat⟩ := sortedAll_at s.heap its out.toArray
        refine ⟨.ref (s.heap.objs.size + 1), upd H (s.heap.objs.size + 1) (.lst ys), I.laid (t' := s.toks) (fun b o e => sortedAll_old e) (Nat.le_succ _) ⟨?_, out, n, ry, hat⟩, rfl, q _ _ (.mu hp (.lst rep))⟩
        rw [ry.length, hlen]
        exact hL
      rcases Bool.or_eq_true_iff.mp hty with h3 | h3
      · rcases Bool.or_eq_true_iff.mp h3 with h1 | h1
        · refine sorted_all hsrt e er hal' (.inl fun d hd => ?_) hL hu' fin
          have := List.all_eq_true.mp h1 d hd
          unfold isTup1 at this
          split at this
          · exact ⟨_, _, rfl⟩
          · cases this
        · refine sorted_all hsrt e er hal' (.inr fun d hd => ?_) hL hu' fin
          refine ⟨al.2 d hd, fun ys z => ?_⟩
          have := List.all_eq_true.mp h1 d hd
          rw [z] at this
          cases this
      · cases ds with
        | nil => exact absurd h3 (by decide)
        | cons d0 ds =>
          rw [Bool.and_eq_true] at h3
          obtain ⟨h4, h5⟩ := h3
          have e0 : d0 = .tuple [] := by
            cases d0 with
            | tuple l => cases l with
              | nil => rfl
              | cons _ _ => cases h4
            | _ => cases h4
          subst e0
          refine sorted_tup0 hsrt e er hal' (fun d hd => ?_) hL hu' fin
          have := List.all_eq_true.mp h5 d (List.mem_cons_of_mem _ hd)
          unfold isTup at this
          split at this
          · exact ⟨_, rfl⟩
          · cases this
    · cases hs
  unfold bfD at hf
  split at hf <;> first | contradiction | skip
  · rename_i ds _
    obtain ⟨v, rfl, rv⟩ := rb.one
    obtain ⟨a, xs, rfl, _, ha, ra⟩ := rv.lst wa
    rw [Vals.ref1 r]
    obtain ⟨its, r', ht, hz⟩ := I.list (.inl (.inl ha))
    exact main a xs its ds d (fun κ Q S hL h => sorted_vals ht.isList S hL h) ra r' hz hf q
  · rename_i ds _
    obtain ⟨v, rfl, rv⟩ := rb.one
    obtain ⟨a, xs, rfl, ha, ra⟩ := rv.tup
    rw [Vals.ref1 r]
    obtain ⟨its, r', ht, hz⟩ := I.tuple (.inl (.inl ha))
    exact main a xs its ds d (fun κ Q S hL h => sorted_tupV (show s.heap.IsTuple a its.toArray from ht) S hL h) ra r' hz hf q
  · split at hf
    · rename_i qs _ ps e
      split at hf
      · rename_i is hi
        split at hf
        · rename_i hl
          cases hf
          obtain ⟨v, rfl, rv⟩ := rb.one
          obtain ⟨a, o, rfl, ha, hd⟩ := rv.dict e
          rcases hd with ⟨_, kvs, rfl, hp⟩ | ⟨h, _⟩
          · have hk : kvs.map (·.1) = is.map Sum.inl := by
              have e1 := hp.1
              rw [intsD_some hi] at e1
              exact keyD_ints (by rw [List.map_map]; exact e1.symm)
            refine call_sortedDI hc pins s σ H _ us Q I r ⟨a, kvs, is, rfl, .inl ha, hk, of_decide_eq_true hl, fun ys p hp1 hp2 hn => ?_⟩
            have ey : ys = is.mergeSort (fun a b => decide (a ≤ b)) := sorted_uniq (hp1.trans (List.mergeSort_perm is _).symm) hp2 (sorted_ms is)
            rw [← ey] at q
            exact q _ _ (.mu hn (.lst (RepL.ints ys)))
          · cases h
        · cases hf
      · cases hf
    · cases hf
theorem bf_abs : CallR X (.builtin "abs") (rBf X.K c .abs) := by
  intro pins s σ H vs us Q I r h
  obtain ⟨W, ds, d, wa, rb, hf, q⟩ := h
  unfold bfD at hf
  split at hf <;> first | contradiction | skip
  · cases hf
    obtain ⟨v, rfl, rv⟩ := rb.one
    cases rv.int
    exact call_abs pins s σ H _ us Q I r ⟨_, rfl, q _ _ (.old (.int _))⟩
theorem bf_int : CallR X (.type "int") (rBf X.K c .int) := by
  intro pins s σ H vs us Q I r h
  obtain ⟨W, ds, d, wa, rb, hf, q⟩ := h
  unfold bfD at hf
  split at hf <;> first | contradiction | skip
  · cases hf
    obtain ⟨v, rfl, rv⟩ := rb.one
    cases rv.int
    exact call_int1 pins s σ H _ us Q I r (.inl ⟨_, rfl, q _ _ (.old (.int _))⟩)
  · cases hf
    obtain ⟨v, rfl, rv⟩ := rb.one
    cases rv.bool
    exact call_int1 pins s σ H _ us Q I r (.inr ⟨_, rfl, q _ _ (.old (.int _))⟩)
def tyN : Ty → String
  | .int => "int"
  | .bool => "bool"
  | .str => "str"
  | .tuple => "tuple"
  | .list => "list"
  | .dict => "dict"
def rIsi (K : PySem.W.Frag) (c : Cc) : List V → Hp → VK → Prop := fun vs H Q => ∃ W v t d b, W c.a0 ∧ vs = [v, .ty (tyN t)] ∧ RepB K c W H v d ∧ bfD (.isi t) [d] = some (.bool b) ∧ Q (.bl b) H
theorem isi_dict {t : Ty} {ps : List (D × D)} {b : Bool} (hx : ¬ ∃ es, (PyData.dict ps) = xtD es) (h : bfD (.isi t) [.dict ps] = some (.bool b)) : False := by
  unfold bfD at h
  dsimp only at h
  split at h
  · rename_i es he
    exact hx ⟨es, he⟩
  · cases h
  · rename_i h2 h1
    exact h1 ps rfl
theorem bf_isi : CallR X (.builtin "isinstance") (rIsi X.K c) := by
  intro pins s σ H vs us Q I r h
  obtain ⟨W, v, t, d, b, wa, rfl, rv, hf, q⟩ := h
  cases r with
  | @cons _ u _ us' ru rr =>
    cases rr with
    | @cons _ t' _ us'' rt rr =>
      cases rr
      cases rt
      have fin : ∀ k : Bool, k = b → ∀ tk, EP X pins σ Q (.bool k) { s with toks := tk } := fun k e tk => ⟨.bl b, H, I.tok _, by rw [e]; rfl, q⟩
      have fin' : ∀ k : Bool, k = b → EP X pins σ Q (.bool k) s := fun k e => fin k e s.toks
      by_cases hx : ∃ es, d = xtD es
      · obtain ⟨es, rfl⟩ := hx
        obtain ⟨a, o, xs, rfl, _, ha, _⟩ := rv.xt
        cases ru
        obtain ⟨its, _, ht, _⟩ := I.tuple (.inl (.inr ⟨o, ha⟩))
        obtain ⟨o, h1, h2, _⟩ := ht
        cases t with
        | int => cases hf; exact IsiPair.tuple_int h1 h2 (fin _ rfl _)
        | bool => cases hf; exact IsiPair.tuple_bool h1 h2 (fin _ rfl _)
        | str => cases hf; exact IsiPair.tuple_str h1 h2 (fin _ rfl _)
        | tuple => cases hf; exact IsiPair.tuple_tuple h1 h2 (fin' _ rfl)
        | list => cases hf; exact IsiPair.tuple_list h1 h2 (fin _ rfl _)
        | dict => cases hf; exact IsiPair.tuple_dict h1 h2 (fin _ rfl _)
      have go : ∀ as, Reads s.heap u d as → bfD (.isi t) [d] = some (.bool b) → wpAny (model X.prog X.w) X.A (call (.builtin "isinstance") [u, .type (tyN t)]) (EP X pins σ Q) X.xe s := fun as rd hf => by
        cases t with
        | int => refine isinstance_int_data rd fun tk _ => fin _ ?_ tk; cases d <;> first | (cases hf; done) | (cases hf; rfl) | exact (isi_dict hx hf).elim
        | bool => refine isinstance_bool_data rd fun tk _ => fin _ ?_ tk; cases d <;> first | (cases hf; done) | (cases hf; rfl) | exact (isi_dict hx hf).elim
        | str => refine isinstance_str_data rd fun tk _ => fin _ ?_ tk; cases d <;> first | (cases hf; done) | (cases hf; rfl) | exact (isi_dict hx hf).elim
        | tuple => refine isinstance_tuple_data rd fun tk _ => fin _ ?_ tk; cases d <;> first | (cases hf; done) | (cases hf; rfl) | exact (isi_dict hx hf).elim
        | list => refine isinstance_list_data rd fun tk _ => fin _ ?_ tk; cases d <;> first | (cases hf; done) | (cases hf; rfl) | exact (isi_dict hx hf).elim
        | dict => refine isinstance_dict_data rd fun tk _ => fin _ ?_ tk; cases d <;> first | (cases hf; done) | (cases hf; rfl) | exact (isi_dict hx hf).elim
      cases d with
      | none => cases rv.none; cases ru; exact go _ .none hf
      | bool k => cases rv.bool; cases ru; exact go _ (.bool k) hf
      | int i => cases rv.int; obtain ⟨tk, rfl⟩ := ru; exact go _ (.int i tk) hf
      | str x => cases rv.str; obtain ⟨tk, rfl⟩ := ru; exact go _ (.str x tk) hf
      | list ds =>
        obtain ⟨a, xs, rfl, _, ha, _⟩ := rv.lst wa
        cases ru
        obtain ⟨its, _, ht, _⟩ := I.list (.inl (.inl ha))
        obtain ⟨o, h1, h2, _⟩ := ht.isList
        cases t with
        | int => cases hf; exact IsiPair.list_int h1 h2 (fin _ rfl _)
        | bool => cases hf; exact IsiPair.list_bool h1 h2 (fin _ rfl _)
        | str => cases hf; exact IsiPair.list_str h1 h2 (fin _ rfl _)
        | tuple => cases hf; exact IsiPair.list_tuple h1 h2 (fin _ rfl _)
        | list => cases hf; exact IsiPair.list_list h1 h2 (fin' _ rfl)
        | dict => cases hf; exact IsiPair.list_dict h1 h2 (fin _ rfl _)
      | tuple ds =>
        obtain ⟨a, xs, rfl, ha, _⟩ := rv.tup
        cases ru
        obtain ⟨its, _, ht, _⟩ := I.tuple (.inl (.inl ha))
        obtain ⟨o, h1, h2, _⟩ := ht
        cases t with
        | int => cases hf; exact IsiPair.tuple_int h1 h2 (fin _ rfl _)
        | bool => cases hf; exact IsiPair.tuple_bool h1 h2 (fin _ rfl _)
        | str => cases hf; exact IsiPair.tuple_str h1 h2 (fin _ rfl _)
        | tuple => cases hf; exact IsiPair.tuple_tuple h1 h2 (fin' _ rfl)
        | list => cases hf; exact IsiPair.tuple_list h1 h2 (fin _ rfl _)
        | dict => cases hf; exact IsiPair.tuple_dict h1 h2 (fin _ rfl _)
      | dict _ => exact (isi_dict hx hf).elim

/-! ### methods -/
def rMe (K : PySem.W.Frag) (c : Cc) (f : Me) (w : List D → D) : V → List V → Hp → VK → Prop := fun x vs H Q => ∃ W es ds d, W c.a0 ∧ RepB K c W H x (w es) ∧ RepBL K c W H vs ds ∧ meD f (w es) ds = some d ∧ ∀ v H', New K c W H H' v d → Q v H'
/-- the method of a list -/
theorem me_countL (hu : X.A.units + 128 < cLine) : MtR X "list.count" (rMe X.K c .count .list) := by
  intro pins s σ H x xs v us Q I rx rxs h
  obtain ⟨W, es, ds, d, wa, rd, rl, hf, q⟩ := h
  unfold meD at hf
  split at hf <;> first | contradiction | skip
  · rename_i y _ he
    cases he
    split at hf
    · rename_i hs
      cases hf
      rw [Bool.and_eq_true] at hs
      obtain ⟨w', rfl, rw'⟩ := rl.one
      cases rxs with
      | @cons _ uy _ ut ry rt =>
        cases rt
        obtain ⟨bs, r2⟩ := Dp.reads I _ _ uy (rw'.dp wa (shp_pl hs.1)) ry
        obtain ⟨a, zs, rfl, _, ha, ra⟩ := rd.lst wa
        cases rx
        obtain ⟨its, r', ht, _⟩ := I.list (.inl (.inl ha))
        have p1 : PyData.plainAll es = true := by
          have := shp_pl hs.2
          simpa [PyData.plain] using this
        obtain ⟨as, rr⟩ := ra.reads I p1 r'
        have h1 := shp_depth hs.1
        have h3 : min (PyData.depthAll es) y.depth ≤ y.depth := Nat.min_le_right _ _
        exact SeqAt.count_list_data ht.isList (by simpa using rr) r2 p1 (shp_pl hs.1) (by omega) ⟨.int _, H, I.tok _, ⟨_, rfl⟩, q _ _ (.old (.int _))⟩
    · cases hf
theorem me_indexL (hu : X.A.units + 128 < cLine) : MtR X "list.index" (rMe X.K c .index .list) := by
  intro pins s σ H x xs v us Q I rx rxs h
  obtain ⟨W, es, ds, d, wa, rd, rl, hf, q⟩ := h
  unfold meD at hf
  split at hf <;> first | contradiction | skip
  · rename_i y _ he
    cases he
    split at hf
    · rename_i hs
      rw [Bool.and_eq_true] at hs
      obtain ⟨j, hj, rfl⟩ := Option.map_eq_some_iff.mp hf
      obtain ⟨w', rfl, rw'⟩ := rl.one
      obtain ⟨hlt, h1, h2⟩ := List.findIdx?_eq_some_iff_getElem.mp hj
      refine mt_indexD (by omega) pins s σ H x _ v us Q I rx rxs ?_
      obtain ⟨a, zs, rfl, _, ha, ra⟩ := rd.lst wa
      refine ⟨a, w', y, es, j, es[j], rfl, rfl, rd.dp wa (PyData.plain_of_canLay0 _ (SeqAt.canLay_of_shaped hs.2)), rw'.dp wa (PyData.plain_of_canLay0 _ (SeqAt.canLay_of_shaped hs.1)), hs.2, hs.1, List.getElem?_eq_getElem hlt, h1, fun m z' hm hz => ?_, q _ _ (.old (.int _))⟩
      have := h2 m hm
      obtain ⟨hm2, rfl⟩ := List.getElem?_eq_some_iff.mp hz
      simpa using this
    · cases hf
/-- the method of a tuple -/
theorem me_countT (hu : X.A.units + 128 < cLine) : MtR X "tuple.count" (rMe X.K c .count xtD) := by
  intro pins s σ H x xs v us Q I rx rxs h
  obtain ⟨W, es, ds, d, wa, rd, rl, hf, q⟩ := h
  unfold meD at hf
  split at hf <;> first | contradiction | skip
  · rename_i y _ he
    cases he
    split at hf
    · rename_i hs
      cases hf
      rw [Bool.and_eq_true] at hs
      obtain ⟨w', rfl, rw'⟩ := rl.one
      cases rxs with
      | @cons _ uy _ ut ry rt =>
        cases rt
        obtain ⟨bs, r2⟩ := Dp.reads I _ _ uy (rw'.dp wa (shp_pl hs.1)) ry
        obtain ⟨a, o, zs, rfl, _, ha, _, _, ra⟩ := rd.xt
        cases rx
        obtain ⟨its, r', ht, _⟩ := I.tuple (.inl (.inr ⟨o, ha⟩))
        have p1 : PyData.plainAll es = true := by
          have := shp_pl hs.2
          simpa [PyData.plain] using this
        obtain ⟨as, rr⟩ := ra.reads I p1 r'
        have h1 := shp_depth hs.1
        have h3 : min (PyData.depthAll es) y.depth ≤ y.depth := Nat.min_le_right _ _
        exact SeqAt.count_tuple_data ht (by simpa using rr) r2 p1 (shp_pl hs.1) (by omega) ⟨.int _, H, I.tok _, ⟨_, rfl⟩, q _ _ (.old (.int _))⟩
    · cases hf
end
end Ly

set_option Elab.async false
set_option linter.all false
set_option maxRecDepth 100000
set_option maxHeartbeats 2000000
/-! Ly: what an expression's reading is, construct by construct. -/
namespace Ly
open PySem PySem.Spec PyProof.Rows L2

/-- the exceptions of the program: class number, its class, its own dict -/
abbrev Exc := Nat → Value → Option Addr → Prop
section
variable {α β γ : Type}
abbrev RepT (α β : Type) := (Addr → Prop) → Hp → β → α → Prop
/-- behind an evaluation -/
def Po (c : Cc) (Wx : WX) (exc : Exc) (rep : RepT α β) (W : Addr → Prop) (σ : L2.St) (r : R α) (H : Hp) (Q : β → Hp → Prop) : Prop :=
  match r with
  | .ok d dr => ∀ v H', GrE c H H' → DrOk H' c.a0 W dr → rep W H' v d → Q v H'
  | .err e dr => ∀ H', GrE c H H' → DrOk H' c.a0 W dr → ∀ cls dd, exc e cls dd → Wx cls dd σ H'
  | .stk => False
def okR (K : PySem.W.Frag) (c : Cc) (Wx : WX) (exc : Exc) (rep : RepT α β) (g : List Sl → Dr → R α) (σ : L2.St) (H : Hp) (Q : β → Hp → Prop) : Prop :=
  ∃ env dr W, Mt K c ⟨env, dr⟩ σ H W ∧ Po c Wx exc rep W σ (g env dr) H Q
variable {K : PySem.W.Frag} {c : Cc} {Wx : WX} {exc : Exc} {rep rep' : RepT α β} {rep2 : RepT γ β} {W : Addr → Prop} {σ : L2.St} {r : R α} {H H' : Hp} {Q Q' : β → Hp → Prop}
theorem Po.mono (h : Po c Wx exc rep W σ r H Q) (q : ∀ v H', Q v H' → Q' v H') : Po c Wx exc rep W σ r H Q' := by
  cases r with
  | ok d dr => exact fun v H' g d r => q _ _ (h v H' g d r)
  | err e dr => exact h
  | stk => exact h
/-- another wish about the value -/
theorem Po.wk (h : Po c Wx exc rep W σ r H Q) (q : ∀ v H' d, rep' W H' v d → rep W H' v d) : Po c Wx exc rep' W σ r H Q := by
  cases r with
  | ok d dr => exact fun v H' g d r => h v H' g d (q _ _ _ r)
  | err e dr => exact h
  | stk => exact h
theorem Po.bind {α β γ δ : Type} {c : Cc} {Wx : WX} {exc : Exc} {rep : RepT α β} {rep2 : RepT γ δ} {W : Addr → Prop} {σ : L2.St} {r : R α} {H : Hp} {k : α → Dr → R γ} {Q : δ → Hp → Prop} (h : Po c Wx exc rep2 W σ (r.bind k) H Q) :
    Po c Wx exc rep W σ r H (fun v H1 => ∃ a dr1, GrE c H H1 ∧ DrOk H1 c.a0 W dr1 ∧ rep W H1 v a ∧ Po c Wx exc rep2 W σ (k a dr1) H1 Q) := by
  cases r with
  | ok a dr1 =>
    have h : Po c Wx exc rep2 W σ (k a dr1) H Q := h
    intro v H1 g1 d1 r1
    refine ⟨a, dr1, g1, d1, r1, ?_⟩
    cases e : k a dr1 with
    | ok b dr2 =>
      rw [e] at h
      exact fun v2 H2 g2 d2 r2 => h v2 H2 (g1.trans g2) d2 r2
    | err x dr2 =>
      rw [e] at h
      exact fun H2 g2 d2 => h H2 (g1.trans g2) d2
    | stk => rw [e] at h; exact h
  | err x dr1 => exact h
  | stk => exact h
/-- the value is there -/
theorem Po.here {d : α} {dr : Dr} {v : β} (m : Mt K c ⟨[], dr⟩ [] H W ∨ (DrOk H c.a0 W dr)) (h : Po c Wx exc rep W σ (.ok d dr) H Q) (r : rep W H v d) : Q v H := by
  have d0 : DrOk H c.a0 W dr := by
    rcases m with m | m
    · exact m.dr
    · exact m
  exact h v H (GrE.refl d0.a0) d0 r
end

theorem _root_.L2.PE.imp {X : Cx} {e : Expr} {t t' : TE} (h : PE X e t) (q : ∀ σ H Q, t' σ H Q → t σ H Q) : PE X e t' := ⟨fun pins s σ H Q I h' => h.run pins s σ H Q I (q σ H Q h')⟩
theorem _root_.L2.PT.imp {X : Cx} {e : Expr} {t t' : TT} (h : PT X e t) (q : ∀ σ H Q, t' σ H Q → t σ H Q) : PT X e t' := ⟨fun pins s σ H Q I h' => h.run pins s σ H Q I (q σ H Q h')⟩
theorem _root_.L2.PW.imp {X : Cx} {e : Expr} {t t' : TT} (h : PW X e t) (q : ∀ σ H Q, t' σ H Q → t σ H Q) : PW X e t' := ⟨fun w pins s σ H Q I h' => h.run w pins s σ H Q I (q σ H Q h')⟩
theorem _root_.L2.PA.imp {X : Cx} {es : List Expr} {t t' : TA} (h : PA X es t) (q : ∀ σ H Q, t' σ H Q → t σ H Q) : PA X es t' := ⟨fun pos pins s σ H Q I h' => h.run pos pins s σ H Q I (q σ H Q h')⟩

/-- a test's answer -/
abbrev RepX : RepT D Bool := fun _ _ b d => d = .bool b
section
variable (X : Cx) (F : Nat → List D → Dr → Oc) (c : Cc) (Wx : WX) (exc : Exc)
/-- an expression does what its small one says, in all modes -/
structure Tri (e : Expr) (x : Ex) : Prop where
  fz : PE X e (okR X.K c Wx exc (RepF X.K c) (ev F .frz x))
  bo : PE X e (okR X.K c Wx exc (RepB X.K c) (ev F .bor x))
  te : PT X e (okR X.K c Wx exc RepX (ev F .tst x))
structure Tris (es : List Expr) (xs : Exs) : Prop where
  fz : PA X es (okR X.K c Wx exc (fun W H vs ds => RepL X.K c.a0 (hid W H) vs ds) (evs F .frz xs))
  bo : PA X es (okR X.K c Wx exc (fun W H vs ds => RepBL X.K c W H vs ds) (evs F .bor xs))
end
/-- an evaluation ahead of its mode -/
def lft (o : Option D) (dr : Dr) : R D :=
  match o with
  | some d => .ok d dr
  | none => .stk
theorem lift_eq (m : Md) (o : Option D) (dr : Dr) : lift m o dr = (lft o dr).bind (fin m) := by cases o <;> rfl
theorem R.bind_assoc {α β γ : Type} (r : R α) (f : α → Dr → R β) (g : β → Dr → R γ) : (r.bind f).bind g = r.bind fun a dr => (f a dr).bind g := by cases r <;> rfl
section
variable {X : Cx} {F : Nat → List D → Dr → Oc} {c : Cc} {Wx : WX} {exc : Exc} {e a b : Expr} {x : Ex} {W : Addr → Prop} {σ : L2.St} {H : Hp}
theorem fin_bo (d : D) (dr : Dr) : fin .bor d dr = .ok d dr := rfl
theorem fin_fz (d : D) (dr : Dr) : fin .frz d dr = .ok d dr := rfl
theorem bind_ok {α : Type} (r : R α) : (r.bind fun d dr => .ok d dr) = r := by cases r <;> rfl
/-- from an evaluation whose value is new or frozen -/
theorem Tri.of_raw {raw : List Sl → Dr → R D} (h : PE X e (okR X.K c Wx exc (RepF X.K c) raw)) (hr : ∀ m env dr, ev F m x env dr = (raw env dr).bind (fin m))
    (he : ∀ whole, isTrue e X.env whole = (do let v ← whole; standAt e.pos; holding [v] (truthy v))) : Tri X F c Wx exc e x := by
  have e1 : ∀ env dr, ev F .frz x env dr = raw env dr := fun env dr => by rw [hr]; exact bind_ok _
  have e2 : ∀ env dr, ev F .bor x env dr = raw env dr := fun env dr => by rw [hr]; exact bind_ok _
  refine ⟨h.imp fun σ H Q ⟨env, dr, W, m, p⟩ => ⟨env, dr, W, m, by rw [e1] at p; exact p⟩,
    h.imp fun σ H Q ⟨env, dr, W, m, p⟩ => ⟨env, dr, W, m, by rw [e2] at p; exact p.wk fun _ _ _ r => .inl r⟩, ?_⟩
  refine (pt_truth h he).imp fun σ H Q ⟨env, dr, W, m, p⟩ => ⟨env, dr, W, m, ?_⟩
  rw [hr] at p
  refine p.bind.mono fun v H1 ⟨d, dr1, g1, d1, r1, p1⟩ => ?_
  have r1' : RepB X.K c W H1 v d := .inl r1
  show ∃ k, TruV X.K v H1 k ∧ Q k H1
  have p2 : Po c Wx exc RepX W σ (fin .tst d dr1) H1 Q := p1
  unfold fin at p2
  cases ht : truD d with
  | none => simp only [ht] at p2; exact False.elim p2
  | some k =>
    simp only [ht] at p2
    exact ⟨k, tru_of m.wa r1' ht, p2 k H1 (GrE.refl d1.a0) d1 rfl⟩
/-- the value of an operator -/
theorem fin_lft {o : Option D} {dr : Dr} {Q : VK} (m : Mt X.K c ⟨[], dr⟩ [] H W ∨ True) (wa : W c.a0) (dm : ∀ b, W b → H b ≠ none) (d0 : DrOk H c.a0 W dr) (p : Po c Wx exc (RepF X.K c) W σ (lft o dr) H Q) :
    ∃ d, o = some d ∧ ∀ v H', New X.K c W H H' v d → Q v H' := by
  cases o with
  | none => exact False.elim p
  | some d => exact ⟨d, rfl, fun v H' n => p v H' (n.gr d0.a0) (d0.same n.same) (n.rep dm)⟩

/-! ### the constructs -/
theorem tri_var {i : Nat} {y : Str} {pos : Pos} (hN : X.N[i]? = some y) (hv : Vis X.env.scope y) (hd : (y == ("__debug__" : Str)) = false) (hcd : (y == ("__classdict__" : Str)) = false) : Tri X F c Wx exc (.Name y pos) (.var i) := by
  have base := pe_var (X := X) (pos := pos) hN hv hd hcd
  have look : ∀ {env dr W σ H d}, Mt X.K c ⟨env, dr⟩ σ H W → env[i]? = some (.fz d) → ∃ v, σ[i]? = some (some v) ∧ Rep X.K c.a0 (hid W H) v d := fun {env dr W σ H d} m e => m.sl i _ e
  have looko : ∀ {env dr W σ H d}, Mt X.K c ⟨env, dr⟩ σ H W → env[i]? = some (.ow d) → ∃ v, σ[i]? = some (some v) ∧ RepB X.K c W H v d := fun {env dr W σ H d} m e => by
    obtain ⟨⟨a, o, ea, ne, w, ha, hc⟩, _⟩ := m.sl i _ e
    exact ⟨.ref a, ea, .inr ⟨a, o, rfl, ne, w, ha, hc⟩⟩
  refine ⟨base.imp fun σ H Q ⟨env, dr, W, m, p⟩ => ?_, base.imp fun σ H Q ⟨env, dr, W, m, p⟩ => ?_, ?_⟩
  · have p : Po c Wx exc (RepF X.K c) W σ (vari .frz env[i]? dr) H Q := p
    cases e : env[i]? with
    | none => rw [e] at p; exact False.elim p
    | some sl =>
      cases sl with
      | un => rw [e] at p; exact False.elim p
      | fz d =>
        rw [e] at p
        obtain ⟨v, h1, h2⟩ := look m e
        exact ⟨v, h1, p v H m.gr m.dr h2⟩
      | ow d => rw [e] at p; exact False.elim p
  · have p : Po c Wx exc (RepB X.K c) W σ (vari .bor env[i]? dr) H Q := p
    cases e : env[i]? with
    | none => rw [e] at p; exact False.elim p
    | some sl =>
      cases sl with
      | un => rw [e] at p; exact False.elim p
      | fz d =>
        rw [e] at p
        obtain ⟨v, h1, h2⟩ := look m e
        exact ⟨v, h1, p v H m.gr m.dr (.inl h2)⟩
      | ow d =>
        rw [e] at p
        obtain ⟨v, h1, h2⟩ := looko m e
        exact ⟨v, h1, p v H m.gr m.dr h2⟩
  · refine (pt_truth base (fun _ => rfl)).imp fun σ H Q ⟨env, dr, W, m, p⟩ => ?_
    have p : Po c Wx exc RepX W σ (vari .tst env[i]? dr) H Q := p
    have done : ∀ {v d}, σ[i]? = some (some v) → RepB X.K c W H v d → Po c Wx exc RepX W σ (fin .tst d dr) H Q → tVar i σ H fun x H' => ∃ k, TruV X.K x H' k ∧ Q k H' := fun {v d} h1 h2 p => by
      refine ⟨v, h1, ?_⟩
      unfold fin at p
      cases ht : truD d with
      | none => simp only [ht] at p; exact False.elim p
      | some k =>
        simp only [ht] at p
        exact ⟨k, tru_of m.wa h2 ht, p k H m.gr m.dr rfl⟩
    cases e : env[i]? with
    | none => rw [e] at p; exact False.elim p
    | some sl =>
      cases sl with
      | un => rw [e] at p; exact False.elim p
      | fz d =>
        rw [e] at p
        obtain ⟨v, h1, h2⟩ := look m e
        exact done h1 (.inl h2) p
      | ow d =>
        rw [e] at p
        obtain ⟨v, h1, h2⟩ := looko m e
        exact done h1 h2 p
/-- a constant -/
theorem tri_con {d : D} {v : V} (h : PE X e (tC v)) (hv : ∀ F' : Hp, Rep X.K c.a0 F' v d) (he : ∀ whole, isTrue e X.env whole = (do let v ← whole; standAt e.pos; holding [v] (truthy v))) : Tri X F c Wx exc e (.con d) :=
  .of_raw (raw := fun _ dr => .ok d dr) (h.imp fun σ H Q ⟨env, dr, W, m, p⟩ => p v H m.gr m.dr (hv _)) (fun m env dr => rfl) he
variable {x1 x2 : Ex}
theorem tri_bin {o : Bo} {pos : Pos} (ha : Tri X F c Wx exc a x1) (hb : Tri X F c Wx exc b x2) : Tri X F c Wx exc (.BinOp a (bOp o) b pos) (.bin o x1 x2) := by
  refine .of_raw (raw := fun env dr => (ev F .bor x1 env dr).bind fun x dr => (ev F .bor x2 env dr).bind fun y dr => lft (binD o x y) dr)
    ((pe_op (op_binD (c := c) o) ha.bo hb.bo).imp fun σ H Q ⟨env, dr, W, m, p⟩ => ⟨env, dr, W, m, p.bind.mono fun v H1 ⟨d1, dr1, g1, e1, r1, p1⟩ =>
      ⟨env, dr1, W, m.up g1 e1, p1.bind.mono fun u H2 ⟨d2, dr2, g2, e2, r2, p2⟩ => ?_⟩⟩) (fun m env dr => ?_) (fun _ => rfl)
  · obtain ⟨d, hd, q⟩ := fin_lft (.inr trivial) m.wa ((m.up g1 e1).up g2 e2).dom e2 p2
    exact ⟨W, d1, d2, d, m.wa, r1.grow m.wa g2, r2, hd, q⟩
  · show ((ev F .bor x1 env dr).bind _) = _
    rw [R.bind_assoc]
    congr 1; funext d1 dr1
    rw [R.bind_assoc]
    congr 1; funext d2 dr2
    exact lift_eq m _ _
theorem tri_neg {pos : Pos} (ha : Tri X F c Wx exc a x1) : Tri X F c Wx exc (.UnaryOp .USub a pos) (.neg x1) := by
  refine .of_raw (raw := fun env dr => (ev F .bor x1 env dr).bind fun x dr => lft (negD x) dr)
    ((pe_un (un_negD (c := c)) ha.bo).imp fun σ H Q ⟨env, dr, W, m, p⟩ => ⟨env, dr, W, m, p.bind.mono fun v H1 ⟨d1, dr1, g1, e1, r1, p1⟩ => ?_⟩) (fun m env dr => ?_) (fun _ => rfl)
  · obtain ⟨d, hd, q⟩ := fin_lft (.inr trivial) m.wa (m.up g1 e1).dom e1 p1
    exact ⟨W, d1, d, m.wa, r1, hd, q⟩
  · show ((ev F .bor x1 env dr).bind _) = _
    rw [R.bind_assoc]
    congr 1; funext d1 dr1
    exact lift_eq m _ _
theorem tri_cmp {o : Co} {pos : Pos} (hu : X.A.units + 128 < cLine) (hm : behindInMarks (cOp o) b = false) (ha : Tri X F c Wx exc a x1) (hb : Tri X F c Wx exc b x2) : Tri X F c Wx exc (.Compare a [cOp o] [b] pos) (.cmp o x1 x2) := by
  have go : ∀ {γ : Type} {rep : RepT D γ} {σ : L2.St} {H : Hp} {Q : γ → Hp → Prop} (T : VK), okR X.K c Wx exc rep (ev F .bor (.cmp o x1 x2)) σ H Q → (∀ k H' W', (∀ v, rep W' H' v (.bool k) → Q v H') → T (.bl k) H') → tOp (rCmp X.K c (cmpD o)) (okR X.K c Wx exc (RepB X.K c) (ev F .bor x1)) (okR X.K c Wx exc (RepB X.K c) (ev F .bor x2)) σ H T := by
    intro γ rep σ H Q T ⟨env, dr, W, m, p⟩ hT
    refine ⟨env, dr, W, m, Po.mono (Po.bind (k := fun x dr => (ev F .bor x2 env dr).bind fun y dr => liftB (cmpD o x y) dr) p) fun v H1 ⟨d1, dr1, g1, e1, r1, p1⟩ => ⟨env, dr1, W, m.up g1 e1, p1.bind.mono fun u H2 ⟨d2, dr2, g2, e2, r2, p2⟩ => ?_⟩⟩
    unfold liftB at p2
    cases hc : cmpD o d1 d2 with
    | none => simp only [hc] at p2; exact False.elim p2
    | some k =>
      simp only [hc] at p2
      exact ⟨W, d1, d2, k, m.wa, r1.grow m.wa g2, r2, hc, hT k H2 W fun v r => p2 v H2 (GrE.refl e2.a0) e2 r⟩
  have hu' : X.A.units + 65 < cLine := by omega
  exact ⟨(pe_cmpR (op_cmpD hu' o) ha.bo hb.bo hm).imp fun σ H Q p => go Q p fun k H' W' q => q _ (.bl k),
    (pe_cmpR (op_cmpD hu' o) ha.bo hb.bo hm).imp fun σ H Q p => go Q p fun k H' W' q => q _ (.inl (.bl k)),
    (pt_cmpR (op_cmpD hu' o) ha.bo hb.bo hm).imp fun σ H Q p => go _ p fun k H' W' q => ⟨k, rfl, q k rfl⟩⟩
theorem tri_chn {o o' : Co} {e3 : Expr} {x3 : Ex} {pos : Pos} (hu : X.A.units + 128 < cLine) (hm : lastMarks [cOp o, cOp o'] [b, e3] = false) (ha : Tri X F c Wx exc a x1) (hb : Tri X F c Wx exc b x2) (hc : Tri X F c Wx exc e3 x3) :
    Tri X F c Wx exc (.Compare a [cOp o, cOp o'] [b, e3] pos) (.chn o o' x1 x2 x3) := by
  have go : ∀ {γ : Type} {rep : RepT D γ} {σ : L2.St} {H : Hp} {Q : γ → Hp → Prop} (T : VK), okR X.K c Wx exc rep (ev F .bor (.chn o o' x1 x2 x3)) σ H Q → (∀ k H' W', (∀ v, rep W' H' v (.bool k) → Q v H') → T (.bl k) H') →
      tChain (rCmp X.K c (cmpD o)) (rCmp X.K c (cmpD o')) (okR X.K c Wx exc (RepB X.K c) (ev F .bor x1)) (okR X.K c Wx exc (RepB X.K c) (ev F .bor x2)) (okR X.K c Wx exc (RepB X.K c) (ev F .bor x3)) σ H T := by
    intro γ rep σ H Q T ⟨env, dr, W, m, p⟩ hT
    refine ⟨env, dr, W, m, Po.mono (Po.bind (k := fun x dr => (ev F .bor x2 env dr).bind fun y dr => match cmpD o x y with
      | some true => (ev F .bor x3 env dr).bind fun z dr => liftB (cmpD o' y z) dr
      | some false => .ok (.bool false) dr
      | none => .stk) p) fun v H1 ⟨d1, dr1, g1, e1, r1, p1⟩ => ⟨env, dr1, W, m.up g1 e1, p1.bind.mono fun u H2 ⟨d2, dr2, g2, e2, r2, p2⟩ => ?_⟩⟩
    have m2 := (m.up g1 e1).up g2 e2
    cases hc : cmpD o d1 d2 with
    | none => simp only [hc] at p2; exact False.elim p2
    | some k =>
      simp only [hc] at p2
      refine ⟨W, d1, d2, k, m.wa, r1.grow m.wa g2, r2, hc, k, rfl, ?_⟩
      cases k with
      | false => exact iteF (hT false H2 W fun v r => p2 v H2 m2.gr e2 r)
      | true =>
        refine iteT ⟨env, dr2, W, m2, p2.bind.mono fun w' H3 ⟨d3, dr3, g3, e3, r3, p3⟩ => ?_⟩
        unfold liftB at p3
        cases hc' : cmpD o' d2 d3 with
        | none => simp only [hc'] at p3; exact False.elim p3
        | some k' =>
          simp only [hc'] at p3
          exact ⟨W, d2, d3, k', m.wa, r2.grow m.wa g3, r3, hc', hT k' H3 W fun v r => p3 v H3 (GrE.refl e3.a0) e3 r⟩
  have hu' : X.A.units + 65 < cLine := by omega
  exact ⟨(pe_chain (op_cmpD hu' o) (op_cmpD hu' o') ha.bo hb.bo hc.bo hm).imp fun σ H Q p => go Q p fun k H' W' q => q _ (.bl k),
    (pe_chain (op_cmpD hu' o) (op_cmpD hu' o') ha.bo hb.bo hc.bo hm).imp fun σ H Q p => go Q p fun k H' W' q => q _ (.inl (.bl k)),
    (pt_chain (op_cmpD hu' o) (op_cmpD hu' o') ha.bo hb.bo hc.bo hm).imp fun σ H Q p => go _ p fun k H' W' q => ⟨k, rfl, q k rfl⟩⟩
end
end Ly

set_option Elab.async false
set_option linter.all false
set_option maxRecDepth 100000
set_option maxHeartbeats 2000000
/-! Ly: and, or, not, displays, subscripts, calls. -/
namespace Ly
open PySem PySem.Spec PyProof.Rows L2

section
variable {X : Cx} {c a b : Expr} {tA tB tC : TT} {pos : Pos}
theorem pt_ifE (hc : PT X c tA) (ha : PT X a tB) (hb : PT X b tC) : PT X (.IfExp c a b pos) (fun σ H Q => tA σ H fun k H1 => if k = true then tB σ H1 Q else tC σ H1 Q) := by
  refine ⟨fun pins s σ H Q I h => ?_⟩
  rw [PySem.isTrue]
  refine wpAny_bind (thn (hc.run pins s σ H _ I h) fun d s1 ⟨H1, I1, q1⟩ => ?_)
  cases d with
  | true => exact ha.run pins s1 σ H1 Q I1 q1
  | false => exact hb.run pins s1 σ H1 Q I1 q1
end
section
variable (X : Cx) (F : Nat → List D → Dr → Oc) (c : Cc) (Wx : WX) (exc : Exc)
structure TriB (op : BoolOp) (es : List Expr) (pos : Pos) (x : Ex) : Prop where
  fz : PE X (.BoolOp op es pos) (okR X.K c Wx exc (RepF X.K c) (ev F .frz x))
  bo : PE X (.BoolOp op es pos) (okR X.K c Wx exc (RepB X.K c) (ev F .bor x))
  te : PW X (.BoolOp op es pos) (okR X.K c Wx exc RepX (ev F .tst x))
/-- no starred item -/
def Plain (es : List Expr) : Prop := ∀ env, starEach es env = es.map fun e => (false, eval e env)
end
theorem Plain.nil : Plain [] := fun _ => rfl
theorem Plain.cons {e : Expr} {es : List Expr} (h : ∀ x p, e ≠ .Starred x p) (hs : Plain es) : Plain (e :: es) := fun env => by
  have : starEach (e :: es) env = (false, eval e env) :: starEach es env := by
    cases e with
    | Starred x p => exact absurd rfl (h x p)
    | _ => rfl
  rw [this, hs env, List.map_cons]
theorem Plain.head {e : Expr} {es : List Expr} (h : Plain (e :: es)) (env : Env) : starEach (e :: es) env = (false, eval e env) :: starEach es env := by
  cases e with
  | Starred x p =>
    have := h env
    simp [starEach] at this
  | _ => rfl
theorem Plain.tail {e : Expr} {es : List Expr} (h : Plain (e :: es)) : Plain es := fun env => by
  have := h env
  rw [h.head, List.map_cons] at this
  exact (List.cons.inj this).2
theorem Plain.any {es : List Expr} (h : Plain es) (env : Env) (pos : Pos) : (backTo pos (starEach es env)).any (·.1) = false := by
  rw [h env]
  unfold backTo
  simp
section
variable {X : Cx} {F : Nat → List D → Dr → Oc} {c : Cc} {Wx : WX} {exc : Exc} {e a b e3 : Expr} {es rest : List Expr} {x x1 x2 x3 : Ex} {xs : Exs} {W : Addr → Prop} {σ : L2.St} {H : Hp} {pos : Pos}
theorem TriB.tri {op : BoolOp} (h : TriB X F c Wx exc op es pos x) : Tri X F c Wx exc (.BoolOp op es pos) x := ⟨h.fz, h.bo, h.te.pt⟩
theorem trib_and1 (h : Tri X F c Wx exc a x) : TriB X F c Wx exc .And [a] pos x := ⟨pe_one h.fz, pe_one h.bo, pw_and1 h.te⟩
theorem trib_or1 (h : Tri X F c Wx exc a x) : TriB X F c Wx exc .Or [a] pos x := ⟨pe_one h.fz, pe_one h.bo, pw_or1 h.te⟩
theorem trib_and (ha : Tri X F c Wx exc a x1) (hb : TriB X F c Wx exc .And (b :: rest) pos x2) : TriB X F c Wx exc .And (a :: b :: rest) pos (.and x1 x2) := by
  refine ⟨(pe_andT ha.fz hb.fz).imp fun σ H Q ⟨env, dr, W, m, p⟩ => ⟨env, dr, W, m, ?_⟩, (pe_andT ha.bo hb.bo).imp fun σ H Q ⟨env, dr, W, m, p⟩ => ⟨env, dr, W, m, ?_⟩, (pw_and ha.te hb.te).imp fun σ H Q ⟨env, dr, W, m, p⟩ => ⟨env, dr, W, m, ?_⟩⟩
  · refine (Po.bind (k := fun x dr => match truD x with
      | some true => ev F .frz x2 env dr
      | some false => .ok x dr
      | none => .stk) p).mono fun v H1 ⟨d1, dr1, g1, e1, r1, p1⟩ => ?_
    cases ht : truD d1 with
    | none => simp only [ht] at p1; exact False.elim p1
    | some k =>
      simp only [ht] at p1
      refine ⟨k, tru_of m.wa (.inl r1) ht, ?_⟩
      cases k with
      | true => exact iteT ⟨env, dr1, W, m.up g1 e1, p1⟩
      | false => exact iteF (p1 v H1 (m.up g1 e1).gr e1 r1)
  · refine (Po.bind (k := fun x dr => match truD x with
      | some true => ev F .bor x2 env dr
      | some false => .ok x dr
      | none => .stk) p).mono fun v H1 ⟨d1, dr1, g1, e1, r1, p1⟩ => ?_
    cases ht : truD d1 with
    | none => simp only [ht] at p1; exact False.elim p1
    | some k =>
      simp only [ht] at p1
      refine ⟨k, tru_of m.wa r1 ht, ?_⟩
      cases k with
      | true => exact iteT ⟨env, dr1, W, m.up g1 e1, p1⟩
      | false => exact iteF (p1 v H1 (m.up g1 e1).gr e1 r1)
  · refine (Po.bind (k := fun x dr => match x with
      | .bool true => ev F .tst x2 env dr
      | d => .ok d dr) p).mono fun v H1 ⟨d1, dr1, g1, e1, r1, p1⟩ => ?_
    cases (show d1 = .bool v from r1)
    cases v with
    | true => exact iteT ⟨env, dr1, W, m.up g1 e1, p1⟩
    | false => exact iteF (p1 false H1 (m.up g1 e1).gr e1 rfl)
theorem trib_or (ha : Tri X F c Wx exc a x1) (hb : TriB X F c Wx exc .Or (b :: rest) pos x2) : TriB X F c Wx exc .Or (a :: b :: rest) pos (.or x1 x2) := by
  refine ⟨(pe_orT ha.fz hb.fz).imp fun σ H Q ⟨env, dr, W, m, p⟩ => ⟨env, dr, W, m, ?_⟩, (pe_orT ha.bo hb.bo).imp fun σ H Q ⟨env, dr, W, m, p⟩ => ⟨env, dr, W, m, ?_⟩, (pw_or ha.te hb.te).imp fun σ H Q ⟨env, dr, W, m, p⟩ => ⟨env, dr, W, m, ?_⟩⟩
  · refine (Po.bind (k := fun x dr => match truD x with
      | some false => ev F .frz x2 env dr
      | some true => .ok x dr
      | none => .stk) p).mono fun v H1 ⟨d1, dr1, g1, e1, r1, p1⟩ => ?_
    cases ht : truD d1 with
    | none => simp only [ht] at p1; exact False.elim p1
    | some k =>
      simp only [ht] at p1
      refine ⟨k, tru_of m.wa (.inl r1) ht, ?_⟩
      cases k with
      | false => exact iteF ⟨env, dr1, W, m.up g1 e1, p1⟩
      | true => exact iteT (p1 v H1 (m.up g1 e1).gr e1 r1)
  · refine (Po.bind (k := fun x dr => match truD x with
      | some false => ev F .bor x2 env dr
      | some true => .ok x dr
      | none => .stk) p).mono fun v H1 ⟨d1, dr1, g1, e1, r1, p1⟩ => ?_
    cases ht : truD d1 with
    | none => simp only [ht] at p1; exact False.elim p1
    | some k =>
      simp only [ht] at p1
      refine ⟨k, tru_of m.wa r1 ht, ?_⟩
      cases k with
      | false => exact iteF ⟨env, dr1, W, m.up g1 e1, p1⟩
      | true => exact iteT (p1 v H1 (m.up g1 e1).gr e1 r1)
  · refine (Po.bind (k := fun x dr => match x with
      | .bool false => ev F .tst x2 env dr
      | d => .ok d dr) p).mono fun v H1 ⟨d1, dr1, g1, e1, r1, p1⟩ => ?_
    cases (show d1 = .bool v from r1)
    cases v with
    | false => exact iteF ⟨env, dr1, W, m.up g1 e1, p1⟩
    | true => exact iteT (p1 true H1 (m.up g1 e1).gr e1 rfl)
theorem tri_not (ha : Tri X F c Wx exc a x) : Tri X F c Wx exc (.UnaryOp .Not a pos) (.not x) := by
  have go : ∀ {rep : RepT D V} {σ : L2.St} {H : Hp} {Q : VK}, okR X.K c Wx exc rep (fun env dr => (ev F .bor x env dr).bind fun x dr => liftB ((truD x).map (!·)) dr) σ H Q → (∀ k W' H', rep W' H' (.bl k) (.bool k)) → tNotT X.K (okR X.K c Wx exc (RepB X.K c) (ev F .bor x)) σ H Q := by
    intro rep σ H Q ⟨env, dr, W, m, p⟩ hr
    refine ⟨env, dr, W, m, p.bind.mono fun v H1 ⟨d1, dr1, g1, e1, r1, p1⟩ => ?_⟩
    cases ht : truD d1 with
    | none => simp only [ht] at p1; exact False.elim p1
    | some k =>
      simp only [ht] at p1
      exact ⟨k, tru_of m.wa r1 ht, p1 _ H1 (m.up g1 e1).gr e1 (hr _ _ _)⟩
  refine ⟨(pe_notT ha.bo).imp fun σ H Q p => go p fun k _ _ => .bl k, (pe_notT ha.bo).imp fun σ H Q p => go p fun k _ _ => .inl (.bl k), (pt_not ha.te).imp fun σ H Q ⟨env, dr, W, m, p⟩ => ⟨env, dr, W, m, ?_⟩⟩
  refine (Po.bind (k := fun (x : D) (dr : Dr) => (match x with
      | .bool b => R.ok (PyData.bool (!b)) dr
      | _ => .stk : R D)) p).mono fun k H1 ⟨d1, dr1, g1, e1, r1, p1⟩ => ?_
  cases (show d1 = .bool k from r1)
  exact p1 (!k) H1 (m.up g1 e1).gr e1 rfl
theorem tri_ite (hc : Tri X F c Wx exc e3 x3) (ha : Tri X F c Wx exc a x1) (hb : Tri X F c Wx exc b x2) : Tri X F c Wx exc (.IfExp e3 a b pos) (.ite x3 x1 x2) := by
  have go : ∀ {γ : Type} {rep : RepT D γ} {md : Md} {σ : L2.St} {H : Hp} {Q : γ → Hp → Prop}, okR X.K c Wx exc rep (ev F md (.ite x3 x1 x2)) σ H Q → okR X.K c Wx exc RepX (ev F .tst x3) σ H fun k H1 => if k = true then okR X.K c Wx exc rep (ev F md x1) σ H1 Q else okR X.K c Wx exc rep (ev F md x2) σ H1 Q := by
    intro γ rep md σ H Q ⟨env, dr, W, m, p⟩
    refine ⟨env, dr, W, m, (Po.bind (k := fun x dr => match x with
      | .bool true => ev F md x1 env dr
      | _ => ev F md x2 env dr) p).mono fun k H1 ⟨d1, dr1, g1, e1, r1, p1⟩ => ?_⟩
    cases (show d1 = .bool k from r1)
    cases k with
    | true => exact iteT ⟨env, dr1, W, m.up g1 e1, p1⟩
    | false => exact iteF ⟨env, dr1, W, m.up g1 e1, p1⟩
  exact ⟨(pe_ifExp hc.te ha.fz hb.fz).imp fun σ H Q p => go p, (pe_ifExp hc.te ha.bo hb.bo).imp fun σ H Q p => go p, (pt_ifE hc.te ha.te hb.te).imp fun σ H Q p => go p⟩
theorem tris_nil : Tris X F c Wx exc [] .nil :=
  ⟨pa_nil.imp fun σ H Q ⟨env, dr, W, m, p⟩ => p [] H m.gr m.dr .nil, pa_nil.imp fun σ H Q ⟨env, dr, W, m, p⟩ => p [] H m.gr m.dr .nil⟩
theorem tris_cons (hp : Plain (e :: es)) (h1 : Tri X F c Wx exc e x) (h2 : Tris X F c Wx exc es xs) : Tris X F c Wx exc (e :: es) (.cons x xs) := by
  refine ⟨(pa_cons h1.fz h2.fz (hp.head _)).imp fun σ H Q ⟨env, dr, W, m, p⟩ => ?_, (pa_cons h1.bo h2.bo (hp.head _)).imp fun σ H Q ⟨env, dr, W, m, p⟩ => ?_⟩
  · refine ⟨env, dr, W, m, (Po.bind (k := fun d dr => (evs F .frz xs env dr).bind fun ds dr => .ok (d :: ds) dr) p).mono fun v H1 ⟨d1, dr1, g1, e1, r1, p1⟩ => ⟨env, dr1, W, m.up g1 e1, p1.bind.mono fun vs H2 ⟨ds, dr2, g2, e2, r2, p2⟩ => ?_⟩⟩
    exact p2 _ H2 (GrE.refl e2.a0) e2 (.cons (Rep.mono (g2.hid m.wa) r1) r2)
  · refine ⟨env, dr, W, m, (Po.bind (k := fun d dr => (evs F .bor xs env dr).bind fun ds dr => .ok (d :: ds) dr) p).mono fun v H1 ⟨d1, dr1, g1, e1, r1, p1⟩ => ⟨env, dr1, W, m.up g1 e1, p1.bind.mono fun vs H2 ⟨ds, dr2, g2, e2, r2, p2⟩ => ?_⟩⟩
    exact p2 _ H2 (GrE.refl e2.a0) e2 (.cons (RepB.grow m.wa g2 r1) r2)
/-- a value ahead of its mode, its arguments read -/
theorem raw_end {o : Option D} {dr : Dr} {Q : VK} {env : List Sl} {q : Dr} (m : Mt X.K c ⟨env, q⟩ σ H W) (e : DrOk H c.a0 W dr) (p : Po c Wx exc (RepF X.K c) W σ (lft o dr) H Q) :
    ∃ d, o = some d ∧ ∀ v H', New X.K c W H H' v d → Q v H' := fin_lft (.inr trivial) m.wa m.dom e p
theorem raw_eq {α : Type} (md : Md) (r : R α) (f : α → Option D) : (r.bind fun x dr => lift md (f x) dr) = (r.bind fun x dr => lft (f x) dr).bind (fin md) := by
  rw [R.bind_assoc]
  congr 1; funext x dr
  exact lift_eq _ _ _
theorem tri_tup {k : Nat} (h : Tris X F c Wx exc es xs) : Tri X F c Wx exc (.Tuple es k pos) (.tup xs) := by
  refine .of_raw (raw := fun env dr => (evs F .frz xs env dr).bind fun ds dr => lft (if okLen ds.length then some (.tuple ds) else none) dr)
    ((pe_tup h.fz).imp fun σ H Q ⟨env, dr, W, m, p⟩ => ⟨env, dr, W, m, p.bind.mono fun vs H1 ⟨ds, dr1, g1, e1, r1, p1⟩ => ?_⟩) (fun m env dr => raw_eq m _ _) (fun _ => rfl)
  obtain ⟨d, hd, q⟩ := raw_end (m.up g1 e1) e1 p1
  split at hd
  · rename_i hl
    cases hd
    exact ⟨by rw [r1.length]; exact okLen_of hl, fun p hp => q _ _ (.tup hp r1)⟩
  · cases hd
theorem tri_lst (h : Tris X F c Wx exc es xs) : Tri X F c Wx exc (.List es pos) (.lst xs) := by
  refine .of_raw (raw := fun env dr => (evs F .frz xs env dr).bind fun ds dr => lft (if okLen ds.length then some (.list ds) else none) dr)
    ((pe_lst h.fz).imp fun σ H Q ⟨env, dr, W, m, p⟩ => ⟨env, dr, W, m, p.bind.mono fun vs H1 ⟨ds, dr1, g1, e1, r1, p1⟩ => ?_⟩) (fun m env dr => raw_eq m _ _) (fun _ => rfl)
  obtain ⟨d, hd, q⟩ := raw_end (m.up g1 e1) e1 p1
  split at hd
  · rename_i hl
    cases hd
    exact ⟨by rw [r1.length]; exact okLen_of hl, fun p hp => q _ _ (.mu hp (.lst r1))⟩
  · cases hd
theorem idxD_dict {qs : List (D × D)} {y d : D} (h : idxD (.dict qs) y = some d) : dgetD (.dict qs) y = some (some d) := by
  have h : (match dgetD (.dict qs) y with
    | some o => o
    | none => none) = some d := h
  cases e : dgetD (.dict qs) y with
  | none => rw [e] at h; cases h
  | some o => rw [e] at h; cases h; rfl
theorem Po.gr {α β : Type} {rep : RepT α β} {W : Addr → Prop} {σ : L2.St} {r : R α} {H H' : Hp} {Q : β → Hp → Prop} (g : GrE c H H') (h : Po c Wx exc rep W σ r H Q) : Po c Wx exc rep W σ r H' Q := by
  cases r with
  | ok d dr => exact fun v H2 g2 d2 r2 => h v H2 (g.trans g2) d2 r2
  | err e dr => exact fun H2 g2 d2 => h H2 (g.trans g2) d2
  | stk => exact h
theorem _root_.L2.PE.or {X : Cx} {e : Expr} {t t' : TE} (h : PE X e t) (h2 : PE X e t') : PE X e (fun σ H Q => t σ H Q ∨ t' σ H Q) := ⟨fun pins s σ H Q I h' => h'.elim (h.run pins s σ H Q I) (h2.run pins s σ H Q I)⟩
theorem tri_idx (hu : X.A.units + 128 < cLine) (hs : PlainIx b) (ha : Tri X F c Wx exc a x1) (hb : Tri X F c Wx exc b x2) : Tri X F c Wx exc (.Subscript a b pos) (.idx x1 x2) := by
  refine .of_raw (raw := fun env dr => (ev F .bor x1 env dr).bind fun x dr => (ev F .bor x2 env dr).bind fun y dr => lft (idxD x y) dr)
    (((pe_ix (ix_D (c := c)) ha.bo hb.bo hs).or (pe_dget (by omega) ha.bo hb.bo hs)).imp fun σ H Q ⟨env, dr, W, m, p⟩ => ?_) (fun m env dr => ?_) (fun _ => rfl)
  · dsimp only at p
    by_cases hd : ∃ qs dr1, ev F .bor x1 env dr = .ok (.dict qs) dr1
    · obtain ⟨qs, dr1, e⟩ := hd
      rw [e] at p
      refine .inr ⟨env, dr, W, m, ?_⟩
      rw [e]
      intro v H1 g1 e1 r1
      refine ⟨env, dr1, W, m.up g1 e1, (Po.gr g1 (show Po c Wx exc (RepF X.K c) W σ ((ev F .bor x2 env dr1).bind fun y dr => lft (idxD (.dict qs) y) dr) H Q from p)).bind.mono fun u H2 ⟨d2, dr2, g2, e2, r2, p2⟩ => ?_⟩
      obtain ⟨d, hd, q⟩ := raw_end ((m.up g1 e1).up g2 e2) e2 p2
      obtain ⟨l, ov, rfl, _, g, r⟩ := dget_ok (r1.grow m.wa g2) r2 (idxD_dict hd)
      rcases r with ⟨_, h⟩ | ⟨z, dd, rfl, h, r⟩
      · cases h
      · cases h
        exact ⟨l, z, rfl, g, q _ _ (.old r)⟩
    · refine .inl ⟨env, dr, W, m, ?_⟩
      cases e : ev F .bor x1 env dr with
      | stk => rw [e] at p; exact p
      | err k dr1 => rw [e] at p; exact p
      | ok d1 dr1 =>
        rw [e] at p
        intro v H1 g1 e1 r1
        refine ⟨env, dr1, W, m.up g1 e1, (Po.gr g1 (show Po c Wx exc (RepF X.K c) W σ ((ev F .bor x2 env dr1).bind fun y dr => lft (idxD d1 y) dr) H Q from p)).bind.mono fun u H2 ⟨d2, dr2, g2, e2, r2, p2⟩ => ?_⟩
        obtain ⟨d, hd', q⟩ := raw_end ((m.up g1 e1).up g2 e2) e2 p2
        have hs' : idxS d1 d2 = some d := by
          cases d1 with
          | dict qs => exact absurd ⟨qs, dr1, e⟩ hd
          | _ => exact hd'
        exact ⟨W, d1, d2, d, m.wa, r1.grow m.wa g2, r2, hs', q⟩
  · show ((ev F .bor x1 env dr).bind _) = _
    rw [R.bind_assoc]
    congr 1; funext d1 dr1
    exact raw_eq m _ _
/-! ### dicts -/
/-- d.get(k) -/
theorem tri_dg1 {apos : Pos} (hu : X.A.units + 128 < cLine) (m1 : M1 X a "get" apos b pos) (ha : Tri X F c Wx exc a x1) (hb : Tri X F c Wx exc b x2) : Tri X F c Wx exc (.Call (.Attribute a "get" apos) [b] [] pos) (.dg1 x1 x2) := by
  refine .of_raw (raw := fun env dr => (ev F .bor x1 env dr).bind fun x dr => if isDct x then (ev F .bor x2 env dr).bind fun y dr => lft ((dgetD x y).map fun o => o.getD .none) dr else .stk)
    ((pe_dget1 (by omega) ha.bo hb.bo m1).imp fun σ H Q ⟨env, dr, W, m, p⟩ => ⟨env, dr, W, m, p.bind.mono fun v H1 ⟨d1, dr1, g1, e1, r1, p1⟩ => ?_⟩) (fun m env dr => ?_) (fun _ => rfl)
  · split at p1
    · rename_i hi
      obtain ⟨l, rfl, hl⟩ := RepB.isD r1 hi
      refine ⟨l, rfl, hl, env, dr1, W, m.up g1 e1, p1.bind.mono fun u H2 ⟨d2, dr2, g2, e2, r2, p2⟩ => ?_⟩
      obtain ⟨d, hd, q⟩ := raw_end ((m.up g1 e1).up g2 e2) e2 p2
      obtain ⟨o, ho, rfl⟩ := Option.map_eq_some_iff.mp hd
      obtain ⟨l', ov, hl', _, g, r⟩ := dget_ok (r1.grow m.wa g2) r2 ho
      cases hl'
      refine ⟨ov, g, ?_⟩
      rcases r with ⟨rfl, rfl⟩ | ⟨z, dd, rfl, rfl, r⟩
      · exact q _ _ (.old .non)
      · exact q _ _ (.old r)
    · exact False.elim p1
  · show ((ev F .bor x1 env dr).bind _) = _
    rw [R.bind_assoc]
    congr 1; funext d1 dr1
    split
    · exact raw_eq m _ _
    · rfl
/-- d.get(k, x) -/
theorem tri_dg2 {apos : Pos} {e3 : Expr} {x3 : Ex} (hu : X.A.units + 128 < cLine) (m2 : M2 X a "get" apos b e3 pos) (ha : Tri X F c Wx exc a x1) (hb : Tri X F c Wx exc b x2) (hc : Tri X F c Wx exc e3 x3) : Tri X F c Wx exc (.Call (.Attribute a "get" apos) [b, e3] [] pos) (.dg2 x1 x2 x3) := by
  refine .of_raw (raw := fun env dr => (ev F .bor x1 env dr).bind fun x dr => if isDct x then (ev F .bor x2 env dr).bind fun y dr => (ev F .frz x3 env dr).bind fun z dr => lft ((dgetD x y).map fun o => o.getD z) dr else .stk)
    ((pe_dget2 (by omega) ha.bo hb.bo hc.fz m2).imp fun σ H Q ⟨env, dr, W, m, p⟩ => ⟨env, dr, W, m, p.bind.mono fun v H1 ⟨d1, dr1, g1, e1, r1, p1⟩ => ?_⟩) (fun m env dr => ?_) (fun _ => rfl)
  · split at p1
    · rename_i hi
      obtain ⟨l, rfl, hl⟩ := RepB.isD r1 hi
      refine ⟨l, rfl, hl, env, dr1, W, m.up g1 e1, p1.bind.mono fun u H2 ⟨d2, dr2, g2, e2, r2, p2⟩ => ⟨env, dr2, W, (m.up g1 e1).up g2 e2, p2.bind.mono fun w H3 ⟨d3, dr3, g3, e3, r3, p3⟩ => ?_⟩⟩
      obtain ⟨d, hd, q⟩ := raw_end (((m.up g1 e1).up g2 e2).up g3 e3) e3 p3
      obtain ⟨o, ho, rfl⟩ := Option.map_eq_some_iff.mp hd
      obtain ⟨l', ov, hl', _, g, r⟩ := dget_ok ((r1.grow m.wa g2).grow m.wa g3) (r2.grow m.wa g3) ho
      cases hl'
      refine ⟨ov, g, ?_⟩
      rcases r with ⟨rfl, rfl⟩ | ⟨z, dd, rfl, rfl, r⟩
      · exact q _ _ (.old r3)
      · exact q _ _ (.old r)
    · exact False.elim p1
  · show ((ev F .bor x1 env dr).bind _) = _
    rw [R.bind_assoc]
    congr 1; funext d1 dr1
    split
    · show ((ev F .bor x2 env dr1).bind _) = _
      rw [R.bind_assoc]
      congr 1; funext d2 dr2
      exact raw_eq m _ _
    · rfl
/-- a part of a slice -/
abbrev RepO : RepT (Option Int) (Option Int) := fun _ _ o d => o = d
abbrev TriO (X : Cx) (F : Nat → List D → Dr → Oc) (c : Cc) (Wx : WX) (exc : Exc) (e : Option Expr) (x : Exo) : Prop := PO X e (okR X.K c Wx exc RepO (evo F x))
theorem trio_none : TriO X F c Wx exc none .none := ⟨fun pins s σ H Q I ⟨env, dr, W, m, p⟩ => po_none.run pins s σ H Q I (p none H m.gr m.dr rfl)⟩
theorem trio_some (h : Tri X F c Wx exc e x) : TriO X F c Wx exc (some e) (.some x) := by
  refine ⟨fun pins s σ H Q I ⟨env, dr, W, m, p⟩ => (po_some h.bo).run pins s σ H Q I ⟨env, dr, W, m, (Po.bind (k := fun d dr => match d with
    | .int i => .ok (some i) dr
    | _ => .stk) p).mono fun v H1 ⟨d1, dr1, g1, e1, r1, p1⟩ => ?_⟩⟩
  cases d1 with
  | int i =>
    cases r1.int
    exact ⟨i, rfl, p1 _ H1 (m.up g1 e1).gr e1 rfl⟩
  | _ => exact False.elim p1
theorem tri_slc {lo hi : Option Expr} {xl xh : Exo} {p2 : Pos} (ha : Tri X F c Wx exc a x1) (hl : TriO X F c Wx exc lo xl) (hh : TriO X F c Wx exc hi xh) : Tri X F c Wx exc (.Subscript a (.Slice lo hi none p2) pos) (.slc x1 xl xh) := by
  refine .of_raw (raw := fun env dr => (ev F .bor x1 env dr).bind fun x dr => (evo F xl env dr).bind fun l dr => (evo F xh env dr).bind fun h dr => lft (slcD x l h) dr)
    ((pe_slice (sl_D (c := c)) ha.bo hl hh).imp fun σ H Q ⟨env, dr, W, m, p⟩ => ⟨env, dr, W, m, p.bind.mono fun v H1 ⟨d1, dr1, g1, e1, r1, p1⟩ =>
      ⟨env, dr1, W, m.up g1 e1, p1.bind.mono fun l H2 ⟨d2, dr2, g2, e2, r2, p2⟩ => ⟨env, dr2, W, (m.up g1 e1).up g2 e2, p2.bind.mono fun h H3 ⟨d3, dr3, g3, e3, r3, p3⟩ => ?_⟩⟩⟩) (fun m env dr => ?_) (fun _ => rfl)
  · cases (show l = d2 from r2)
    cases (show h = d3 from r3)
    obtain ⟨d, hd, q⟩ := raw_end (((m.up g1 e1).up g2 e2).up g3 e3) e3 p3
    exact ⟨W, d1, d, m.wa, (r1.grow m.wa g2).grow m.wa g3, by cases d1 <;> exact hd, q⟩
  · show ((ev F .bor x1 env dr).bind _) = _
    rw [R.bind_assoc]
    congr 1; funext d1 dr1
    rw [R.bind_assoc]
    congr 1; funext d2 dr2
    exact raw_eq m _ _
/-- the empty tuple, its object known -/
theorem pe_xt0 {X : Cx} {k : Nat} {pos : Pos} : PE X (.Tuple [] k pos) (fun _ H Q => ∀ (p : Addr) (o : Obj), H p = none → o.cls = .type "tuple" → o.dict = none → Q (.ref p) (upd H p (.frz o (.tup [])))) := by
  refine ⟨fun pins s σ H Q I q => ?_⟩
  refine wpAny_Tuple_spliced (thn ((pa_nil (X := X)).run pos pins s σ H (fun xs H1 => xs = [] ∧ H1 = H) I ⟨rfl, rfl⟩) fun us s1 ⟨xs, H1, J, r, h1, h2⟩ => ?_)
  subst h1 h2
  cases r
  refine ⟨Nat.zero_le _, .ref s1.heap.objs.size, _, J.laid (t' := s1.toks) (o := .frz { cls := .type "tuple", data := .seq #[] } (.tup [])) (fun b u e => Heap.get?_push_of_some _ e) (Nat.le_refl _) ?_, rfl, q _ _ (J.hok.fresh (Nat.le_refl _)) rfl rfl⟩
  exact ⟨Heap.get?_push_size _ rfl, Nat.zero_le _, [], .nil, ⟨_, Heap.get?_push_size _ rfl, rfl, _, rfl⟩⟩
theorem tri_xt0 {k : Nat} : Tri X F c Wx exc (.Tuple [] k pos) .xt0 := by
  refine .of_raw (raw := fun env dr => lft (some (xtD [])) dr) (pe_xt0.imp fun σ H Q ⟨env, dr, W, m, p⟩ => ?_) (fun m env dr => rfl) (fun _ => rfl)
  obtain ⟨d, hd, q⟩ := raw_end m m.dr p
  cases hd
  exact fun p o hp h1 h2 => q _ _ (.xt hp h1 h2 .nil)
/-- turned round -/
theorem tri_rev {k : Nat} {p1 p2 p3 : Pos} (ha : Tri X F c Wx exc a x1) : Tri X F c Wx exc (.Subscript a (.Slice none none (some (.UnaryOp .USub (.Constant (.int 1) k p1) p2)) p3) pos) (.rev x1) := by
  refine .of_raw (raw := fun env dr => (ev F .bor x1 env dr).bind fun x dr => lft (revD x) dr)
    ((pe_revB ha.bo).imp fun σ H Q ⟨env, dr, W, m, p⟩ => ⟨env, dr, W, m, p.bind.mono fun v H1 ⟨d1, dr1, g1, e1, r1, p1⟩ => ?_⟩) (fun m env dr => raw_eq m _ _) (fun _ => rfl)
  obtain ⟨d, hd, q⟩ := raw_end (m.up g1 e1) e1 p1
  unfold revD at hd
  split at hd
  · cases hd
    obtain ⟨a, xs, rfl, _, ha, ra⟩ := r1.lst m.wa
    exact ⟨true, a, xs, rfl, .inl (.inl ha), fun p hp => q _ _ (.mu hp (.lst ra.reverse))⟩
  · cases hd
    obtain ⟨a, xs, rfl, ha, ra⟩ := r1.tup
    exact ⟨false, a, xs, rfl, .inl (.inl ha), fun p hp => q _ _ (.tup hp ra.reverse)⟩
  · cases hd
    obtain ⟨a, o, xs, rfl, _, ha, _, _, ra⟩ := r1.xt
    exact ⟨false, a, xs, rfl, .inl (.inr ⟨o, ha⟩), fun p hp => q _ _ (.tup hp ra.reverse)⟩
  · cases hd
/-- a built-in function -/
theorem tri_bfB {f : Bf} {id : String} {y : Str} {p : Pos} (hc : CallR X (.builtin id) (rBf X.K c f)) (hg : Gl X y) (hm : X.mg y = none) (hv : bootBuiltins y = some (.builtin id)) (hn : y ≠ "__name__") (hdb : (y == ("__debug__" : Str)) = false) (hp : Plain (e :: es)) (h : Tris X F c Wx exc (e :: es) xs) :
    Tri X F c Wx exc (.Call (.Name y p) (e :: es) [] pos) (.bf f xs) := by
  refine .of_raw (raw := fun env dr => (evs F .bor xs env dr).bind fun ds dr => lft (bfD f ds) dr)
    ((pe_callB hc hg hm hv h.bo hn hdb (hp.head _) (hp.tail.any _ _)).imp fun σ H Q ⟨env, dr, W, m, p⟩ => ⟨env, dr, W, m, p.bind.mono fun vs H1 ⟨ds, dr1, g1, e1, r1, p1⟩ => ?_⟩) (fun m env dr => raw_eq m _ _) (fun _ => rfl)
  obtain ⟨d, hd, q⟩ := raw_end (m.up g1 e1) e1 p1
  exact ⟨W, ds, d, m.wa, r1, hd, q⟩
/-- a type that is called -/
theorem tri_bfT {f : Bf} {id : String} {y : Str} {p : Pos} (hc : CallR X (.type id) (rBf X.K c f)) (hg : Gl X y) (hm : X.mg y = none) (hv : bootBuiltins y = some (.type id)) (hn : y ≠ "__name__") (hdb : (y == ("__debug__" : Str)) = false) (hp : Plain (e :: es)) (h : Tris X F c Wx exc (e :: es) xs) :
    Tri X F c Wx exc (.Call (.Name y p) (e :: es) [] pos) (.bf f xs) := by
  refine .of_raw (raw := fun env dr => (evs F .bor xs env dr).bind fun ds dr => lft (bfD f ds) dr)
    ((pe_callTy hc hg hm hv h.bo hn hdb (hp.head _) (hp.tail.any _ _)).imp fun σ H Q ⟨env, dr, W, m, p⟩ => ⟨env, dr, W, m, p.bind.mono fun vs H1 ⟨ds, dr1, g1, e1, r1, p1⟩ => ?_⟩) (fun m env dr => raw_eq m _ _) (fun _ => rfl)
  obtain ⟨d, hd, q⟩ := raw_end (m.up g1 e1) e1 p1
  exact ⟨W, ds, d, m.wa, r1, hd, q⟩
end
end Ly

set_option Elab.async false
set_option linter.all false
set_option maxRecDepth 100000
set_option maxHeartbeats 2000000
/-! Ly: targets, what is walked. -/
namespace Ly
open PySem PySem.Spec PyProof.Rows L2

section
variable {K : PySem.W.Frag} {c : Cc} {q : S} {σ : L2.St} {H H' : Hp} {W : Addr → Prop}
/-! ### slots that are set -/
theorem Mt.set {env : List Sl} {dr : Dr} {i : Nat} {v : V} {d : D} (m : Mt K c ⟨env, dr⟩ σ H W) (r : Rep K c.a0 (hid W H) v d) : Mt K c ⟨env.set i (.fz d), dr⟩ (σ.set i (some v)) H W := by
  have hl := m.len
  refine ⟨by simpa using m.len, fun j x e => ?_, fun j k x y w e1 e2 h1 h2 s1 s2 => ?_, m.dr, m.wa, m.w0, m.dom, m.keep⟩
  · by_cases hj : i = j
    · subst hj
      have hlt : i < env.length := by
        have := List.getElem?_eq_some_iff.mp e
        simpa using this.1
      have hlt' : i < σ.length := by rw [← hl]; exact hlt
      rw [List.getElem?_set_self hlt] at e
      cases e
      exact ⟨v, by rw [List.getElem?_set_self hlt'], r⟩
    · rw [List.getElem?_set_ne hj] at e
      rw [List.getElem?_set_ne hj]
      exact m.sl j x e
  · have nj : i ≠ j := fun z => by
      subst z
      have hlt : i < env.length := by
        have := List.getElem?_eq_some_iff.mp e1
        simpa using this.1
      rw [show (env.set i (.fz d))[i]? = some (.fz d) from List.getElem?_set_self hlt] at e1
      cases e1; cases h1
    have nk : i ≠ k := fun z => by
      subst z
      have hlt : i < env.length := by
        have := List.getElem?_eq_some_iff.mp e2
        simpa using this.1
      rw [show (env.set i (.fz d))[i]? = some (.fz d) from List.getElem?_set_self hlt] at e2
      cases e2; cases h2
    have e1 : env[j]? = some x := by rw [← List.getElem?_set_ne nj]; exact e1
    have e2 : env[k]? = some y := by rw [← List.getElem?_set_ne nk]; exact e2
    rw [List.getElem?_set_ne nj] at s1
    rw [List.getElem?_set_ne nk] at s2
    exact m.inj j k x y w e1 e2 h1 h2 s1 s2
theorem Mt.unset {env : List Sl} {dr : Dr} {i : Nat} (m : Mt K c ⟨env, dr⟩ σ H W) : Mt K c ⟨env.set i .un, dr⟩ (σ.set i none) H W := by
  refine ⟨by simpa using m.len, fun j x e => ?_, fun j k x y w e1 e2 h1 h2 s1 s2 => ?_, m.dr, m.wa, m.w0, m.dom, m.keep⟩
  · by_cases hj : i = j
    · subst hj
      have hlt : i < env.length := by
        have := List.getElem?_eq_some_iff.mp e
        simpa using this.1
      rw [List.getElem?_set_self hlt] at e
      cases e
      trivial
    · rw [List.getElem?_set_ne hj] at e
      rw [List.getElem?_set_ne hj]
      exact m.sl j x e
  · have nj : i ≠ j := fun z => by
      subst z
      have hlt : i < env.length := by
        have := List.getElem?_eq_some_iff.mp e1
        simpa using this.1
      rw [show (env.set i .un)[i]? = some .un from List.getElem?_set_self hlt] at e1
      cases e1; cases h1
    have nk : i ≠ k := fun z => by
      subst z
      have hlt : i < env.length := by
        have := List.getElem?_eq_some_iff.mp e2
        simpa using this.1
      rw [show (env.set i .un)[i]? = some .un from List.getElem?_set_self hlt] at e2
      cases e2; cases h2
    have e1 : env[j]? = some x := by rw [← List.getElem?_set_ne nj]; exact e1
    have e2 : env[k]? = some y := by rw [← List.getElem?_set_ne nk]; exact e2
    rw [List.getElem?_set_ne nj] at s1
    rw [List.getElem?_set_ne nk] at s2
    exact m.inj j k x y w e1 e2 h1 h2 s1 s2
theorem Mt.wipe {env : List Sl} {dr : Dr} (m : Mt K c ⟨env, dr⟩ σ H W) : ∀ vs : List Nat, Mt K c ⟨wipeE env vs, dr⟩ (wipe σ vs) H W
  | [] => m
  | v :: vs => (Mt.wipe m vs).unset
theorem wipe_eq {σ σ' : L2.St} (hl : σ.length = σ'.length) : ∀ {vs : List Nat}, (∀ i, i ∉ vs → σ'[i]? = σ[i]?) → wipe σ' vs = wipe σ vs := by
  have get : ∀ (τ : L2.St) (vs : List Nat) (i : Nat), (wipe τ vs)[i]? = if i ∈ vs then (if i < τ.length then some none else none) else τ[i]? := by
    intro τ vs
    induction vs with
    | nil => intro i; simp [L2.wipe]
    | cons v vs ih =>
      intro i
      unfold L2.wipe
      by_cases hv : v = i
      · subst hv
        rw [List.getElem?_set]
        simp only [if_true, wipe_length, List.mem_cons, true_or]
      · rw [List.getElem?_set_ne hv, ih]
        have : i ≠ v := fun z => hv z.symm
        simp only [List.mem_cons, this, false_or]
  intro vs h
  apply List.ext_getElem?
  intro i
  rw [get, get, hl]
  by_cases hi : i ∈ vs
  · simp [hi]
  · simp [hi, h i hi]
end

/-! ### targets -/
mutual
/-- the slots of a target -/
def tgN : Tg → List Nat
  | .nm i => [i]
  | .tup ts => tgNs ts
def tgNs : Tgs → List Nat
  | .nil => []
  | .cons t ts => tgN t ++ tgNs ts
def tgsLen : Tgs → Nat
  | .nil => 0
  | .cons _ ts => tgsLen ts + 1
end
theorem tgos_len : ∀ (ts : Tgs) (ds : List D) (env env' : List Sl), tgos ts ds env = some env' → ds.length = tgsLen ts
  | .nil, [], _, _, _ => rfl
  | .nil, _ :: _, _, _, h => by simp [tgos] at h
  | .cons _ _, [], _, _, h => by simp [tgos] at h
  | .cons t ts, d :: ds, env, env', h => by
    unfold tgos at h
    split at h
    · rename_i e _
      rw [List.length_cons, tgos_len ts ds e env' h]; rfl
    · cases h
section
variable (K : PySem.W.Frag) (c : Cc)
def gOk (tg : Tg) : TG := fun v σ H Q => ∃ env dr W d env', Mt K c ⟨env, dr⟩ σ H W ∧ Rep K c.a0 (hid W H) v d ∧ tgo tg d env = some env' ∧ ∀ σ', Mt K c ⟨env', dr⟩ σ' H W → σ'.length = σ.length → (∀ i, i ∉ tgN tg → σ'[i]? = σ[i]?) → Q σ' H
def gOks (ts : Tgs) : TGs := fun vs σ H Q => ∃ env dr W ds env', Mt K c ⟨env, dr⟩ σ H W ∧ RepL K c.a0 (hid W H) vs ds ∧ tgos ts ds env = some env' ∧ ∀ σ', Mt K c ⟨env', dr⟩ σ' H W → σ'.length = σ.length → (∀ i, i ∉ tgNs ts → σ'[i]? = σ[i]?) → Q σ' H
end
theorem _root_.L2.PG.imp {X : Cx} {e : Expr} {t t' : TG} (h : PG X e t) (q : ∀ v σ H Q, t' v σ H Q → t v σ H Q) : PG X e t' := ⟨fun pins s σ H v u Q I r h' => h.run pins s σ H v u Q I r (q v σ H Q h')⟩
theorem _root_.L2.PGs.imp {X : Cx} {e : List Expr} {t t' : TGs} (h : PGs X e t) (q : ∀ v σ H Q, t' v σ H Q → t v σ H Q) : PGs X e t' := ⟨fun pins s σ H v u Q I r h' => h.run pins s σ H v u Q I r (q v σ H Q h')⟩
theorem _root_.L2.PG.or {X : Cx} {e : Expr} {t t' : TG} (h : PG X e t) (h2 : PG X e t') : PG X e (fun v σ H Q => t v σ H Q ∨ t' v σ H Q) := ⟨fun pins s σ H v u Q I r h' => h'.elim (h.run pins s σ H v u Q I r) (h2.run pins s σ H v u Q I r)⟩
section
variable {X : Cx} {c : Cc} {e : Expr} {es : List Expr} {pos : Pos} {t : Tg} {ts : Tgs}
theorem gg_nm {i : Nat} {x : Str} (hN : X.N.Nodup) (hi : X.N[i]? = some x) (hx : Loc X.env.scope x) (hf : X.fn x = true ∨ X.env.scope.names.lookup x = some .local) : PG X (.Name x pos) (gOk X.K c (.nm i)) :=
  (pg_name hN hi hx hf).imp fun v σ H Q ⟨env, dr, W, d, env', m, r, ht, q⟩ => by
    cases (show some (env.set i (.fz d)) = some env' from ht)
    exact q _ (m.set r) (by simp) fun j hj => List.getElem?_set_ne fun z => hj (by rw [z]; simp [tgN])
theorem ggs_nil : PGs X [] (gOks X.K c .nil) :=
  pgs_nil.imp fun v σ H Q ⟨env, dr, W, ds, env', m, r, ht, q⟩ => by
    cases r with
    | nil =>
      cases (show some env = some env' from ht)
      exact ⟨rfl, q σ m rfl fun _ _ => rfl⟩
    | cons => simp [tgos] at ht
theorem ggs_cons (hs : (assignEach (e :: es) X.env).map (·.2) = assign e X.env :: (assignEach es X.env).map (·.2)) (h1 : PG X e (gOk X.K c t)) (h2 : PGs X es (gOks X.K c ts)) : PGs X (e :: es) (gOks X.K c (.cons t ts)) :=
  (pgs_cons h1 h2 hs).imp fun v σ H Q ⟨env, dr, W, ds, env', m, r, ht, q⟩ => by
    cases r with
    | nil => simp [tgos] at ht
    | @cons v vs d ds r1 r2 =>
      unfold tgos at ht
      cases h1 : tgo t d env with
      | none => simp only [h1] at ht; cases ht
      | some env1 =>
        simp only [h1] at ht
        exact ⟨v, vs, rfl, env, dr, W, d, env1, m, r1, h1, fun σ1 m1 l1 k1 => ⟨env1, dr, W, ds, env', m1, r2, ht, fun σ2 m2 l2 k2 => q σ2 m2 (l2.trans l1) fun i hi => by
          simp only [tgNs, List.mem_append, not_or] at hi
          rw [k2 i hi.2, k1 i hi.1]⟩⟩
theorem gg_tup {k : Nat} (hc : X.calm = true) (hn : (assignEach es X.env).length = tgsLen ts) (hst : (assignEach es X.env).findIdx? (·.1) = none) (h : PGs X es (gOks X.K c ts)) : PG X (.Tuple es k pos) (gOk X.K c (.tup ts)) :=
  ((pg_tup hc h hn hst).or (pg_lst hc h hn hst)).imp fun v σ H Q ⟨env, dr, W, d, env', m, r, ht, q⟩ => by
    cases d with
    | tuple ds =>
      obtain ⟨a, xs, rfl, ha, ra⟩ := RepB.tup (W := W) (H := H) (c := c) (.inl r)
      have ht : tgos ts ds env = some env' := ht
      exact .inl ⟨a, xs, rfl, .inl (.inl ha), by rw [ra.length]; exact tgos_len _ _ _ _ ht, env, dr, W, ds, env', m, ra, ht, q⟩
    | list ds =>
      obtain ⟨a, xs, rfl, _, ha, ra⟩ := RepB.lst (W := W) (H := H) (c := c) m.wa (.inl r)
      have ht : tgos ts ds env = some env' := ht
      exact .inr ⟨a, xs, rfl, .inl (.inl ha), by rw [ra.length]; exact tgos_len _ _ _ _ ht, env, dr, W, ds, env', m, ra, ht, q⟩
    | _ => simp [tgo] at ht
end

/-! ### bounds -/
def Bnd (K : PySem.W.Frag) (x : V) (H : Hp) : Prop := ∀ a xs, x = .ref a → (SqL K H a xs ∨ SqT K H a xs) → xs.length ≤ sizeLine
section
variable {X : Cx} {e : Expr} {es : List Expr} {t : TE} {ta : TA}
theorem bnd_of {pins : List (Addr × Obj)} {σ : L2.St} {H : Hp} {s : Shared} (I : Inv X pins σ H s) (x : V) : Bnd X.K x H := by
  rintro a xs rfl (h | h)
  · obtain ⟨its, r, _, hz⟩ := I.list h
    exact hz
  · obtain ⟨its, r, _, hz⟩ := I.tuple h
    exact hz
theorem pe_bnd (h : PE X e t) : PE X e (fun σ H Q => t σ H fun x H1 => Bnd X.K x H1 → Q x H1) :=
  ⟨fun pins s σ H Q I q => thn (h.run pins s σ H _ I q) fun u s1 ⟨x, H1, I1, r1, q1⟩ => ⟨x, H1, I1, r1, q1 (bnd_of I1 x)⟩⟩
theorem pa_bnd (h : PA X es ta) : PA X es (fun σ H Q => ta σ H fun xs H1 => (∀ x, Bnd X.K x H1) → Q xs H1) :=
  ⟨fun pos pins s σ H Q I q => thn (h.run pos pins s σ H _ I q) fun u s1 ⟨x, H1, I1, r1, q1⟩ => ⟨x, H1, I1, r1, q1 fun x => bnd_of I1 x⟩⟩
end

/-! ### what is walked -/
def Wk (K : PySem.W.Frag) (c : Cc) (Gr : (Addr → Prop) → Hp → Prop) (J : It) (ds : List D) : Prop :=
  ds.length ≤ sizeLine ∧ ∃ (G : Hp → Prop) (Y : Nat → Hp → V → Hp → Prop), Walk J ds.length G Y ∧ ∀ W' H', Gr W' H' → G H' ∧ ∀ i x H'', i < ds.length → Y i H' x H'' → ∃ d, ds[i]? = some d ∧ New K c W' H' H'' x d
abbrev WkF (K : PySem.W.Frag) (c : Cc) : RepT (List D) It := fun W H J ds => Wk K c (fun W' H' => GrS W H W' H') J ds
abbrev WkB (K : PySem.W.Frag) (c : Cc) : RepT (List D) It := fun W H J ds => Wk K c (fun W' H' => GrE c H H' ∧ GrS W H W' H') J ds
section
variable (X : Cx) (F : Nat → List D → Dr → Oc) (c : Cc) (Wx : WX) (exc : Exc)
structure TriI (tg e : Expr) (x : Itx) : Prop where
  fz : PI X tg e (okR X.K c Wx exc (WkF X.K c) (evi F .frz x))
  bo : PI X tg e (okR X.K c Wx exc (WkB X.K c) (evi F .bor x))
end
theorem _root_.L2.PI.imp {X : Cx} {tg e : Expr} {t t' : TI} (h : PI X tg e t) (q : ∀ σ H Q, t' σ H Q → t σ H Q) : PI X tg e t' := ⟨fun pins s σ H Q I h' => h.run pins s σ H Q I (q σ H Q h')⟩
section
variable {K : PySem.W.Frag} {c : Cc} {W W' : Addr → Prop} {H H' : Hp}
theorem wk_list {a : Addr} {xs : List V} {ds : List D} {Gr : (Addr → Prop) → Hp → Prop} (hz : xs.length ≤ sizeLine) (ra : RepL K c.a0 (hid W H) xs ds) (st : ∀ W' H', Gr W' H' → H' a = some (.lst xs) ∧ GrS W H W' H') : Wk K c Gr (Itl K a) ds := by
  have hl := ra.length
  refine ⟨by omega, fun H => SqL K H a xs, YAt xs, by rw [← hl]; exact walk_list, fun W' H' g => ?_⟩
  obtain ⟨h1, h2⟩ := st W' H' g
  refine ⟨.inl (.inl h1), fun i x H'' hi y => ?_⟩
  obtain ⟨rfl, e⟩ := y
  obtain ⟨d, e', r⟩ := ra.getV e
  exact ⟨d, e', .old (Rep.mono h2.hid r)⟩
theorem wk_tup {a : Addr} {xs : List V} {ds : List D} {Gr : (Addr → Prop) → Hp → Prop} (hz : xs.length ≤ sizeLine) (ra : RepL K c.a0 (hid W H) xs ds) (st : ∀ W' H', Gr W' H' → H' a = some (.tup xs) ∧ GrS W H W' H') : Wk K c Gr (Itt K a) ds := by
  have hl := ra.length
  refine ⟨by omega, fun H => SqT K H a xs, YAt xs, by rw [← hl]; exact walk_tup, fun W' H' g => ?_⟩
  obtain ⟨h1, h2⟩ := st W' H' g
  refine ⟨.inl (.inl h1), fun i x H'' hi y => ?_⟩
  obtain ⟨rfl, e⟩ := y
  obtain ⟨d, e', r⟩ := ra.getV e
  exact ⟨d, e', .old (Rep.mono h2.hid r)⟩
theorem rngL_length {lo hi : Int} : (rngL lo hi).length = (hi - lo).toNat := by simp [rngL]
theorem rngL_get {lo hi : Int} {i : Nat} (h : i < (hi - lo).toNat) : (rngL lo hi)[i]? = some (.int (lo + i)) := by simp [rngL, h]
theorem wk_rng {lo hi : Int} {Gr : (Addr → Prop) → Hp → Prop} (hz : (hi - lo).toNat ≤ sizeLine) : Wk K c Gr (Itr lo (hi - lo).toNat) (rngL lo hi) := by
  refine ⟨by rw [rngL_length]; exact hz, fun _ => True, YFn fun i => .int (lo + i), by rw [rngL_length]; exact walk_range, fun W' H' g => ⟨trivial, fun i x H'' hi y => ?_⟩⟩
  obtain ⟨rfl, rfl⟩ := y
  rw [rngL_length] at hi
  exact ⟨_, rngL_get hi, .old (.int _)⟩
theorem zip2_get {xs ys : List D} {i : Nat} {x y : D} (h1 : xs[i]? = some x) (h2 : ys[i]? = some y) : (zip2 xs ys)[i]? = some (.tuple [x, y]) := by
  unfold zip2
  rw [List.getElem?_zipWith, h1, h2]
theorem zip2_length {xs ys : List D} : (zip2 xs ys).length = min xs.length ys.length := by simp [zip2]
theorem enuL_length : ∀ (k : Nat) (xs : List D), (enuL k xs).length = xs.length
  | _, [] => rfl
  | k, x :: r => by unfold enuL; rw [List.length_cons, List.length_cons, enuL_length]
theorem enuL_get : ∀ (k : Nat) (xs : List D) (i : Nat) (x : D), xs[i]? = some x → (enuL k xs)[i]? = some (.tuple [.int ((k + i : Nat)), x])
  | _, [], _, _, h => by simp at h
  | k, y :: r, 0, x, h => by simp at h; subst h; simp [enuL]
  | k, y :: r, i + 1, x, h => by
    unfold enuL
    rw [List.getElem?_cons_succ, enuL_get (k + 1) r i x (by simpa using h)]
    congr 4; omega
theorem walk_zipT {a b : Addr} {xs ys : List V} {n : Nat} (hn : n = min xs.length ys.length) : Walk (RZ.ItzT K a b) n (fun H => SqT K H a xs ∧ SqT K H b ys) (YPair (fun i => xs[i]?) (fun i => ys[i]?)) := by
  subst hn
  refine ⟨fun i _ hi q => ?_, fun _ q => ⟨xs, ys, q.1, q.2, by omega⟩, fun i H v H' _ q y => ?_⟩
  · have h1 : i < xs.length := by omega
    have h2 : i < ys.length := by omega
    exact ⟨xs, ys, xs[i], ys[i], q.1, q.2, by simp [h1], by simp [h2]⟩
  · obtain ⟨T, x, z, h1, h2, h3, h4, h5⟩ := y
    exact ⟨T, x, z, h1, h2, h3, h4 xs q.1, h5 ys q.2⟩
theorem pair_new {T : Addr} {x y : V} {d e : D} (h : H T = none) (r1 : Rep K c.a0 (hid W H) x d) (r2 : Rep K c.a0 (hid W H) y e) : New K c W H (upd H T (.tup [x, y])) (.ref T) (.tuple [d, e]) := .tup h (.cons r1 (.cons r2 .nil))
theorem wk_zip {a b : Addr} {xs ys : List V} {ds es : List D} {Gr : (Addr → Prop) → Hp → Prop} (hz : xs.length ≤ sizeLine) (ra : RepL K c.a0 (hid W H) xs ds) (rb : RepL K c.a0 (hid W H) ys es) (st : ∀ W' H', Gr W' H' → H' a = some (.lst xs) ∧ H' b = some (.lst ys) ∧ GrS W H W' H') : Wk K c Gr (Itz K a b) (zip2 ds es) := by
  have hl := ra.length
  have hl' := rb.length
  refine ⟨by rw [zip2_length]; omega, fun H => SqL K H a xs ∧ SqL K H b ys, YPair (fun i => xs[i]?) (fun i => ys[i]?), walk_zip (by rw [zip2_length, hl, hl']), fun W' H' g => ?_⟩
  obtain ⟨h1, h1', h2⟩ := st W' H' g
  refine ⟨⟨.inl (.inl h1), .inl (.inl h1')⟩, fun i x H'' hi y => ?_⟩
  obtain ⟨T, u, v, rfl, hT, rfl, e1, e2⟩ := y
  obtain ⟨d, e1', r1⟩ := ra.getV e1
  obtain ⟨e, e2', r2⟩ := rb.getV e2
  exact ⟨_, zip2_get e1' e2', pair_new hT (Rep.mono h2.hid r1) (Rep.mono h2.hid r2)⟩
theorem wk_zipT {a b : Addr} {xs ys : List V} {ds es : List D} {Gr : (Addr → Prop) → Hp → Prop} (hz : xs.length ≤ sizeLine) (ra : RepL K c.a0 (hid W H) xs ds) (rb : RepL K c.a0 (hid W H) ys es) (st : ∀ W' H', Gr W' H' → H' a = some (.tup xs) ∧ H' b = some (.tup ys) ∧ GrS W H W' H') : Wk K c Gr (RZ.ItzT K a b) (zip2 ds es) := by
  have hl := ra.length
  have hl' := rb.length
  refine ⟨by rw [zip2_length]; omega, fun H => SqT K H a xs ∧ SqT K H b ys, YPair (fun i => xs[i]?) (fun i => ys[i]?), walk_zipT (by rw [zip2_length, hl, hl']), fun W' H' g => ?_⟩
  obtain ⟨h1, h1', h2⟩ := st W' H' g
  refine ⟨⟨.inl (.inl h1), .inl (.inl h1')⟩, fun i x H'' hi y => ?_⟩
  obtain ⟨T, u, v, rfl, hT, rfl, e1, e2⟩ := y
  obtain ⟨d, e1', r1⟩ := ra.getV e1
  obtain ⟨e, e2', r2⟩ := rb.getV e2
  exact ⟨_, zip2_get e1' e2', pair_new hT (Rep.mono h2.hid r1) (Rep.mono h2.hid r2)⟩
theorem wk_enu {a : Addr} {xs : List V} {ds : List D} {Gr : (Addr → Prop) → Hp → Prop} (hz : xs.length ≤ sizeLine) (ra : RepL K c.a0 (hid W H) xs ds) (st : ∀ W' H', Gr W' H' → H' a = some (.lst xs) ∧ GrS W H W' H') : Wk K c Gr (Ite K a) (enuL 0 ds) := by
  have hl := ra.length
  refine ⟨by rw [enuL_length]; omega, fun H => SqL K H a xs, YPair (fun i => some (.int (i : Nat))) (fun i => xs[i]?), by rw [enuL_length, ← hl]; exact walk_enum, fun W' H' g => ?_⟩
  obtain ⟨h1, h2⟩ := st W' H' g
  refine ⟨.inl (.inl h1), fun i x H'' hi y => ?_⟩
  obtain ⟨T, u, v, rfl, hT, rfl, e1, e2⟩ := y
  cases e1
  obtain ⟨d, e2', r2⟩ := ra.getV e2
  refine ⟨_, enuL_get 0 ds i d e2', ?_⟩
  rw [Nat.zero_add]
  exact pair_new hT (.int _) (Rep.mono h2.hid r2)
/-- a frozen list stands -/
theorem lst_frz {v : V} {ds : List D} (r : Rep K c.a0 (hid W H) v (.list ds)) : ∃ a xs, v = .ref a ∧ ¬ W a ∧ H a = some (.lst xs) ∧ RepL K c.a0 (hid W H) xs ds := by
  cases r with
  | @mu a o _ q r =>
    cases r with
    | lst r => exact ⟨a, _, rfl, (hid_of q).1, (hid_of q).2, r⟩
theorem tup_frz {v : V} {ds : List D} (r : Rep K c.a0 (hid W H) v (.tuple ds)) : ∃ a xs, v = .ref a ∧ ¬ W a ∧ H a = some (.tup xs) ∧ RepL K c.a0 (hid W H) xs ds := by
  cases r with
  | tup q r => exact ⟨_, _, rfl, (hid_of q).1, (hid_of q).2, r⟩
  | mu _ q => cases q
theorem tup_brw (wa : W c.a0) {v : V} {ds : List D} (r : RepB K c W H v (.tuple ds)) : ∃ a xs, v = .ref a ∧ ¬ W a ∧ H a = some (.tup xs) ∧ RepL K c.a0 (hid W H) xs ds := by
  rcases r with r | ⟨a, o, _, _, _, _, hc⟩
  · exact tup_frz r
  · cases hc
end

/-! ### the iterables -/
section
variable {X : Cx} {F : Nat → List D → Dr → Oc} {c : Cc} {Wx : WX} {exc : Exc} {e a b tg : Expr} {es : List Expr} {x x1 x2 : Ex} {xs : Exs} {W : Addr → Prop} {σ : L2.St} {H : Hp} {pos : Pos}
/-- a list or a tuple -/
theorem pi_seq {te : TE} (h : PE X e te) : PI X tg e (fun σ H R => te σ H fun v H1 => ∃ a xs, v = .ref a ∧ (xs.length ≤ sizeLine → (H1 a = some (.lst xs) ∧ R (Itl X.K a) H1) ∨ (H1 a = some (.tup xs) ∧ R (Itt X.K a) H1)) ∧ (H1 a = some (.lst xs) ∨ H1 a = some (.tup xs))) := by
  refine ⟨fun pins s σ H R I hw => ?_⟩
  refine thn (h.run pins s σ H _ I hw) fun v s1 ⟨x, H1, I1, r1, a, xs, hx, q, hq⟩ => ?_
  subst hx
  cases r1
  have fp : ∀ h : Heap, ∀ b ∈ [s1.heap.objs.size], FpOk X pins H1 b := fun h b hb => by
    have e : b = s1.heap.objs.size := by simpa using hb
    subst e
    exact I1.fpOk (Nat.le_refl _) (I1.hok.fresh (Nat.le_refl _))
  rcases hq with hq | hq
  · obtain ⟨its, rv, p, hz⟩ := I1.list (.inl (.inl hq))
    rcases q hz with ⟨_, q⟩ | ⟨z, _⟩
    · exact wpAny_pyIter_list p.isList ⟨s1.heap.objs.size, [s1.heap.objs.size], _, _, H1, rfl, I1.kept (t' := s1.toks) fun b o e => Heap.get?_push_of_some _ e, turn_list a _, ⟨_, Heap.get?_push_size _ rfl, rfl, rfl⟩, fp s1.heap, q⟩
    · rw [hq] at z; cases z
  · obtain ⟨its, rv, p, hz⟩ := I1.tuple (.inl (.inl hq))
    rcases q hz with ⟨z, _⟩ | ⟨_, q⟩
    · rw [hq] at z; cases z
    · exact wpAny_pyIter_tuple (show s1.heap.IsTuple a its.toArray from p) ⟨s1.heap.objs.size, [s1.heap.objs.size], _, _, H1, rfl, I1.kept (t' := s1.toks) fun b o e => Heap.get?_push_of_some _ e, turn_tuple a _, ⟨_, Heap.get?_push_size _ rfl, rfl, rfl⟩, fp s1.heap, q⟩
theorem wk_str {K : PySem.W.Frag} {z : Str} {Gr : (Addr → Prop) → Hp → Prop} (hl : okLen z.length = true) : Wk K c Gr (Its z) (z.cps.toList.map fun u => PyData.str ⟨#[u]⟩) := by
  have hn : (z.cps.toList.map fun u => PyData.str ⟨#[u]⟩).length = z.cps.size := by simp
  refine ⟨by rw [hn]; exact okLen_of hl, fun _ => True, _, by rw [hn]; exact walk_str, fun W' H' g => ⟨trivial, fun i x H'' hi y => ?_⟩⟩
  obtain ⟨rfl, u, e, rfl⟩ := y
  exact ⟨.str ⟨#[u]⟩, by simp [e], .old (.str _)⟩
theorem _root_.L2.PI.or {X : Cx} {tg e : Expr} {t t' : TI} (h : PI X tg e t) (h2 : PI X tg e t') : PI X tg e (fun σ H R => t σ H R ∨ t' σ H R) := ⟨fun pins s σ H Q I h' => h'.elim (h.run pins s σ H Q I) (h2.run pins s σ H Q I)⟩
/-- a tuple whose object is known -/
theorem pi_xt {te : TE} (h : PE X e te) : PI X tg e (fun σ H R => te σ H fun v H1 => ∃ a o xs, v = .ref a ∧ H1 a = some (.frz o (.tup xs)) ∧ (xs.length ≤ sizeLine → R (Itt X.K a) H1)) := by
  refine ⟨fun pins s σ H R I hw => ?_⟩
  refine thn (h.run pins s σ H _ I hw) fun v s1 ⟨x, H1, I1, r1, a, o, xs, hx, hq, q⟩ => ?_
  subst hx
  cases r1
  have fp : ∀ h : Heap, ∀ b ∈ [s1.heap.objs.size], FpOk X pins H1 b := fun h b hb => by
    have e : b = s1.heap.objs.size := by simpa using hb
    subst e
    exact I1.fpOk (Nat.le_refl _) (I1.hok.fresh (Nat.le_refl _))
  obtain ⟨its, rv, p, hz⟩ := I1.tuple (.inl (.inr ⟨o, hq⟩))
  exact wpAny_pyIter_tuple (show s1.heap.IsTuple a its.toArray from p) ⟨s1.heap.objs.size, [s1.heap.objs.size], _, _, H1, rfl, I1.kept (t' := s1.toks) fun b o e => Heap.get?_push_of_some _ e, turn_tuple a _, ⟨_, Heap.get?_push_size _ rfl, rfl, rfl⟩, fp s1.heap, q hz⟩
theorem wk_xt {K : PySem.W.Frag} {a : Addr} {o : Obj} {xs : List V} {ds : List D} {Gr : (Addr → Prop) → Hp → Prop} (hz : xs.length ≤ sizeLine) (ra : RepL K c.a0 (hid W H) xs ds) (st : ∀ W' H', Gr W' H' → H' a = some (.frz o (.tup xs)) ∧ GrS W H W' H') : Wk K c Gr (Itt K a) ds := by
  have hl := ra.length
  refine ⟨by omega, fun H => SqT K H a xs, YAt xs, by rw [← hl]; exact walk_tup, fun W' H' g => ?_⟩
  obtain ⟨h1, h2⟩ := st W' H' g
  refine ⟨.inl (.inr ⟨o, h1⟩), fun i x H'' hi y => ?_⟩
  obtain ⟨rfl, e⟩ := y
  obtain ⟨d, e', r⟩ := ra.getV e
  exact ⟨d, e', .old (Rep.mono h2.hid r)⟩
theorem walk_dict {ps : List (D × D)} {ds : List D} (h : walkD (.dict ps) = some ds) : (PyData.dict ps) = xtD ds := by
  unfold walkD at h
  split at h
  · rename_i e; cases e
  · rename_i e; cases e
  · rename_i e; cases e
  · rename_i es he; cases h; exact he
  · cases h
theorem trii_seq (h : Tri X F c Wx exc e x) : TriI X F c Wx exc tg e (.seq x) := by
  refine ⟨(((pi_seq h.fz).or (pi_str h.fz)).or (pi_xt h.fz)).imp fun σ H Q ⟨env, dr, W, m, p⟩ => ?_, (((pi_seq h.bo).or (pi_str h.bo)).or (pi_xt h.bo)).imp fun σ H Q ⟨env, dr, W, m, p⟩ => ?_⟩
  · have p : Po c Wx exc (WkF X.K c) W σ ((ev F .frz x env dr).bind fun x dr => match walkD x with
      | some ds => .ok ds dr
      | none => .stk) H Q := p
    cases e : ev F .frz x env dr with
    | stk => rw [e] at p; exact False.elim p
    | err n dr' => exact .inl (.inl ⟨env, dr, W, m, by rw [e] at p ⊢; exact p⟩)
    | ok d1 dr1 =>
      rw [e] at p
      have p : Po c Wx exc (WkF X.K c) W σ (match walkD d1 with
        | some ds => .ok ds dr1
        | none => .stk) H Q := p
      cases d1 with
      | str z =>
        refine .inl (.inr ⟨env, dr, W, m, ?_⟩)
        rw [e]
        intro v H1 g1 e1 r1
        have m1 := m.up g1 e1
        refine ⟨z, RepB.str (c := c) (W := W) (H := H1) (.inl r1), ?_⟩
        unfold walkD at p
        dsimp only at p
        by_cases hl : okLen z.length = true
        · rw [if_pos hl] at p
          exact p _ H1 g1 e1 (wk_str hl)
        · rw [if_neg hl] at p; exact False.elim p
      | list ds =>
        refine .inl (.inl ⟨env, dr, W, m, ?_⟩)
        rw [e]
        intro v H1 g1 e1 r1
        have m1 := m.up g1 e1
        obtain ⟨a, xs, rfl, nw, ha, ra⟩ := lst_frz r1
        exact ⟨a, xs, rfl, fun hz => .inl ⟨ha, p _ H1 g1 e1 (wk_list hz ra fun W' H' g => ⟨(g.hp a _ nw ha).2, g⟩)⟩, .inl ha⟩
      | tuple ds =>
        refine .inl (.inl ⟨env, dr, W, m, ?_⟩)
        rw [e]
        intro v H1 g1 e1 r1
        have m1 := m.up g1 e1
        obtain ⟨a, xs, rfl, nw, ha, ra⟩ := tup_frz r1
        exact ⟨a, xs, rfl, fun hz => .inr ⟨ha, p _ H1 g1 e1 (wk_tup hz ra fun W' H' g => ⟨(g.hp a _ nw ha).2, g⟩)⟩, .inr ha⟩
      | dict ps =>
        refine .inr ⟨env, dr, W, m, ?_⟩
        rw [e]
        intro v H1 g1 e1 r1
        have m1 := m.up g1 e1
        cases hw : walkD (.dict ps) with
        | none => rw [hw] at p; exact False.elim p
        | some ds =>
          rw [hw] at p
          rw [walk_dict hw] at r1
          obtain ⟨a, o, xs, rfl, nw, ha, _, _, ra⟩ := RepB.xt (c := c) (W := W) (H := H1) (.inl r1)
          exact ⟨a, o, xs, rfl, ha, fun hz => p _ H1 g1 e1 (wk_xt hz ra fun W' H' g => ⟨(g.hp a _ nw ha).2, g⟩)⟩
      | _ => exact False.elim p
  · have p : Po c Wx exc (WkB X.K c) W σ ((ev F .bor x env dr).bind fun x dr => match walkD x with
      | some ds => .ok ds dr
      | none => .stk) H Q := p
    cases e : ev F .bor x env dr with
    | stk => rw [e] at p; exact False.elim p
    | err n dr' => exact .inl (.inl ⟨env, dr, W, m, by rw [e] at p ⊢; exact p⟩)
    | ok d1 dr1 =>
      rw [e] at p
      have p : Po c Wx exc (WkB X.K c) W σ (match walkD d1 with
        | some ds => .ok ds dr1
        | none => .stk) H Q := p
      cases d1 with
      | str z =>
        refine .inl (.inr ⟨env, dr, W, m, ?_⟩)
        rw [e]
        intro v H1 g1 e1 r1
        have m1 := m.up g1 e1
        refine ⟨z, r1.str, ?_⟩
        unfold walkD at p
        dsimp only at p
        by_cases hl : okLen z.length = true
        · rw [if_pos hl] at p
          exact p _ H1 g1 e1 (wk_str hl)
        · rw [if_neg hl] at p; exact False.elim p
      | list ds =>
        refine .inl (.inl ⟨env, dr, W, m, ?_⟩)
        rw [e]
        intro v H1 g1 e1 r1
        have m1 := m.up g1 e1
        obtain ⟨a, xs, rfl, na, ha, ra⟩ := r1.lst m1.wa
        exact ⟨a, xs, rfl, fun hz => .inl ⟨ha, p _ H1 g1 e1 (wk_list hz ra fun W' H' g => ⟨g.1.hp a _ na ha, g.2⟩)⟩, .inl ha⟩
      | tuple ds =>
        refine .inl (.inl ⟨env, dr, W, m, ?_⟩)
        rw [e]
        intro v H1 g1 e1 r1
        have m1 := m.up g1 e1
        obtain ⟨a, xs, rfl, nw, ha, ra⟩ := tup_brw m1.wa r1
        exact ⟨a, xs, rfl, fun hz => .inr ⟨ha, p _ H1 g1 e1 (wk_tup hz ra fun W' H' g => ⟨(g.2.hp a _ nw ha).2, g.2⟩)⟩, .inr ha⟩
      | dict ps =>
        refine .inr ⟨env, dr, W, m, ?_⟩
        rw [e]
        intro v H1 g1 e1 r1
        have m1 := m.up g1 e1
        cases hw : walkD (.dict ps) with
        | none => rw [hw] at p; exact False.elim p
        | some ds =>
          rw [hw] at p
          rw [walk_dict hw] at r1
          obtain ⟨a, o, xs, rfl, nw, ha, _, _, ra⟩ := RepB.xt (c := c) (W := W) (H := H1) (r1)
          exact ⟨a, o, xs, rfl, ha, fun hz => p _ H1 g1 e1 (wk_xt hz ra fun W' H' g => ⟨(g.2.hp a _ nw ha).2, g.2⟩)⟩
      | _ => exact False.elim p
theorem rngOk_of {i : Int} (h : rngOk i = true) : -(2 ^ 62) ≤ i ∧ i < 2 ^ 62 := by
  unfold rngOk at h
  rw [Bool.and_eq_true] at h
  exact ⟨of_decide_eq_true h.1, of_decide_eq_true h.2⟩
theorem evs_one {md : Md} {x : Ex} {env : List Sl} {dr : Dr} : evs F md (.cons x .nil) env dr = (ev F md x env dr).bind fun d dr => .ok [d] dr := rfl
theorem evs_two {md : Md} {x y : Ex} {env : List Sl} {dr : Dr} : evs F md (.cons x (.cons y .nil)) env dr = (ev F md x env dr).bind fun d dr => (ev F md y env dr).bind fun e dr => .ok [d, e] dr := by
  show (ev F md x env dr).bind _ = _
  congr 1; funext d dr1
  show ((ev F md y env dr1).bind fun e dr => .ok [e] dr).bind _ = _
  rw [R.bind_assoc]
  rfl
theorem Plain.h1 (hp : Plain [a]) (env : Env) : starEach [a] env = [(false, eval a env)] := hp.head env
theorem Plain.h2 (hp : Plain [a, b]) (env : Env) : starEach [a, b] env = [(false, eval a env), (false, eval b env)] := by rw [hp.head, hp.tail.h1]
theorem trii_rng1 {p : Pos} (hg : Gl X "range") (hm : X.mg "range" = none) (hp : Plain [a]) (h : Tri X F c Wx exc a x) : TriI X F c Wx exc tg (.Call (.Name "range" p) [a] [] pos) (.rng (.cons x .nil)) := by
  have go : ∀ {md : Md} {rep : RepT (List D) It} {σ : L2.St} {H : Hp} {Q : It → Hp → Prop}, (∀ W H J ds, (∀ Gr, Wk X.K c Gr J ds) → rep W H J ds) → okR X.K c Wx exc rep (evi F md (.rng (.cons x .nil))) σ H Q → iRng1 (tCons (okR X.K c Wx exc (RepB X.K c) (ev F .bor x)) tNil) σ H Q := by
    intro md rep σ H Q hr ⟨env, dr, W, m, p⟩
    have p : Po c Wx exc rep W σ ((ev F .bor x env dr).bind fun d dr => match rngD [d] with
      | some r => .ok r dr
      | none => .stk) H Q := by
      have p : Po c Wx exc rep W σ ((evs F .bor (.cons x .nil) env dr).bind fun ds dr => match rngD ds with
        | some r => .ok r dr
        | none => .stk) H Q := p
      rw [evs_one, R.bind_assoc] at p
      exact p
    refine ⟨env, dr, W, m, (Po.bind p).mono fun v H1 ⟨d, dr1, g1, e1, r1, p1⟩ => ?_⟩
    cases d with
    | int j =>
      cases r1.int
      unfold rngD at p1
      dsimp only at p1
      split at p1
      · rename_i r hr'
        split at hr'
        · rename_i hc
          cases hr'
          rw [Bool.and_eq_true] at hc
          have hk := okLen_of hc.2
          refine ⟨j, rfl, (rngOk_of hc.1).1, (rngOk_of hc.1).2, p1 _ H1 (m.up g1 e1).gr e1 (hr _ _ _ _ fun Gr => ?_)⟩
          have := wk_rng (K := X.K) (c := c) (lo := 0) (hi := j) (Gr := Gr) (by simpa using hk)
          simpa using this
        · cases hr'
      · exact False.elim p1
    | _ => exact False.elim p1
  exact ⟨(pi_range1 hg hm (pa_cons h.bo pa_nil (hp.head _)) (hp.h1 _)).imp fun σ H Q p => go (fun _ _ _ _ q => q _) p, (pi_range1 hg hm (pa_cons h.bo pa_nil (hp.head _)) (hp.h1 _)).imp fun σ H Q p => go (fun _ _ _ _ q => q _) p⟩
theorem trii_rng2 {p : Pos} (hg : Gl X "range") (hm : X.mg "range" = none) (hp : Plain [a, b]) (h : Tri X F c Wx exc a x1) (h2 : Tri X F c Wx exc b x2) : TriI X F c Wx exc tg (.Call (.Name "range" p) [a, b] [] pos) (.rng (.cons x1 (.cons x2 .nil))) := by
  have go : ∀ {md : Md} {rep : RepT (List D) It} {σ : L2.St} {H : Hp} {Q : It → Hp → Prop}, (∀ W H J ds, (∀ Gr, Wk X.K c Gr J ds) → rep W H J ds) → okR X.K c Wx exc rep (evi F md (.rng (.cons x1 (.cons x2 .nil)))) σ H Q →
      iRng2 (tCons (okR X.K c Wx exc (RepB X.K c) (ev F .bor x1)) (tCons (okR X.K c Wx exc (RepB X.K c) (ev F .bor x2)) tNil)) σ H Q := by
    intro md rep σ H Q hr ⟨env, dr, W, m, p⟩
    have p : Po c Wx exc rep W σ ((ev F .bor x1 env dr).bind fun d dr => (ev F .bor x2 env dr).bind fun e dr => match rngD [d, e] with
      | some r => .ok r dr
      | none => .stk) H Q := by
      have p : Po c Wx exc rep W σ ((evs F .bor (.cons x1 (.cons x2 .nil)) env dr).bind fun ds dr => match rngD ds with
        | some r => .ok r dr
        | none => .stk) H Q := p
      rw [evs_two, R.bind_assoc] at p
      simp only [R.bind_assoc] at p
      exact p
    refine ⟨env, dr, W, m, (Po.bind p).mono fun v H1 ⟨d, dr1, g1, e1, r1, p1⟩ => ⟨env, dr1, W, m.up g1 e1, (Po.bind p1).mono fun u H2 ⟨d2, dr2, g2, e2, r2, p2⟩ => ?_⟩⟩
    have m2 := (m.up g1 e1).up g2 e2
    unfold rngD at p2
    split at p2
    · rename_i r hr'
      split at hr'
      · rename_i hh; cases hh
      · rename_i i j hh
        cases hh
        cases r1.int
        cases r2.int
        split at hr'
        · rename_i hc
          cases hr'
          simp only [Bool.and_eq_true] at hc
          obtain ⟨⟨c1, c2⟩, c3⟩ := hc
          exact ⟨i, j, rfl, ⟨(rngOk_of c1).1, (rngOk_of c1).2, (rngOk_of c2).1, (rngOk_of c2).2⟩, p2 _ H2 m2.gr e2 (hr _ _ _ _ fun Gr => wk_rng (okLen_of c3))⟩
        · cases hr'
      · cases hr'
    · exact False.elim p2
  exact ⟨(pi_range2 hg hm (pa_cons h.bo (pa_cons h2.bo pa_nil (hp.tail.head _)) (hp.head _)) (hp.h2 _) (hp.tail.h1 _)).imp fun σ H Q p => go (fun _ _ _ _ q => q _) p, (pi_range2 hg hm (pa_cons h.bo (pa_cons h2.bo pa_nil (hp.tail.head _)) (hp.head _)) (hp.h2 _) (hp.tail.h1 _)).imp fun σ H Q p => go (fun _ _ _ _ q => q _) p⟩
/-- range(len(a)): the length's bound comes from the heap -/
theorem trii_rlen {p p2 : Pos} {pos2 : Pos} (hg : Gl X "range") (hm : X.mg "range" = none) (hgl : Gl X "len") (hml : X.mg "len" = none) (hp : Plain [a]) (h : Tri X F c Wx exc a x) :
    TriI X F c Wx exc tg (.Call (.Name "range" p) [.Call (.Name "len" p2) [a] [] pos2] [] pos) (.rlen x) := by
  have hpl : Plain [.Call (.Name "len" p2) [a] [] pos2] := fun _ => rfl
  have pl : PE X (.Call (.Name "len" p2) [a] [] pos2) (tCB (rBf X.K c .len) (tCons (fun σ H Q => okR X.K c Wx exc (RepB X.K c) (ev F .bor x) σ H fun v H1 => Bnd X.K v H1 → Q v H1) tNil)) :=
    pe_callB bf_len hgl hml rfl (pa_cons (pe_bnd h.bo) pa_nil (hp.head _)) (by decide) (by decide) (hp.head _) rfl
  have go : ∀ {md : Md} {rep : RepT (List D) It} {σ : L2.St} {H : Hp} {Q : It → Hp → Prop}, (∀ W H J ds, (∀ Gr, Wk X.K c Gr J ds) → rep W H J ds) → okR X.K c Wx exc rep (evi F md (.rlen x)) σ H Q →
      iRng1 (tCons (tCB (rBf X.K c .len) (tCons (fun σ H Q => okR X.K c Wx exc (RepB X.K c) (ev F .bor x) σ H fun v H1 => Bnd X.K v H1 → Q v H1) tNil)) tNil) σ H Q := by
    intro md rep σ H Q hr ⟨env, dr, W, m, p⟩
    refine ⟨env, dr, W, m, (Po.bind (k := fun x dr => match lenD x with
      | some n => .ok (rngL 0 n) dr
      | none => .stk) p).mono fun v H1 ⟨d, dr1, g1, e1, r1, p1⟩ => fun hb => ?_⟩
    have m1 := m.up g1 e1
    have fin : ∀ n : Nat, lenD d = some n → bfD .len [d] = some (.int n) → n ≤ sizeLine → rBf X.K c .len [v] H1 (fun v H' => tNil σ H' fun vs H' => ∃ j : Int, v :: vs = [V.int j] ∧ -(2 ^ 62) ≤ j ∧ j < 2 ^ 62 ∧ Q (Itr 0 j.toNat) H') := fun n hl hl2 hz => by
      refine ⟨W, [d], .int n, m.wa, .cons r1 .nil, hl2, fun v' H' nw => ?_⟩
      cases nw with
      | old r =>
        cases r with
        | int =>
          rw [hl] at p1
          refine ⟨(n : Int), rfl, by omega, by rw [szl] at hz; omega, p1 _ H1 m1.gr e1 (hr _ _ _ _ fun Gr => ?_)⟩
          have := wk_rng (K := X.K) (c := c) (lo := 0) (hi := (n : Int)) (Gr := Gr) (by simpa using hz)
          simpa using this
        | mu _ q => cases q
      | mu _ q => cases q
    cases d with
    | list ds =>
      obtain ⟨a, xs, rfl, _, ha, ra⟩ := r1.lst m1.wa
      exact fin ds.length rfl rfl (by rw [← ra.length]; exact hb a xs rfl (.inl (.inl (.inl ha))))
    | tuple ds =>
      obtain ⟨a, xs, rfl, ha, ra⟩ := r1.tup
      exact fin ds.length rfl rfl (by rw [← ra.length]; exact hb a xs rfl (.inr (.inl (.inl ha))))
    | _ => exact False.elim p1
  exact ⟨(pi_range1 hg hm (pa_cons pl pa_nil (hpl.head _)) (hpl.h1 _)).imp fun σ H Q p => go (fun _ _ _ _ q => q _) p, (pi_range1 hg hm (pa_cons pl pa_nil (hpl.head _)) (hpl.h1 _)).imp fun σ H Q p => go (fun _ _ _ _ q => q _) p⟩
/-! ### rows -/
def Src (K : PySem.W.Frag) (H : Hp) (R : List V → List D → Prop) (Gr : (Addr → Prop) → Hp → Prop) (v : V) (ds : List D) : Prop := ∃ b a xs, v = .ref a ∧ SqB K b H a xs ∧ R xs ds ∧ ∀ W' H', Gr W' H' → SqB K b H' a xs
abbrev GrF (c : Cc) (W : Addr → Prop) (H : Hp) : (Addr → Prop) → Hp → Prop := fun W' H' => GrS W H W' H'
abbrev GrB (c : Cc) (W : Addr → Prop) (H : Hp) : (Addr → Prop) → Hp → Prop := fun W' H' => GrE c H H' ∧ GrS W H W' H'
theorem src_frz {K : PySem.W.Frag} {v : V} {d : D} {ds : List D} (r : RepF K c W H v d) (e : seqD d = some ds) : Src K H (fun xs ds => RepL K c.a0 (hid W H) xs ds) (GrF c W H) v ds := by
  cases d <;> first | cases e; done | skip
  · cases e
    obtain ⟨a, xs, rfl, nw, ha, ra⟩ := lst_frz r
    exact ⟨true, a, xs, rfl, .inl (.inl ha), ra, fun W' H' g => .inl (.inl (g.hp a _ nw ha).2)⟩
  · cases e
    obtain ⟨a, xs, rfl, nw, ha, ra⟩ := tup_frz r
    exact ⟨false, a, xs, rfl, .inl (.inl ha), ra, fun W' H' g => .inl (.inl (g.hp a _ nw ha).2)⟩
theorem src_bor {K : PySem.W.Frag} {v : V} {d : D} {ds : List D} (wa : W c.a0) (r : RepB K c W H v d) (e : seqD d = some ds) : Src K H (fun xs ds => RepL K c.a0 (hid W H) xs ds) (GrB c W H) v ds := by
  cases d <;> first | cases e; done | skip
  · cases e
    obtain ⟨a, xs, rfl, na, ha, ra⟩ := r.lst wa
    exact ⟨true, a, xs, rfl, .inl (.inl ha), ra, fun W' H' g => .inl (.inl (g.1.hp a _ na ha))⟩
  · cases e
    obtain ⟨a, xs, rfl, nw, ha, ra⟩ := tup_brw wa r
    exact ⟨false, a, xs, rfl, .inl (.inl ha), ra, fun W' H' g => .inl (.inl (g.2.hp a _ nw ha).2)⟩
theorem wk_rows {K : PySem.W.Frag} {rows : Hp → List (List V) → Prop} {rs : List (List V)} {ds : List D} {Gr : (Addr → Prop) → Hp → Prop} (hz : rs.length ≤ sizeLine) (hl : ds.length = rs.length) (st : ∀ W' H', Gr W' H' → rows H' rs ∧ GrS W H W' H')
    (hr : ∀ (i : Nat) r, rs[i]? = some r → ∃ es, ds[i]? = some (.tuple es) ∧ RepL K c.a0 (hid W H) r es) : Wk K c Gr (ItR rows) ds := by
  refine ⟨by omega, fun H => rows H rs, YRow rs, walk_rows hl, fun W' H' g => ?_⟩
  obtain ⟨h1, h2⟩ := st W' H' g
  refine ⟨h1, fun i x H'' hi y => ?_⟩
  obtain ⟨T, r, rfl, hT, rfl, e⟩ := y
  obtain ⟨es, e', re⟩ := hr i r e
  exact ⟨_, e', .tup hT (RepL.mono h2.hid re)⟩
theorem zip3_get : ∀ {xs ys zs : List D} {i : Nat} {x y z : D}, xs[i]? = some x → ys[i]? = some y → zs[i]? = some z → (zip3 xs ys zs)[i]? = some (.tuple [x, y, z])
  | x :: xs, y :: ys, z :: zs, 0, _, _, _, h1, h2, h3 => by simp at h1 h2 h3; subst h1 h2 h3; rfl
  | x :: xs, y :: ys, z :: zs, i + 1, _, _, _, h1, h2, h3 => by
    show (zip3 xs ys zs)[i]? = _
    exact zip3_get (by simpa using h1) (by simpa using h2) (by simpa using h3)
  | [], _, _, _, _, _, _, h1, _, _ => by simp at h1
  | _ :: _, [], _, _, _, _, _, _, h2, _ => by simp at h2
  | _ :: _, _ :: _, [], _, _, _, _, _, _, h3 => by simp at h3
theorem zip3_length : ∀ (xs ys zs : List D), (zip3 xs ys zs).length = min (min xs.length ys.length) zs.length
  | x :: xs, y :: ys, z :: zs => by
    show (zip3 xs ys zs).length + 1 = _
    rw [zip3_length xs ys zs]
    simp only [List.length_cons]
    omega
  | [], _, _ => by simp [zip3]
  | _ :: _, [], _ => by simp [zip3]
  | _ :: _, _ :: _, [] => by simp [zip3]
theorem row3_inv : ∀ {xs ys zs : List V} {i : Nat} {r : List V}, (row3 xs ys zs)[i]? = some r → ∃ x y z, r = [x, y, z] ∧ xs[i]? = some x ∧ ys[i]? = some y ∧ zs[i]? = some z
  | x :: xs, y :: ys, z :: zs, 0, _, h => by simp [row3] at h; subst h; exact ⟨x, y, z, rfl, rfl, rfl, rfl⟩
  | x :: xs, y :: ys, z :: zs, i + 1, _, h => by
    obtain ⟨a, b, c, h1, h2, h3, h4⟩ := row3_inv (show (row3 xs ys zs)[i]? = _ from h)
    exact ⟨a, b, c, h1, by simpa using h2, by simpa using h3, by simpa using h4⟩
  | [], _, _, _, _, h => by simp [row3] at h
  | _ :: _, [], _, _, _, h => by simp [row3] at h
  | _ :: _, _ :: _, [], _, _, h => by simp [row3] at h
theorem rowE_inv : ∀ (k : Nat) {xs : List V} {i : Nat} {r : List V}, (rowE k xs)[i]? = some r → ∃ x, r = [.int ((k + i : Nat)), x] ∧ xs[i]? = some x
  | _, [], _, _, h => by simp [rowE] at h
  | k, y :: xs, 0, _, h => by simp [rowE] at h; subst h; exact ⟨y, rfl, rfl⟩
  | k, y :: xs, i + 1, _, h => by
    obtain ⟨x, h1, h2⟩ := rowE_inv (k + 1) (show (rowE (k + 1) xs)[i]? = _ from h)
    refine ⟨x, ?_, by simpa using h2⟩
    rw [h1]
    congr 3; omega
/-- zip of two -/
theorem zip_go {md : Md} {rep : RepT D V} {Gr : (Addr → Prop) → Hp → (Addr → Prop) → Hp → Prop} (hsrc : ∀ {W H v d ds}, W c.a0 → rep W H v d → seqD d = some ds → Src X.K H (fun xs ds => RepL X.K c.a0 (hid W H) xs ds) (Gr W H) v ds)
    (hgrow : ∀ {W H H' v d}, W c.a0 → GrE c H H' → rep W H v d → rep W H' v d) (hg : ∀ {W H W' H'}, Gr W H W' H' → GrS W H W' H') {Q : It → Hp → Prop}
    (h : okR X.K c Wx exc (fun W H J ds => Wk X.K c (Gr W H) J ds) (evi F md (.zip (.cons x1 (.cons x2 .nil)))) σ H Q) : iZipB X.K (tCons (okR X.K c Wx exc rep (ev F md x1)) (tCons (okR X.K c Wx exc rep (ev F md x2)) tNil)) σ H Q := by
  obtain ⟨env, dr, W, m, p⟩ := h
  have p : Po c Wx exc (fun W H J ds => Wk X.K c (Gr W H) J ds) W σ ((ev F md x1 env dr).bind fun d dr => (ev F md x2 env dr).bind fun e dr => match zipD [d, e] with
      | some r => .ok r dr
      | none => .stk) H Q := by
    have p : Po c Wx exc (fun W H J ds => Wk X.K c (Gr W H) J ds) W σ ((evs F md (.cons x1 (.cons x2 .nil)) env dr).bind fun ds dr => match zipD ds with
        | some r => .ok r dr
        | none => .stk) H Q := p
    rw [evs_two, R.bind_assoc] at p
    simp only [R.bind_assoc] at p
    exact p
  refine ⟨env, dr, W, m, (Po.bind p).mono fun v H1 ⟨d, dr1, g1, e1, r1, p1⟩ => ⟨env, dr1, W, m.up g1 e1, (Po.bind p1).mono fun u H2 ⟨d2, dr2, g2, e2, r2, p2⟩ => ?_⟩⟩
  have m2 := (m.up g1 e1).up g2 e2
  have r1 := hgrow m.wa g2 r1
  unfold zipD at p2
  dsimp only at p2
  cases hs1 : seqD d with
  | none => simp only [hs1] at p2; exact False.elim p2
  | some ds1 =>
    cases hs2 : seqD d2 with
    | none => simp only [hs1, hs2] at p2; exact False.elim p2
    | some ds2 =>
      simp only [hs1, hs2] at p2
      obtain ⟨b1, a1, xs, rfl, q1, ra, k1⟩ := hsrc m.wa r1 hs1
      obtain ⟨b2, a2, ys, rfl, q2, rb, k2⟩ := hsrc m.wa r2 hs2
      have l1 := ra.length
      have l2 := rb.length
      refine ⟨b1, b2, a1, a2, xs, ys, rfl, q1, q2, fun z1 z2 => p2 _ H2 m2.gr e2 (wk_rows (W := W) (H := H2) (rs := List.zipWith (fun x y => [x, y]) xs ys) (by rw [List.length_zipWith]; omega) (by rw [zip2_length, List.length_zipWith]; omega) (fun W' H' g => ⟨⟨xs, ys, k1 W' H' g, k2 W' H' g, rfl⟩, hg g⟩) fun i r e => ?_)⟩
      rw [List.getElem?_zipWith] at e
      cases hx : xs[i]? with
      | none => rw [hx] at e; cases e
      | some x =>
        cases hy : ys[i]? with
        | none => rw [hx, hy] at e; cases e
        | some y =>
          rw [hx, hy] at e
          cases e
          obtain ⟨d1, f1, t1⟩ := ra.getV hx
          obtain ⟨d2, f2, t2⟩ := rb.getV hy
          exact ⟨_, zip2_get f1 f2, .cons t1 (.cons t2 .nil)⟩
theorem trii_zip {elts : List Expr} {kk : Nat} {p tpos : Pos} (hg : Gl X "zip") (hm : X.mg "zip" = none) (hp : Plain [a, b]) (h : Tri X F c Wx exc a x1) (h2 : Tri X F c Wx exc b x2) :
    TriI X F c Wx exc (.Tuple elts kk tpos) (.Call (.Name "zip" p) [a, b] [] pos) (.zip (.cons x1 (.cons x2 .nil))) :=
  ⟨(pi_zipB hg hm (pa_cons h.fz (pa_cons h2.fz pa_nil (hp.tail.head _)) (hp.head _)) (hp.head _) (hp.tail.any _ _)).imp fun σ H Q p => zip_go (Gr := GrF c) (fun _ r e => src_frz r e) (fun wa g r => Rep.mono (g.hid wa) r) (fun g => g) p,
    (pi_zipB hg hm (pa_cons h.bo (pa_cons h2.bo pa_nil (hp.tail.head _)) (hp.head _)) (hp.head _) (hp.tail.any _ _)).imp fun σ H Q p => zip_go (Gr := GrB c) (fun wa r e => src_bor wa r e) (fun wa g r => r.grow wa g) (fun g => g.2) p⟩
variable {e3 : Expr} {x3 : Ex}
theorem evs_three {md : Md} {x y z : Ex} {env : List Sl} {dr : Dr} : evs F md (.cons x (.cons y (.cons z .nil))) env dr = (ev F md x env dr).bind fun d dr => (ev F md y env dr).bind fun e dr => (ev F md z env dr).bind fun f dr => .ok [d, e, f] dr := by
  show (ev F md x env dr).bind _ = _
  congr 1; funext d dr1
  show ((evs F md (.cons y (.cons z .nil)) env dr1).bind fun ds dr => .ok (d :: ds) dr) = _
  rw [evs_two, R.bind_assoc]
  congr 1; funext e dr2
  rw [R.bind_assoc]
  rfl
theorem zip3_go {md : Md} {rep : RepT D V} {Gr : (Addr → Prop) → Hp → (Addr → Prop) → Hp → Prop} (hsrc : ∀ {W H v d ds}, W c.a0 → rep W H v d → seqD d = some ds → Src X.K H (fun xs ds => RepL X.K c.a0 (hid W H) xs ds) (Gr W H) v ds)
    (hgrow : ∀ {W H H' v d}, W c.a0 → GrE c H H' → rep W H v d → rep W H' v d) (hg : ∀ {W H W' H'}, Gr W H W' H' → GrS W H W' H') {Q : It → Hp → Prop}
    (h : okR X.K c Wx exc (fun W H J ds => Wk X.K c (Gr W H) J ds) (evi F md (.zip (.cons x1 (.cons x2 (.cons x3 .nil))))) σ H Q) :
    iZip3B X.K (tCons (okR X.K c Wx exc rep (ev F md x1)) (tCons (okR X.K c Wx exc rep (ev F md x2)) (tCons (okR X.K c Wx exc rep (ev F md x3)) tNil))) σ H Q := by
  obtain ⟨env, dr, W, m, p⟩ := h
  have p : Po c Wx exc (fun W H J ds => Wk X.K c (Gr W H) J ds) W σ ((ev F md x1 env dr).bind fun d dr => (ev F md x2 env dr).bind fun e dr => (ev F md x3 env dr).bind fun f dr => match zipD [d, e, f] with
      | some r => .ok r dr
      | none => .stk) H Q := by
    have p : Po c Wx exc (fun W H J ds => Wk X.K c (Gr W H) J ds) W σ ((evs F md (.cons x1 (.cons x2 (.cons x3 .nil))) env dr).bind fun ds dr => match zipD ds with
        | some r => .ok r dr
        | none => .stk) H Q := p
    rw [evs_three, R.bind_assoc] at p
    simp only [R.bind_assoc] at p
    exact p
  refine ⟨env, dr, W, m, (Po.bind p).mono fun v H1 ⟨d, dr1, g1, e1, r1, p1⟩ => ⟨env, dr1, W, m.up g1 e1, (Po.bind p1).mono fun u H2 ⟨d2, dr2, g2, e2, r2, p2⟩ => ⟨env, dr2, W, (m.up g1 e1).up g2 e2, (Po.bind p2).mono fun u' H3 ⟨d3, dr3, g3, e3, r3, p3⟩ => ?_⟩⟩⟩
  have m3 := ((m.up g1 e1).up g2 e2).up g3 e3
  have r1 := hgrow m.wa g3 (hgrow m.wa g2 r1)
  have r2 := hgrow m.wa g3 r2
  unfold zipD at p3
  dsimp only at p3
  cases hs1 : seqD d with
  | none => simp only [hs1] at p3; exact False.elim p3
  | some ds1 =>
    cases hs2 : seqD d2 with
    | none => simp only [hs1, hs2] at p3; exact False.elim p3
    | some ds2 =>
      cases hs3 : seqD d3 with
      | none => simp only [hs1, hs2, hs3] at p3; exact False.elim p3
      | some ds3 =>
        simp only [hs1, hs2, hs3] at p3
        obtain ⟨b1, a1, xs, rfl, q1, ra, k1⟩ := hsrc m.wa r1 hs1
        obtain ⟨b2, a2, ys, rfl, q2, rb, k2⟩ := hsrc m.wa r2 hs2
        obtain ⟨b3, a3, zs, rfl, q3, rc, k3⟩ := hsrc m.wa r3 hs3
        have l1 := ra.length
        have l2 := rb.length
        have l3 := rc.length
        refine ⟨b1, b2, b3, a1, a2, a3, xs, ys, zs, rfl, q1, q2, q3, fun z1 z2 z3 => p3 _ H3 m3.gr e3 (wk_rows (W := W) (H := H3) (rs := row3 xs ys zs) (by rw [row3_length]; omega) (by rw [zip3_length, row3_length]; omega) (fun W' H' g => ⟨⟨xs, ys, zs, k1 W' H' g, k2 W' H' g, k3 W' H' g, rfl⟩, hg g⟩) fun i r e => ?_)⟩
        obtain ⟨x, y, z, rfl, hx, hy, hz⟩ := row3_inv e
        obtain ⟨d1, f1, t1⟩ := ra.getV hx
        obtain ⟨d2, f2, t2⟩ := rb.getV hy
        obtain ⟨d3, f3, t3⟩ := rc.getV hz
        exact ⟨_, zip3_get f1 f2 f3, .cons t1 (.cons t2 (.cons t3 .nil))⟩
theorem trii_zip3 {elts : List Expr} {kk : Nat} {p tpos : Pos} (hg : Gl X "zip") (hm : X.mg "zip" = none) (hp : Plain [a, b, e3]) (h : Tri X F c Wx exc a x1) (h2 : Tri X F c Wx exc b x2) (h3 : Tri X F c Wx exc e3 x3) :
    TriI X F c Wx exc (.Tuple elts kk tpos) (.Call (.Name "zip" p) [a, b, e3] [] pos) (.zip (.cons x1 (.cons x2 (.cons x3 .nil)))) :=
  ⟨(pi_zip3B hg hm (pa_cons h.fz (pa_cons h2.fz (pa_cons h3.fz pa_nil (hp.tail.tail.head _)) (hp.tail.head _)) (hp.head _)) (hp.head _) (hp.tail.any _ _)).imp fun σ H Q p => zip3_go (Gr := GrF c) (fun _ r e => src_frz r e) (fun wa g r => Rep.mono (g.hid wa) r) (fun g => g) p,
    (pi_zip3B hg hm (pa_cons h.bo (pa_cons h2.bo (pa_cons h3.bo pa_nil (hp.tail.tail.head _)) (hp.tail.head _)) (hp.head _)) (hp.head _) (hp.tail.any _ _)).imp fun σ H Q p => zip3_go (Gr := GrB c) (fun wa r e => src_bor wa r e) (fun wa g r => r.grow wa g) (fun g => g.2) p⟩
theorem enu_go {md : Md} {rep : RepT D V} {Gr : (Addr → Prop) → Hp → (Addr → Prop) → Hp → Prop} (hsrc : ∀ {W H v d ds}, W c.a0 → rep W H v d → seqD d = some ds → Src X.K H (fun xs ds => RepL X.K c.a0 (hid W H) xs ds) (Gr W H) v ds)
    (hg : ∀ {W H W' H'}, Gr W H W' H' → GrS W H W' H') {Q : It → Hp → Prop}
    (h : okR X.K c Wx exc (fun W H J ds => Wk X.K c (Gr W H) J ds) (evi F md (.enu x)) σ H Q) : iEnuB X.K (tCons (okR X.K c Wx exc rep (ev F md x)) tNil) σ H Q := by
  obtain ⟨env, dr, W, m, p⟩ := h
  refine ⟨env, dr, W, m, (Po.bind (k := fun x dr => match seqD x with
      | some ds => .ok (enuL 0 ds) dr
      | none => .stk) p).mono fun v H1 ⟨d, dr1, g1, e1, r1, p1⟩ => ?_⟩
  have m1 := m.up g1 e1
  cases hs1 : seqD d with
  | none => simp only [hs1] at p1; exact False.elim p1
  | some ds1 =>
    simp only [hs1] at p1
    obtain ⟨b1, a1, xs, rfl, q1, ra, k1⟩ := hsrc m.wa r1 hs1
    have l1 := ra.length
    refine ⟨b1, a1, xs, rfl, q1, fun z1 => p1 _ H1 m1.gr e1 (wk_rows (W := W) (H := H1) (rs := rowE 0 xs) (by rw [rowE_length]; omega) (by rw [enuL_length, rowE_length]; omega) (fun W' H' g => ⟨⟨xs, k1 W' H' g, rfl⟩, hg g⟩) fun i r e => ?_)⟩
    obtain ⟨x, rfl, hx⟩ := rowE_inv 0 e
    obtain ⟨d1, f1, t1⟩ := ra.getV hx
    exact ⟨_, enuL_get 0 ds1 i d1 f1, .cons (.int _) (.cons t1 .nil)⟩
theorem trii_enu {elts : List Expr} {kk : Nat} {p tpos : Pos} (hg : Gl X "enumerate") (hm : X.mg "enumerate" = none) (hp : Plain [a]) (h : Tri X F c Wx exc a x) :
    TriI X F c Wx exc (.Tuple elts kk tpos) (.Call (.Name "enumerate" p) [a] [] pos) (.enu x) :=
  ⟨(pi_enuB hg hm (pa_cons h.fz pa_nil (hp.head _)) (hp.h1 _)).imp fun σ H Q p => enu_go (Gr := GrF c) (fun _ r e => src_frz r e) (fun g => g) p,
    (pi_enuB hg hm (pa_cons h.bo pa_nil (hp.head _)) (hp.h1 _)).imp fun σ H Q p => enu_go (Gr := GrB c) (fun wa r e => src_bor wa r e) (fun g => g.2) p⟩
end
end Ly

set_option Elab.async false
set_option linter.all false
set_option maxRecDepth 100000
set_option maxHeartbeats 2000000
/-! Ly: zip of a row of tuples, told by a star; the target one name. -/
namespace Ly
open PySem PySem.Spec PyProof.Rows L2 HT

abbrev IsZipF (h : Heap) (z TI TO : Addr) (f0 f1 : Value) : Prop :=
  h.get? z = some { cls := .type "zip", dict := none, data := .fields #[f0, f1, .bool false, .ref TI, .ref TO], slots := #[] }
abbrev IsTupA (h : Heap) (T : Addr) (vs : Array Value) : Prop := h.get? T = some { cls := .type "tuple", data := .seq vs }
/-- iterators and what they give next -/
abbrev Qs := List (Addr × Addr × Value)
def QOk (h : Heap) (i : Nat) (qs : Qs) : Prop := ∀ q ∈ qs, h.IsTupleIter q.1 q.2.1 i ∧ ∃ items, h.IsTuple q.2.1 items ∧ items[i]? = some q.2.2
def QUp (h : Heap) (i : Nat) (qs : Qs) : Prop := ∀ q ∈ qs, h.IsTupleIter q.1 q.2.1 (i + 1)
structure QSep (z TI TO : Addr) (qs : Qs) : Prop where
  nd : (qs.map (·.1)).Nodup
  TIz : TI ≠ z
  TOz : TO ≠ z
  TITO : TI ≠ TO
  iz : ∀ q ∈ qs, q.1 ≠ z
  iTI : ∀ q ∈ qs, q.1 ≠ TI
  iTO : ∀ q ∈ qs, q.1 ≠ TO
  sz : ∀ q ∈ qs, q.2.1 ≠ z
  sTO : ∀ q ∈ qs, q.2.1 ≠ TO
  si : ∀ q ∈ qs, ∀ q' ∈ qs, q.2.1 ≠ q'.1
section
variable {prog : Program} {w : World} {A : Around} {E : Value → Shared → Prop} {s : Shared} {z TI TO : Addr} {qs : Qs} {i : Nat}
theorem wpAny_alive {M : Model} {a : Addr} {Q : Option Obj → Shared → Prop} (h : Q (s.heap.get? a) s) : wpAny M A (loadIfAlive a) Q E s := fun _ _ _ => by
  simp only [loadIfAlive, Sem.wp_loadIfAlive]
  exact h
def F0 (f : Value) : Prop := f = .none ∨ ∃ a : Int, f = rawInt a
def F1 (f : Value) : Prop := ∃ b, f = .bool b
theorem isFree_any {f0 f1 : Value} {Q : Bool → Shared → Prop} (hz : IsZipF s.heap z TI TO f0 f1) (h0 : F0 f0) (h1 : F1 f1)
    (h : ∀ b h' g1, IsZipF h' z TI TO f0 g1 → F1 g1 → Heap.SameBut z s.heap h' → Q b { s with heap := h' }) : wpAny (model prog w) A (Builtin.SmallTypes.ownedTupleIsFree (.ref z)) Q E s := by
  unfold Builtin.SmallTypes.ownedTupleIsFree
  refine wpAny_bind (wpAny_field hz rfl (x := f0) rfl ?_)
  rcases h0 with rfl | ⟨a, rfl⟩
  · exact wpAny_pure (h true s.heap _ hz h1 (Heap.SameBut.refl _ _))
  · show wpAny _ _ (loadIfAlive (Int.toNat a) >>= _) _ _ _
    refine wpAny_bind (wpAny_alive ?_)
    cases s.heap.get? a.toNat with
    | none => exact wpAny_pure (h true s.heap _ hz h1 (Heap.SameBut.refl _ _))
    | some o =>
      obtain ⟨b, rfl⟩ := h1
      simp only [Option.isNone_some, Bool.false_eq_true, if_false]
      refine wpAny_bind (wpAny_field hz rfl (x := .bool b) rfl ?_)
      cases b with
      | true =>
        rw [if_neg (show ¬ ((Value.bool true != Value.bool true) = true) from Bool.false_ne_true)]
        exact wpAny_pure (h false s.heap _ hz ⟨_, rfl⟩ (Heap.SameBut.refl _ _))
      | false =>
        rw [if_pos (show (Value.bool false != Value.bool true) = true from rfl)]
        exact wpAny_bind (wpAny_setField_rec hz (by simp) fun h₁ hz₁ hs₁ => wpAny_pure (h false h₁ _ hz₁ ⟨true, rfl⟩ hs₁))
/-- amid a turn: k iterators have given -/
structure Mid (s : Shared) (qs : Qs) (z TI TO : Addr) (f0 g1 : Value) (i k : Nat) (h : Heap) : Prop where
  zp : IsZipF h z TI TO f0 g1
  it : ∀ j q, qs[j]? = some q → h.IsTupleIter q.1 q.2.1 (if j < k then i + 1 else i)
  tp : ∀ q ∈ qs, ∃ items, h.IsTuple q.2.1 items ∧ items[i]? = some q.2.2
  kp : ∀ c o, c ≠ z → c ≠ TO → (∀ q ∈ qs, c ≠ q.1) → s.heap.get? c = some o → h.get? c = some o
  sz : h.objs.size = s.heap.objs.size
theorem Mid.step {f0 g1 : Value} {k : Nat} {h : Heap} {q : Addr × Addr × Value} {Q : Value → Shared → Prop} (S : QSep z TI TO qs) (m : Mid s qs z TI TO f0 g1 i k h) (hk : qs[k]? = some q)
    (hQ : ∀ h', Mid s qs z TI TO f0 g1 i (k + 1) h' → Heap.SameBut q.1 h h' → Q q.2.2 { s with heap := h' }) : wpAny (model prog w) A (Builtin.SmallTypes.nextOf (.ref q.1)) Q E { s with heap := h } := by
  have hm : q ∈ qs := List.mem_of_getElem? hk
  have hit := m.it k q hk
  rw [if_neg (Nat.lt_irrefl _)] at hit
  obtain ⟨items, h1, h2⟩ := m.tp q hm
  refine RZ.nextOf_tuple_item (s := { s with heap := h }) hit h1 h2 fun h' it' hs' => hQ h' ⟨hs'.extBut _ _ (S.iz q hm).symm m.zp, fun j q' hj => ?_, fun q' m' => ?_, fun c o c1 c2 c3 e => hs'.extBut _ _ (c3 q hm) (m.kp c o c1 c2 c3 e), hs'.1.trans m.sz⟩ hs'
  · by_cases e : j = k
    · subst e
      cases hk.symm.trans hj
      rw [if_pos (Nat.lt_succ_self _)]
      exact it'
    · have hm' : q' ∈ qs := List.mem_of_getElem? hj
      have ne : q'.1 ≠ q.1 := fun z => e (by
        have nd := S.nd
        have l1 : j < (qs.map (·.1)).length := by simpa using (List.getElem?_eq_some_iff.mp hj).1
        have l2 : k < (qs.map (·.1)).length := by simpa using (List.getElem?_eq_some_iff.mp hk).1
        have e1 := (List.getElem?_eq_some_iff.mp hj).2
        have e2 := (List.getElem?_eq_some_iff.mp hk).2
        have pw := List.pairwise_iff_getElem.mp nd
        rcases Nat.lt_trichotomy j k with l | l | l
        · exact absurd (by simp only [List.getElem_map, e1, e2]; exact z) (pw j k l1 l2 l)
        · exact l
        · exact absurd (by simp only [List.getElem_map, e1, e2]; exact z.symm) (pw k j l2 l1 l))
      have r := m.it j q' hj
      have : (if j < k + 1 then i + 1 else i) = if j < k then i + 1 else i := by
        by_cases l : j < k
        · rw [if_pos l, if_pos (by omega)]
        · rw [if_neg l, if_neg (by omega)]
      rw [this]
      exact r.extBut hs'.extBut ne
  · obtain ⟨its, a1, a2⟩ := m.tp q' m'
    exact ⟨its, a1.extBut hs'.extBut (S.si q' m' q hm), a2⟩
theorem Mid.all {f0 g1 : Value} {k : Nat} {h : Heap} (m : Mid s qs z TI TO f0 g1 i k h) (hk : qs.length ≤ k) : QUp h i qs := fun q hq => by
  obtain ⟨j, hj⟩ := List.mem_iff_getElem?.mp hq
  have := m.it j q hj
  rwa [if_pos (Nat.lt_of_lt_of_le (List.getElem?_eq_some_iff.mp hj).1 hk)] at this
theorem zipN_item {f0 f1 : Value} {old : Array Value} {Q : Value → Shared → Prop} (S : QSep z TI TO qs) (hne : qs ≠ []) (hsl : qs.length ≤ sizeLine) (hz : IsZipF s.heap z TI TO f0 f1) (h0 : F0 f0) (h1 : F1 f1)
    (hTI : IsTupA s.heap TI (qs.map fun q => Value.ref q.1).toArray) (hTO : IsTupA s.heap TO old) (hold : old.size = qs.length) (hq : QOk s.heap i qs)
    (hQ : ∀ h' f0' f1' old' T, IsZipF h' z TI TO f0' f1' → F0 f0' → F1 f1' → IsTupA h' TO old' → old'.size = qs.length → QUp h' i qs →
      IsTupA h' T (qs.map (·.2.2)).toArray → s.heap.objs.size ≤ T → (∀ c o, c ≠ z → c ≠ TO → (∀ q ∈ qs, c ≠ q.1) → s.heap.get? c = some o → h'.get? c = some o) → Q (.ref T) { s with heap := h' }) :
    wpAny (model prog w) A (Builtin.«zip.__next__» ⟨[.ref z], []⟩) (fun fin s' => ∃ v, fin = .done (.ret v) ∧ Q v s') E s := by
  show wpAny _ _ (field (.ref z) 2 >>= _) _ _ _
  refine wpAny_bind (wpAny_field hz rfl (x := .bool false) rfl ?_)
  show wpAny _ _ (field (.ref z) 3 >>= _) _ _ _
  refine wpAny_bind (wpAny_field hz rfl (x := .ref TI) rfl ?_)
  refine wpAny_bind (wpAny_seqItems hTI rfl ?_)
  have hemp : (qs.map fun q => Value.ref q.1).toArray.isEmpty = false := by
    cases qs with
    | nil => exact absurd rfl hne
    | cons => simp
  simp only [hemp]
  show wpAny _ _ (Builtin.SmallTypes.ownedTupleIsFree (.ref z) >>= _) _ _ _
  refine wpAny_bind (isFree_any hz h0 h1 fun b h g1 hz1 h1 hs => ?_)
  have hq1 : QOk h i qs := fun q m => by
    obtain ⟨a1, items, a2, a3⟩ := hq q m
    exact ⟨a1.extBut hs.extBut (S.iz q m), items, a2.extBut hs.extBut (S.sz q m), a3⟩
  have hTO1 : IsTupA h TO old := hs.extBut _ _ S.TOz hTO
  cases b with
  | true =>
    rw [if_pos rfl]
    refine wpAny_bind (wpAny_rule ?_)
    refine wpAny_bind (wpAny_field hz1 rfl (x := .ref TO) rfl ?_)
    refine wpAny_bind (wpAny_setField_rec hz1 (by simp) fun h₁ hz₁ hs₁ => ?_)
    replace hz₁ : IsZipF h₁ z TI TO .ellipsis g1 := hz₁
    refine wpAny_bind ?_
    have hTO2 : IsTupA h₁ TO old := hs₁.extBut _ _ S.TOz hTO1
    have m0 : Mid s qs z TI TO .ellipsis g1 i 0 h₁ := ⟨hz₁, fun j q hj => by
      rw [if_neg (Nat.not_lt_zero _)]
      exact (hq1 q (List.mem_of_getElem? hj)).1.extBut hs₁.extBut (S.iz q (List.mem_of_getElem? hj)), fun q m => by
      obtain ⟨items, a2, a3⟩ := (hq1 q m).2
      exact ⟨items, a2.extBut hs₁.extBut (S.sz q m), a3⟩, fun c o c1 c2 c3 e => hs₁.extBut _ _ c1 (hs.extBut _ _ c1 e), hs₁.1.trans hs.1⟩
    refine wpAny_forIn_list _ (fun rest b s' => ∃ k h2 arr, rest = ((qs.map fun q => Value.ref q.1).zipIdx).drop k ∧ k ≤ qs.length ∧ b = (none, ()) ∧ s' = { s with heap := h2 } ∧ Mid s qs z TI TO .ellipsis g1 i k h2 ∧ IsTupA h2 TO arr ∧ arr.size = qs.length ∧ ∀ j, j < k → arr[j]? = (qs[j]?).map (·.2.2)) _ ?_ ?_ _ _
      ⟨0, h₁, old, rfl, Nat.zero_le _, rfl, rfl, m0, hTO2, hold, fun j hj => absurd hj (Nat.not_lt_zero _)⟩
    · rintro ⟨x, p⟩ rest b s' ⟨k, h2, arr, er, hk, rfl, rfl, m, hT, ha, hp⟩
      have hlt : k < qs.length := by
        apply Decidable.byContradiction
        intro n
        rw [List.drop_eq_nil_of_le (by simp; omega)] at er
        cases er
      rw [List.drop_eq_getElem_cons (by simpa using hlt)] at er
      simp only [List.getElem_zipIdx, List.getElem_map] at er
      injection er with er1 er2
      injection er1 with er1 er3
      subst er1 er3
      have hqk : qs[k]? = some qs[k] := List.getElem?_eq_getElem hlt
      refine wpAny_bind (wpAny_onRaise ?_)
      show wpAny _ _ (Builtin.SmallTypes.nextOf (.ref qs[k].1) >>= _) _ _ _
      refine wpAny_bind (m.step S hqk fun h3 m3 hs3 => wpAny_pure ?_)
      have hT3 : IsTupA h3 TO arr := hs3.extBut _ _ (S.iTO _ (List.getElem_mem hlt)).symm hT
      refine wpAny_bind (wpAny_seqItems hT3 rfl ?_)
      refine wpAny_bind (wpAny_updateSeq hT3 rfl ?_ (by rw [ha]; exact hsl) (by rw [Array.size_setIfInBounds, ha]; omega))
      refine wpAny_bind (wpAny_letGo (wpAny_pure ?_))
      have hs4 : Heap.SameBut TO h3 (h3.update TO (Obj.mapSeq fun a => a.setIfInBounds (0 + k) qs[k].2.2)) := Heap.SameBut.update ..
      refine ⟨k + 1, _, arr.setIfInBounds (0 + k) qs[k].2.2, er2, hlt, rfl, rfl, ⟨hs4.extBut _ _ S.TOz.symm m3.zp, fun j q hj => (m3.it j q hj).extBut hs4.extBut (S.iTO q (List.mem_of_getElem? hj)), fun q m => ?_, fun c o c1 c2 c3 e => hs4.extBut _ _ c2 (m3.kp c o c1 c2 c3 e), hs4.1.trans m3.sz⟩, ?_, by rw [Array.size_setIfInBounds, ha], fun j hj => ?_⟩
      · obtain ⟨items, a1, a2⟩ := m3.tp q m
        exact ⟨items, a1.extBut hs4.extBut (S.sTO q m), a2⟩
      · show (h3.update TO _).get? TO = _
        rw [Heap.get?_update_self _ hT3 rfl]
        simp [Obj.mapSeq]
      · rw [Nat.zero_add, Array.getElem?_setIfInBounds]
        by_cases e : k = j
        · subst e
          rw [if_pos rfl, if_pos (by rw [ha]; exact hlt), hqk]
          rfl
        · rw [if_neg e]
          exact hp j (by omega)
    · rintro b s' ⟨k, h2, arr, er, hk, rfl, rfl, m, hT, ha, hp⟩
      have hkl : k = qs.length := by
        have := congrArg List.length er
        simp at this
        omega
      subst hkl
      have harr : arr = (qs.map (·.2.2)).toArray := by
        refine Array.ext (by simp [ha]) fun j l1 l2 => ?_
        have := hp j (by rw [← ha]; exact l1)
        rw [Array.getElem?_eq_getElem l1, List.getElem?_eq_getElem (by rw [← ha]; exact l1)] at this
        simp only [List.getElem_toArray, List.getElem_map]
        exact Option.some.inj this
      refine wpAny_bind (wpAny_seqItems hT rfl ?_)
      refine wpAny_bind (wpAny_newTuple ?_ (by simpa [ha] using hsl))
      show wpAny _ _ (Builtin.SmallTypes.ownedTupleHandOut (.ref z) (.ref h2.objs.size) >>= _) _ _ _
      refine wpAny_bind ?_
      unfold Builtin.SmallTypes.ownedTupleHandOut
      have hz6 : IsZipF (h2.push { cls := .type "tuple", data := .seq arr }) z TI TO .ellipsis g1 := Heap.get?_push_of_some _ m.zp
      refine wpAny_bind (wpAny_setField_rec hz6 (by simp) fun h7 hz7 hs7 => ?_)
      replace hz7 : IsZipF h7 z TI TO (rawInt h2.objs.size) g1 := hz7
      refine wpAny_setField_rec hz7 (by simp) fun h8 hz8 hs8 => ?_
      replace hz8 : IsZipF h8 z TI TO (rawInt h2.objs.size) (.bool false) := hz8
      have up : ∀ c o, c ≠ z → h2.get? c = some o → h8.get? c = some o := fun c o c1 e => hs8.extBut _ _ c1 (hs7.extBut _ _ c1 (Heap.get?_push_of_some _ e))
      have hT8 : IsTupA h8 h2.objs.size arr := hs8.extBut _ _ (Nat.ne_of_gt (Heap.lt_size m.zp)) (hs7.extBut _ _ (Nat.ne_of_gt (Heap.lt_size m.zp)) (Heap.get?_push_size _ rfl))
      refine wpAny_pure ⟨_, rfl, ?_⟩
      refine hQ h8 _ _ arr _ hz8 (.inr ⟨_, rfl⟩) ⟨false, rfl⟩ (up _ _ S.TOz hT) ha (fun q hq => (m.all (Nat.le_refl _) q hq).at fun o e => up _ o (S.iz q hq) e) (by rw [← harr]; exact hT8) (by rw [m.sz]; exact Nat.le_refl _) fun c o c1 c2 c3 e => up c o c1 (m.kp c o c1 c2 c3 e)
  | false =>
    rw [if_neg Bool.false_ne_true]
    refine wpAny_bind ?_
    have m0 : Mid s qs z TI TO f0 g1 i 0 h := ⟨hz1, fun j q hj => by
      rw [if_neg (Nat.not_lt_zero _)]
      exact (hq1 q (List.mem_of_getElem? hj)).1, fun q m => (hq1 q m).2, fun c o c1 c2 c3 e => hs.extBut _ _ c1 e, hs.1⟩
    refine MeetsSeq2.wpAny_forIn_array _ (fun rest b s' => ∃ k h2, rest = (qs.map fun q => Value.ref q.1).drop k ∧ k ≤ qs.length ∧ b = (none, ((qs.take k).map (·.2.2)).toArray) ∧ s' = { s with heap := h2 } ∧ Mid s qs z TI TO f0 g1 i k h2 ∧ IsTupA h2 TO old) _ ?_ ?_ _ _
      ⟨0, h, rfl, Nat.zero_le _, rfl, rfl, m0, hTO1⟩
    · rintro x rest b s' ⟨k, h2, er, hk, rfl, rfl, m, hT⟩
      have hlt : k < qs.length := by
        apply Decidable.byContradiction
        intro n
        rw [List.drop_eq_nil_of_le (by simp; omega)] at er
        cases er
      rw [List.drop_eq_getElem_cons (by simpa using hlt)] at er
      simp only [List.getElem_map] at er
      injection er with er1 er2
      subst er1
      have hqk : qs[k]? = some qs[k] := List.getElem?_eq_getElem hlt
      refine wpAny_bind (wpAny_holding ?_)
      show wpAny _ _ (Builtin.SmallTypes.nextOf (.ref qs[k].1) >>= _) _ _ _
      refine wpAny_bind (m.step S hqk fun h3 m3 hs3 => wpAny_pure ?_)
      refine wpAny_pure ⟨k + 1, h3, er2, hlt, ?_, rfl, m3, hs3.extBut _ _ (S.iTO _ (List.getElem_mem hlt)).symm hT⟩
      have et : (qs.take (k + 1)).map (·.2.2) = (qs.take k).map (·.2.2) ++ [qs[k].2.2] := by rw [List.take_succ_eq_append_getElem hlt, List.map_append]; rfl
      rw [et]
      simp
    · rintro b s' ⟨k, h2, er, hk, rfl, rfl, m, hT⟩
      have hkl : k = qs.length := by
        have := congrArg List.length er
        simp at this
        omega
      subst hkl
      rw [List.take_length]
      refine wpAny_bind (wpAny_newTuple ?_ (by simpa using hsl))
      refine wpAny_pure ⟨_, rfl, ?_⟩
      refine hQ _ _ _ old _ (Heap.get?_push_of_some _ m.zp) h0 h1 (Heap.get?_push_of_some _ hT) hold (fun q hq => (m.all (Nat.le_refl _) q hq).at fun o e => Heap.get?_push_of_some _ e) (Heap.get?_push_size _ rfl) (by rw [m.sz]; exact Nat.le_refl _) fun c o c1 c2 c3 e => Heap.get?_push_of_some _ (m.kp c o c1 c2 c3 e)
theorem zipN_end {f0 f1 : Value} {it l : Addr} {its : List Addr} {items : Array Value} {Q : Fin → Shared → Prop} (hh : A.handled = none) (hz : IsZipF s.heap z TI TO f0 f1) (h0 : F0 f0) (h1 : F1 f1)
    (hTI : IsTupA s.heap TI ((it :: its).map Value.ref).toArray) (hi : s.heap.IsTupleIter it l i) (hl : s.heap.IsTuple l items) (hx : items[i]? = none) (iz : it ≠ z) (lz : l ≠ z)
    (hE : ∀ h' e, (∀ c o, c ≠ z → c ≠ it → s.heap.get? c = some o → h'.get? c = some o) → (∃ o, h'.get? e = some o ∧ o.cls = .type "StopIteration") → E (.ref e) { s with heap := h' }) :
    wpAny (model prog w) A (Builtin.«zip.__next__» ⟨[.ref z], []⟩) Q E s := by
  show wpAny _ _ (field (.ref z) 2 >>= _) _ _ _
  refine wpAny_bind (wpAny_field hz rfl (x := .bool false) rfl ?_)
  show wpAny _ _ (field (.ref z) 3 >>= _) _ _ _
  refine wpAny_bind (wpAny_field hz rfl (x := .ref TI) rfl ?_)
  refine wpAny_bind (wpAny_seqItems hTI rfl ?_)
  have hemp : ((it :: its).map Value.ref).toArray.isEmpty = false := by simp
  simp only [hemp]
  show wpAny _ _ (Builtin.SmallTypes.ownedTupleIsFree (.ref z) >>= _) _ _ _
  refine wpAny_bind (isFree_any hz h0 h1 fun b h g1 hz1 h1 hs => ?_)
  have hi1 : h.IsTupleIter it l i := hi.extBut hs.extBut iz
  have hl1 : h.IsTuple l items := hl.extBut hs.extBut lz
  cases b with
  | true =>
    rw [if_pos rfl]
    refine wpAny_bind (wpAny_rule ?_)
    refine wpAny_bind (wpAny_field hz1 rfl (x := .ref TO) rfl ?_)
    refine wpAny_bind (wpAny_setField_rec hz1 (by simp) fun h₁ hz₁ hs₁ => ?_)
    replace hz₁ : IsZipF h₁ z TI TO .ellipsis g1 := hz₁
    refine wpAny_bind ?_
    simp only [List.map_cons, List.zipIdx_cons, List.forIn_cons]
    refine wpAny_bind (wpAny_bind (wpAny_onRaise ?_))
    show wpAny _ _ (Builtin.SmallTypes.nextOf (.ref it) >>= _) _ _ _
    refine wpAny_bind (RZ.nextOf_tuple_end hh (hi1.extBut hs₁.extBut iz) (hl1.extBut hs₁.extBut lz) hx fun h₂ e hs₂ he => ?_)
    obtain ⟨oe, hoe, hce⟩ := he
    have hz₂ : IsZipF h₂ z TI TO .ellipsis g1 := hs₂ _ _ iz.symm hz₁
    have hez : e ≠ z := fun x => by subst x; rw [hz₂] at hoe; cases hoe; simp at hce
    exact wpAny_setField_rec hz₂ (by simp) fun h₃ _ hs₃ => hE h₃ e (fun c o c1 c3 x => hs₃.extBut _ _ c1 (hs₂ _ _ c3 (hs₁.extBut _ _ c1 (hs.extBut _ _ c1 x)))) ⟨oe, hs₃.extBut _ _ hez hoe, hce⟩
  | false =>
    rw [if_neg Bool.false_ne_true]
    refine wpAny_bind ?_
    rw [← Array.forIn_toList]
    simp only [List.map_cons, List.forIn_cons]
    refine wpAny_bind (wpAny_bind (wpAny_holding ?_))
    show wpAny _ _ (Builtin.SmallTypes.nextOf (.ref it) >>= _) _ _ _
    exact wpAny_bind (RZ.nextOf_tuple_end hh hi1 hl1 hx fun h₂ e hs₂ he => hE h₂ e (fun c o c1 c3 x => hs₂ _ _ c3 (hs.extBut _ _ c1 x)) he)
theorem pyNext_zipN_item {f0 f1 : Value} {old : Array Value} {Q : Option Value → Shared → Prop} (S : QSep z TI TO qs) (hne : qs ≠ []) (hsl : qs.length ≤ sizeLine) (hz : IsZipF s.heap z TI TO f0 f1) (h0 : F0 f0) (h1 : F1 f1)
    (hTI : IsTupA s.heap TI (qs.map fun q => Value.ref q.1).toArray) (hTO : IsTupA s.heap TO old) (hold : old.size = qs.length) (hq : QOk s.heap i qs)
    (hQ : ∀ h' f0' f1' old' T, IsZipF h' z TI TO f0' f1' → F0 f0' → F1 f1' → IsTupA h' TO old' → old'.size = qs.length → QUp h' i qs →
      IsTupA h' T (qs.map (·.2.2)).toArray → s.heap.objs.size ≤ T → (∀ c o, c ≠ z → c ≠ TO → (∀ q ∈ qs, c ≠ q.1) → s.heap.get? c = some o → h'.get? c = some o) → Q (some (.ref T)) { s with heap := h' }) :
    wpAny (model prog w) A (pyNext (.ref z)) Q E s := by
  have hT : s.TypeIs (.ref z) "zip" := ⟨_, hz, rfl⟩
  unfold pyNext
  exact wpAny_bind (wpAny_attempt (wpAny_callSpecial?_slot (name := Str.ofString "__next__") hT F.slot_zip_next
    (wpAny_call_entry F.slot_zip_next hT F.entry_zip_next
      (zipN_item S hne hsl hz h0 h1 hTI hTO hold hq fun h' f0' f1' old' T a1 a2 a3 a4 a5 a6 a7 a8 a9 => wpAny_pure (hQ h' f0' f1' old' T a1 a2 a3 a4 a5 a6 a7 a8 a9)) (F.args_zip_next_1 _))))
theorem pyNext_zipN_end {f0 f1 : Value} {it l : Addr} {its : List Addr} {items : Array Value} {Q : Option Value → Shared → Prop} (hh : A.handled = none) (hz : IsZipF s.heap z TI TO f0 f1) (h0 : F0 f0) (h1 : F1 f1)
    (hTI : IsTupA s.heap TI ((it :: its).map Value.ref).toArray) (hi : s.heap.IsTupleIter it l i) (hl : s.heap.IsTuple l items) (hx : items[i]? = none) (iz : it ≠ z) (lz : l ≠ z)
    (hQ : ∀ h', (∀ c o, c ≠ z → c ≠ it → s.heap.get? c = some o → h'.get? c = some o) → Q none { s with heap := h' }) : wpAny (model prog w) A (pyNext (.ref z)) Q E s := by
  have hT : s.TypeIs (.ref z) "zip" := ⟨_, hz, rfl⟩
  unfold pyNext
  refine wpAny_bind (wpAny_attempt (wpAny_callSpecial?_slot (name := Str.ofString "__next__") hT F.slot_zip_next
    (wpAny_call_entry F.slot_zip_next hT F.entry_zip_next (zipN_end hh hz h0 h1 hTI hi hl hx iz lz fun h' e hk he => ?_) (F.args_zip_next_1 _))))
  obtain ⟨o, ho, hc⟩ := he
  refine wpAny_bind (wpAny_isInstance (T := "StopIteration") (b := true) ⟨o, ho, hc⟩ isSubtype_stop ?_)
  exact wpAny_pure (hQ _ hk)
end
/-! ### zip(*rows): made -/
def itO (l : Addr) : Obj := { cls := .type "tuple_iterator", data := .fields #[.ref l, .int 0 0] }
def iterH (h : Heap) : List Addr → Heap
  | [] => h
  | l :: ls => iterH (h.push (itO l)) ls
def itAs (n : Nat) : List Addr → List Addr
  | [] => []
  | _ :: ls => n :: itAs (n + 1) ls
theorem itAs_length : ∀ (n : Nat) (ls : List Addr), (itAs n ls).length = ls.length
  | _, [] => rfl
  | n, _ :: ls => by rw [itAs, List.length_cons, List.length_cons, itAs_length]
theorem ge_aux1 (n m : Nat) : n ≤ n ∧ n < n + (m + 1) := by omega
theorem ge_aux2 (n m a : Nat) (h : n + 1 ≤ a ∧ a < n + 1 + m) : n ≤ a ∧ a < n + (m + 1) := by omega
theorem ge_aux3 (n m : Nat) (h : n + 1 ≤ n ∧ n < n + 1 + m) : False := by omega
theorem itAs_ge : ∀ (n : Nat) (ls : List Addr), ∀ a ∈ itAs n ls, n ≤ a ∧ a < n + ls.length
  | _, [], a, h => by cases h
  | n, l :: ls, a, h => by
    rw [itAs] at h
    rw [List.length_cons]
    rcases List.mem_cons.mp h with e | h
    · rw [e]; exact ge_aux1 n _
    · exact ge_aux2 n _ a (itAs_ge (n + 1) ls a h)
theorem itAs_nodup : ∀ (n : Nat) (ls : List Addr), (itAs n ls).Nodup
  | _, [] => List.nodup_nil
  | n, _ :: ls => by
    rw [itAs]
    refine List.nodup_cons.mpr ⟨fun h => ?_, itAs_nodup (n + 1) ls⟩
    exact ge_aux3 n _ (itAs_ge (n + 1) ls n h)
theorem iterH_size : ∀ (h : Heap) (ls : List Addr), (iterH h ls).objs.size = h.objs.size + ls.length
  | _, [] => rfl
  | h, l :: ls => by rw [iterH, iterH_size, Heap.size_push, List.length_cons]; omega
theorem iterH_keep : ∀ (h : Heap) (ls : List Addr) {c : Addr} {o : Obj}, h.get? c = some o → (iterH h ls).get? c = some o
  | _, [], _, _, e => e
  | h, l :: ls, _, _, e => iterH_keep _ ls (Heap.get?_push_of_some _ e)
theorem iterH_get : ∀ (h : Heap) (ls : List Addr), ∀ p ∈ (itAs h.objs.size ls).zip ls, (iterH h ls).get? p.1 = some (itO p.2)
  | _, [], p, hp => by cases hp
  | h, l :: ls, p, hp => by
    rw [itAs, List.zip_cons_cons] at hp
    rcases List.mem_cons.mp hp with e | hp
    · subst e
      exact iterH_keep _ ls (Heap.get?_push_size _ rfl)
    · refine iterH_get (h.push (itO l)) ls p ?_
      rw [Heap.size_push]
      exact hp
section
variable {prog : Program} {w : World} {A : Around} {E : Value → Shared → Prop} {s : Shared}
theorem iterAll_tuples {ls : List Addr} {Q : List Value → Shared → Prop} (hl : ∀ l ∈ ls, ∃ items, s.heap.IsTuple l items) (h : Q ((itAs s.heap.objs.size ls).map .ref) { s with heap := iterH s.heap ls }) :
    wpAny (model prog w) A (Builtin.SmallTypes.iterAll (ls.map .ref)) Q E s := by
  unfold Builtin.SmallTypes.iterAll
  refine wpAny_bind ?_
  refine wpAny_forIn_list _ (fun rest b s' => ∃ ls', rest = ls'.map Value.ref ∧ b.toList ++ (itAs s'.heap.objs.size ls').map .ref = (itAs s.heap.objs.size ls).map .ref ∧ iterH s'.heap ls' = iterH s.heap ls ∧ s' = { s with heap := s'.heap } ∧ ∀ l ∈ ls', ∃ items, s'.heap.IsTuple l items) _ ?_ ?_ _ _
    ⟨ls, rfl, by simp, rfl, rfl, hl⟩
  · rintro x rest b s' ⟨ls', er, e1, e2, e3, hl'⟩
    cases ls' with
    | nil => cases er
    | cons l ls' =>
      injection er with er1 er2
      subst er1
      obtain ⟨items, ht⟩ := hl' l List.mem_cons_self
      refine wpAny_bind (wpAny_holding (wpAny_pyIter_tuple ht ?_))
      refine wpAny_pure ⟨ls', er2, ?_, ?_, ?_, fun l' m => ?_⟩
      · rw [← e1]
        simp [itAs, Heap.size_push]
      · exact e2
      · rw [e3]
      · obtain ⟨its, h1⟩ := hl' l' (List.mem_cons_of_mem _ m)
        exact ⟨its, Heap.IsTuple.push h1 _⟩
  · rintro b s' ⟨ls', er, e1, e2, e3, hl'⟩
    cases ls' with
    | cons l ls' => cases er
    | nil =>
      have e1 : b.toList = (itAs s.heap.objs.size ls).map .ref := by simpa [itAs] using e1
      have e2 : s'.heap = iterH s.heap ls := e2
      refine wpAny_pure ?_
      rw [e1, e3, e2]
      exact h
abbrev zipNH (h : Heap) (ls : List Addr) : Heap :=
  (((iterH h ls).push { cls := .type "tuple", data := .seq ((itAs h.objs.size ls).map Value.ref).toArray }).push { cls := .type "tuple", data := .seq (((itAs h.objs.size ls).map Value.ref).map fun _ => Value.none).toArray }).push
    { cls := .type "zip", data := .fields #[.none, .bool false, .bool false, .ref (h.objs.size + ls.length), .ref (h.objs.size + ls.length + 1)] }
theorem meets_zipN_new (ls : List Addr) (hz : ls.length ≤ sizeLine) :
    Meets (Builtin.«zip.__new__» ⟨.type "zip" :: ls.map Value.ref, []⟩) (fun _ R s => (∀ l ∈ ls, ∃ items, s.heap.IsTuple l items) ∧
      R (.ok (.ret (.ref (s.heap.objs.size + ls.length + 2)))) { s with heap := zipNH s.heap ls }) :=
  .of_wp fun prog w A R s h => by
    obtain ⟨hp, g, d, tk, os⟩ := s; obtain ⟨hl, h⟩ := h
    have hsub := sub_zip
    have hL : ∀ {A' : Around} {E : Value → Shared → Prop} {Q : List Value → Shared → Prop}, Q ((itAs hp.objs.size ls).map .ref) ⟨iterH hp ls, g, d, tk, os⟩ → wpAny (model prog w) A' (Builtin.SmallTypes.iterAll (ls.map .ref)) Q E ⟨hp, g, d, tk, os⟩ :=
      fun q => iterAll_tuples (s := ⟨hp, g, d, tk, os⟩) hl q
    have z1 : (iterH hp ls).objs.size = hp.objs.size + ls.length := iterH_size hp ls
    have hN1 : ∀ {A' : Around} {E : Value → Shared → Prop} {Q : Value → Shared → Prop}, Q (.ref (hp.objs.size + ls.length)) ⟨(iterH hp ls).push { cls := .type "tuple", data := .seq ((itAs hp.objs.size ls).map Value.ref).toArray }, g, d, tk, os⟩ → wpAny (model prog w) A' (newTuple ((itAs hp.objs.size ls).map Value.ref)) Q E ⟨iterH hp ls, g, d, tk, os⟩ :=
      fun {A' E Q} q => wpAny_newTuple (s := ⟨iterH hp ls, g, d, tk, os⟩) (by show Q (Value.ref (iterH hp ls).objs.size) _; rw [z1]; exact q) (by rw [List.length_map, itAs_length]; exact hz)
    have hN2 : ∀ {A' : Around} {E : Value → Shared → Prop} {Q : Value → Shared → Prop}, Q (.ref (hp.objs.size + ls.length + 1)) ⟨((iterH hp ls).push { cls := .type "tuple", data := .seq ((itAs hp.objs.size ls).map Value.ref).toArray }).push { cls := .type "tuple", data := .seq (((itAs hp.objs.size ls).map Value.ref).map fun _ => Value.none).toArray }, g, d, tk, os⟩ → wpAny (model prog w) A' (newTuple (((itAs hp.objs.size ls).map Value.ref).map fun _ => Value.none)) Q E ⟨(iterH hp ls).push { cls := .type "tuple", data := .seq ((itAs hp.objs.size ls).map Value.ref).toArray }, g, d, tk, os⟩ :=
      fun {A' E Q} q => wpAny_newTuple (s := ⟨(iterH hp ls).push _, g, d, tk, os⟩) (by show Q (Value.ref (Heap.push (iterH hp ls) _).objs.size) _; rw [Heap.size_push, z1]; exact q) (by rw [List.length_map, List.length_map, itAs_length]; exact hz)
    wp_walk using hL, hN1, hN2
    refine ⟨_, rfl, ?_⟩
    have z3 : (((iterH hp ls).push { cls := .type "tuple", data := .seq ((itAs hp.objs.size ls).map Value.ref).toArray }).push { cls := .type "tuple", data := .seq (((itAs hp.objs.size ls).map Value.ref).map fun _ => Value.none).toArray }).objs.size = hp.objs.size + ls.length + 2 := by rw [Heap.size_push, Heap.size_push, z1]
    rw [z3]
    exact h
theorem typeCall_zipN (as : List Value) : checkTypeCall "zip" ⟨as, []⟩ = pure () := by kernel_rfl
theorem newCall_zipN (a : Value) (as : List Value) : checkBuiltinCall "zip.__new__" ⟨.type "zip" :: a :: as, []⟩ = pure () := by kernel_rfl
theorem init_anyN (obj : Value) (as : List Value) : argsOk "object.__init__" ⟨obj :: as, []⟩ := by
  unfold argsOk; rw [signature?_of (id := "object.__init__") (n := ['_', '_', 't', 'i', 'n', 'i', '_', '_']) (o := ['t', 'c', 'e', 'j', 'b', 'o']) (by kernel_rfl) F.owner_object]; kernel_rfl
theorem call_zipN {ls : List Addr} {Q : Value → Shared → Prop} (hne : ls ≠ []) (hz : ls.length ≤ sizeLine) (hl : ∀ l ∈ ls, ∃ items, s.heap.IsTuple l items)
    (h : ∀ h', IsZipF h' (s.heap.objs.size + ls.length + 2) (s.heap.objs.size + ls.length) (s.heap.objs.size + ls.length + 1) .none (.bool false) → IsTupA h' (s.heap.objs.size + ls.length) ((itAs s.heap.objs.size ls).map Value.ref).toArray →
      (∃ old, IsTupA h' (s.heap.objs.size + ls.length + 1) old ∧ old.size = ls.length) → (∀ p ∈ (itAs s.heap.objs.size ls).zip ls, h'.IsTupleIter p.1 p.2 0) →
      (∀ c o, s.heap.get? c = some o → h'.get? c = some o) → Q (.ref (s.heap.objs.size + ls.length + 2)) { s with heap := h' }) :
    wpAny (model prog w) A (call (.type "zip") (ls.map Value.ref)) Q E s := by
  cases ls with
  | nil => exact absurd rfl hne
  | cons l ls =>
  refine callType_new F.called_zip (by decide) (typeCall_zipN _) (newCall_zipN _ _) (fun obj => init_anyN obj _) F.entry_zip_new
    (meets_zipN_new (l :: ls) hz) ⟨hl, ?_⟩
  have z1 : (iterH s.heap (l :: ls)).objs.size = s.heap.objs.size + (l :: ls).length := iterH_size s.heap (l :: ls)
  have g1 : IsTupA (zipNH s.heap (l :: ls)) (s.heap.objs.size + (l :: ls).length) ((itAs s.heap.objs.size (l :: ls)).map Value.ref).toArray := by
    rw [← z1]; exact Heap.get?_push_of_some _ (Heap.get?_push_of_some _ (Heap.get?_push_size _ rfl))
  have g2 : IsTupA (zipNH s.heap (l :: ls)) (s.heap.objs.size + (l :: ls).length + 1) (((itAs s.heap.objs.size (l :: ls)).map Value.ref).map fun _ => Value.none).toArray := by
    have e : s.heap.objs.size + (l :: ls).length + 1 = ((iterH s.heap (l :: ls)).push { cls := .type "tuple", data := .seq ((itAs s.heap.objs.size (l :: ls)).map Value.ref).toArray }).objs.size := by rw [Heap.size_push, z1]
    rw [e]; exact Heap.get?_push_of_some _ (Heap.get?_push_size _ rfl)
  have g3 : IsZipF (zipNH s.heap (l :: ls)) (s.heap.objs.size + (l :: ls).length + 2) (s.heap.objs.size + (l :: ls).length) (s.heap.objs.size + (l :: ls).length + 1) .none (.bool false) := by
    have e : s.heap.objs.size + (l :: ls).length + 2 = (((iterH s.heap (l :: ls)).push { cls := .type "tuple", data := .seq ((itAs s.heap.objs.size (l :: ls)).map Value.ref).toArray }).push { cls := .type "tuple", data := .seq (((itAs s.heap.objs.size (l :: ls)).map Value.ref).map fun _ => Value.none).toArray }).objs.size := by rw [Heap.size_push, Heap.size_push, z1]
    exact e ▸ Heap.get?_push_size _ rfl
  exact ⟨⟨_, g3, rfl⟩, h _ g3 g1 ⟨_, g2, by simp [itAs_length]⟩ (fun p hp => ⟨_, Heap.get?_push_of_some _ (Heap.get?_push_of_some _ (Heap.get?_push_of_some _ (iterH_get s.heap (l :: ls) p hp))), rfl, rfl⟩) fun c o e =>
    Heap.get?_push_of_some _ (Heap.get?_push_of_some _ (Heap.get?_push_of_some _ (iterH_keep s.heap (l :: ls) e)))⟩
theorem pyIter_zipF {z TI TO : Addr} {f0 f1 : Value} {Q : Value → Shared → Prop} (hz : IsZipF s.heap z TI TO f0 f1) (h : Q (.ref z) s) : wpAny (model prog w) A (pyIter (.ref z)) Q E s := by
  have hT : s.TypeIs (.ref z) "zip" := ⟨_, hz, rfl⟩
  refine wpAny_pyIter_slot hT F.slot_zip_iter (wpAny_call_entry F.slot_zip_iter hT F.entry_zip_iter ?_ (F.args_zip_iter_1 _))
  show wpAny _ _ (ret (.ref z)) _ _ s
  exact wpAny_pure ⟨_, rfl, "zip", _, hT, F.slot_zip_next.lookup, h⟩
end

/-! ### the walk -/
def colsV (n : Nat) (cs : List (List V)) : List (List V) := (List.range n).map fun i => cs.map fun c => c.getD i .non
def rowsN (K : PySem.W.Frag) (as : List Addr) (n : Nat) : Hp → List (List V) → Prop := fun H rs => ∃ acs : List (Addr × List V), acs.map (·.1) = as ∧ (∀ p ∈ acs, SqT K H p.1 p.2 ∧ p.2.length = n) ∧ rs = colsV n (acs.map (·.2))
theorem colsV_length {n : Nat} {cs : List (List V)} : (colsV n cs).length = n := by simp [colsV]
theorem colsV_get {n i : Nat} {cs : List (List V)} (h : i < n) : (colsV n cs)[i]? = some (cs.map fun c => c.getD i .non) := by simp [colsV, h]
structure ISep (z TI TO : Addr) (its as : List Addr) : Prop where
  len : its.length = as.length
  ne : as ≠ []
  fit : as.length ≤ sizeLine
  nd : its.Nodup
  TIz : TI ≠ z
  TOz : TO ≠ z
  TITO : TI ≠ TO
  iz : ∀ q ∈ its, q ≠ z
  iTI : ∀ q ∈ its, q ≠ TI
  iTO : ∀ q ∈ its, q ≠ TO
  sz : ∀ q ∈ as, q ≠ z
  sTO : ∀ q ∈ as, q ≠ TO
  si : ∀ q ∈ as, ∀ q' ∈ its, q ≠ q'
def tnN (z TI TO : Addr) (its as : List Addr) (i : Nat) (h : Heap) : Prop :=
  (∃ f0 f1, IsZipF h z TI TO f0 f1 ∧ F0 f0 ∧ F1 f1) ∧ IsTupA h TI (its.map Value.ref).toArray ∧ (∃ old, IsTupA h TO old ∧ old.size = as.length) ∧ ∀ p ∈ its.zip as, h.IsTupleIter p.1 p.2 i
/-- iterators with what they give -/
theorem mkQs {X : Cx} {pins : List (Addr × Obj)} {σ : L2.St} {H : Hp} {s : Shared} (I : Inv X pins σ H s) {i : Nat} : ∀ (its : List Addr) (acs : List (Addr × List V)), its.length = acs.length → (∀ p ∈ acs, SqT X.K H p.1 p.2 ∧ i < p.2.length) → (∀ p ∈ its.zip (acs.map (·.1)), s.heap.IsTupleIter p.1 p.2 i) →
    ∃ qs : Qs, qs.map (·.1) = its ∧ qs.map (·.2.1) = acs.map (·.1) ∧ QOk s.heap i qs ∧ Vals ((acs.map (·.2)).map fun c => c.getD i .non) (qs.map (·.2.2))
  | [], [], _, _, _ => ⟨[], rfl, rfl, fun q h => (by cases h), .nil⟩
  | [], _ :: _, h, _, _ => by cases h
  | _ :: _, [], h, _, _ => by cases h
  | it :: its, (a, xs) :: acs, hl, ha, hi => by
    obtain ⟨qs, e1, e2, q, v⟩ := mkQs I its acs (by simpa using hl) (fun p m => ha p (List.mem_cons_of_mem _ m)) (fun p m => hi p (by rw [List.map_cons, List.zip_cons_cons]; exact List.mem_cons_of_mem _ m))
    obtain ⟨h1, h2⟩ := ha (a, xs) List.mem_cons_self
    obtain ⟨us, rv, tp, _⟩ := I.tuple h1
    have hx : xs[i]? = some xs[i] := List.getElem?_eq_getElem h2
    obtain ⟨u, hu, ru⟩ := rv.get hx
    refine ⟨(it, a, u) :: qs, by rw [List.map_cons, e1], by rw [List.map_cons, e2, List.map_cons], fun q' m => ?_, ?_⟩
    · rcases List.mem_cons.mp m with e | m
      · subst e
        exact ⟨hi (it, a) (by rw [List.map_cons, List.zip_cons_cons]; exact List.mem_cons_self), us.toArray, tp, by simpa using hu⟩
      · exact q q' m
    · rw [List.map_cons, List.map_cons, List.map_cons]
      refine .cons ?_ v
      rw [List.getD_eq_getElem?_getD, hx]
      exact ru
theorem acs_inj {X : Cx} {pins : List (Addr × Obj)} {σ : L2.St} {H : Hp} {s : Shared} (I : Inv X pins σ H s) : ∀ (l l' : List (Addr × List V)), l.map (·.1) = l'.map (·.1) → (∀ p ∈ l, SqT X.K H p.1 p.2) → (∀ p ∈ l', SqT X.K H p.1 p.2) → l = l'
  | [], [], _, _, _ => rfl
  | [], _ :: _, h, _, _ => by cases h
  | _ :: _, [], h, _, _ => by cases h
  | (a, xs) :: l, (b, ys) :: l', h, h1, h2 => by
    rw [List.map_cons, List.map_cons] at h
    injection h with e1 e2
    have e1 : a = b := e1
    subst e1
    have e3 : xs = ys := I.tuple_inj (h1 (a, xs) List.mem_cons_self) (h2 (a, ys) List.mem_cons_self)
    rw [e3, acs_inj I l l' e2 (fun p m => h1 p (List.mem_cons_of_mem _ m)) (fun p m => h2 p (List.mem_cons_of_mem _ m))]
theorem turnN {P : Program} {w : World} {K : PySem.W.Frag} {y : Str} {tp : Pos} {z TI TO : Addr} {its as : List Addr} {n : Nat} (S : ISep z TI TO its as) : Turn P w K (.Name y tp) (ItR (rowsN K as n)) (z :: TI :: TO :: its) z (tnN z TI TO its as) where
  mem := List.mem_cons_self
  obj := fun i h st c hc => by
    obtain ⟨⟨f0, f1, hz, _⟩, hTI, ⟨old, hTO, _⟩, hi⟩ := st
    rcases List.mem_cons.mp hc with e | hc
    · subst e; exact ⟨_, hz, fun v q => nomatch q⟩
    rcases List.mem_cons.mp hc with e | hc
    · subst e; exact ⟨_, hTI, fun v q => nomatch q⟩
    rcases List.mem_cons.mp hc with e | hc
    · subst e; exact ⟨_, hTO, fun v q => nomatch q⟩
    obtain ⟨j, hj⟩ := List.mem_iff_getElem?.mp hc
    have hj2 : j < as.length := by rw [← S.len]; exact (List.getElem?_eq_some_iff.mp hj).1
    obtain ⟨o, e, _, d⟩ := hi (c, as[j]) (List.mem_iff_getElem?.mpr ⟨j, by rw [List.getElem?_zip_eq_some]; exact ⟨hj, List.getElem?_eq_getElem hj2⟩⟩)
    exact ⟨o, e, fun v q => by rw [d] at q; cases q⟩
  keep := fun i h h' st k => by
    obtain ⟨⟨f0, f1, hz, x0, x1⟩, hTI, ⟨old, hTO, ho⟩, hi⟩ := st
    exact ⟨⟨f0, f1, k z (by simp) _ hz, x0, x1⟩, k TI (by simp) _ hTI, ⟨old, k TO (by simp) _ hTO, ho⟩, fun p m => (hi p m).at fun o e => k p.1 (by have := (List.of_mem_zip m).1; simp [this]) o e⟩
  self := fun A i s Q E st h => by
    obtain ⟨⟨f0, f1, hz, _⟩, _⟩ := st
    exact pyIter_zipF hz h
  item := by
    intro X hP hw hK hc i pins s σ H E I hf st hg
    subst hP hw hK
    obtain ⟨rs, r, ⟨acs, ea, hacs, rfl⟩, hri⟩ := hg
    subst ea
    have hlt : i < n := by
      have := (List.getElem?_eq_some_iff.mp hri).1
      rwa [colsV_length] at this
    rw [colsV_get hlt] at hri
    cases hri
    obtain ⟨⟨f0, f1, hz, x0, x1⟩, hTI, ⟨old, hTO, ho⟩, hi⟩ := st
    obtain ⟨qs, e1, e2, hq, hv⟩ := mkQs I its acs (by rw [S.len, List.length_map]) (fun p m => ⟨(hacs p m).1, by rw [(hacs p m).2]; exact hlt⟩) hi
    have el : qs.length = acs.length := by have := congrArg List.length e2; simpa using this
    have m1 : ∀ q ∈ qs, q.1 ∈ its := fun q m => by rw [← e1]; exact List.mem_map.mpr ⟨q, m, rfl⟩
    have m2 : ∀ q ∈ qs, q.2.1 ∈ acs.map (·.1) := fun q m => by rw [← e2]; exact List.mem_map.mpr ⟨q, m, rfl⟩
    have QS : QSep z TI TO qs := ⟨by rw [e1]; exact S.nd, S.TIz, S.TOz, S.TITO, fun q m => S.iz _ (m1 q m), fun q m => S.iTI _ (m1 q m), fun q m => S.iTO _ (m1 q m), fun q m => S.sz _ (m2 q m), fun q m => S.sTO _ (m2 q m), fun q m q' m' => S.si _ (m2 q m) _ (m1 q' m')⟩
    have hne : qs ≠ [] := fun e => S.ne (by rw [← e2, e]; rfl)
    have hfit : qs.length ≤ sizeLine := by rw [el]; simpa using S.fit
    have eTI : (qs.map fun q => Value.ref q.1) = its.map Value.ref := by rw [← e1, List.map_map]; rfl
    refine pyNext_zipN_item QS hne hfit hz x0 x1 (by rw [eTI]; exact hTI) hTO (by rw [ho, el, List.length_map]) hq fun h' f0' f1' old' T a1 a2 a3 a4 a5 a6 a7 a8 a9 => ?_
    refine ⟨_, rfl, wpAny_pure ?_⟩
    have new : ObjOk X.prog X.w (upd H T (.tup ((acs.map (·.2)).map fun c => c.getD i .non))) h' T (.tup ((acs.map (·.2)).map fun c => c.getD i .non)) :=
      ⟨by rw [List.length_map, List.length_map, ← el]; exact hfit, qs.map (·.2.2), hv, ⟨_, a7, rfl, _, rfl⟩⟩
    have I1 : Inv X pins σ (upd H T (.tup ((acs.map (·.2)).map fun c => c.getD i .non))) { s with heap := h' } :=
      I.turnedNew (t' := s.toks) (ch := z :: TI :: TO :: its) (fun c o hb q => a9 c o (fun e => hb (by simp [e])) (fun e => hb (by simp [e])) (fun q' m e => hb (by rw [e]; simp [m1 q' m])) q) hf a8 new
    have hfn : ∀ b ∈ z :: TI :: TO :: its, b ≠ T := fun b hb e => by
      have hbl : b < s.heap.objs.size := by
        rcases List.mem_cons.mp hb with e | hb
        · rw [e]; exact Heap.lt_size hz
        rcases List.mem_cons.mp hb with e | hb
        · rw [e]; exact Heap.lt_size hTI
        rcases List.mem_cons.mp hb with e | hb
        · rw [e]; exact Heap.lt_size hTO
        rw [← e1] at hb
        obtain ⟨q, m, rfl⟩ := List.mem_map.mp hb
        obtain ⟨⟨o, e, _⟩, _⟩ := hq q m
        exact Heap.lt_size e
      rw [e] at hbl
      exact absurd (Nat.lt_of_lt_of_le hbl a8) (Nat.lt_irrefl _)
    refine ⟨.ref T, _, I1, rfl, ⟨T, _, rfl, I.hok.fresh a8, rfl, fun rs' h' => ?_⟩, ⟨⟨f0', f1', a1, a2, a3⟩, ?_, ⟨old', a4, by rw [a5, el, List.length_map]⟩, fun p m => ?_⟩, fun b hb => ?_⟩
    · obtain ⟨acs', ea, hacs', rfl⟩ := h'
      rw [acs_inj I acs' acs ea (fun p m => (hacs' p m).1) fun p m => (hacs p m).1]
      exact colsV_get hlt
    · exact a9 TI _ S.TIz S.TITO (fun q m e => S.iTI _ (m1 q m) e.symm) hTI
    · rw [← e1, ← e2, List.zip_map'] at m
      obtain ⟨q, m2, rfl⟩ := List.mem_map.mp m
      exact a6 q m2
    · rw [upd_ne (hfn b hb)]
      exact (hf b hb).1
  done := by
    intro X hP hw hK hc i pins s σ H E I hf st hg
    subst hP hw hK
    obtain ⟨rs, ⟨acs, ea, hacs, rfl⟩, hi0⟩ := hg
    subst ea
    rw [colsV_length] at hi0
    subst hi0
    obtain ⟨⟨f0, f1, hz, x0, x1⟩, hTI, ⟨old, hTO, ho⟩, hi⟩ := st
    cases acs with
    | nil => exact absurd rfl S.ne
    | cons p acs =>
      obtain ⟨a, xs⟩ := p
      cases its with
      | nil => exact absurd S.len (by simp)
      | cons it its =>
        obtain ⟨h1, h2⟩ := hacs (a, xs) List.mem_cons_self
        obtain ⟨us, rv, tp, _⟩ := I.tuple h1
        have hl := rv.length
        exact pyNext_zipN_end (I.ok.hd hc) hz x0 x1 hTI (hi (it, a) (by rw [List.map_cons, List.zip_cons_cons]; exact List.mem_cons_self)) tp (by rw [← h2]; simp [hl]) (S.iz _ List.mem_cons_self) (S.sz a (by simp)) fun h' hk =>
          ⟨rfl, I.turnedL (t' := s.toks) (ch := z :: TI :: TO :: it :: its) (fun b o hb q => hk b o (fun e => hb (by simp [e])) (fun e => hb (by simp [e])) q) hf⟩
/-! ### the call -/
section
variable {X : Cx} {e : Expr} {te : TE} {p sp_ pos tp : Pos} {y : Str}
theorem ad1 (n : Nat) : n ≠ n + 2 := by omega
theorem ad2 (n : Nat) : n + 1 ≠ n + 2 := by omega
theorem ad3 (n : Nat) : n ≠ n + 1 := by omega
theorem ad4 (n m q : Nat) (h : q < n + m) : q ≠ n + m + 2 := by omega
theorem ad5 (n m q : Nat) (h : q < n + m) : q ≠ n + m := by omega
theorem ad6 (n m q : Nat) (h : q < n + m) : q ≠ n + m + 1 := by omega
theorem ad7 (n m q : Nat) (h : q < n) : q ≠ n + m + 2 := by omega
theorem ad8 (n m q : Nat) (h : q < n) : q ≠ n + m + 1 := by omega
theorem ad9 (n q q' : Nat) (h : q < n) (h' : n ≤ q') : q ≠ q' := by omega
theorem ad10 (n m : Nat) : n ≤ n + m + 2 := by omega
theorem ad11 (n m : Nat) : n ≤ n + m + 1 := by omega
def iZst (K : PySem.W.Frag) (te : TE) : TI := fun σ H R => te σ H fun x H1 => ∃ b a n, ∃ acs : List (Addr × List V), x = .ref a ∧ SqB K b H1 a (acs.map fun p => V.ref p.1) ∧ acs ≠ [] ∧ (∀ p ∈ acs, SqT K H1 p.1 p.2 ∧ p.2.length = n) ∧
  (acs.length ≤ sizeLine → n ≤ sizeLine → R (ItR (rowsN K (acs.map (·.1)) n)) H1)
theorem vals_refs : ∀ {acs : List (Addr × List V)} {us : List Value}, Vals (acs.map fun p => V.ref p.1) us → us = (acs.map (·.1)).map Value.ref
  | [], _, .nil => rfl
  | p :: acs, _, .cons a r => by rw [vals_refs r]; rw [List.map_cons, List.map_cons]; rw [show _ = Value.ref p.1 from a]
theorem pi_zst (hg : Gl X "zip") (hm : X.mg "zip" = none) (he : PE X e te) (hst : starEach [.Starred e sp_] X.env = [(true, eval e X.env)]) :
    PI X (.Name y tp) (.Call (.Name "zip" p) [.Starred e sp_] [] pos) (iZst X.K te) := by
  refine ⟨fun pins s σ H R I h => ?_⟩
  refine Call_ (ld_blt I hg hm PyProof.Rows.boot_zip ?_)
  rw [hst]
  refine PySem.W.ks_call (P := fun _ => True) rfl (fun h _ => ⟨.machine, .inr (.inl rfl), ?_⟩) (PySem.W.ks_lone (thn (he.run pins s σ H _ I h) fun v s1 ⟨x, H1, I1, rx, b, a, n, acs, ex, hb, hne, hacs, q⟩ => ?_))
  · exact .now
  subst ex
  obtain rfl : v = Value.ref a := rx
  have hb' : SqT X.K H1 a (acs.map fun p => V.ref p.1) ∨ SqL X.K H1 a (acs.map fun p => V.ref p.1) := by
    cases b with
    | true => exact .inr hb
    | false => exact .inl hb
  refine StX.star_any I1 hb' fun us s2 I2 rv => ⟨trivial, ?_⟩
  have hus := vals_refs rv
  subst hus
  have hsz : acs.length ≤ sizeLine := by
    obtain ⟨_, _, _, hz, _⟩ := hb.src I1
    simpa using hz
  have hn : n ≤ sizeLine := by
    cases acs with
    | nil => exact absurd rfl hne
    | cons p acs =>
      obtain ⟨h1, h2⟩ := hacs p List.mem_cons_self
      obtain ⟨_, _, _, hz⟩ := I2.tuple h1
      rw [← h2]; exact hz
  have hsrc : ∀ l ∈ acs.map (·.1), ∃ items, s2.heap.IsTuple l items ∧ l < s2.heap.objs.size := fun l m => by
    obtain ⟨p, m2, rfl⟩ := List.mem_map.mp m
    obtain ⟨_, _, tp, _⟩ := I2.tuple (hacs p m2).1
    obtain ⟨o, ho, _⟩ := id tp
    exact ⟨_, tp, Heap.lt_size ho⟩
  refine call_zipN (by simpa using hne) (by simpa using hsz) (fun l m => let ⟨i, h, _⟩ := hsrc l m; ⟨i, h⟩) fun h' hz hTI hTO hit hk => pyIter_zipF hz ?_
  have I3 : Inv X pins σ H1 { s2 with heap := h' } := I2.kept (t' := s2.toks) hk
  have hl : (acs.map (·.1)).length = acs.length := List.length_map ..
  have gt : ∀ l ∈ acs.map (·.1), l < s2.heap.objs.size := fun l m => let ⟨_, _, h⟩ := hsrc l m; h
  obtain ⟨old, hTO, ho⟩ := hTO
  have S : ISep (s2.heap.objs.size + (acs.map (·.1)).length + 2) (s2.heap.objs.size + (acs.map (·.1)).length) (s2.heap.objs.size + (acs.map (·.1)).length + 1) (itAs s2.heap.objs.size (acs.map (·.1))) (acs.map (·.1)) :=
    ⟨itAs_length _ _, by simpa using hne, by simpa using hsz, itAs_nodup _ _, ad1 _, ad2 _, ad3 _, fun q m => ad4 _ _ _ (itAs_ge _ _ q m).2, fun q m => ad5 _ _ _ (itAs_ge _ _ q m).2, fun q m => ad6 _ _ _ (itAs_ge _ _ q m).2,
      fun q m => ad7 _ _ _ (gt q m), fun q m => ad8 _ _ _ (gt q m), fun q m q' m' => ad9 _ _ _ (gt q m) (itAs_ge _ _ q' m').1⟩
  refine ⟨_, _, _, _, H1, rfl, I3, turnN S, ⟨⟨_, _, hz, .inl rfl, ⟨false, rfl⟩⟩, hTI, ⟨old, hTO, ho⟩, hit⟩, fun c hc => ?_, q hsz hn⟩
  have hle : s2.heap.objs.size ≤ c := by
    rcases List.mem_cons.mp hc with z | hc
    · rw [z]; exact ad10 _ _
    rcases List.mem_cons.mp hc with z | hc
    · rw [z]; exact Nat.le_add_right _ _
    rcases List.mem_cons.mp hc with z | hc
    · rw [z]; exact ad11 _ _
    exact (itAs_ge _ _ c hc).1
  exact I2.fpOk hle (I2.hok.fresh hle)
end
/-! ### as data -/
theorem colsD_length {n : Nat} {cs : List (List D)} : (colsD n cs).length = n := by simp [colsD]
theorem colsD_get {n i : Nat} {cs : List (List D)} (h : i < n) : (colsD n cs)[i]? = some (.tuple (cs.map fun c => c.getD i .none)) := by simp [colsD, h]
/-- tuples in the heap -/
inductive Tups (K : PySem.W.Frag) (a0 : Addr) (F : Hp) : List (Addr × List V) → List (List D) → Prop where
  | nil : Tups K a0 F [] []
  | cons {a : Addr} {xs : List V} {ds : List D} {acs cs} (h : F a = some (.tup xs)) (r : RepL K a0 F xs ds) (t : Tups K a0 F acs cs) : Tups K a0 F ((a, xs) :: acs) (ds :: cs)
theorem tups_of {K : PySem.W.Frag} {a0 : Addr} {F : Hp} : ∀ {ds : List D} {vs : List V} {cs : List (List D)}, RepL K a0 F vs ds → tupsD ds = some cs → ∃ acs, vs = acs.map (fun p => V.ref p.1) ∧ Tups K a0 F acs cs
  | [], _, _, .nil, h => by cases h; exact ⟨[], rfl, .nil⟩
  | d :: ds, _, cs, .cons r1 r, h => by
    cases d <;> first | cases h; done | skip
    rename_i es
    obtain ⟨cs', e, rfl⟩ := Option.map_eq_some_iff.mp (show (tupsD ds).map (es :: ·) = some cs from h)
    obtain ⟨acs, rfl, t⟩ := tups_of r e
    cases r1 with
    | tup h r => exact ⟨_ :: acs, rfl, .cons h r t⟩
    | mu h r => cases r
theorem Tups.tup {K : PySem.W.Frag} {a0 : Addr} {F : Hp} {n : Nat} : ∀ {acs : List (Addr × List V)} {cs : List (List D)}, Tups K a0 F acs cs → (∀ c ∈ cs, c.length = n) → ∀ p ∈ acs, F p.1 = some (.tup p.2) ∧ p.2.length = n
  | _, _, .nil, _, p, h => by cases h
  | _, _, .cons h r t, hn, p, m => by
    rcases List.mem_cons.mp m with e | m
    · subst e; exact ⟨h, by rw [r.length]; exact hn _ List.mem_cons_self⟩
    · exact t.tup (fun c m => hn c (List.mem_cons_of_mem _ m)) p m
theorem Tups.length {K : PySem.W.Frag} {a0 : Addr} {F : Hp} : ∀ {acs : List (Addr × List V)} {cs : List (List D)}, Tups K a0 F acs cs → acs.length = cs.length
  | _, _, .nil => rfl
  | _, _, .cons _ _ t => by rw [List.length_cons, List.length_cons, t.length]
theorem Tups.col {K : PySem.W.Frag} {a0 : Addr} {F : Hp} {n i : Nat} (hi : i < n) : ∀ {acs : List (Addr × List V)} {cs : List (List D)}, Tups K a0 F acs cs → (∀ c ∈ cs, c.length = n) → RepL K a0 F ((acs.map (·.2)).map fun c => c.getD i .non) (cs.map fun c => c.getD i .none)
  | _, _, .nil, _ => .nil
  | _, _, @Tups.cons _ _ _ a xs ds acs cs h r t, hn => by
    rw [List.map_cons, List.map_cons, List.map_cons]
    refine .cons ?_ (t.col hi fun c m => hn c (List.mem_cons_of_mem _ m))
    have hi' : i < ds.length := by rw [hn ds List.mem_cons_self]; exact hi
    have hd : ds[i]? = some ds[i] := List.getElem?_eq_getElem hi'
    obtain ⟨u, hu, ru⟩ := r.getD' hd
    rw [List.getD_eq_getElem?_getD, List.getD_eq_getElem?_getD, hd, hu]
    exact ru
section
variable {X : Cx} {F : Nat → List D → Dr → Oc} {c : Cc} {Wx : WX} {exc : Exc} {σ : L2.St} {H : Hp} {a : Expr} {x1 : Ex} {pos sp_ tp p : Pos} {y : Str}
theorem hid_of' {W : Addr → Prop} {H : Hp} {b : Addr} {o : HO} (h : hid W H b = some o) : ¬ W b ∧ H b = some o := hid_of h
theorem zst_go {md : Md} {rep : RepT D V} {Gr : (Addr → Prop) → Hp → (Addr → Prop) → Hp → Prop} (hsrc : ∀ {W H v d ds}, W c.a0 → rep W H v d → seqD d = some ds → Src X.K H (fun xs ds => RepL X.K c.a0 (hid W H) xs ds) (Gr W H) v ds)
    (hg : ∀ {W H W' H'}, Gr W H W' H' → GrS W H W' H') {Q : It → Hp → Prop}
    (h : okR X.K c Wx exc (fun W H J ds => Wk X.K c (Gr W H) J ds) (evi F md (.zst x1)) σ H Q) : iZst X.K (okR X.K c Wx exc rep (ev F md x1)) σ H Q := by
  obtain ⟨env, dr, W, m, p⟩ := h
  have p : Po c Wx exc (fun W H J ds => Wk X.K c (Gr W H) J ds) W σ ((ev F md x1 env dr).bind fun x dr => match zstD x with
      | some r => .ok r dr
      | none => .stk) H Q := p
  refine ⟨env, dr, W, m, (Po.bind p).mono fun v H1 ⟨d, dr1, g1, e1, r1, p1⟩ => ?_⟩
  have m1 := m.up g1 e1
  unfold zstD at p1
  cases hs1 : seqD d with
  | none => simp only [hs1] at p1; exact False.elim p1
  | some ds1 =>
    cases ht : tupsD ds1 with
    | none => simp only [hs1, ht] at p1; exact False.elim p1
    | some cs =>
      cases cs with
      | nil => simp only [hs1, ht] at p1; exact False.elim p1
      | cons c0 cs =>
        simp only [hs1, ht] at p1
        by_cases hb : ((c0 :: cs).all fun d => decide (d.length = c0.length)) = true
        · rw [if_pos hb] at p1
          have hl : ∀ d ∈ c0 :: cs, d.length = c0.length := fun d m => of_decide_eq_true (List.all_eq_true.mp hb d m)
          obtain ⟨b1, a1, xs, rfl, q1, ra, k1⟩ := hsrc m.wa r1 hs1
          obtain ⟨acs, rfl, t⟩ := tups_of ra ht
          have hne : acs ≠ [] := fun e => by have := t.length; rw [e] at this; cases this
          have hp := t.tup hl
          refine ⟨b1, a1, c0.length, acs, rfl, q1, hne, fun p m => ⟨.inl (.inl (hid_of (hp p m).1).2), (hp p m).2⟩, fun z1 z2 => p1 _ H1 m1.gr e1 (wk_rows (W := W) (H := H1) (rs := colsV c0.length (acs.map (·.2))) (by rw [colsV_length]; exact z2) (by rw [colsD_length, colsV_length]) (fun W' H' g => ⟨⟨acs, rfl, fun p m => ⟨.inl (.inl ((hg g).hp _ _ (hid_of (hp p m).1).1 (hid_of (hp p m).1).2).2), (hp p m).2⟩, rfl⟩, hg g⟩) fun i r e => ?_)⟩
          have hi : i < c0.length := by
            have := (List.getElem?_eq_some_iff.mp e).1
            rwa [colsV_length] at this
          rw [colsV_get hi] at e
          cases e
          exact ⟨_, colsD_get hi, t.col hi hl⟩
        · rw [if_neg hb] at p1
          exact False.elim p1
theorem trii_zst (hg : Gl X "zip") (hm : X.mg "zip" = none) (h : Tri X F c Wx exc a x1) : TriI X F c Wx exc (.Name y tp) (.Call (.Name "zip" p) [.Starred a sp_] [] pos) (.zst x1) :=
  ⟨(pi_zst hg hm h.fz rfl).imp fun σ H Q p => zst_go (Gr := GrF c) (fun _ r e => src_frz r e) (fun g => g) p,
    (pi_zst hg hm h.bo rfl).imp fun σ H Q p => zst_go (Gr := GrB c) (fun wa r e => src_bor wa r e) (fun g => g.2) p⟩
end
end Ly

set_option Elab.async false
set_option linter.all false
set_option maxRecDepth 100000
set_option maxHeartbeats 2000000
/-! Ly: comprehensions. -/
namespace Ly
open PySem PySem.Spec PyProof.Rows L2

def WD (W : Addr → Prop) (D : Addr) : Addr → Prop := fun b => W b ∨ b = D
/-- all stands but the draw and D -/
structure GrD (c : Cc) (D : Addr) (H H' : Hp) : Prop where
  hp : ∀ b o, b ≠ c.a0 → b ≠ D → H b = some o → H' b = some o
  a0 : H' c.a0 ≠ none
  d : H' D ≠ none
section
variable {K : PySem.W.Frag} {c : Cc} {σ σ' : L2.St} {H H' H2 : Hp} {W : Addr → Prop} {D : Addr} {env : List Sl} {dr dr' : Dr}
theorem GrD.hid (wa : W c.a0) (g : GrD c D H H') : Same (hid (WD W D) H) (hid (WD W D) H') := fun b o h => by
  obtain ⟨h1, h2⟩ := hid_of h
  exact hid_some h1 (g.hp b o (fun e => h1 (.inl (e ▸ wa))) (fun e => h1 (.inr e)) h2)
theorem GrD.trans (g : GrD c D H H') (g' : GrD c D H' H2) : GrD c D H H2 := ⟨fun b o n n' h => g'.hp b o n n' (g.hp b o n n' h), g'.a0, g'.d⟩
theorem GrD.refl (h : H c.a0 ≠ none) (h' : H D ≠ none) : GrD c D H H := ⟨fun _ _ _ _ h => h, h, h'⟩
theorem GrE.d (g : GrE c H H') (hD : H D ≠ none) (ne : D ≠ c.a0) : GrD c D H H' := ⟨fun b o n _ h => g.hp b o n h, g.a0, fun z => by
  cases e : H D with
  | none => exact hD e
  | some o => rw [g.hp D o ne e] at z; cases z⟩
theorem GrD.upd {o : HO} (g : GrD c D H H') (ne : D ≠ c.a0) : GrD c D H (upd H' D o) := ⟨fun b x n n' h => by rw [upd_ne n']; exact g.hp b x n n' h, by rw [upd_ne (fun e => ne e.symm)]; exact g.a0, by rw [upd_same]; simp⟩
theorem DrOk.upd {o : HO} (ne : D ≠ c.a0) (h : DrOk H c.a0 (WD W D) dr) : DrOk (upd H D o) c.a0 (WD W D) dr := by
  obtain ⟨a, e1, e2⟩ := h
  refine ⟨a, by rw [upd_ne fun e => ne e.symm]; exact e1, ?_⟩
  obtain ⟨h1, h2⟩ := hid_of e2
  exact hid_some h1 (by rw [upd_ne fun e => h1 (.inr e)]; exact h2)
/-- no held slot is at D -/
def NoD (env : List Sl) (σ : L2.St) (D : Addr) : Prop := ∀ (i : Nat) (d : Ly.D), env[i]? = some (.ow d) → σ[i]? ≠ some (some (.ref D))
theorem Mt.upD (m : Mt K c ⟨env, dr⟩ σ H (WD W D)) (wa : W c.a0) (nd : NoD env σ D) (gD : c.G D = none) (g : GrD c D H H') (d : DrOk H' c.a0 (WD W D) dr') : Mt K c ⟨env, dr'⟩ σ H' (WD W D) := by
  refine ⟨m.len, fun i x e => ?_, m.inj, d, m.wa, m.w0, fun b w z => ?_, fun b o n e => g.hp b o n (fun e' => by rw [e', gD] at e; cases e) (m.keep b o n e)⟩
  · have q := m.sl i x e
    cases x with
    | un => trivial
    | fz dd =>
      obtain ⟨v, e1, r⟩ := q
      exact ⟨v, e1, Rep.mono (g.hid wa) r⟩
    | ow dd =>
      obtain ⟨⟨a, o, e1, na, w, ha, hc⟩, q2⟩ := q
      have nD : a ≠ D := fun z => nd i dd e (by rw [e1, z])
      exact ⟨⟨a, o, e1, na, w, g.hp a o na nD ha, Cont.mono (g.hid wa) hc⟩, q2⟩
  · by_cases e : b = c.a0
    · exact g.a0 (e ▸ z)
    · by_cases e' : b = D
      · exact g.d (e' ▸ z)
      · cases q : H b with
        | none => exact m.dom b w q
        | some o => rw [g.hp b o e e' q] at z; cases z
/-- a new list: hidden -/
theorem Mt.hide {o : HO} (m : Mt K c ⟨env, dr⟩ σ H W) (hD : H D = none) : Mt K c ⟨env, dr⟩ σ (L2.upd H D o) (WD W D) ∧ NoD env σ D ∧ c.G D = none ∧ D ≠ c.a0 := by
  have ne : D ≠ c.a0 := fun z => m.dr.a0 (z ▸ hD)
  have s : Same (Ly.hid W H) (Ly.hid (WD W D) (L2.upd H D o)) := fun b x h => by
    obtain ⟨h1, h2⟩ := hid_of h
    have nb : b ≠ D := fun e => by rw [e, hD] at h2; cases h2
    exact hid_some (fun w => w.elim h1 nb) (by rw [upd_ne nb]; exact h2)
  have gD : c.G D = none := by
    cases e : c.G D with
    | none => rfl
    | some x => have := m.keep D x ne e; rw [hD] at this; cases this
  refine ⟨⟨m.len, fun i x e => ?_, m.inj, ?_, .inl m.wa, fun b w => .inl (m.w0 b w), fun b w z => ?_, fun b x n e => ?_⟩, fun i d e z => ?_, gD, ne⟩
  · have q := m.sl i x e
    cases x with
    | un => trivial
    | fz dd =>
      obtain ⟨v, e1, r⟩ := q
      exact ⟨v, e1, Rep.mono s r⟩
    | ow dd =>
      obtain ⟨⟨a, o', e1, na, w, ha, hc⟩, q2⟩ := q
      exact ⟨⟨a, o', e1, na, .inl w, same_upd hD _ _ ha, Cont.mono s hc⟩, q2⟩
  · obtain ⟨a, e1, e2⟩ := m.dr
    exact ⟨a, same_upd hD _ _ e1, s _ _ e2⟩
  · by_cases e' : b = D
    · rw [e', upd_same] at z; cases z
    · rw [upd_ne e'] at z
      exact w.elim (fun w => m.dom b w z) e'
  · exact same_upd hD _ _ (m.keep b x n e)
  · obtain ⟨⟨a, o', e1, na, w, ha, hc⟩, _⟩ := m.sl i _ e
    rw [e1] at z
    cases z
    rw [hD] at ha; cases ha
theorem NoD.wipe (h : NoD env σ D) (hl : env.length = σ.length) : ∀ vs : List Nat, NoD (wipeE env vs) (wipe σ vs) D := by
  have ge : ∀ (vs : List Nat) (i : Nat) (d : Ly.D), (wipeE env vs)[i]? = some (.ow d) → env[i]? = some (.ow d) ∧ (L2.wipe σ vs)[i]? = σ[i]? := by
    intro vs
    induction vs with
    | nil => exact fun i d e => ⟨e, rfl⟩
    | cons v vs ih =>
      intro i d e
      have e : ((wipeE env vs).set v .un)[i]? = some (.ow d) := e
      have nv : v ≠ i := fun z => by
        subst z
        have hlt : v < (wipeE env vs).length := by
          have := (List.getElem?_eq_some_iff.mp e).1
          simpa using this
        rw [List.getElem?_set_self hlt] at e
        cases e
      rw [List.getElem?_set_ne nv] at e
      obtain ⟨h1, h2⟩ := ih i d e
      exact ⟨h1, by show ((L2.wipe σ vs).set v none)[i]? = _; rw [List.getElem?_set_ne nv, h2]⟩
  intro vs i d e
  obtain ⟨h1, h2⟩ := ge vs i d e
  rw [h2]
  exact h i d h1
mutual
theorem tgo_held : ∀ (tg : Tg) (d : Ly.D) (env env' : List Sl), tgo tg d env = some env' → ∀ (i : Nat) (x : Ly.D), env'[i]? = some (.ow x) → env[i]? = some (.ow x) ∧ i ∉ tgN tg
  | .nm j, d, env, env', h, i, x, e => by
    cases (show some (env.set j (.fz d)) = some env' from h)
    have nv : j ≠ i := fun z => by
      subst z
      have hlt : j < env.length := by
        have := (List.getElem?_eq_some_iff.mp e).1
        simpa using this
      rw [List.getElem?_set_self hlt] at e
      cases e
    rw [List.getElem?_set_ne nv] at e
    exact ⟨e, by simpa [tgN] using fun z => nv z.symm⟩
  | .tup ts, d, env, env', h, i, x, e => by
    cases d with
    | tuple ds => exact tgos_held ts ds env env' h i x e
    | list ds => exact tgos_held ts ds env env' h i x e
    | _ => simp [tgo] at h
theorem tgos_held : ∀ (ts : Tgs) (ds : List Ly.D) (env env' : List Sl), tgos ts ds env = some env' → ∀ (i : Nat) (x : Ly.D), env'[i]? = some (.ow x) → env[i]? = some (.ow x) ∧ i ∉ tgNs ts
  | .nil, [], env, env', h, i, x, e => by
    cases (show some env = some env' from h)
    exact ⟨e, by simp [tgNs]⟩
  | .nil, _ :: _, _, _, h, _, _, _ => by simp [tgos] at h
  | .cons _ _, [], _, _, h, _, _, _ => by simp [tgos] at h
  | .cons t ts, d :: ds, env, env', h, i, x, e => by
    unfold tgos at h
    cases h1 : tgo t d env with
    | none => simp only [h1] at h; cases h
    | some env1 =>
      simp only [h1] at h
      obtain ⟨e1, n1⟩ := tgos_held ts ds env1 env' h i x e
      obtain ⟨e2, n2⟩ := tgo_held t d env env1 h1 i x e1
      exact ⟨e2, by simp only [tgNs, List.mem_append, not_or]; exact ⟨n2, n1⟩⟩
end
end

/-- in a block nothing is let out -/
abbrev Wx0 : WX := fun _ _ _ _ => False
section
variable {K : PySem.W.Frag} {c : Cc} {exc : Exc} {σ : L2.St} {H : Hp} {W : Addr → Prop} {D : Addr} {env : List Sl} {dr dr' : Dr}
/-- a turn that ends in the element -/
theorem tn1_step {tg : Tg} {own : List Nat} {tst el : List Sl → Dr → R Ly.D} {x : V} {d : Ly.D} {r r0 : List Ly.D} {acc : List V} {Nx : Hp → Prop} (ho : ∀ i ∈ tgN tg, i ∈ own)
    (m : Mt K c ⟨env, dr⟩ σ H (WD W D)) (wa : W c.a0) (nd : NoD env σ D) (gD : c.G D = none) (ne : D ≠ c.a0) (hD : H D = some (.lst acc)) (ra : RepL K c.a0 (hid (WD W D) H) acc r0) (hz : r ≠ [] → acc.length < sizeLine)
    (rx : Rep K c.a0 (hid (WD W D) H) x d) (h : tn1 tg own env tst el d dr = some (r, dr'))
    (hN : ∀ H' acc', GrD c D H H' → DrOk H' c.a0 (WD W D) dr' → H' D = some (.lst acc') → RepL K c.a0 (hid (WD W D) H') acc' (r0 ++ r) → Nx H') :
    gOk K c tg x (wipe σ own) H fun σ2 H2 => wipe σ2 own = wipe σ own ∧ okR K c Wx0 exc RepX tst σ2 H2 fun b H3 =>
      if b = true then okR K c Wx0 exc (RepF K c) el σ2 H3 fun y H4 => ∃ acc, H4 D = some (.lst acc) ∧ acc.length < sizeLine ∧ Nx (upd H4 D (.lst (acc ++ [y]))) else Nx H3 := by
  unfold tn1 at h
  cases h1 : tgo tg d (wipeE env own) with
  | none => simp only [h1] at h; cases h
  | some env' =>
    simp only [h1] at h
    refine ⟨wipeE env own, dr, WD W D, d, env', m.wipe own, rx, h1, fun σ' m' hl hk => ⟨?_, ?_⟩⟩
    · have e1 : wipe σ' own = wipe (wipe σ own) own := wipe_eq hl.symm fun i hi => hk i fun z => hi (ho i z)
      have e2 : wipe (wipe σ own) own = wipe σ own := by
        refine wipe_eq (wipe_length σ own).symm fun i hi => ?_
        have : ∀ vs : List Nat, i ∉ vs → (wipe σ vs)[i]? = σ[i]? := by
          intro vs
          induction vs with
          | nil => intro _; rfl
          | cons v vs ih =>
            intro hv
            simp only [List.mem_cons, not_or] at hv
            show ((wipe σ vs).set v none)[i]? = _
            rw [List.getElem?_set_ne fun z => hv.1 z.symm, ih hv.2]
        exact this own hi
      rw [e1, e2]
    · have hDn : H D ≠ none := by rw [hD]; simp
      cases ht : tst env' dr with
      | err e q => simp only [ht] at h; cases h
      | stk => simp only [ht] at h; cases h
      | ok v dr1 =>
        simp only [ht] at h
        refine ⟨env', dr, WD W D, m', ?_⟩
        rw [ht]
        intro b H3 g3 e3 r3
        cases (show v = .bool b from r3)
        have m3 := m'.up g3 e3
        have hD3 : H3 D = some (.lst acc) := g3.hp D _ ne hD
        cases b with
        | false =>
          cases h
          exact iteF (hN H3 acc (g3.d hDn ne) e3 hD3 (by rw [List.append_nil]; exact RepL.mono (g3.hid m.wa) ra))
        | true =>
          refine iteT ⟨env', dr1, WD W D, m3, ?_⟩
          cases he : el env' dr1 with
          | err e q => simp only [he] at h; cases h
          | stk => simp only [he] at h; cases h
          | ok y dr2 =>
            simp only [he] at h
            cases h
            intro yv H4 g4 e4 r4
            have hD4 : H4 D = some (.lst acc) := g4.hp D _ ne hD3
            refine ⟨acc, hD4, hz (by simp), hN _ (acc ++ [yv]) (((g3.trans g4).d hDn ne).upd ne) (e4.upd ne) upd_same ?_⟩
            have same : Same (hid (WD W D) H4) (hid (WD W D) (upd H4 D (.lst (acc ++ [yv])))) := fun b o q => by
              obtain ⟨q1, q2⟩ := hid_of q
              exact hid_some q1 (by rw [upd_ne fun e => q1 (.inr e)]; exact q2)
            exact (RepL.mono same ((RepL.mono (g4.hid m.wa) (RepL.mono (g3.hid m.wa) ra)))).append (.one (Rep.mono same r4))
theorem GrE.of_d {H1 H : Hp} (hD : H1 D = none) (g : GrD c D (upd H1 D (.lst [])) H) : GrE c H1 H := ⟨fun b o n e => g.hp b o n (fun z => by rw [z, hD] at e; cases e) (same_upd hD _ _ e), g.a0⟩
theorem GrS.of_d {H1 H : Hp} (wa : W c.a0) (hD : H1 D = none) (g : GrD c D (upd H1 D (.lst [])) H) : GrS W H1 (WD W D) H := ⟨fun b o n e => ⟨fun z => z.elim n (fun z => by rw [z, hD] at e; cases e), (GrE.of_d hD g).hp b o (fun z => n (z ▸ wa)) e⟩⟩
/-- the list is whole -/
theorem lc_end {H1 : Hp} {acc : List V} {r : List Ly.D} (wa : W c.a0) (dm : ∀ b, W b → H1 b ≠ none) (hD : H1 D = none) (g : GrD c D (upd H1 D (.lst [])) H) (d : DrOk H c.a0 (WD W D) dr) (e : H D = some (.lst acc)) (ra : RepL K c.a0 (hid (WD W D) H) acc r) :
    GrE c H1 H ∧ DrOk H c.a0 W dr ∧ Rep K c.a0 (hid W H) (.ref D) (.list r) := by
  have same : Same (hid (WD W D) H) (hid W H) := hid_mono (fun b h => .inl h) fun b o _ q => q
  refine ⟨GrE.of_d hD g, ?_, .mu (hid_some (fun w => dm D w hD) e) (.lst (RepL.mono same ra))⟩
  obtain ⟨a, e1, e2⟩ := d
  exact ⟨a, e1, same _ _ e2⟩
theorem lcGo_cons {T : Ly.D → Dr → Option (List Ly.D × Dr)} {x : Ly.D} {xs r : List Ly.D} {q : Dr} (h : lcGo T (x :: xs) dr = some (r, q)) : ∃ r0 dr1 r1, T x dr = some (r0, dr1) ∧ lcGo T xs dr1 = some (r1, q) ∧ r = r0 ++ r1 := by
  unfold lcGo at h
  split at h
  · cases h
  · rename_i r0 dr1 e1
    split at h
    · cases h
    · rename_i r1 dr2 e2
      cases h
      exact ⟨r0, dr1, r1, e1, e2, rfl⟩
theorem lc_all {tg : Tg} {own : List Nat} {tst el : List Sl → Dr → R Ly.D} {J : It} {ds r : List Ly.D} {H1 : Hp} {Q : VK} (ho : ∀ i ∈ tgN tg, i ∈ own) (m : Mt K c ⟨env, dr⟩ σ H1 W) (wk : WkB K c W H1 J ds)
    (h : lcGo (tn1 tg own env tst el) ds dr = some (r, dr')) (q : ∀ D H' acc, H1 D = none → GrD c D (upd H1 D (.lst [])) H' → DrOk H' c.a0 (WD W D) dr' → H' D = some (.lst acc) → RepL K c.a0 (hid (WD W D) H') acc r → Q (.ref D) H') :
    ∀ D, H1 D = none → ∃ Wi : Nat → Nat → Hp → Prop, (∃ k, Wi 0 k (upd H1 D (.lst []))) ∧ ∀ i k H, Wi i k H →
      (J.stop i H ∧ Q (.ref D) H) ∨ (J.go i H ∧ ∃ Nx : Hp → Prop, (∀ H', Nx H' → ∃ k', k' < k ∧ Wi (i + 1) k' H') ∧ ∀ x H', J.yld i H x H' → gOk K c tg x (wipe σ own) H' fun σ2 H2 => wipe σ2 own = wipe σ own ∧ okR K c Wx0 exc RepX tst σ2 H2 fun b H3 =>
        if b = true then okR K c Wx0 exc (RepF K c) el σ2 H3 fun y H4 => ∃ acc, H4 D = some (.lst acc) ∧ acc.length < sizeLine ∧ Nx (upd H4 D (.lst (acc ++ [y]))) else Nx H3) := by
  intro D hD
  obtain ⟨hz, G, Y, w, hw⟩ := wk
  obtain ⟨ms, nd, gD, ne⟩ := m.hide (o := .lst []) hD
  refine lc_it w (Qd := Q (.ref D)) (fun i H => ∃ dr1 r0 r1 acc, lcGo (tn1 tg own env tst el) (ds.drop i) dr1 = some (r1, dr') ∧ r = r0 ++ r1 ∧ GrD c D (upd H1 D (.lst [])) H ∧ DrOk H c.a0 (WD W D) dr1 ∧ H D = some (.lst acc) ∧ RepL K c.a0 (hid (WD W D) H) acc r0 ∧ acc.length ≤ i)
    ⟨dr, [], r, [], h, rfl, GrD.refl ms.dr.a0 (by rw [upd_same]; simp), ms.dr, upd_same, .nil, Nat.le_refl _⟩
    (fun i H hi ⟨dr1, r0, r1, acc, _, _, g, _⟩ => (hw (WD W D) H ⟨GrE.of_d hD g, GrS.of_d m.wa hD g⟩).1) (fun i x H H' hi ⟨dr1, r0, r1, acc, e1, e2, g, d, ed, ra, hl⟩ y => ?_) (fun H ⟨dr1, r0, r1, acc, e1, e2, g, d, ed, ra, hl⟩ => ?_)
  · obtain ⟨dd, hd, nw⟩ := (hw (WD W D) H ⟨GrE.of_d hD g, GrS.of_d m.wa hD g⟩).2 i x H' hi y
    have hdrop : ds.drop i = dd :: ds.drop (i + 1) := by
      obtain ⟨h1, h2⟩ := List.getElem?_eq_some_iff.mp hd
      rw [← h2]
      exact List.drop_eq_getElem_cons h1
    rw [hdrop] at e1
    obtain ⟨rt, dr2, r2, t1, t2, t3⟩ := lcGo_cons e1
    have hDn : H D ≠ none := by rw [ed]; simp
    have gn : GrE c H H' := nw.gr d.a0
    have mH : Mt K c ⟨env, dr1⟩ σ H (WD W D) := ms.upD m.wa nd gD g d
    have dm := mH.dom
    have mH' : Mt K c ⟨env, dr1⟩ σ H' (WD W D) := mH.up gn (d.same nw.same)
    have ed' : H' D = some (.lst acc) := gn.hp D _ ne ed
    refine tn1_step ho mH' m.wa nd gD ne ed' (RepL.mono (gn.hid mH.wa) ra) (fun _ => by omega) (nw.rep dm) t1 fun H2 acc' g2 d2 e2' ra2 => ⟨dr2, r0 ++ rt, r2, acc', t2, by rw [e2, t3, List.append_assoc], (g.trans (gn.d hDn ne)).trans g2, d2, e2', ra2, ?_⟩
    have hl2 : acc'.length = (r0 ++ rt).length := ra2.length
    have hl0 : acc.length = r0.length := ra.length
    have hrt : rt.length ≤ 1 := by
      unfold tn1 at t1
      repeat' split at t1
      all_goals first | (cases t1; done) | (cases t1; simp)
    rw [hl2, List.length_append]
    omega
  · have hdrop : ds.drop ds.length = [] := List.drop_length
    rw [hdrop] at e1
    cases (show some ([], dr1) = some (r1, dr') from e1)
    rw [List.append_nil] at e2
    subst e2
    exact q D H acc hD g d ed ra
end
section
variable {X : Cx} {F : Nat → List D → Dr → Oc} {c : Cc} {Wx : WX} {exc : Exc} {e tg iter elt : Expr} {ifs : List Expr} {x : Ex} {t : Tg} {it : Itx} {cs : Exs} {scope : Scope} {own : List (Str × Nat)} {pos : Pos}
/-- tests of a comprehension -/
structure TriT (X : Cx) (F : Nat → List D → Dr → Oc) (c : Cc) (Wx : WX) (exc : Exc) (es : List Expr) (xs : Exs) : Prop where
  te : PTs X es (okR X.K c Wx exc RepX (evt F xs))
theorem trit_nil : TriT X F c Wx exc [] .nil := ⟨⟨fun pins s σ H Q I ⟨env, dr, W, m, p⟩ => pts_nil.run pins s σ H Q I (p true H m.gr m.dr rfl)⟩⟩
theorem trit_one (h : Tri X F c Wx exc e x) : TriT X F c Wx exc [e] (.cons x .nil) := ⟨pts_one h.te⟩
/-- the parts of a block -/
structure BlkH (X : Cx) (F : Nat → List D → Dr → Oc) (c : Cc) (exc : Exc) (scope : Scope) (P : Cx → Prop) : Prop where
  all : ∀ (s : Shared) (H : Hp) (C : Addr) (cl : List (Str × Addr)) (fp : List Addr), P (X.blk s H scope (compEnvC scope cl C X.env) fp)
theorem lc_read {σ : L2.St} {H : Hp} {Q : VK} {md : Md} {rep : Cc → RepT D V} (vs : List Nat) (ho : ∀ i ∈ tgN t, i ∈ vs) (hr : ∀ W H v d, Rep X.K c.a0 (hid W H) v d → rep c W H v d) (hm : md = .frz ∨ md = .bor) (h : okR X.K c Wx exc (rep c) (ev F md (.lc vs t it cs x)) σ H Q) :
    tLc (okR X.K c Wx exc (WkB X.K c) (evi F .bor it)) (gOk X.K c t) (okR X.K c Wx0 exc RepX (evt F cs)) (okR X.K c Wx0 exc (RepF X.K c) (ev F .frz x)) vs σ H Q := by
  obtain ⟨env, dr, W, m, p⟩ := h
  refine ⟨env, dr, W, m, (Po.bind (k := fun ds dr => match lcGo (tn1 t vs env (fun env dr => evt F cs env dr) (fun env dr => ev F .frz x env dr)) ds dr with
    | some (r, dr) => fin md (.list r) dr
    | none => .stk) p).mono fun J H1 ⟨ds, dr1, g1, e1, wk, p1⟩ => ?_⟩
  have m1 := m.up g1 e1
  cases hl : lcGo (tn1 t vs env (fun env dr => evt F cs env dr) (fun env dr => ev F .frz x env dr)) ds dr1 with
  | none => simp only [hl] at p1; exact False.elim p1
  | some z =>
    obtain ⟨r, dr2⟩ := z
    simp only [hl] at p1
    have p2 : Po c Wx exc (rep c) W σ (.ok (.list r) dr2) H1 Q := by
      rcases hm with rfl | rfl <;> exact p1
    exact lc_all ho m1 wk hl fun D H' acc hD g d e ra => by
      obtain ⟨h1, h2, h3⟩ := lc_end m1.wa m1.dom hD g d e ra
      exact p2 _ H' h1 h2 (hr _ _ _ _ h3)
theorem tri_lc (hc : X.calm = true) (hN : X.N.Nodup) (hs : ∀ x, foldedSetIterable iter X.env x = pure x) (ok : BlkOk X.N X.env.scope scope own) (ho : ∀ i ∈ tgN t, i ∈ own.map (·.2)) (hi : TriI X F c Wx exc tg iter it)
    (hg : ∀ s H C cl fp, PG (X.blk s H scope (compEnvC scope cl C X.env) fp) tg (gOk X.K c t)) (ht : ∀ s H C cl fp, TriT (X.blk s H scope (compEnvC scope cl C X.env) fp) F c Wx0 exc ifs cs)
    (he : ∀ s H C cl fp, Tri (X.blk s H scope (compEnvC scope cl C X.env) fp) F c Wx0 exc elt x) : Tri X F c Wx exc (.ListComp elt [⟨tg, iter, ifs, 0⟩] scope pos) (.lc (own.map (·.2)) t it cs x) := by
  have base := pe_lc (elt := elt) (te := okR X.K c Wx0 exc (RepF X.K c) (ev F .frz x)) (tt := okR X.K c Wx0 exc RepX (evt F cs)) (pos := pos) hc hN hi.bo ok hg (fun s H C cl fp => (ht s H C cl fp).te) (fun s H C cl fp => (he s H C cl fp).fz) hs
  refine ⟨base.imp fun σ H Q p => lc_read (rep := fun c => RepF X.K c) _ ho (fun _ _ _ _ r => r) (.inl rfl) p, base.imp fun σ H Q p => lc_read (rep := fun c => RepB X.K c) _ ho (fun _ _ _ _ r => .inl r) (.inr rfl) p, ?_⟩
  refine (pt_truth base fun _ => rfl).imp fun σ H Q ⟨env, dr, W, m, p⟩ => lc_read (rep := fun c => RepF X.K c) _ ho (fun _ _ _ _ r => r) (.inl rfl) ⟨env, dr, W, m, ?_⟩
  have p : Po c Wx exc RepX W σ ((ev F .frz (.lc (own.map (·.2)) t it cs x) env dr).bind (fin .tst)) H Q := by
    have e : (ev F .frz (.lc (own.map (·.2)) t it cs x) env dr).bind (fin .tst) = ev F .tst (.lc (own.map (·.2)) t it cs x) env dr := by
      show ((evi F .bor it env dr).bind _).bind _ = (evi F .bor it env dr).bind _
      rw [R.bind_assoc]
      congr 1; funext ds dr1
      cases lcGo (tn1 t (own.map (·.2)) env (fun env dr => evt F cs env dr) (fun env dr => ev F .frz x env dr)) ds dr1 with
      | none => rfl
      | some z => rfl
    rw [e]; exact p
  refine (Po.bind p).mono fun v H1 ⟨d1, dr1, g1, e1, r1, p1⟩ => ?_
  unfold fin at p1
  cases hk : truD d1 with
  | none => simp only [hk] at p1; exact False.elim p1
  | some k =>
    simp only [hk] at p1
    exact ⟨k, tru_of m.wa (.inl r1) hk, p1 k H1 (m.up g1 e1).gr e1 rfl⟩
end
end Ly

set_option Elab.async false
set_option linter.all false
set_option maxRecDepth 100000
set_option maxHeartbeats 2000000
/-! Ly: comprehensions with two clauses. -/
namespace Ly
open PySem PySem.Spec PyProof.Rows L2
section
variable {K : PySem.W.Frag} {c : Cc} {exc : Exc} {σ : L2.St} {H : Hp} {W : Addr → Prop} {D : Addr} {env : List Sl} {dr dr' : Dr}
theorem drop_at {ds : List Ly.D} {i : Nat} {d : Ly.D} (hd : ds[i]? = some d) : ds.drop i = d :: ds.drop (i + 1) := by
  obtain ⟨h1, h2⟩ := List.getElem?_eq_some_iff.mp hd
  rw [← h2]
  exact List.drop_eq_getElem_cons h1
theorem GrD.st {H4 H : Hp} (wa : W c.a0) (g : GrD c D H4 H) : GrS (WD W D) H4 (WD W D) H := ⟨fun b o n e => ⟨n, g.hp b o (fun z => n (.inl (z ▸ wa))) (fun z => n (.inr z)) e⟩⟩
theorem wipe_self {τ : L2.St} {vs : List Nat} {i : Nat} (hi : i ∉ vs) : (wipe τ vs)[i]? = τ[i]? := by
  induction vs with
  | nil => rfl
  | cons v vs ih =>
    simp only [List.mem_cons, not_or] at hi
    show ((wipe τ vs).set v none)[i]? = _
    rw [List.getElem?_set_ne fun z => hi.1 z.symm, ih hi.2]
theorem lc2_all {tg tg1 : Tg} {own own1 : List Nat} {tst tst1 el : List Sl → Dr → R Ly.D} {it1 : List Sl → Dr → R (List Ly.D)} {J : It} {ds r : List Ly.D} {H1 : Hp} {Q : VK} (ho : ∀ i ∈ tgN tg, i ∈ own) (ho1 : ∀ i ∈ tgN tg1, i ∈ own1)
    (m : Mt K c ⟨env, dr⟩ σ H1 W) (wk : WkB K c W H1 J ds) (hlen : r.length ≤ sizeLine)
    (h : lcGo (tn2 tg own env tst it1 fun env => tn1 tg1 own1 env tst1 el) ds dr = some (r, dr')) (q : ∀ D H' acc, H1 D = none → GrD c D (upd H1 D (.lst [])) H' → DrOk H' c.a0 (WD W D) dr' → H' D = some (.lst acc) → RepL K c.a0 (hid (WD W D) H') acc r → Q (.ref D) H') :
    ∀ D, H1 D = none → ∃ Wi : Nat → Nat → Hp → Prop, (∃ k, Wi 0 k (upd H1 D (.lst []))) ∧ ∀ i k H, Wi i k H →
      (J.stop i H ∧ Q (.ref D) H) ∨ (J.go i H ∧ ∃ Nx : Hp → Prop, (∀ H', Nx H' → ∃ k', k' < k ∧ Wi (i + 1) k' H') ∧ ∀ x H', J.yld i H x H' → gOk K c tg x (wipe σ own) H' fun σ2 H2 => wipe σ2 own = wipe σ own ∧ okR K c Wx0 exc RepX tst σ2 H2 fun b H3 =>
        if b = true then okR K c Wx0 exc (WkF K c) it1 σ2 H3 fun J1 H4 => ∃ W1 : Nat → Nat → Hp → Prop, (∃ m, W1 0 m H4) ∧ ∀ j k H, W1 j k H →
          (J1.stop j H ∧ Nx H) ∨ (J1.go j H ∧ ∃ Nx1 : Hp → Prop, (∀ H', Nx1 H' → ∃ k', k' < k ∧ W1 (j + 1) k' H') ∧ ∀ x H', J1.yld j H x H' → gOk K c tg1 x (wipe σ2 own1) H' fun σ3 H5 => wipe σ3 own1 = wipe σ2 own1 ∧ okR K c Wx0 exc RepX tst1 σ3 H5 fun b H6 =>
            if b = true then okR K c Wx0 exc (RepF K c) el σ3 H6 fun y H7 => ∃ acc, H7 D = some (.lst acc) ∧ acc.length < sizeLine ∧ Nx1 (upd H7 D (.lst (acc ++ [y]))) else Nx1 H6)
        else Nx H3) := by
  intro D hD
  obtain ⟨hz, G, Y, w, hw⟩ := wk
  obtain ⟨ms, nd, gD, ne⟩ := m.hide (o := .lst []) hD
  let T := tn2 tg own env tst it1 fun env => tn1 tg1 own1 env tst1 el
  let Pv : Nat → Hp → Prop := fun i H => ∃ dr1 r0 r1 acc, lcGo T (ds.drop i) dr1 = some (r1, dr') ∧ r = r0 ++ r1 ∧ GrD c D (upd H1 D (.lst [])) H ∧ DrOk H c.a0 (WD W D) dr1 ∧ H D = some (.lst acc) ∧ RepL K c.a0 (hid (WD W D) H) acc r0
  refine ⟨fun i k H => k = ds.length - i ∧ i ≤ ds.length ∧ Pv i H, ⟨ds.length, by simp, Nat.zero_le _, dr, [], r, [], h, rfl, GrD.refl ms.dr.a0 (by rw [upd_same]; simp), ms.dr, upd_same, .nil⟩, ?_⟩
  rintro i k H ⟨rfl, hi, dr1, r0, r1, acc, e1, e2, g, d, ed, ra⟩
  have hG := hw (WD W D) H ⟨GrE.of_d hD g, GrS.of_d m.wa hD g⟩
  by_cases hlt : i < ds.length
  · refine .inr ⟨w.goes i H hlt hG.1, Pv (i + 1), fun H' p' => ⟨ds.length - (i + 1), by omega, rfl, hlt, p'⟩, fun x H' y => ?_⟩
    obtain ⟨dd, hd, nw⟩ := hG.2 i x H' hlt (w.yields i H x H' hlt hG.1 y)
    rw [drop_at hd] at e1
    obtain ⟨rt, dr2, r2, t1, t2, t3⟩ := lcGo_cons e1
    have hDn : H D ≠ none := by rw [ed]; simp
    have gn : GrE c H H' := nw.gr d.a0
    have mH : Mt K c ⟨env, dr1⟩ σ H (WD W D) := ms.upD m.wa nd gD g d
    have mH' : Mt K c ⟨env, dr1⟩ σ H' (WD W D) := mH.up gn (d.same nw.same)
    have ed' : H' D = some (.lst acc) := gn.hp D _ ne ed
    have ra' := RepL.mono (gn.hid mH.wa) ra
    have gH' := g.trans (gn.d hDn ne)
    have t1 : tn2 tg own env tst it1 (fun env => tn1 tg1 own1 env tst1 el) dd dr1 = some (rt, dr2) := t1
    unfold tn2 at t1
    cases h1 : tgo tg dd (wipeE env own) with
    | none => simp only [h1] at t1; cases t1
    | some env' =>
      simp only [h1] at t1
      refine ⟨wipeE env own, dr1, WD W D, dd, env', mH'.wipe own, nw.rep mH.dom, h1, fun σ' m' hl hk => ⟨?_, ?_⟩⟩
      · have e1 : wipe σ' own = wipe (wipe σ own) own := wipe_eq hl.symm fun i hi => hk i fun z => hi (ho i z)
        have e2 : wipe (wipe σ own) own = wipe σ own := wipe_eq (wipe_length σ own).symm fun i hi => wipe_self hi
        rw [e1, e2]
      · have nd' : NoD env' σ' D := fun j dj ej z => by
          obtain ⟨z1, z2⟩ := tgo_held tg dd _ _ h1 j dj ej
          rw [hk j z2] at z
          exact nd.wipe m.len own j dj z1 z
        cases ht : tst env' dr1 with
        | err e q => simp only [ht] at t1; cases t1
        | stk => simp only [ht] at t1; cases t1
        | ok v dr3 =>
          simp only [ht] at t1
          refine ⟨env', dr1, WD W D, m', ?_⟩
          rw [ht]
          intro b H3 g3 e3 r3
          cases (show v = .bool b from r3)
          have m3 := m'.up g3 e3
          have hDn' : H' D ≠ none := by rw [ed']; simp
          have hD3 : H3 D = some (.lst acc) := g3.hp D _ ne ed'
          have ra3 := RepL.mono (g3.hid m'.wa) ra'
          have g03 := gH'.trans (g3.d hDn' ne)
          cases b with
          | false =>
            cases t1
            exact iteF ⟨dr2, r0, r2, acc, t2, by rw [e2, t3, List.nil_append], g03, e3, hD3, ra3⟩
          | true =>
            refine iteT ⟨env', dr3, WD W D, m3, ?_⟩
            cases hi1 : it1 env' dr3 with
            | err e q => simp only [hi1] at t1; cases t1
            | stk => simp only [hi1] at t1; cases t1
            | ok es dr4 =>
              simp only [hi1] at t1
              intro J1 H4 g4 e4 wk1
              obtain ⟨hz1, G1, Y1, w1, hw1⟩ := wk1
              have m4 := m3.up g4 e4
              have hDn3 : H3 D ≠ none := by rw [hD3]; simp
              have hD4 : H4 D = some (.lst acc) := g4.hp D _ ne hD3
              have ra4 := RepL.mono (g4.hid m3.wa) ra3
              have g04 := g03.trans (g4.d hDn3 ne)
              let P1 : Nat → Hp → Prop := fun j H => ∃ drj rj rk accj, lcGo (tn1 tg1 own1 env' tst1 el) (es.drop j) drj = some (rk, dr2) ∧ rt = rj ++ rk ∧ GrD c D H4 H ∧ DrOk H c.a0 (WD W D) drj ∧ H D = some (.lst accj) ∧ RepL K c.a0 (hid (WD W D) H) accj (r0 ++ rj)
              refine ⟨fun j k H => k = es.length - j ∧ j ≤ es.length ∧ P1 j H, ⟨es.length, by simp, Nat.zero_le _, dr4, [], rt, acc, t1, rfl, GrD.refl e4.a0 (by rw [hD4]; simp), e4, hD4, by rw [List.append_nil]; exact ra4⟩, ?_⟩
              rintro j k H5 ⟨rfl, hj, drj, rj, rk, accj, f1, f2, gj, dj, edj, raj⟩
              have hG1 := hw1 (WD W D) H5 (gj.st m.wa)
              by_cases hlt1 : j < es.length
              · refine .inr ⟨w1.goes j H5 hlt1 hG1.1, P1 (j + 1), fun H' p' => ⟨es.length - (j + 1), by omega, rfl, hlt1, p'⟩, fun x1 H6 y1 => ?_⟩
                obtain ⟨d1, hd1, nw1⟩ := hG1.2 j x1 H6 hlt1 (w1.yields j H5 x1 H6 hlt1 hG1.1 y1)
                rw [drop_at hd1] at f1
                obtain ⟨rt1, dr5, r5, u1, u2, u3⟩ := lcGo_cons f1
                have hDnj : H5 D ≠ none := by rw [edj]; simp
                have gn1 : GrE c H5 H6 := nw1.gr dj.a0
                have mj : Mt K c ⟨env', drj⟩ σ' H5 (WD W D) := m4.upD m.wa nd' gD gj dj
                have mj' : Mt K c ⟨env', drj⟩ σ' H6 (WD W D) := mj.up gn1 (dj.same nw1.same)
                have ed6 : H6 D = some (.lst accj) := gn1.hp D _ ne edj
                refine tn1_step ho1 mj' m.wa nd' gD ne ed6 (RepL.mono (gn1.hid mj.wa) raj) (fun hne => ?_) (nw1.rep mj.dom) u1 fun H7 acc' g7 d7 e7 ra7 => ⟨dr5, rj ++ rt1, r5, acc', u2, by rw [f2, u3, List.append_assoc], (gj.trans (gn1.d hDnj ne)).trans g7, d7, e7, by rw [← List.append_assoc]; exact ra7⟩
                have hla := raj.length
                rw [hla]
                have hpos : 0 < rt1.length := List.length_pos_iff.mpr hne
                have : r.length = r0.length + (rj.length + (rt1.length + r5.length)) + r2.length := by rw [e2, t3, f2, u3]; simp; omega
                rw [List.length_append]
                omega
              · have e : j = es.length := by omega
                subst e
                refine .inl ⟨w1.stops H5 hG1.1, ?_⟩
                rw [List.drop_length] at f1
                cases (show some ([], drj) = some (rk, dr2) from f1)
                rw [List.append_nil] at f2
                subst f2
                exact ⟨_, r0 ++ rt, r2, accj, t2, by rw [e2, t3, List.append_assoc], g04.trans gj, dj, edj, raj⟩
  · have e : i = ds.length := by omega
    subst e
    rw [List.drop_length] at e1
    cases (show some ([], dr1) = some (r1, dr') from e1)
    rw [List.append_nil] at e2
    subst e2
    exact .inl ⟨w.stops H hG.1, q D H acc hD g d ed ra⟩
end
section
variable {X : Cx} {F : Nat → List D → Dr → Oc} {c : Cc} {Wx : WX} {exc : Exc} {e tg iter tg1 iter1 elt : Expr} {ifs ifs1 : List Expr} {x : Ex} {t t1 : Tg} {it it1 : Itx} {cs cs1 : Exs} {scope : Scope} {own : List (Str × Nat)} {own1 : List Nat} {pos : Pos}
theorem lc2_read {σ : L2.St} {H : Hp} {Q : VK} {md : Md} {rep : Cc → RepT D V} (vs vs1 : List Nat) (ho : ∀ i ∈ tgN t, i ∈ vs) (ho1 : ∀ i ∈ tgN t1, i ∈ vs1) (hr : ∀ W H v d, Rep X.K c.a0 (hid W H) v d → rep c W H v d) (hm : md = .frz ∨ md = .bor) (h : okR X.K c Wx exc (rep c) (ev F md (.lc2 vs vs1 t it cs t1 it1 cs1 x)) σ H Q) :
    tLc2 (okR X.K c Wx exc (WkB X.K c) (evi F .bor it)) (gOk X.K c t) (okR X.K c Wx0 exc RepX (evt F cs)) (okR X.K c Wx0 exc (WkF X.K c) (evi F .frz it1)) (gOk X.K c t1) (okR X.K c Wx0 exc RepX (evt F cs1)) (okR X.K c Wx0 exc (RepF X.K c) (ev F .frz x)) vs vs1 σ H Q := by
  obtain ⟨env, dr, W, m, p⟩ := h
  refine ⟨env, dr, W, m, (Po.bind (k := fun ds dr => match lcGo (tn2 t vs env (fun env dr => evt F cs env dr) (fun env dr => evi F .frz it1 env dr) fun env => tn1 t1 vs1 env (fun env dr => evt F cs1 env dr) (fun env dr => ev F .frz x env dr)) ds dr with
    | some (r, dr) => if okLen r.length then fin md (.list r) dr else .stk
    | none => .stk) p).mono fun J H1 ⟨ds, dr1, g1, e1, wk, p1⟩ => ?_⟩
  have m1 := m.up g1 e1
  cases hl : lcGo (tn2 t vs env (fun env dr => evt F cs env dr) (fun env dr => evi F .frz it1 env dr) fun env => tn1 t1 vs1 env (fun env dr => evt F cs1 env dr) (fun env dr => ev F .frz x env dr)) ds dr1 with
  | none => simp only [hl] at p1; exact False.elim p1
  | some z =>
    obtain ⟨r, dr2⟩ := z
    simp only [hl] at p1
    split at p1
    · rename_i hk
      have p2 : Po c Wx exc (rep c) W σ (.ok (.list r) dr2) H1 Q := by
        rcases hm with rfl | rfl <;> exact p1
      exact lc2_all ho ho1 m1 wk (okLen_of hk) hl fun D H' acc hD g d e ra => by
        obtain ⟨h1, h2, h3⟩ := lc_end m1.wa m1.dom hD g d e ra
        exact p2 _ H' h1 h2 (hr _ _ _ _ h3)
    · exact False.elim p1
theorem tri_lc2 (hc : X.calm = true) (hN : X.N.Nodup) (hs : ∀ x, foldedSetIterable iter X.env x = pure x) (hs1 : ∀ env x, foldedSetIterable iter1 env x = pure x) (ok : BlkOk X.N X.env.scope scope own) (hv : ∀ i ∈ own1, i ∈ own.map (·.2)) (ho : ∀ i ∈ tgN t, i ∈ own.map (·.2)) (ho1 : ∀ i ∈ tgN t1, i ∈ own1) (hi : TriI X F c Wx exc tg iter it)
    (hg : ∀ s H C cl fp, PG (X.blk s H scope (compEnvC scope cl C X.env) fp) tg (gOk X.K c t)) (ht : ∀ s H C cl fp, TriT (X.blk s H scope (compEnvC scope cl C X.env) fp) F c Wx0 exc ifs cs)
    (hi1 : ∀ s H C cl fp, TriI (X.blk s H scope (compEnvC scope cl C X.env) fp) F c Wx0 exc tg1 iter1 it1)
    (hg1 : ∀ s H C cl fp, PG (X.blk s H scope (compEnvC scope cl C X.env) fp) tg1 (gOk X.K c t1)) (ht1 : ∀ s H C cl fp, TriT (X.blk s H scope (compEnvC scope cl C X.env) fp) F c Wx0 exc ifs1 cs1)
    (he : ∀ s H C cl fp, Tri (X.blk s H scope (compEnvC scope cl C X.env) fp) F c Wx0 exc elt x) : Tri X F c Wx exc (.ListComp elt [⟨tg, iter, ifs, 0⟩, ⟨tg1, iter1, ifs1, 0⟩] scope pos) (.lc2 (own.map (·.2)) own1 t it cs t1 it1 cs1 x) := by
  have base := pe_lc2 (elt := elt) (te := okR X.K c Wx0 exc (RepF X.K c) (ev F .frz x)) (tt := okR X.K c Wx0 exc RepX (evt F cs)) (tt1 := okR X.K c Wx0 exc RepX (evt F cs1)) (wi1 := okR X.K c Wx0 exc (WkF X.K c) (evi F .frz it1)) (pos := pos) hc hN hi.bo ok hv hg (fun s H C cl fp => (ht s H C cl fp).te) (fun s H C cl fp => (hi1 s H C cl fp).fz) hg1 (fun s H C cl fp => (ht1 s H C cl fp).te) (fun s H C cl fp => (he s H C cl fp).fz) hs hs1
  refine ⟨base.imp fun σ H Q p => lc2_read (rep := fun c => RepF X.K c) _ _ ho ho1 (fun _ _ _ _ r => r) (.inl rfl) p, base.imp fun σ H Q p => lc2_read (rep := fun c => RepB X.K c) _ _ ho ho1 (fun _ _ _ _ r => .inl r) (.inr rfl) p, ?_⟩
  refine (pt_truth base fun _ => rfl).imp fun σ H Q ⟨env, dr, W, m, p⟩ => lc2_read (rep := fun c => RepF X.K c) _ _ ho ho1 (fun _ _ _ _ r => r) (.inl rfl) ⟨env, dr, W, m, ?_⟩
  have p : Po c Wx exc RepX W σ ((ev F .frz (.lc2 (own.map (·.2)) own1 t it cs t1 it1 cs1 x) env dr).bind (fin .tst)) H Q := by
    have e : (ev F .frz (.lc2 (own.map (·.2)) own1 t it cs t1 it1 cs1 x) env dr).bind (fin .tst) = ev F .tst (.lc2 (own.map (·.2)) own1 t it cs t1 it1 cs1 x) env dr := by
      show ((evi F .bor it env dr).bind _).bind _ = (evi F .bor it env dr).bind _
      rw [R.bind_assoc]
      congr 1; funext ds dr1
      cases lcGo (tn2 t (own.map (·.2)) env (fun env dr => evt F cs env dr) (fun env dr => evi F .frz it1 env dr) fun env => tn1 t1 own1 env (fun env dr => evt F cs1 env dr) (fun env dr => ev F .frz x env dr)) ds dr1 with
      | none => rfl
      | some z =>
        dsimp only
        split <;> rfl
    rw [e]; exact p
  refine (Po.bind p).mono fun v H1 ⟨d1, dr1, g1, e1, r1, p1⟩ => ?_
  unfold fin at p1
  cases hk : truD d1 with
  | none => simp only [hk] at p1; exact False.elim p1
  | some k =>
    simp only [hk] at p1
    exact ⟨k, tru_of m.wa (.inl r1) hk, p1 k H1 (m.up g1 e1).gr e1 rfl⟩
end
end Ly

set_option Elab.async false
set_option linter.all false
set_option maxRecDepth 100000
set_option maxHeartbeats 2000000
/-! Ly: isinstance, methods, calls of defs. -/
namespace Ly
open PySem PySem.Spec PyProof.Rows L2

def Oc.r : Oc → R D
  | .ok d dr => .ok d dr
  | .err e dr => .err e dr
  | .stk => .stk
section
variable {X : Cx} {F : Nat → List D → Dr → Oc} {c : Cc} {Wx : WX} {exc : Exc} {e a b : Expr} {es : List Expr} {x x1 : Ex} {xs : Exs} {pos : Pos}
theorem tri_isi {t : Ty} {p p2 : Pos} {y : Str} (hg : Gl X "isinstance") (hm : X.mg "isinstance" = none) (hgt : Gl X y) (hmt : X.mg y = none) (hvt : bootBuiltins y = some (.type (tyN t))) (hnt : y ≠ "__name__") (hdt : (y == ("__debug__" : Str)) = false) (hp : Plain [a]) (h : Tri X F c Wx exc a x) :
    Tri X F c Wx exc (.Call (.Name "isinstance" p) [a, .Name y p2] [] pos) (.bf (.isi t) (.cons x .nil)) := by
  have hty : PE X (.Name y p2) (tC (.ty (tyN t))) := pe_bltn hgt hmt hvt rfl hnt hdt
  have hh : ∀ env, starEach [a, .Name y p2] env = (false, eval a env) :: starEach [.Name y p2] env := fun env => by
    have := hp.head env
    cases a with
    | Starred x p => simp [starEach] at this
    | _ => rfl
  have base := pe_callB (pos := pos) (p := p) (bf_isi (X := X) (c := c)) hg hm rfl (pa_cons h.bo (pa_cons hty pa_nil rfl) (hh _)) (by decide) (by decide) (hh _) rfl
  refine .of_raw (raw := fun env dr => (ev F .bor x env dr).bind fun d dr => lft (bfD (.isi t) [d]) dr) (base.imp fun σ H Q ⟨env, dr, W, m, p⟩ => ⟨env, dr, W, m, p.bind.mono fun v H1 ⟨d, dr1, g1, e1, r1, p1⟩ => ?_⟩) (fun m env dr => ?_) (fun _ => rfl)
  · obtain ⟨d', hd, q⟩ := raw_end (m.up g1 e1) e1 p1
    have : ∃ k : Bool, d' = .bool k := by
      unfold bfD at hd
      dsimp only at hd
      split at hd <;> first | (cases hd; done) | (cases hd; exact ⟨_, rfl⟩)
    obtain ⟨k, rfl⟩ := this
    exact ⟨W, v, t, d, k, m.wa, rfl, r1, hd, q _ _ (.old (.bl k))⟩
  · show ((evs F .bor (.cons x .nil) env dr).bind fun ds dr => lift m (bfD (.isi t) ds) dr) = _
    rw [evs_one, R.bind_assoc]
    exact raw_eq m _ _
theorem me_raw {f : Me} {md : Md} {env : List Sl} {dr : Dr} : ev F md (.me f x xs) env dr = ((ev F .bor x env dr).bind fun (d : D) dr => (match d with
    | .list es => (evs F .bor xs env dr).bind fun ds dr => lft (meD f (.list es) ds) dr
    | .dict [(.bool true, .tuple es)] => (evs F .bor xs env dr).bind fun ds dr => lft (meD f (xtD es) ds) dr
    | _ => .stk : R D)).bind (fin md) := by
  show (ev F .bor x env dr).bind _ = _
  rw [R.bind_assoc]
  congr 1; funext d dr1
  cases d with
  | list es => exact raw_eq md _ _
  | dict ps =>
    by_cases hx : ∃ es, (PyData.dict ps) = xtD es
    · obtain ⟨es, he⟩ := hx
      cases he
      exact raw_eq md _ _
    · have no : ∀ es, ps = [(.bool true, .tuple es)] → False := fun es h => hx ⟨es, by rw [h]⟩
      split
      · rename_i he; cases he
      · rename_i es he; cases he; exact (no _ rfl).elim
      · first
          | rfl
          | (split
             · rename_i he; cases he
             · rename_i es he; cases he; exact (no _ rfl).elim
             · rfl)
  | _ => rfl
theorem Plain.all {es : List Expr} (h : Plain es) (env : Env) (pos : Pos) : (backTo pos (starEach es env)).all (fun x => !x.1) = true := by
  rw [h env]
  unfold backTo
  simp
/-- a method of a tuple whose object is known -/
def tXT (r : V → List V → Hp → VK → Prop) (to : TE) (t : TA) : TE := fun σ H Q => to σ H fun x H1 => (∃ p o xs, x = .ref p ∧ H1 p = some (.frz o (.tup xs)) ∧ o.cls = .type "tuple" ∧ o.dict = none) ∧ t σ H1 fun xs H2 => r x xs H2 Q
theorem pe_xtM {X : Cx} {o e : Expr} {to : TE} {t : TA} {name : Str} {apos cpos : Pos} {id : String} {r : V → List V → Hp → VK → Prop} (pa : PlainAttrs "tuple") (slot : Slot "tuple" name id) (hty : typeOf (.builtin id) = pure (.type "method_descriptor")) (hm : MtR X id r) (ho : PE X o to) (ha : PA X [e] t)
    (hbase : attributeBase o name X.env (eval o X.env) = eval o X.env) (hp : Plain [e]) (hline : (apos.endLine == cpos.line) = true) : PE X (.Call (.Attribute o name apos) [e] [] cpos) (tXT r to t) := by
  have hfew : ((backTo cpos (starEach [e] X.env)).all (fun x => !x.1) && (backToKw cpos (keywordEach [] X.env)).all (fun x => x.1.isSome) && decide ([e].length + ([] : List Keyword).length + (if ([] : List Keyword).isEmpty then 0 else 1) < 30)) = true := by
    rw [hp.all]; rfl
  have hs := hp.head X.env
  have hpl := hp.tail.any X.env cpos
  refine ⟨fun pins s σ H Q I h => ?_⟩
  refine wpAny_Call_method_late hbase hfew hline rfl (thn (ho.run pins s σ H _ I h) fun v s1 ⟨x, H1, J, r1, ⟨p, ob, xs, ex, hx, hc, hd⟩, q1⟩ => ?_)
  subst ex
  cases r1
  have hob : s1.heap.get? p = some ob := (J.hok p _ hx).1
  refine ⟨"tuple", id, pa, slot, hty, ⟨ob, hob, hc⟩, fun a ea => ?_, ?_⟩
  · cases ea; exact ⟨ob, hob, hd⟩
  have hA := ha.run cpos pins s1 σ H1 _ J q1
  rw [hs] at hA ⊢
  refine Calls.callWith_builtin (by show (false || (backTo cpos (starEach [] X.env)).any (·.1)) = false; rw [hpl]; rfl) (Calls.evalArgs_plain ?_)
  exact thn hA fun us s2 ⟨vs, H2, J2, r2, q2⟩ => hm pins s2 σ H2 (.ref p) vs _ us Q J2 (show L2.RelV (.ref p) (Value.ref p) from rfl) r2 q2
/-- l.index(x) -/
theorem tri_ixL {apos : Pos} (hu : X.A.units + 128 < cLine) (hbase : attributeBase a "index" X.env (eval a X.env) = eval a X.env) (hp : Plain [b])
    (hline : (apos.endLine == pos.line) = true) (h : Tri X F c Wx exc a x) (h1 : Tri X F c Wx exc b x1) : Tri X F c Wx exc (.Call (.Attribute a "index" apos) [b] [] pos) (.ixo x x1) := by
  have hfew : ((backTo pos (starEach [b] X.env)).all (fun x => !x.1) && (backToKw pos (keywordEach [] X.env)).all (fun x => x.1.isSome)
      && decide ([b].length + ([] : List Keyword).length + (if ([] : List Keyword).isEmpty then 0 else 1) < 30)) = true := by
    rw [hp.all]; rfl
  have base := pe_bm (cpos := pos) (apos := apos) PySem.F.plainAttrs_list PySem.F.slot_list_index PySem.F.type_list_index (me_indexL (X := X) (c := c) hu) h.bo (pa_cons h1.bo pa_nil (hp.head _)) hbase hfew hline (hp.head _) rfl
  refine .of_raw (raw := fun env dr => (ev F .bor x env dr).bind fun (d : D) dr => (match d with
    | .list es => (ev F .bor x1 env dr).bind fun y dr => lft (meD .index (.list es) [y]) dr
    | _ => .stk : R D)) (base.imp fun σ H Q ⟨env, dr, W, m, p⟩ => ?_) (fun m env dr => ?_) (fun _ => rfl)
  · refine ⟨env, dr, W, m, p.bind.mono fun v H1 ⟨d1, dr1, g1, e1, r1, p1⟩ => ?_⟩
    have m1 := m.up g1 e1
    cases d1 with
    | list es =>
      refine ⟨?_, ?_⟩
      · obtain ⟨a, xs, rfl, _, ha, _⟩ := r1.lst m1.wa
        exact .inl ⟨rfl, xs, .inl (.inl ha)⟩
      · refine ⟨env, dr1, W, m1, (Po.bind p1).mono fun u H2 ⟨d2, dr2, g2, e2, r2, p2⟩ => ?_⟩
        obtain ⟨d, hd, q⟩ := raw_end (m1.up g2 e2) e2 p2
        exact ⟨W, es, _, d, m1.wa, r1.grow m1.wa g2, .cons r2 .nil, hd, q⟩
    | _ => exact False.elim p1
  · show (ev F .bor x env dr).bind _ = _
    rw [R.bind_assoc]
    congr 1; funext d dr1
    cases d with
    | list es => exact raw_eq m _ _
    | _ => rfl
theorem tri_cntL {apos : Pos} (hu : X.A.units + 128 < cLine) (hbase : attributeBase a "count" X.env (eval a X.env) = eval a X.env) (hp : Plain [b])
    (hline : (apos.endLine == pos.line) = true) (h : Tri X F c Wx exc a x) (h1 : Tri X F c Wx exc b x1) : Tri X F c Wx exc (.Call (.Attribute a "count" apos) [b] [] pos) (.me .count x (.cons x1 .nil)) := by
  have hfew : ((backTo pos (starEach [b] X.env)).all (fun x => !x.1) && (backToKw pos (keywordEach [] X.env)).all (fun x => x.1.isSome)
      && decide ([b].length + ([] : List Keyword).length + (if ([] : List Keyword).isEmpty then 0 else 1) < 30)) = true := by
    rw [hp.all]; rfl
  have base := pe_bm (cpos := pos) (apos := apos) PySem.F.plainAttrs_list PySem.F.slot_list_count PySem.F.type_list_count (me_countL (X := X) (c := c) hu) h.bo (pa_cons h1.bo pa_nil (hp.head _)) hbase hfew hline (hp.head _) rfl
  have baseT := pe_xtM (cpos := pos) (apos := apos) PySem.F.plainAttrs_tuple PySem.F.slot_tuple_count PySem.F.type_tuple_count (me_countT (X := X) (c := c) hu) h.bo (pa_cons h1.bo pa_nil (hp.head _)) hbase hp hline
  refine .of_raw (raw := fun env dr => (ev F .bor x env dr).bind fun (d : D) dr => (match d with
    | .list es => (evs F .bor (.cons x1 .nil) env dr).bind fun ds dr => lft (meD .count (.list es) ds) dr
    | .dict [(.bool true, .tuple es)] => (evs F .bor (.cons x1 .nil) env dr).bind fun ds dr => lft (meD .count (xtD es) ds) dr
    | _ => .stk : R D)) ((base.or baseT).imp fun σ H Q ⟨env, dr, W, m, p⟩ => ?_) (fun m env dr => me_raw) (fun _ => rfl)
  cases e : ev F .bor x env dr with
  | stk => dsimp only at p; rw [e] at p; exact False.elim p
  | err n dr' => dsimp only at p; exact .inl ⟨env, dr, W, m, by rw [e] at p ⊢; exact p⟩
  | ok d1 dr1 =>
    dsimp only at p
    rw [e] at p
    have p : Po c Wx exc (RepF X.K c) W σ (match (generalizing := false) d1 with
      | .list es => (evs F .bor (.cons x1 .nil) env dr1).bind fun ds dr => lft (meD .count (.list es) ds) dr
      | .dict [(.bool true, .tuple es)] => (evs F .bor (.cons x1 .nil) env dr1).bind fun ds dr => lft (meD .count (xtD es) ds) dr
      | _ => .stk) H Q := p
    cases d1 with
    | list es =>
      refine .inl ⟨env, dr, W, m, ?_⟩
      rw [e]
      intro v H1 g1 e1 r1
      have m1 := m.up g1 e1
      refine ⟨?_, ?_⟩
      · obtain ⟨a, xs, rfl, _, ha, _⟩ := r1.lst m1.wa
        exact .inl ⟨rfl, xs, .inl (.inl ha)⟩
      · have p1 : Po c Wx exc (RepF X.K c) W σ ((ev F .bor x1 env dr1).bind fun y dr => lft (meD .count (.list es) [y]) dr) H1 Q := by
          have p1 := Po.gr g1 p
          dsimp only at p1
          rw [evs_one, R.bind_assoc] at p1
          exact p1
        refine ⟨env, dr1, W, m1, (Po.bind p1).mono fun u H2 ⟨d2, dr2, g2, e2, r2, p2⟩ => ?_⟩
        obtain ⟨d, hd, q⟩ := raw_end (m1.up g2 e2) e2 p2
        exact ⟨W, es, _, d, m1.wa, r1.grow m1.wa g2, .cons r2 .nil, hd, q⟩
    | dict ps =>
      refine .inr ⟨env, dr, W, m, ?_⟩
      rw [e]
      intro v H1 g1 e1 r1
      have m1 := m.up g1 e1
      by_cases hx : ∃ es, (PyData.dict ps) = xtD es
      · obtain ⟨es, he⟩ := hx
        rw [he] at p r1
        obtain ⟨a, o, xs, rfl, _, ha, c1, c2, _⟩ := r1.xt
        refine ⟨⟨a, o, xs, rfl, ha, c1, c2⟩, ?_⟩
        have p1 : Po c Wx exc (RepF X.K c) W σ ((ev F .bor x1 env dr1).bind fun y dr => lft (meD .count (xtD es) [y]) dr) H1 Q := by
          have p1 := Po.gr g1 p
          dsimp only at p1
          rw [evs_one, R.bind_assoc] at p1
          exact p1
        refine ⟨env, dr1, W, m1, (Po.bind p1).mono fun u H2 ⟨d2, dr2, g2, e2, r2, p2⟩ => ?_⟩
        obtain ⟨d, hd, q⟩ := raw_end (m1.up g2 e2) e2 p2
        exact ⟨W, es, _, d, m1.wa, r1.grow m1.wa g2, .cons r2 .nil, hd, q⟩
      · split at p
        · rename_i he; cases he
        · rename_i es he; exact (hx ⟨es, he⟩).elim
        · exact False.elim p
    | _ => exact False.elim p
end
/-! ### calls -/
def spF (K : PySem.W.Frag) (exc : Exc) (F : Nat → List D → Dr → Oc) (f : Nat) : Sp := fun vs H Q E => ∃ a0 W dr ds, W a0 ∧ (∀ b, W b → H b ≠ none) ∧ DrOk H a0 W dr ∧ RepL K a0 (hid W H) vs ds ∧
  Po ⟨a0, W, H⟩ (fun cls dd _ H => E cls dd H) exc (RepF K ⟨a0, W, H⟩) W [] (F f ds dr).r H Q
/-- a def that is called by the name y -/
structure CallOk (X : Cx) (exc : Exc) (F : Nat → List D → Dr → Oc) (f : Nat) (y : Str) : Prop where
  ex : ∃ fa fd ps k, FnOk X.prog X.w X.K X.mg X.base (L2.CX X.prog X.w) k fa fd ps (spF X.K exc F f) ∧ Room k X.A ∧ X.mg y = some (.ref fa) ∧ PySem.W.keepIn X.K (.ref fa) = true ∧ Binds X.K fd ps []
section
variable {X : Cx} {F : Nat → List D → Dr → Oc} {c : Cc} {Wx : WX} {exc : Exc} {e a b : Expr} {es : List Expr} {x x1 : Ex} {xs : Exs} {pos : Pos}
theorem tri_call {f : Nat} {y : Str} {p : Pos} (tk : Takes X Wx) (hk : CallOk X exc F f y) (hg : Gl X y) (hdb : (y == ("__debug__" : Str)) = false) (hp : Plain (e :: es)) (h : Tris X F c Wx exc (e :: es) xs) : Tri X F c Wx exc (.Call (.Name y p) (e :: es) [] pos) (.call f xs) := by
  obtain ⟨fa, fd, ps, k, Fn, hr, hm, hkp, hb⟩ := hk.ex
  have base := pe_callS (p := p) (pos := pos) (E := WE Wx) Fn hr hg hm hkp hb (fun σ => passAt tk σ) h.fz hdb (hp.head _) (hp.tail.any _ _)
  refine .of_raw (raw := fun env dr => (evs F .frz xs env dr).bind fun ds dr => (F f ds dr).r) (base.imp fun σ H Q ⟨env, dr, W, m, p⟩ => ⟨env, dr, W, m, p.bind.mono fun vs H1 ⟨ds, dr1, g1, e1, r1, p1⟩ => ?_⟩) (fun m env dr => ?_) (fun _ => rfl)
  · refine ⟨c.a0, W, dr1, ds, m.wa, (m.up g1 e1).dom, e1, r1, ?_⟩
    cases hf : (F f ds dr1).r with
    | ok d dr2 =>
      rw [hf] at p1
      exact fun v H' g d2 r => p1 v H' ⟨g.hp, g.a0⟩ d2 r
    | err x dr2 =>
      rw [hf] at p1
      exact fun H' g d2 cls dd hx => p1 H' ⟨g.hp, g.a0⟩ d2 cls dd hx
    | stk => rw [hf] at p1; exact p1
  · show ((evs F .frz xs env dr).bind _) = _
    rw [R.bind_assoc]
    congr 1; funext ds dr1
    cases F f ds dr1 <;> rfl
end
end Ly

set_option Elab.async false
set_option linter.all false
set_option maxRecDepth 100000
set_option maxHeartbeats 2000000
/-! Ly: statements. -/
namespace Ly
open PySem PySem.Spec PyProof.Rows L2

/-! ### readings of statements -/
def PoS (K : PySem.W.Frag) (c : Cc) (Wx : WX) (exc : Exc) (E : Ends) (W : Addr → Prop) (H : Hp) : Out Fl → Prop
  | .ok .nx s' => ∀ σ' H' W', Mt K c s' σ' H' W' → GrS W H W' H' → E.nx σ' H'
  | .ok .bk s' => ∀ σ' H' W', Mt K c s' σ' H' W' → GrS W H W' H' → E.bk σ' H'
  | .ok .ct s' => ∀ σ' H' W', Mt K c s' σ' H' W' → GrS W H W' H' → E.ct σ' H'
  | .ok (.rt d) s' => ∀ v σ' H' W', Mt K c s' σ' H' W' → GrS W H W' H' → Rep K c.a0 (hid W' H') v d → E.rt v H'
  | .err e s' => ∀ σ' H' W', Mt K c s' σ' H' W' → GrS W H W' H' → ∀ cls dd, exc e cls dd → Wx cls dd σ' H'
  | .stk => False
def okS (K : PySem.W.Frag) (c : Cc) (Wx : WX) (exc : Exc) (g : S → Out Fl) : TS := fun E σ H => ∃ s W, Mt K c s σ H W ∧ PoS K c Wx exc E W H (g s)
section
variable {K : PySem.W.Frag} {c : Cc} {Wx : WX} {exc : Exc} {E E' : Ends} {W W' : Addr → Prop} {σ : L2.St} {H H' : Hp}
theorem PoS.gr {o : Out Fl} (g : GrS W H W' H') (h : PoS K c Wx exc E W H o) : PoS K c Wx exc E W' H' o := by
  cases o with
  | ok f s =>
    cases f with
    | rt d => exact fun v σ' H2 W2 m g2 r => h v σ' H2 W2 m (g.trans g2) r
    | _ => exact fun σ' H2 W2 m g2 => h σ' H2 W2 m (g.trans g2)
  | err e s => exact fun σ' H2 W2 m g2 => h σ' H2 W2 m (g.trans g2)
  | stk => exact h
theorem PoS.mono {o : Out Fl} (h : PoS K c Wx exc E W H o) (n : ∀ σ H, E.nx σ H → E'.nx σ H) (b : ∀ σ H, E.bk σ H → E'.bk σ H) (t : ∀ σ H, E.ct σ H → E'.ct σ H) (r : ∀ v H, E.rt v H → E'.rt v H) : PoS K c Wx exc E' W H o := by
  cases o with
  | ok f s =>
    cases f with
    | rt d => exact fun v σ' H2 W2 m g2 r' => r _ _ (h v σ' H2 W2 m g2 r')
    | nx => exact fun σ' H2 W2 m g2 => n _ _ (h σ' H2 W2 m g2)
    | bk => exact fun σ' H2 W2 m g2 => b _ _ (h σ' H2 W2 m g2)
    | ct => exact fun σ' H2 W2 m g2 => t _ _ (h σ' H2 W2 m g2)
  | err e s => exact h
  | stk => exact h
/-- an expression ahead of a statement -/
theorem PoS.ofE {α β : Type} {rep : RepT α β} {r : R α} {env : List Sl} {q : Dr} {k : α → S → Out Fl} (m : Mt K c ⟨env, q⟩ σ H W) (h : PoS K c Wx exc E W H (r.toO env k)) :
    Po c Wx exc rep W σ r H (fun v H1 => ∃ a dr1, GrE c H H1 ∧ DrOk H1 c.a0 W dr1 ∧ rep W H1 v a ∧ PoS K c Wx exc E W H1 (k a ⟨env, dr1⟩)) := by
  cases r with
  | ok a dr1 =>
    have h : PoS K c Wx exc E W H (k a ⟨env, dr1⟩) := h
    exact fun v H1 g1 d1 r1 => ⟨a, dr1, g1, d1, r1, h.gr (g1.st m.wa)⟩
  | err e dr1 =>
    have h : PoS K c Wx exc E W H (.err e ⟨env, dr1⟩) := h
    exact fun H1 g1 d1 cls dd x => h σ H1 W (m.up g1 d1) (g1.st m.wa) cls dd x
  | stk => exact h
theorem Mt.le (m : Mt K c s σ H W) : GrS W H W H := GrS.refl
end
theorem _root_.L2.PS.imp {X : Cx} {e : Stmt} {t t' : TS} (h : PS X e t) (q : ∀ E σ H, t' E σ H → t E σ H) : PS X e t' := ⟨fun pins s σ H D I h' => h.run pins s σ H D I (q D σ H h')⟩
theorem _root_.L2.PSs.imp {X : Cx} {e : List Stmt} {t t' : TS} (h : PSs X e t) (q : ∀ E σ H, t' E σ H → t E σ H) : PSs X e t' := ⟨fun pins s σ H D I h' => h.run pins s σ H D I (q D σ H h')⟩

/-! ### held slots -/
section
variable {K : PySem.W.Frag} {c : Cc} {σ : L2.St} {H H' : Hp} {W : Addr → Prop} {env : List Sl} {dr dr' : Dr} {p : Addr}
theorem set_get {α : Type} {l : List α} {i j : Nat} {a b : α} (h : (l.set i a)[j]? = some b) : (i = j ∧ b = a) ∨ (i ≠ j ∧ l[j]? = some b) := by
  by_cases e : i = j
  · subst e
    have hlt : i < l.length := by
      have := (List.getElem?_eq_some_iff.mp h).1
      simpa using this
    rw [List.getElem?_set_self hlt] at h
    cases h
    exact .inl ⟨rfl, rfl⟩
  · rw [List.getElem?_set_ne e] at h
    exact .inr ⟨e, h⟩
/-- a new hidden object is held by a slot -/
theorem Mt.hold {i : Nat} {o : HO} {d : D} (m : Mt K c ⟨env, dr⟩ σ H W) (w : W p) (ne : p ≠ c.a0) (e : H p = some o) (hc : Cont K c.a0 (hid W H) o d) (gp : c.G p = none) (wp : ¬ c.W0 p) (nd : NoD env σ p) : Mt K c ⟨env.set i (.ow d), dr⟩ (σ.set i (some (.ref p))) H W := by
  have hl := m.len
  refine ⟨by simpa using m.len, fun j x ej => ?_, fun j k x y v e1 e2 h1 h2 s1 s2 => ?_, m.dr, m.wa, m.w0, m.dom, m.keep⟩
  · rcases set_get ej with ⟨rfl, rfl⟩ | ⟨nj, ej⟩
    · have hlt : i < env.length := by
        have := (List.getElem?_eq_some_iff.mp ej).1
        simpa using this
      have hs : (σ.set i (some (.ref p)))[i]? = some (some (.ref p)) := List.getElem?_set_self (by rw [← hl]; exact hlt)
      refine ⟨⟨p, o, hs, ne, w, e, hc⟩, fun a ea => ?_⟩
      rw [hs] at ea
      cases ea
      exact ⟨gp, wp⟩
    · rw [List.getElem?_set_ne nj]
      exact m.sl j x ej
  · have own_at : ∀ (j : Nat) (x : Sl), env[j]? = some x → x.held = true → σ[j]? ≠ some (some (.ref p)) := fun j x ej hx => by
      cases x with
      | ow d => exact nd j d ej
      | _ => cases hx
    rcases set_get e1 with ⟨rfl, rfl⟩ | ⟨nj, e1'⟩
    · rcases set_get e2 with ⟨rfl, rfl⟩ | ⟨nk, e2'⟩
      · rfl
      · rw [List.getElem?_set_ne nk] at s2
        have hlt : i < env.length := by
          have := (List.getElem?_eq_some_iff.mp e1).1
          simpa using this
        rw [List.getElem?_set_self (by rw [← hl]; exact hlt)] at s1
        cases s1
        exact absurd s2 (own_at k y e2' h2)
    · rcases set_get e2 with ⟨rfl, rfl⟩ | ⟨nk, e2'⟩
      · rw [List.getElem?_set_ne nj] at s1
        have hlt : i < env.length := by
          have := (List.getElem?_eq_some_iff.mp e2).1
          simpa using this
        rw [List.getElem?_set_self (by rw [← hl]; exact hlt)] at s2
        cases s2
        exact absurd s1 (own_at j x e1' h1)
      · rw [List.getElem?_set_ne nj] at s1
        rw [List.getElem?_set_ne nk] at s2
        exact m.inj j k x y v e1' e2' h1 h2 s1 s2
/-- new hidden object, growth -/
theorem Mt.grow {o : HO} (m : Mt K c ⟨env, dr⟩ σ H W) (hp : H p = none) (g : GrE c H H') (d : DrOk H' c.a0 (WD W p) dr') (e : H' p = some o) : Mt K c ⟨env, dr'⟩ σ H' (WD W p) ∧ NoD env σ p ∧ c.G p = none ∧ p ≠ c.a0 ∧ ¬ c.W0 p ∧ GrS W H (WD W p) H' := by
  obtain ⟨ms, nd, gD, ne⟩ := m.hide (o := .lst []) hp
  refine ⟨ms.upD m.wa nd gD ⟨fun b x n n' h => ?_, g.a0, by rw [e]; simp⟩ d, nd, gD, ne, fun w => m.dom p (m.w0 p w) hp, ⟨fun b x n h => ⟨fun z => z.elim n (fun z => by rw [z, hp] at h; cases h), g.hp b x (fun z => n (z ▸ m.wa)) h⟩⟩⟩
  rw [upd_ne n'] at h
  exact g.hp b x n h
/-- a held object changes -/
theorem Mt.mut {i : Nat} {a : Addr} {o : HO} {d d' : D} (m : Mt K c ⟨env, dr⟩ σ H W) (hi : env[i]? = some (.ow d)) (hs : σ[i]? = some (some (.ref a))) (hc : Cont K c.a0 (hid W H) o d') : Mt K c ⟨env.set i (.ow d'), dr⟩ σ (upd H a o) W ∧ GrS W H W (upd H a o) := by
  obtain ⟨⟨a', o', ea, ne, w, ha, hc0⟩, q2⟩ := m.sl i _ hi
  rw [hs] at ea
  cases ea
  have same : Same (hid W H) (hid W (upd H a o)) := fun b x h => by
    obtain ⟨h1, h2⟩ := hid_of h
    exact hid_some h1 (by rw [upd_ne fun e => h1 (by rw [e]; exact w)]; exact h2)
  refine ⟨⟨by simpa using m.len, fun j x ej => ?_, fun j k x y v e1 e2 h1 h2 s1 s2 => ?_, ?_, m.wa, m.w0, fun b wb z => ?_, fun b x n e => ?_⟩, ⟨fun b x n e => ⟨n, by rw [upd_ne fun z => n (by rw [z]; exact w)]; exact e⟩⟩⟩
  · rcases set_get ej with ⟨rfl, rfl⟩ | ⟨nj, ej⟩
    · exact ⟨⟨a, o, hs, ne, w, upd_same, Cont.mono same hc⟩, q2⟩
    · have q := m.sl j x ej
      cases x with
      | un => trivial
      | fz dd =>
        obtain ⟨v, e1, r⟩ := q
        exact ⟨v, e1, Rep.mono same r⟩
      | ow dd =>
        obtain ⟨⟨a2, o2, e1, na, w2, ha2, hc2⟩, q3⟩ := q
        have nD : a2 ≠ a := fun z => by
          subst z
          exact nj (m.inj i j _ _ _ hi ej rfl rfl hs e1)
        exact ⟨⟨a2, o2, e1, na, w2, by rw [upd_ne nD]; exact ha2, Cont.mono same hc2⟩, q3⟩
  · have held : ∀ (j : Nat) (x : Sl), (env.set i (.ow d'))[j]? = some x → x.held = true → ∃ y, env[j]? = some y ∧ y.held = true := fun j x ej hx => by
      rcases set_get ej with ⟨rfl, rfl⟩ | ⟨nj, ej⟩
      · exact ⟨_, hi, rfl⟩
      · exact ⟨x, ej, hx⟩
    obtain ⟨x', e1', h1'⟩ := held j x e1 h1
    obtain ⟨y', e2', h2'⟩ := held k y e2 h2
    exact m.inj j k x' y' v e1' e2' h1' h2' s1 s2
  · obtain ⟨ca, e1, e2⟩ := m.dr
    exact ⟨ca, by rw [upd_ne fun e => ne e.symm]; exact e1, same _ _ e2⟩
  · by_cases e : b = a
    · rw [e, upd_same] at z; cases z
    · rw [upd_ne e] at z
      exact m.dom b wb z
  · have nb : b ≠ a := fun z => by rw [z, (q2 a hs).1] at e; cases e
    rw [upd_ne nb]
    exact m.keep b x n e
/-- a held object is let go: no one changes it any more -/
theorem Mt.frz {i : Nat} {d : D} (m : Mt K c ⟨env, dr⟩ σ H W) (hi : env[i]? = some (.ow d)) : ∃ W', Mt K c ⟨env.set i (.fz d), dr⟩ σ H W' ∧ GrS W H W' H := by
  obtain ⟨⟨a, o, hs, ne, w, ha, hc⟩, q2⟩ := m.sl i _ hi
  have sub : ∀ b, (W b ∧ b ≠ a) → W b := fun b h => h.1
  have same : Same (hid W H) (hid (fun b => W b ∧ b ≠ a) H) := hid_mono sub fun b o _ h => h
  refine ⟨fun b => W b ∧ b ≠ a, ⟨by simpa using m.len, fun j x ej => ?_, fun j k x y v e1 e2 h1 h2 s1 s2 => ?_, ?_, ⟨m.wa, fun z => ne z.symm⟩, fun b wb => ⟨m.w0 b wb, fun z => (q2 a hs).2 (z ▸ wb)⟩, fun b wb => m.dom b wb.1, m.keep⟩, ⟨fun b x n e => ⟨fun z => n z.1, e⟩⟩⟩
  · rcases set_get ej with ⟨rfl, rfl⟩ | ⟨nj, ej⟩
    · exact ⟨.ref a, hs, .mu (hid_some (fun z => z.2 rfl) ha) (Cont.mono same hc)⟩
    · have q := m.sl j x ej
      cases x with
      | un => trivial
      | fz dd =>
        obtain ⟨v, e1, r⟩ := q
        exact ⟨v, e1, Rep.mono same r⟩
      | ow dd =>
        obtain ⟨⟨a2, o2, e1, na, w2, ha2, hc2⟩, q3⟩ := q
        have nD : a2 ≠ a := fun z => by
          subst z
          exact nj (m.inj i j _ _ _ hi ej rfl rfl hs e1)
        exact ⟨⟨a2, o2, e1, na, ⟨w2, nD⟩, ha2, Cont.mono same hc2⟩, q3⟩
  · rcases set_get e1 with ⟨rfl, rfl⟩ | ⟨nj, e1'⟩
    · cases h1
    · rcases set_get e2 with ⟨rfl, rfl⟩ | ⟨nk, e2'⟩
      · cases h2
      · exact m.inj j k x y v e1' e2' h1 h2 s1 s2
  · obtain ⟨ca, e1, e2⟩ := m.dr
    exact ⟨ca, e1, same _ _ e2⟩
end
end Ly

set_option Elab.async false
set_option linter.all false
set_option maxRecDepth 100000
set_option maxHeartbeats 2000000
/-! Ly: statements, construct by construct. -/
namespace Ly
open PySem PySem.Spec PyProof.Rows L2

section
variable (X : Cx) (F : Nat → List D → Dr → Oc) (Wf : Nat) (c : Cc) (Wx : WX) (exc : Exc)
abbrev TrS (st : Stmt) (xs : Sts) : Prop := PS X st (okS X.K c Wx exc (exs F Wf xs))
abbrev TrSs (st : List Stmt) (xs : Sts) : Prop := PSs X st (okS X.K c Wx exc (exs F Wf xs))
end
section
variable {F : Nat → List D → Dr → Oc} {Wf : Nat}
theorem exs_one (x : St) (s : S) : exs F Wf (.cons x .nil) s = ex F Wf x s := by
  show (ex F Wf x s).bind _ = _
  cases ex F Wf x s with
  | ok f s' => cases f <;> rfl
  | err e s' => rfl
  | stk => rfl
def seqO (g : S → Out Fl) : Fl → S → Out Fl := fun f s => match f with
  | .nx => g s
  | f => .ok f s
theorem exs_cons (x : St) (xs : Sts) (s : S) : exs F Wf (.cons x xs) s = (ex F Wf x s).bind (seqO (exs F Wf xs)) := rfl
theorem exs_app : ∀ (xs ys : Sts) (s : S), exs F Wf (xs.app ys) s = (exs F Wf xs s).bind (seqO (exs F Wf ys))
  | .nil, ys, s => rfl
  | .cons x xs, ys, s => by
    show (ex F Wf x s).bind (seqO (exs F Wf (xs.app ys))) = ((ex F Wf x s).bind (seqO (exs F Wf xs))).bind _
    cases ex F Wf x s with
    | ok f s' =>
      cases f with
      | nx => exact exs_app xs ys s'
      | _ => rfl
    | err e s' => rfl
    | stk => rfl
end
section
variable {K : PySem.W.Frag} {c : Cc} {Wx : WX} {exc : Exc} {E : Ends} {W : Addr → Prop} {σ : L2.St} {H : Hp}
/-- one after another -/
theorem PoS.seq {o : Out Fl} {g : S → Out Fl} (h : PoS K c Wx exc E W H (o.bind (seqO g))) : PoS K c Wx exc { E with nx := fun σ' H' => okS K c Wx exc g E σ' H' } W H o := by
  cases o with
  | ok f s =>
    cases f with
    | nx => exact fun σ' H' W' m g => ⟨s, W', m, h.gr g⟩
    | rt d => exact h
    | bk => exact h
    | ct => exact h
  | err e s => exact h
  | stk => exact h
end
section
variable {X : Cx} {F : Nat → List D → Dr → Oc} {Wf : Nat} {c : Cc} {Wx : WX} {exc : Exc} {e a b tg iter : Expr} {st : Stmt} {sts rest : List Stmt} {x x1 x2 : Ex} {xs ys : Sts} {as : Exs} {t : Tg} {it : Itx} {pos : Pos}
theorem trs_one {y : St} (h : PS X st (okS X.K c Wx exc (ex F Wf y))) : TrS X F Wf c Wx exc st (.cons y .nil) := h.imp fun E σ H ⟨s, W, m, p⟩ => ⟨s, W, m, by rw [exs_one] at p; exact p⟩
/-- ahead of it a list is let go -/
theorem trs_frz {i : Nat} (h : TrS X F Wf c Wx exc st xs) : TrS X F Wf c Wx exc st (.cons (.frz i) xs) := h.imp fun E σ H ⟨s, W, m, p⟩ => by
  obtain ⟨env, dr⟩ := s
  rw [exs_cons] at p
  have p : PoS X.K c Wx exc E W H ((match env[i]? with
    | some (.ow d) => Out.ok .nx (setE ⟨env, dr⟩ i (.fz d))
    | some _ => .ok .nx ⟨env, dr⟩
    | none => .stk : Out Fl).bind (seqO (exs F Wf xs))) := p
  cases e : env[i]? with
  | none => rw [e] at p; exact False.elim p
  | some y =>
    rw [e] at p
    cases y with
    | ow d =>
      obtain ⟨W', m', g⟩ := m.frz e
      exact ⟨_, W', m', PoS.gr g p⟩
    | un => exact ⟨_, W, m, p⟩
    | fz d => exact ⟨_, W, m, p⟩
theorem trss_nil : TrSs X F Wf c Wx exc [] .nil := pss_nil.imp fun E σ H ⟨s, W, m, p⟩ => p σ H W m GrS.refl
theorem trss_cons (h1 : TrS X F Wf c Wx exc st xs) (h2 : TrSs X F Wf c Wx exc sts ys) : TrSs X F Wf c Wx exc (st :: sts) (xs.app ys) := (pss_cons h1 h2).imp fun E σ H ⟨s, W, m, p⟩ => by
  rw [exs_app] at p
  exact ⟨s, W, m, p.seq⟩
/-! ### plain ones -/
theorem s_pass : PS X (.Pass pos) (okS X.K c Wx exc (ex F Wf .pas)) := ps_pass.imp fun E σ H ⟨s, W, m, p⟩ => p σ H W m GrS.refl
theorem s_brk : PS X (.Break pos) (okS X.K c Wx exc (ex F Wf .brk)) := ps_break.imp fun E σ H ⟨s, W, m, p⟩ => p σ H W m GrS.refl
theorem s_cnt : PS X (.Continue pos) (okS X.K c Wx exc (ex F Wf .cnt)) := ps_continue.imp fun E σ H ⟨s, W, m, p⟩ => p σ H W m GrS.refl
theorem s_retN : PS X (.Return none pos) (okS X.K c Wx exc (ex F Wf .retN)) := ps_retN.imp fun E σ H ⟨s, W, m, p⟩ => p .non σ H W m GrS.refl .non
theorem s_ret (h : Tri X F c Wx exc e x) : PS X (.Return (some e) pos) (okS X.K c Wx exc (ex F Wf (.ret x))) :=
  (ps_ret h.fz).imp fun E σ H ⟨⟨env, dr⟩, W, m, p⟩ => ⟨env, dr, W, m, (PoS.ofE (k := fun d s => Out.ok (Fl.rt d) s) m p).mono fun v H1 ⟨d, dr1, g1, e1, r1, p1⟩ => p1 v σ H1 W (m.up g1 e1) GrS.refl r1⟩
theorem s_exp (hs : swapsWith e none pos.line X.env = pure false) (h : Tri X F c Wx exc e x) : PS X (.Expr e pos) (okS X.K c Wx exc (ex F Wf (.exp x))) :=
  (ps_expr h.bo hs).imp fun E σ H ⟨⟨env, dr⟩, W, m, p⟩ => ⟨env, dr, W, m, (PoS.ofE (k := fun _ s => Out.ok Fl.nx s) m p).mono fun v H1 ⟨d, dr1, g1, e1, r1, p1⟩ => p1 σ H1 W (m.up g1 e1) GrS.refl⟩
theorem s_if (h : Tri X F c Wx exc e x) (h1 : TrSs X F Wf c Wx exc sts xs) (h2 : TrSs X F Wf c Wx exc rest ys) : PS X (.If e sts rest pos) (okS X.K c Wx exc (ex F Wf (.ifs x xs ys))) :=
  (ps_if h.te h1 h2).imp fun E σ H ⟨⟨env, dr⟩, W, m, p⟩ => ⟨env, dr, W, m, (PoS.ofE (k := fun (d : D) s => (match d with
    | .bool true => exs F Wf xs s
    | _ => exs F Wf ys s : Out Fl)) m p).mono fun k H1 ⟨d, dr1, g1, e1, r1, p1⟩ => by
      cases (show d = .bool k from r1)
      cases k with
      | true => exact iteT ⟨⟨env, dr1⟩, W, m.up g1 e1, p1⟩
      | false => exact iteF ⟨⟨env, dr1⟩, W, m.up g1 e1, p1⟩⟩
/-! ### stores -/
def kAsg (t : Tg) : D → S → Out Fl := fun d s => match tgo t d s.env with
  | some env => .ok .nx { s with env := env }
  | none => .stk
theorem asg_end {E : Ends} {W : Addr → Prop} {σ : L2.St} {H : Hp} {v : V} {d : D} {env : List Sl} {dr : Dr} (m : Mt X.K c ⟨env, dr⟩ σ H W) (r : Rep X.K c.a0 (hid W H) v d) (p : PoS X.K c Wx exc E W H (kAsg t d ⟨env, dr⟩)) : gOk X.K c t v σ H E.nx := by
  unfold kAsg at p
  cases h : tgo t d env with
  | none => simp only [h] at p; exact False.elim p
  | some env' =>
    simp only [h] at p
    exact ⟨env, dr, W, d, env', m, r, h, fun σ' m' _ _ => p σ' H W m' GrS.refl⟩
theorem s_asg (hs : swapsWithSole [tg] e pos.line X.env = pure false) (hw : swappedStores [tg] e X.env = pure none) (h1 : (assignEach [tg] X.env).map (·.2) = [assign tg X.env]) (h : Tri X F c Wx exc e x) (hg : PG X tg (gOk X.K c t)) :
    PS X (.Assign [tg] e pos) (okS X.K c Wx exc (ex F Wf (.asg t x))) :=
  (ps_asg h.fz hg hs hw h1).imp fun E σ H ⟨⟨env, dr⟩, W, m, p⟩ => ⟨env, dr, W, m, (PoS.ofE (k := kAsg t) m p).mono fun v H1 ⟨d, dr1, g1, e1, r1, p1⟩ => asg_end (m.up g1 e1) r1 p1⟩
theorem set_end {i : Nat} {E : Ends} {W : Addr → Prop} {σ : L2.St} {H : Hp} {v : V} {d : D} {env : List Sl} {dr : Dr} (m : Mt X.K c ⟨env, dr⟩ σ H W) (r : Rep X.K c.a0 (hid W H) v d) (p : PoS X.K c Wx exc E W H (kAsg (.nm i) d ⟨env, dr⟩)) : gName i v σ H E.nx :=
  p _ H W (m.set r) GrS.refl
theorem s_set {i : Nat} {y : Str} {pos' : Pos} (hN : X.N.Nodup) (hi : X.N[i]? = some y) (hx : Loc X.env.scope y) (hf : X.fn y = true ∨ X.env.scope.names.lookup y = some .local) (hs : swapsWith e (some (.Name y pos')) pos.line X.env = pure false) (h : Tri X F c Wx exc e x) :
    PS X (.Assign [.Name y pos'] e pos) (okS X.K c Wx exc (ex F Wf (.asg (.nm i) x))) :=
  (ps_set hN hi hx h.fz hs hf).imp fun E σ H ⟨⟨env, dr⟩, W, m, p⟩ => ⟨env, dr, W, m, (PoS.ofE (k := kAsg (.nm i)) m p).mono fun v H1 ⟨d, dr1, g1, e1, r1, p1⟩ => set_end (m.up g1 e1) r1 p1⟩
/-- an int changed in place -/
theorem s_aug {i : Nat} {y : Str} {pos' : Pos} {o : Bo} (ho : o = .add ∨ o = .sub) (hN : X.N.Nodup) (hi : X.N[i]? = some y) (hx : Loc X.env.scope y) (hf : X.fn y = true ∨ X.env.scope.names.lookup y = some .local) (h : Tri X F c Wx exc e x) :
    PS X (.AugAssign (.Name y pos') (bOp o) e pos) (okS X.K c Wx exc (ex F Wf (.aug o i x))) := by
  have go : ∀ {f : Int → Int → Int} (P : ∀ (k l m : Int), augD o k (.int l) = some m → m = f k l) (E : Ends) (σ : L2.St) (H : Hp), okS X.K c Wx exc (ex F Wf (.aug o i x)) E σ H → tAug i (okR X.K c Wx exc (RepB X.K c) (ev F .bor x)) (ipI f) E σ H := by
    intro f P E σ H ⟨⟨env, dr⟩, W, m, p⟩
    have p : PoS X.K c Wx exc E W H (match env[i]? with
      | some (.fz (.int a)) => (ev F .bor x env dr).toO env fun y s => match augD o a y with
        | some k => .ok .nx (setE s i (.fz (.int k)))
        | none => .stk
      | _ => .stk) := p
    split at p
    · rename_i k hk
      obtain ⟨v, hv, r⟩ := m.sl i _ hk
      cases (RepB.int (c := c) (W := W) (H := H) (.inl r))
      refine ⟨_, hv, env, dr, W, m, (PoS.ofE m p).mono fun u H1 ⟨d, dr1, g1, e1, r1, p1⟩ => ?_⟩
      cases ha : augD o k d with
      | none => simp only [ha] at p1; exact False.elim p1
      | some n =>
        simp only [ha] at p1
        cases d with
        | int l =>
          cases r1.int
          cases P k l n ha
          exact ⟨k, l, rfl, rfl, p1 _ _ W ((m.up g1 e1).set (.int _)) GrS.refl⟩
        | _ => cases ha
    · exact False.elim p
  rcases ho with rfl | rfl
  · exact (ps_aug hN hi hx h.bo ip_add hf).imp fun E σ H p => go (fun k l m q => by cases q; rfl) E σ H p
  · exact (ps_aug hN hi hx h.bo ip_sub hf).imp fun E σ H p => go (fun k l m q => by cases q; rfl) E σ H p
/-- x.append(e) -/
theorem s_app {i : Nat} {y : Str} {p1 apos cpos : Pos} (hN : X.N[i]? = some y) (hv : Vis X.env.scope y) (hd : (y == ("__debug__" : Str)) = false) (hcd : (y == ("__classdict__" : Str)) = false) (hline : (apos.endLine == cpos.line) = true) (hp : Plain [e]) (h : Tri X F c Wx exc e x) :
    PS X (.Expr (.Call (.Attribute (.Name y p1) "append" apos) [e] [] cpos) pos) (okS X.K c Wx exc (ex F Wf (.app i x))) := by
  have hfew : ((backTo cpos (starEach [e] X.env)).all (fun x => !x.1) && (backToKw cpos (keywordEach [] X.env)).all (fun x => x.1.isSome)
      && decide ([e].length + ([] : List Keyword).length + (if ([] : List Keyword).isEmpty then 0 else 1) < 30)) = true := by
    rw [hp.all]; rfl
  have base := ps_expr (pos := pos) (pe_bm (cpos := cpos) (apos := apos) PySem.F.plainAttrs_list PySem.F.slot_list_append PySem.F.type_list_append mt_append (pe_var (pos := p1) hN hv hd hcd) (pa_cons h.fz pa_nil (hp.head _)) rfl hfew hline (hp.head _) rfl)
  refine base.imp fun E σ H ⟨⟨env, dr⟩, W, m, p⟩ => ?_
  have p : PoS X.K c Wx exc E W H (match env[i]? with
    | some (.ow (.list ds)) => (ev F .frz x env dr).toO env fun d s => if decide (ds.length < 16777216) then .ok .nx (setE s i (.ow (.list (ds ++ [d])))) else .stk
    | _ => .stk) := p
  split at p
  · rename_i ds hk
    obtain ⟨⟨a, o, hs, ne, w, ha, hc⟩, q2⟩ := m.sl i _ hk
    cases hc with
    | @lst vs _ rv =>
      refine ⟨.ref a, hs, .inl ⟨rfl, vs, .inl (.inl ha)⟩, env, dr, W, m, (PoS.ofE m p).mono fun u H1 ⟨d, dr1, g1, e1, r1, p1⟩ => ?_⟩
      split at p1
      · rename_i hl
        have m1 := m.up g1 e1
        have ha1 := g1.hp a _ ne ha
        have hl' : vs.length < sizeLine := by rw [rv.length, szl]; exact of_decide_eq_true hl
        obtain ⟨m2, g2⟩ := m1.mut (o := .lst (vs ++ [u])) (d' := .list (ds ++ [d])) hk hs (.lst ((RepL.mono (g1.hid m.wa) rv).append (.one r1)))
        exact ⟨a, vs, u, rfl, rfl, ha1, hl', p1 _ _ W m2 g2⟩
      · exact False.elim p1
  · exact False.elim p
theorem PSet.or {X : Cx} {t t' : TSet} (h : PSet X t) (h' : PSet X t') : PSet X (fun o i v H Q => t o i v H Q ∨ t' o i v H Q) := by
  intro pins s σ H o i v ov iv u Q I ro ri rv q
  rcases q with q | q
  · exact h pins s σ H o i v ov iv u Q I ro ri rv q
  · exact h' pins s σ H o i v ov iv u Q I ro ri rv q
def rSetD : TSet := fun o i v H Q => ∃ a H', o = .ref a ∧ DPut H a i v H' ∧ Q H'
theorem set_dict {X : Cx} (hu : X.A.units + 1 < cLine) : PSet X rSetD := by
  intro pins s σ H o i v ov iv u Q I ro ri rv q
  obtain ⟨a, H', rfl, g, q⟩ := q
  cases ro
  exact d_setItem hu I g ri rv fun s' I' => ⟨H', I', q⟩
/-- x[k] = e, x a list -/
theorem s_setI (hu : X.A.units + 128 < cLine) {i : Nat} {y : Str} {p1 p2 : Pos} {k : Expr} {xk : Ex} (hN : X.N[i]? = some y) (hv : Vis X.env.scope y) (hd : (y == ("__debug__" : Str)) = false) (hcd : (y == ("__classdict__" : Str)) = false)
    (hs : swapsWithSole [.Subscript (.Name y p1) k p2] e pos.line X.env = pure false) (hw : swappedStores [.Subscript (.Name y p1) k p2] e X.env = pure none) (h1 : (assignEach [.Subscript (.Name y p1) k p2] X.env).map (·.2) = [assign (.Subscript (.Name y p1) k p2) X.env])
    (hss : ∀ v, assign (.Subscript (.Name y p1) k p2) X.env v = (do
      let ov ← holding [v] (eval (.Name y p1) X.env)
      let iv ← holding [v, ov] (eval k X.env)
      standAt p2
      holding [v, ov, iv] (setItem ov iv v)
      release [v, ov, iv] [])) (h : Tri X F c Wx exc e x) (hk : Tri X F c Wx exc k xk) : PS X (.Assign [.Subscript (.Name y p1) k p2] e pos) (okS X.K c Wx exc (ex F Wf (.setI i xk x))) := by
  refine (ps_asg h.fz (pg_sub (pe_var (pos := p1) hN hv hd hcd) hk.fz (PSet.or set_list (set_dict (by omega))) hss) hs hw h1).imp fun E σ H ⟨⟨env, dr⟩, W, m, p⟩ => ?_
  have p : PoS X.K c Wx exc E W H (match env[i]? with
    | some (.ow o) => (ev F .frz x env dr).toO env fun d s => (ev F .frz xk s.env s.dr).toO s.env fun k s => match setD o k d with
      | some o' => .ok .nx (setE s i (.ow o'))
      | none => .stk
    | _ => .stk) := p
  split at p
  · rename_i o hk
    refine ⟨env, dr, W, m, (PoS.ofE m p).mono fun u H1 ⟨d, dr1, g1, e1, r1, p1⟩ => ?_⟩
    have m1 := m.up g1 e1
    obtain ⟨⟨a, ho, hs, ne, w, ha, hc⟩, q2⟩ := m.sl i _ hk
    refine ⟨.ref a, hs, env, dr1, W, m1, (PoS.ofE m1 p1).mono fun kv H2 ⟨kd, dr2, g2, e2, r2, p2⟩ => ?_⟩
    have m2 := m1.up g2 e2
    have same := (g1.trans g2).hid m.wa
    have ha2 := (g1.trans g2).hp a _ ne ha
    have dct : ∀ qs, o = .dict qs → (∃ a' H', V.ref a = .ref a' ∧ DPut H2 a' kv u H' ∧ E.nx σ H') := fun qs eo => by
      subst eo
      have p2 : PoS X.K c Wx exc E W H2 (match dputD (.dict qs) kd d with
        | some o' => .ok .nx (setE ⟨env, dr2⟩ i (.ow o'))
        | none => .stk) := p2
      cases hp : dputD (.dict qs) kd d with
      | none => rw [hp] at p2; exact False.elim p2
      | some o' =>
        rw [hp] at p2
        obtain ⟨ob, g, hc'⟩ := dput_ok (c := c) ha2 (Cont.mono same hc) (.inl r2) (Rep.mono (g2.hid m.wa) r1) hp
        obtain ⟨m3, g3⟩ := m2.mut (o := ob) (d' := o') hk hs hc'
        exact ⟨a, _, rfl, g, p2 _ _ W m3 g3⟩
    unfold setD at p2
    cases hc with
    | @lst vs ds rv =>
      left
      cases kd with
      | int k =>
        cases (RepB.int (c := c) (W := W) (H := H2) (.inl r2))
        cases hj : ixN ds.length k with
        | none => simp only [hj, Option.map_none] at p2; exact False.elim p2
        | some j =>
          simp only [hj, Option.map_some] at p2
          obtain ⟨m3, g3⟩ := m2.mut (o := .lst (vs.set j u)) (d' := .list (ds.set j d)) hk hs (.lst ((RepL.mono same rv).set j (Rep.mono (g2.hid m.wa) r1)))
          exact ⟨a, vs, k, j, rfl, rfl, ha2, by rw [rv.length]; exact hj, p2 _ _ W m3 g3⟩
      | _ => exact False.elim p2
    | dK _ _ => exact .inr (dct _ rfl)
    | dT _ _ => exact .inr (dct _ rfl)
  · exact False.elim p
end
end Ly

set_option Elab.async false
set_option linter.all false
set_option maxRecDepth 100000
set_option maxHeartbeats 2000000
/-! Ly: values that a slot holds, several targets, loops. -/
namespace Ly
open PySem PySem.Spec PyProof.Rows L2

/-- a value that is frozen, or new and held by nothing yet -/
structure MV (K : PySem.W.Frag) (c : Cc) (W : Addr → Prop) (H0 H : Hp) (env : List Sl) (σ : L2.St) (b : Bool) (v : V) (d : D) : Prop where
  fz : b = false → Rep K c.a0 (hid W H) v d
  ow : b = true → ∃ p o, v = .ref p ∧ W p ∧ p ≠ c.a0 ∧ H p = some o ∧ Cont K c.a0 (hid W H) o d ∧ c.G p = none ∧ ¬ c.W0 p ∧ NoD env σ p ∧ H0 p = none
/-- growth with more that is hidden -/
structure GrM (c : Cc) (W : Addr → Prop) (H : Hp) (W' : Addr → Prop) (H' : Hp) : Prop where
  e : GrE c H H'
  w : ∀ b, W b → W' b
  s : GrS W H W' H'
section
variable {K : PySem.W.Frag} {c : Cc} {Wx : WX} {exc : Exc} {W W' W2 : Addr → Prop} {σ : L2.St} {H0 H H' H2 : Hp} {env : List Sl} {dr dr' : Dr} {b : Bool} {v : V} {d : D}
theorem GrM.trans (a : GrM c W H W' H') (b : GrM c W' H' W2 H2) : GrM c W H W2 H2 := ⟨a.e.trans b.e, fun x h => b.w x (a.w x h), a.s.trans b.s⟩
theorem GrM.refl (h : H c.a0 ≠ none) : GrM c W H W H := ⟨GrE.refl h, fun _ h => h, GrS.refl⟩
theorem GrM.of (wa : W c.a0) (g : GrE c H H') : GrM c W H W H' := ⟨g, fun _ h => h, g.st wa⟩
theorem MV.up (m : MV K c W H0 H env σ b v d) (g : GrM c W H W' H') : MV K c W' H0 H' env σ b v d :=
  ⟨fun e => Rep.mono g.s.hid (m.fz e), fun e => by
    obtain ⟨p, o, h1, h2, h3, h4, h5, h6, h7, h8, h9⟩ := m.ow e
    exact ⟨p, o, h1, g.w p h2, h3, g.e.hp p o h3 h4, Cont.mono g.s.hid h5, h6, h7, h8, h9⟩⟩
def PoM (K : PySem.W.Frag) (c : Cc) (Wx : WX) (exc : Exc) (b : Bool) (W : Addr → Prop) (σ : L2.St) (env : List Sl) (r : R D) (H : Hp) (Q : VK) : Prop :=
  match r with
  | .ok d dr' => ∀ v H' W', Mt K c ⟨env, dr'⟩ σ H' W' → GrM c W H W' H' → MV K c W' H H' env σ b v d → Q v H'
  | .err e dr' => ∀ H', GrE c H H' → DrOk H' c.a0 W dr' → ∀ cls dd, exc e cls dd → Wx cls dd σ H'
  | .stk => False
def okM (K : PySem.W.Frag) (c : Cc) (Wx : WX) (exc : Exc) (b : Bool) (g : List Sl → Dr → R D) : TE := fun σ H Q => ∃ env dr W, Mt K c ⟨env, dr⟩ σ H W ∧ PoM K c Wx exc b W σ env (g env dr) H Q
theorem PoM.of_fz {r : R D} {Q : VK} (m : Mt K c ⟨env, dr⟩ σ H W) (h : PoM K c Wx exc false W σ env r H Q) : Po c Wx exc (RepF K c) W σ r H Q := by
  cases r with
  | ok d dr' => exact fun v H' g d' r => h v H' W (m.up g d') (GrM.of m.wa g) ⟨fun _ => r, fun e => (by cases e)⟩
  | err e dr' => exact h
  | stk => exact h
/-- a new list or dict -/
theorem PoM.new {d : D} {o : HO} {Q : VK} {dr1 : Dr} {p : Addr} (m : Mt K c ⟨env, dr⟩ σ H W) (h : PoM K c Wx exc true W σ env (.ok d dr1) H Q) (hp : H p = none) (g : GrE c H H') (dk : DrOk H' c.a0 (WD W p) dr1) (e : H' p = some o) (hc : Cont K c.a0 (hid (WD W p) H') o d) : Q (.ref p) H' := by
  obtain ⟨m', nd, gp, ne, wp, gs⟩ := m.grow hp g dk e
  exact h _ H' (WD W p) m' ⟨g, fun b w => .inl w, gs⟩ ⟨fun e => (by cases e), fun _ => ⟨p, o, rfl, .inr rfl, ne, e, hc, gp, wp, nd, hp⟩⟩
theorem GrE.none {p : Addr} (g : GrE c H H') (h : H' p = none) : H p = none := by
  by_cases e : p = c.a0
  · exact absurd (e ▸ h) g.a0
  · cases q : H p with
    | none => rfl
    | some o => rw [g.hp p o e q] at h; cases h
end
section
variable {X : Cx} {F : Nat → List D → Dr → Oc} {Wf : Nat} {c : Cc} {Wx : WX} {exc : Exc} {e a b tg iter elt : Expr} {ifs : List Expr} {es : List Expr} {st : Stmt} {sts rest : List Stmt} {x x1 x2 : Ex} {xs ys : Sts} {as : Exs} {t t1 : Tg} {it it1 : Itx} {cs cs1 : Exs} {pos : Pos}
theorem pm_fz (h : Tri X F c Wx exc e x) : PE X e (okM X.K c Wx exc false (ev F .frz x)) := h.fz.imp fun σ H Q ⟨env, dr, W, m, p⟩ => ⟨env, dr, W, m, p.of_fz m⟩
theorem pm_lst (h : Tris X F c Wx exc es as) : PE X (.List es pos) (okM X.K c Wx exc true (ev F .frz (.lst as))) := (pe_lst h.fz).imp fun σ H Q ⟨env, dr, W, m, p⟩ => ⟨env, dr, W, m, by
  have p : PoM X.K c Wx exc true W σ env ((evs F .frz as env dr).bind fun ds dr => lift .frz (if okLen ds.length then some (.list ds) else none) dr) H Q := p
  cases hr : evs F .frz as env dr with
  | stk => rw [hr] at p; exact p
  | err k dr1 => rw [hr] at p; exact p
  | ok ds dr1 =>
    rw [hr] at p
    have p : PoM X.K c Wx exc true W σ env (lift .frz (if okLen ds.length then some (.list ds) else none) dr1) H Q := p
    intro vs H1 g1 d1 r1
    split at p
    · rename_i hl
      refine ⟨by rw [r1.length]; exact okLen_of hl, fun q hq => ?_⟩
      have g2 : GrE c H1 (upd H1 q (.lst vs)) := GrE.same d1.a0 (same_upd hq)
      have same : Same (hid W H1) (hid (WD W q) (upd H1 q (.lst vs))) := fun b o h => by
        obtain ⟨h1, h2⟩ := hid_of h
        have nb : b ≠ q := fun e => by rw [e, hq] at h2; cases h2
        exact hid_some (fun w => w.elim h1 nb) (same_upd hq _ _ h2)
      refine PoM.new m p (g1.none hq) (g1.trans g2) ?_ upd_same (.lst (RepL.mono same r1))
      obtain ⟨ca, e1, e2⟩ := d1
      exact ⟨ca, same_upd hq _ _ e1, same _ _ e2⟩
    · exact False.elim p⟩
theorem lcm_read {σ : L2.St} {H : Hp} {Q : VK} {b : Bool} (vs : List Nat) (ho : ∀ i ∈ tgN t, i ∈ vs) (h : okM X.K c Wx exc b (ev F .frz (.lc vs t it cs x)) σ H Q) :
    tLc (okR X.K c Wx exc (WkB X.K c) (evi F .bor it)) (gOk X.K c t) (okR X.K c Wx0 exc RepX (evt F cs)) (okR X.K c Wx0 exc (RepF X.K c) (ev F .frz x)) vs σ H Q := by
  obtain ⟨env, dr, W, m, p⟩ := h
  refine ⟨env, dr, W, m, ?_⟩
  have p : PoM X.K c Wx exc b W σ env ((evi F .bor it env dr).bind fun ds dr => match lcGo (tn1 t vs env (fun env dr => evt F cs env dr) (fun env dr => ev F .frz x env dr)) ds dr with
    | some (r, dr) => fin .frz (.list r) dr
    | none => .stk) H Q := p
  cases hr : evi F .bor it env dr with
  | stk => rw [hr] at p; exact p
  | err k dr1 => rw [hr] at p; exact p
  | ok ds dr1 =>
    rw [hr] at p
    intro J H1 g1 e1 wk
    have m1 := m.up g1 e1
    have p : PoM X.K c Wx exc b W σ env (match lcGo (tn1 t vs env (fun env dr => evt F cs env dr) (fun env dr => ev F .frz x env dr)) ds dr1 with
      | some (r, dr) => fin .frz (.list r) dr
      | none => .stk) H Q := p
    cases hl : lcGo (tn1 t vs env (fun env dr => evt F cs env dr) (fun env dr => ev F .frz x env dr)) ds dr1 with
    | none => rw [hl] at p; exact False.elim p
    | some z =>
      obtain ⟨r, dr2⟩ := z
      rw [hl] at p
      have p : PoM X.K c Wx exc b W σ env (.ok (.list r) dr2) H Q := p
      refine lc_all ho m1 wk hl fun D H' acc hD g d e ra => ?_
      cases b with
      | true => exact PoM.new m p (g1.none hD) (g1.trans (GrE.of_d hD g)) d e (.lst ra)
      | false =>
        obtain ⟨h1, h2, h3⟩ := lc_end m1.wa m1.dom hD g d e ra
        exact PoM.of_fz m p _ H' (g1.trans h1) h2 h3
theorem lcm2_read {σ : L2.St} {H : Hp} {Q : VK} {b : Bool} (vs vs1 : List Nat) (ho : ∀ i ∈ tgN t, i ∈ vs) (ho1 : ∀ i ∈ tgN t1, i ∈ vs1) (h : okM X.K c Wx exc b (ev F .frz (.lc2 vs vs1 t it cs t1 it1 cs1 x)) σ H Q) :
    tLc2 (okR X.K c Wx exc (WkB X.K c) (evi F .bor it)) (gOk X.K c t) (okR X.K c Wx0 exc RepX (evt F cs)) (okR X.K c Wx0 exc (WkF X.K c) (evi F .frz it1)) (gOk X.K c t1) (okR X.K c Wx0 exc RepX (evt F cs1)) (okR X.K c Wx0 exc (RepF X.K c) (ev F .frz x)) vs vs1 σ H Q := by
  obtain ⟨env, dr, W, m, p⟩ := h
  refine ⟨env, dr, W, m, ?_⟩
  have p : PoM X.K c Wx exc b W σ env ((evi F .bor it env dr).bind fun ds dr => match lcGo (tn2 t vs env (fun env dr => evt F cs env dr) (fun env dr => evi F .frz it1 env dr) fun env => tn1 t1 vs1 env (fun env dr => evt F cs1 env dr) (fun env dr => ev F .frz x env dr)) ds dr with
    | some (r, dr) => if okLen r.length then fin .frz (.list r) dr else .stk
    | none => .stk) H Q := p
  cases hr : evi F .bor it env dr with
  | stk => rw [hr] at p; exact p
  | err k dr1 => rw [hr] at p; exact p
  | ok ds dr1 =>
    rw [hr] at p
    intro J H1 g1 e1 wk
    have m1 := m.up g1 e1
    have p : PoM X.K c Wx exc b W σ env (match lcGo (tn2 t vs env (fun env dr => evt F cs env dr) (fun env dr => evi F .frz it1 env dr) fun env => tn1 t1 vs1 env (fun env dr => evt F cs1 env dr) (fun env dr => ev F .frz x env dr)) ds dr1 with
      | some (r, dr) => if okLen r.length then fin .frz (.list r) dr else .stk
      | none => .stk) H Q := p
    cases hl : lcGo (tn2 t vs env (fun env dr => evt F cs env dr) (fun env dr => evi F .frz it1 env dr) fun env => tn1 t1 vs1 env (fun env dr => evt F cs1 env dr) (fun env dr => ev F .frz x env dr)) ds dr1 with
    | none => rw [hl] at p; exact False.elim p
    | some z =>
      obtain ⟨r, dr2⟩ := z
      rw [hl] at p
      have p : PoM X.K c Wx exc b W σ env (if okLen r.length then .ok (.list r) dr2 else .stk) H Q := p
      split at p
      · rename_i hk
        refine lc2_all ho ho1 m1 wk (okLen_of hk) hl fun D H' acc hD g d e ra => ?_
        cases b with
        | true => exact PoM.new m p (g1.none hD) (g1.trans (GrE.of_d hD g)) d e (.lst ra)
        | false =>
          obtain ⟨h1, h2, h3⟩ := lc_end m1.wa m1.dom hD g d e ra
          exact PoM.of_fz m p _ H' (g1.trans h1) h2 h3
      · exact False.elim p
/-! ### one name -/
/-- held or frozen -/
def kSet (b : Bool) (i : Nat) : D → S → Out Fl := fun d s => .ok .nx (setE s i (if b then .ow d else .fz d))
theorem set_mv {b : Bool} {i : Nat} {W : Addr → Prop} {σ : L2.St} {H0 H : Hp} {v : V} {d : D} {env : List Sl} {dr : Dr} (m : Mt X.K c ⟨env, dr⟩ σ H W) (r : MV X.K c W H0 H env σ b v d) : Mt X.K c ⟨env.set i (if b then .ow d else .fz d), dr⟩ (σ.set i (some v)) H W := by
  cases b with
  | false => exact m.set (r.fz rfl)
  | true =>
    obtain ⟨p, o, rfl, h2, h3, h4, h5, h6, h7, h8, h9⟩ := r.ow rfl
    exact m.hold h2 h3 h4 h5 h6 h7 h8
theorem setM_read {b : Bool} {i : Nat} {E : Ends} {σ : L2.St} {H : Hp} (h : okS X.K c Wx exc (fun s => (ev F .frz x s.env s.dr).toO s.env (kSet b i)) E σ H) : okM X.K c Wx exc b (ev F .frz x) σ H fun v H1 => gName i v σ H1 E.nx := by
  obtain ⟨⟨env, dr⟩, W, m, p⟩ := h
  refine ⟨env, dr, W, m, ?_⟩
  have p : PoS X.K c Wx exc E W H ((ev F .frz x env dr).toO env (kSet b i)) := p
  cases hr : ev F .frz x env dr with
  | stk => rw [hr] at p; exact p
  | err k dr1 =>
    rw [hr] at p
    exact fun H1 g1 d1 cls dd x => p σ H1 W (m.up g1 d1) (g1.st m.wa) cls dd x
  | ok d dr1 =>
    rw [hr] at p
    intro v H' W' m' g r
    exact p _ H' W' (set_mv m' r) g.s
theorem ex_own {i : Nat} {s : S} : ex F Wf (.own i x) s = (ev F .frz x s.env s.dr).toO s.env (kSet true i) := rfl
theorem ex_nm {i : Nat} {s : S} : ex F Wf (.asg (.nm i) x) s = (ev F .frz x s.env s.dr).toO s.env (kSet false i) := rfl
/-- the core of a store to one name -/
def setX (b : Bool) (i : Nat) (x : Ex) : St := if b then .own i x else .asg (.nm i) x
theorem ex_setX {b : Bool} {i : Nat} {s : S} : ex F Wf (setX b i x) s = (ev F .frz x s.env s.dr).toO s.env (kSet b i) := by cases b <;> rfl
theorem s_setM {b : Bool} {i : Nat} {y : Str} {pos' : Pos} (hN : X.N.Nodup) (hi : X.N[i]? = some y) (hx : Loc X.env.scope y) (hf : X.fn y = true ∨ X.env.scope.names.lookup y = some .local) (hs : swapsWith e (some (.Name y pos')) pos.line X.env = pure false) (h : PE X e (okM X.K c Wx exc b (ev F .frz x))) :
    PS X (.Assign [.Name y pos'] e pos) (okS X.K c Wx exc (ex F Wf (setX b i x))) :=
  (ps_set hN hi hx h hs hf).imp fun E σ H p => setM_read (by
    obtain ⟨s, W, m, p⟩ := p
    exact ⟨s, W, m, by rw [ex_setX] at p; exact p⟩)
theorem s_setLc {b : Bool} {i : Nat} {y : Str} {py : Pos} {spos : Pos} {scope : Scope} {own : List (Str × Nat)} (hc : X.calm = true) (hN : X.N.Nodup) (hi : X.N[i]? = some y) (hy : X.env.scope.names.lookup y = some .local)
    (hsw : swapsWith (.ListComp elt [⟨tg, iter, ifs, 0⟩] scope pos) (some (.Name y py)) spos.line X.env = pure true)
    (hs : ∀ x, foldedSetIterable iter X.env x = pure x) (ok : BlkOk X.N X.env.scope scope own) (ho : ∀ i ∈ tgN t, i ∈ own.map (·.2)) (hit : TriI X F c Wx exc tg iter it)
    (hg : ∀ s H C cl fp, PG (X.blk s H scope (compEnvC scope cl C X.env) fp) tg (gOk X.K c t)) (ht : ∀ s H C cl fp, TriT (X.blk s H scope (compEnvC scope cl C X.env) fp) F c Wx0 exc ifs cs)
    (he : ∀ s H C cl fp, Tri (X.blk s H scope (compEnvC scope cl C X.env) fp) F c Wx0 exc elt x) :
    PS X (.Assign [.Name y py] (.ListComp elt [⟨tg, iter, ifs, 0⟩] scope pos) spos) (okS X.K c Wx exc (ex F Wf (setX b i (.lc (own.map (·.2)) t it cs x)))) :=
  (ps_setLc (elt := elt) (te := okR X.K c Wx0 exc (RepF X.K c) (ev F .frz x)) (tt := okR X.K c Wx0 exc RepX (evt F cs)) (pos := pos) hc hN hi hy hsw hit.bo ok hg (fun s H C cl fp => (ht s H C cl fp).te) (fun s H C cl fp => (he s H C cl fp).fz) hs).imp fun E σ H p =>
    lcm_read (b := b) _ ho (setM_read (by
      obtain ⟨s, W, m, p⟩ := p
      exact ⟨s, W, m, by rw [ex_setX] at p; exact p⟩))
theorem s_setLc2 {b : Bool} {i : Nat} {y : Str} {py : Pos} {spos : Pos} {scope : Scope} {own : List (Str × Nat)} {own1 : List Nat} {tg1 iter1 : Expr} {ifs1 : List Expr} (hc : X.calm = true) (hN : X.N.Nodup) (hi : X.N[i]? = some y) (hy : X.env.scope.names.lookup y = some .local)
    (hsw : swapsWith (.ListComp elt [⟨tg, iter, ifs, 0⟩, ⟨tg1, iter1, ifs1, 0⟩] scope pos) (some (.Name y py)) spos.line X.env = pure true)
    (hs : ∀ x, foldedSetIterable iter X.env x = pure x) (hs1 : ∀ env x, foldedSetIterable iter1 env x = pure x) (ok : BlkOk X.N X.env.scope scope own) (hv : ∀ i ∈ own1, i ∈ own.map (·.2)) (ho : ∀ i ∈ tgN t, i ∈ own.map (·.2)) (ho1 : ∀ i ∈ tgN t1, i ∈ own1) (hit : TriI X F c Wx exc tg iter it)
    (hg : ∀ s H C cl fp, PG (X.blk s H scope (compEnvC scope cl C X.env) fp) tg (gOk X.K c t)) (ht : ∀ s H C cl fp, TriT (X.blk s H scope (compEnvC scope cl C X.env) fp) F c Wx0 exc ifs cs)
    (hi1 : ∀ s H C cl fp, TriI (X.blk s H scope (compEnvC scope cl C X.env) fp) F c Wx0 exc tg1 iter1 it1)
    (hg1 : ∀ s H C cl fp, PG (X.blk s H scope (compEnvC scope cl C X.env) fp) tg1 (gOk X.K c t1)) (ht1 : ∀ s H C cl fp, TriT (X.blk s H scope (compEnvC scope cl C X.env) fp) F c Wx0 exc ifs1 cs1)
    (he : ∀ s H C cl fp, Tri (X.blk s H scope (compEnvC scope cl C X.env) fp) F c Wx0 exc elt x) :
    PS X (.Assign [.Name y py] (.ListComp elt [⟨tg, iter, ifs, 0⟩, ⟨tg1, iter1, ifs1, 0⟩] scope pos) spos) (okS X.K c Wx exc (ex F Wf (setX b i (.lc2 (own.map (·.2)) own1 t it cs t1 it1 cs1 x)))) :=
  (ps_setLc2 (elt := elt) (te := okR X.K c Wx0 exc (RepF X.K c) (ev F .frz x)) (tt := okR X.K c Wx0 exc RepX (evt F cs)) (tt1 := okR X.K c Wx0 exc RepX (evt F cs1)) (wi1 := okR X.K c Wx0 exc (WkF X.K c) (evi F .frz it1)) (pos := pos) hc hN hi hy hsw hit.bo ok hv hg (fun s H C cl fp => (ht s H C cl fp).te) (fun s H C cl fp => (hi1 s H C cl fp).fz) hg1 (fun s H C cl fp => (ht1 s H C cl fp).te) (fun s H C cl fp => (he s H C cl fp).fz) hs hs1).imp fun E σ H p =>
    lcm2_read (b := b) _ _ ho ho1 (setM_read (by
      obtain ⟨s, W, m, p⟩ := p
      exact ⟨s, W, m, by rw [ex_setX] at p; exact p⟩))
end
end Ly

set_option Elab.async false
set_option linter.all false
set_option maxRecDepth 100000
set_option maxHeartbeats 2000000
/-! Ly: several targets, loops. -/
namespace Ly
open PySem PySem.Spec PyProof.Rows L2

/-! ### several names -/
def ownsV : List (Nat × Bool) → List V → List V
  | (_, true) :: ts, v :: vs => v :: ownsV ts vs
  | (_, false) :: ts, _ :: vs => ownsV ts vs
  | _, _ => []
inductive MVs (K : PySem.W.Frag) (c : Cc) (W : Addr → Prop) (H0 H : Hp) (env : List Sl) (σ : L2.St) : List (Nat × Bool) → List V → List D → Prop
  | nil : MVs K c W H0 H env σ [] [] []
  | cons {i : Nat} {b : Bool} {ts : List (Nat × Bool)} {v : V} {vs : List V} {d : D} {ds : List D} : MV K c W H0 H env σ b v d → v ∉ ownsV ts vs → MVs K c W H0 H env σ ts vs ds → MVs K c W H0 H env σ ((i, b) :: ts) (v :: vs) (d :: ds)
def parσ : List (Nat × Bool) → List V → L2.St → L2.St
  | (i, _) :: ts, v :: vs, σ => parσ ts vs (σ.set i (some v))
  | _, _, σ => σ
section
variable {K : PySem.W.Frag} {c : Cc} {Wx : WX} {exc : Exc} {W W' W2 : Addr → Prop} {H0 H H' H2 : Hp}
theorem MVs.len {env : List Sl} {σ : L2.St} {ts : List (Nat × Bool)} {vs : List V} {ds : List D} (h : MVs K c W H0 H env σ ts vs ds) : vs.length = ts.length := by
  induction h with
  | nil => rfl
  | cons _ _ _ ih => simp [ih]
theorem MVs.up {env : List Sl} {σ : L2.St} {ts : List (Nat × Bool)} {vs : List V} {ds : List D} (h : MVs K c W H0 H env σ ts vs ds) (g : GrM c W H W' H') : MVs K c W' H0 H' env σ ts vs ds := by
  induction h with
  | nil => exact .nil
  | cons a b _ ih => exact .cons (a.up g) b ih
theorem MVs.own {env : List Sl} {σ : L2.St} {ts : List (Nat × Bool)} {vs : List V} {ds : List D} (h : MVs K c W H0 H env σ ts vs ds) : ∀ v ∈ ownsV ts vs, ∃ p, v = .ref p ∧ NoD env σ p ∧ H0 p = none := by
  induction h with
  | nil => intro v hv; cases hv
  | @cons i b ts v vs d ds a _ _ ih =>
    intro w hw
    cases b with
    | false => exact ih w hw
    | true =>
      rcases List.mem_cons.mp hw with rfl | hw
      · obtain ⟨p, o, h1, _, _, _, _, _, _, h8, h9⟩ := a.ow rfl
        exact ⟨p, h1, h8, h9⟩
      · exact ih w hw
theorem NoD.fzset {env : List Sl} {σ : L2.St} {p : Addr} {i : Nat} {d : D} {v : V} (h : NoD env σ p) : NoD (env.set i (.fz d)) (σ.set i (some v)) p := fun j x ej z => by
  rcases set_get ej with ⟨rfl, e⟩ | ⟨nj, ej⟩
  · cases e
  · rw [List.getElem?_set_ne nj] at z
    exact h j x ej z
theorem NoD.owset {env : List Sl} {σ : L2.St} {p q : Addr} {i : Nat} {d : D} (h : NoD env σ p) (ne : q ≠ p) : NoD (env.set i (.ow d)) (σ.set i (some (.ref q))) p := fun j x ej z => by
  rcases set_get ej with ⟨rfl, e⟩ | ⟨nj, ej⟩
  · rcases set_get z with ⟨_, e'⟩ | ⟨n, _⟩
    · cases e'; exact ne rfl
    · exact n rfl
  · rw [List.getElem?_set_ne nj] at z
    exact h j x ej z
theorem MVs.step {env : List Sl} {σ : L2.St} {ts : List (Nat × Bool)} {vs : List V} {ds : List D} {env' : List Sl} {σ' : L2.St} (h : MVs K c W H0 H env σ ts vs ds) (hn : ∀ p, V.ref p ∈ ownsV ts vs → NoD env σ p → NoD env' σ' p) : MVs K c W H0 H env' σ' ts vs ds := by
  induction h with
  | nil => exact .nil
  | @cons i b ts v vs d ds a nv _ ih =>
    cases b with
    | false => exact .cons ⟨a.fz, fun e => (by cases e)⟩ nv (ih hn)
    | true =>
      refine .cons ⟨fun e => (by cases e), fun e => ?_⟩ nv (ih fun p hp => hn p (List.mem_cons_of_mem _ hp))
      obtain ⟨p, o, h1, h2, h3, h4, h5, h6, h7, h8, h9⟩ := a.ow e
      exact ⟨p, o, h1, h2, h3, h4, h5, h6, h7, hn p (by rw [← h1]; exact List.mem_cons_self) h8, h9⟩
theorem par_end {dr : Dr} {ts : List (Nat × Bool)} {vs : List V} {ds : List D} : ∀ {env env' : List Sl} {σ : L2.St}, MVs K c W H0 H env σ ts vs ds → parE ts ds env = some env' → Mt K c ⟨env, dr⟩ σ H W → Mt K c ⟨env', dr⟩ (parσ ts vs σ) H W := by
  induction ts generalizing vs ds with
  | nil =>
    intro env env' σ h e m
    cases h
    cases (show some env = some env' from e)
    exact m
  | cons q ts ih =>
    intro env env' σ h e m
    cases h with
    | @cons i b _ v vs d ds a nv t =>
      have e : parE ts ds (env.set i (if b then .ow d else .fz d)) = some env' := e
      show Mt K c ⟨env', dr⟩ (parσ ts vs (σ.set i (some v))) H W
      cases b with
      | false => exact ih (t.step fun p _ n => n.fzset) e (m.set (a.fz rfl))
      | true =>
        obtain ⟨p, o, rfl, h2, h3, h4, h5, h6, h7, h8, h9⟩ := a.ow rfl
        exact ih (t.step fun p' hp n => n.owset fun z => nv (by rw [z]; exact hp)) e (m.hold h2 h3 h4 h5 h6 h7 h8)
def PoPs (K : PySem.W.Frag) (c : Cc) (Wx : WX) (exc : Exc) (ts : List (Nat × Bool)) (W : Addr → Prop) (σ : L2.St) (env : List Sl) (r : R (List D)) (H : Hp) (Q : List V → Hp → Prop) : Prop :=
  match r with
  | .ok ds dr' => ∀ vs H' W', Mt K c ⟨env, dr'⟩ σ H' W' → GrM c W H W' H' → MVs K c W' H H' env σ ts vs ds → Q vs H'
  | .err e dr' => ∀ H' W', Mt K c ⟨env, dr'⟩ σ H' W' → GrM c W H W' H' → ∀ cls dd, exc e cls dd → Wx cls dd σ H'
  | .stk => False
def okPs (K : PySem.W.Frag) (c : Cc) (Wx : WX) (exc : Exc) (ts : List (Nat × Bool)) (g : List Sl → Dr → R (List D)) : TA := fun σ H Q => ∃ env dr W, Mt K c ⟨env, dr⟩ σ H W ∧ PoPs K c Wx exc ts W σ env (g env dr) H Q
end
section
variable {X : Cx} {F : Nat → List D → Dr → Oc} {Wf : Nat} {c : Cc} {Wx : WX} {exc : Exc} {e a b tg iter elt : Expr} {ifs : List Expr} {es : List Expr} {st : Stmt} {sts rest : List Stmt} {x x1 x2 : Ex} {xs ys : Sts} {as : Exs} {t t1 : Tg} {it it1 : Itx} {cs cs1 : Exs} {pos : Pos} {ts : List (Nat × Bool)}
theorem ps_nil' : PA X [] (okPs X.K c Wx exc [] (evs F .frz .nil)) := pa_nil.imp fun σ H Q ⟨env, dr, W, m, p⟩ => p [] H W m (GrM.refl m.dr.a0) .nil
theorem ps_cons' {i : Nat} {fl : Bool} (hp : Plain (e :: es)) (h : PE X e (okM X.K c Wx exc fl (ev F .frz x))) (h2 : PA X es (okPs X.K c Wx exc ts (evs F .frz as))) : PA X (e :: es) (okPs X.K c Wx exc ((i, fl) :: ts) (evs F .frz (.cons x as))) :=
  (pa_cons h h2 (hp.head _)).imp fun σ H Q ⟨env, dr, W, m, p⟩ => by
    refine ⟨env, dr, W, m, ?_⟩
    have p : PoPs X.K c Wx exc ((i, fl) :: ts) W σ env ((ev F .frz x env dr).bind fun d dr => (evs F .frz as env dr).bind fun ds dr => .ok (d :: ds) dr) H Q := p
    cases hr : ev F .frz x env dr with
    | stk => rw [hr] at p; exact p
    | err k dr1 =>
      rw [hr] at p
      exact fun H1 g1 d1 cls dd x => p H1 W (m.up g1 d1) (GrM.of m.wa g1) cls dd x
    | ok d dr1 =>
      rw [hr] at p
      have p : PoPs X.K c Wx exc ((i, fl) :: ts) W σ env ((evs F .frz as env dr1).bind fun ds dr => .ok (d :: ds) dr) H Q := p
      intro v H1 W1 m1 g1 r1
      refine ⟨env, dr1, W1, m1, ?_⟩
      cases hr2 : evs F .frz as env dr1 with
      | stk => rw [hr2] at p; exact p
      | err k dr2 =>
        rw [hr2] at p
        exact fun H2 W2 m2 g2 cls dd x => p H2 W2 m2 (g1.trans g2) cls dd x
      | ok ds dr2 =>
        rw [hr2] at p
        intro vs H2 W2 m2 g2 r2
        refine p (v :: vs) H2 W2 m2 (g1.trans g2) (.cons (r1.up g2) ?_ ?_)
        · intro hv
          obtain ⟨q, e, _, hq⟩ := r2.own v hv
          subst e
          cases fl with
          | true =>
            obtain ⟨p', o, h1, h2, h3, h4, _⟩ := r1.ow rfl
            cases h1
            rw [hq] at h4; cases h4
          | false =>
            have := r1.fz rfl
            cases this with
            | tup q1 _ => rw [(hid_of q1).2] at hq; cases hq
            | mu q1 _ => rw [(hid_of q1).2] at hq; cases hq
            | xt q1 _ _ _ => rw [(hid_of q1).2] at hq; cases hq
            | drw => exact m1.dr.a0 hq
        · have : ∀ {ts : List (Nat × Bool)} {vs : List V} {ds : List D}, MVs X.K c W2 H1 H2 env σ ts vs ds → MVs X.K c W2 H H2 env σ ts vs ds := fun h => by
            induction h with
            | nil => exact .nil
            | cons a b _ ih => exact .cons ⟨a.fz, fun e => by
                obtain ⟨p, o, h1, h2, h3, h4, h5, h6, h7, h8, h9⟩ := a.ow e
                exact ⟨p, o, h1, h2, h3, h4, h5, h6, h7, h8, g1.e.none h9⟩⟩ b ih
          exact this r2
def kPar (ts : List (Nat × Bool)) : List D → S → Out Fl := fun ds s => match parE ts ds s.env with
  | some env => .ok .nx { s with env := env }
  | none => .stk
theorem par_read {E : Ends} {σ : L2.St} {H : Hp} {T : List V → Hp → Prop} (h : okS X.K c Wx exc (ex F Wf (.par ts as)) E σ H) (hT : ∀ vs H' W' dr env ds env', vs.length = ts.length → MVs X.K c W' H H' env σ ts vs ds → Mt X.K c ⟨env, dr⟩ σ H' W' → parE ts ds env = some env' → (∀ H2 W2, Mt X.K c ⟨env', dr⟩ (parσ ts vs σ) H2 W2 → GrS W' H' W2 H2 → E.nx (parσ ts vs σ) H2) → T vs H') :
    okPs X.K c Wx exc ts (evs F .frz as) σ H T := by
  obtain ⟨⟨env, dr⟩, W, m, p⟩ := h
  refine ⟨env, dr, W, m, ?_⟩
  have p : PoS X.K c Wx exc E W H ((evs F .frz as env dr).toO env (kPar ts)) := p
  cases hr : evs F .frz as env dr with
  | stk => rw [hr] at p; exact p
  | err k dr1 =>
    rw [hr] at p
    exact fun H1 W1 m1 g1 cls dd x => p σ H1 W1 m1 g1.s cls dd x
  | ok ds dr1 =>
    rw [hr] at p
    have p : PoS X.K c Wx exc E W H (kPar ts ds ⟨env, dr1⟩) := p
    unfold kPar at p
    intro vs H1 W1 m1 g1 r1
    cases hp : parE ts ds env with
    | none => simp only [hp] at p; exact False.elim p
    | some env' =>
      simp only [hp] at p
      exact hT vs H1 W1 dr1 env ds env' r1.len r1 m1 hp fun H2 W2 m2 g2 => p _ H2 W2 m2 (g1.s.trans g2)
theorem len2 {α : Type} {l : List α} (h : l.length = 2) : ∃ a b, l = [a, b] := by
  match l, h with
  | [a, b], _ => exact ⟨a, b, rfl⟩
theorem len3 {α : Type} {l : List α} (h : l.length = 3) : ∃ a b c, l = [a, b, c] := by
  match l, h with
  | [a, b, c], _ => exact ⟨a, b, c, rfl⟩
theorem s_par2 {i j : Nat} {fi fj : Bool} {y z : Str} {px py pt : Pos} {kt k2 : Nat} {pt2 : Pos} (hc : X.calm = true) (hN : X.N.Nodup) (hi : X.N[i]? = some y) (hj : X.N[j]? = some z) (hij : i ≠ j)
    (hx : X.env.scope.names.lookup y = some .local) (hy : X.env.scope.names.lookup z = some .local)
    (hw : swappedStores [.Tuple [.Name y px, .Name z py] kt pt] (.Tuple [a, b] k2 pt2) X.env = pure (some [y, z])) (h : PA X [a, b] (okPs X.K c Wx exc [(i, fi), (j, fj)] (evs F .frz as))) :
    PS X (.Assign [.Tuple [.Name y px, .Name z py] kt pt] (.Tuple [a, b] k2 pt2) pos) (okS X.K c Wx exc (ex F Wf (.par [(i, fi), (j, fj)] as))) :=
  (ps_par hc hN hi hj hij hx hy h hw).imp fun E σ H p => par_read p fun vs H' W' dr env ds env' hl mv m he q => by
    obtain ⟨v, w, rfl⟩ := len2 hl
    exact ⟨v, w, rfl, q H' W' (par_end mv he m) GrS.refl⟩
theorem s_par3 {i j l : Nat} {fi fj fl : Bool} {y z w : Str} {d : Expr} {px py pz pt : Pos} {kt k2 : Nat} {pt2 : Pos} (hc : X.calm = true) (hN : X.N.Nodup) (hi : X.N[i]? = some y) (hj : X.N[j]? = some z) (hl : X.N[l]? = some w) (hij : i ≠ j) (hil : i ≠ l) (hjl : j ≠ l)
    (hx : X.env.scope.names.lookup y = some .local) (hy : X.env.scope.names.lookup z = some .local) (hz : X.env.scope.names.lookup w = some .local)
    (hw : swappedStores [.Tuple [.Name y px, .Name z py, .Name w pz] kt pt] (.Tuple [a, b, d] k2 pt2) X.env = pure (some [y, z, w])) (h : PA X [a, b, d] (okPs X.K c Wx exc [(i, fi), (j, fj), (l, fl)] (evs F .frz as))) :
    PS X (.Assign [.Tuple [.Name y px, .Name z py, .Name w pz] kt pt] (.Tuple [a, b, d] k2 pt2) pos) (okS X.K c Wx exc (ex F Wf (.par [(i, fi), (j, fj), (l, fl)] as))) :=
  (ps_par3 hc hN hi hj hl hij hil hjl hx hy hz h hw).imp fun E σ H p => par_read p fun vs H' W' dr env ds env' hl mv m he q => by
    obtain ⟨v, w, u, rfl⟩ := len3 hl
    exact ⟨v, w, u, rfl, q H' W' (par_end mv he m) GrS.refl⟩
/-- the names of several targets, one by one -/
inductive NmsOk (X : Cx) : List Expr → List (Nat × Bool) → Prop
  | nil : NmsOk X [] []
  | cons {i : Nat} {b : Bool} {y : Str} {p : Pos} {es : List Expr} {ts : List (Nat × Bool)} : X.N[i]? = some y → Loc X.env.scope y → (X.fn y = true ∨ X.env.scope.names.lookup y = some .local) → NmsOk X es ts → NmsOk X (.Name y p :: es) ((i, b) :: ts)
theorem NmsOk.facts : ∀ {es : List Expr} {ts : List (Nat × Bool)}, NmsOk X es ts → (assignEach es X.env).length = ts.length ∧ (assignEach es X.env).findIdx? (·.1) = none ∧ (∀ e ∈ assignEach es X.env, e.1 = false)
  | _, _, .nil => ⟨rfl, rfl, fun e h => by cases h⟩
  | _, _, .cons (y := y) (p := p) (es := es) h1 h2 h3 t => by
    obtain ⟨a1, a2, a3⟩ := NmsOk.facts t
    have e : assignEach (.Name y p :: es) X.env = (false, assign (.Name y p) X.env) :: assignEach es X.env := rfl
    rw [e]
    refine ⟨by simp [a1], ?_, fun q hq => ?_⟩
    · rw [List.findIdx?_cons]
      simp [a2]
    · rcases List.mem_cons.mp hq with rfl | hq
      · rfl
      · exact a3 q hq
theorem pgs_nms (hN : X.N.Nodup) : ∀ {es : List Expr} {ts : List (Nat × Bool)}, NmsOk X es ts → PGs X es (fun vs σ H Q => vs.length = ts.length ∧ Q (parσ ts vs σ) H)
  | _, _, .nil => pgs_nil.imp fun vs σ H Q ⟨h, q⟩ => by
    cases vs with
    | nil => exact ⟨rfl, q⟩
    | cons _ _ => cases h
  | _, _, .cons h1 h2 h3 t => (pgs_cons (pg_name hN h1 h2 h3) (pgs_nms hN t) rfl).imp fun vs σ H Q ⟨h, q⟩ => by
    cases vs with
    | nil => cases h
    | cons v vs => exact ⟨v, vs, rfl, by simpa using h, q⟩
theorem s_parT {ns : List Expr} {kt k2 : Nat} {pt pt2 : Pos} (hc : X.calm = true) (hN : X.N.Nodup) (hz : ts.length ≤ sizeLine) (hns : NmsOk X ns ts) (hw : swappedStores [.Tuple ns kt pt] (.Tuple es k2 pt2) X.env = pure none) (h : PA X es (okPs X.K c Wx exc ts (evs F .frz as))) :
    PS X (.Assign [.Tuple ns kt pt] (.Tuple es k2 pt2) pos) (okS X.K c Wx exc (ex F Wf (.par ts as))) :=
  (ps_asg (pe_tup h) (pg_tup hc (pgs_nms hN hns) hns.facts.1 hns.facts.2.1) rfl hw rfl).imp fun E σ H p => par_read p fun vs H' W' dr env ds env' hl mv m he q => by
    refine ⟨by omega, fun p hp => ⟨p, vs, rfl, .inl (.inl upd_same), by omega, by omega, ?_⟩⟩
    have g : GrE c H' (upd H' p (.tup vs)) := GrE.same m.dr.a0 (same_upd hp)
    have m' : Mt X.K c ⟨env, dr⟩ σ (upd H' p (.tup vs)) W' := m.up g (m.dr.same (same_upd hp))
    exact q _ W' (par_end (mv.up (GrM.of m.wa g)) he m') (g.st m.wa)

/-! ### loops -/
def tnF (g : S → Out Fl) (t : Tg) : D → S → Out Fl := fun x s => match tgo t x s.env with
  | some env => g { s with env := env }
  | none => .stk
theorem forGo_step {K : PySem.W.Frag} {E : Ends} {W : Addr → Prop} {H : Hp} {tn : D → S → Out Fl} {x : D} {xs : List D} {s : S} {P : L2.St → Hp → Prop} (h : PoS K c Wx exc E W H (forGo tn (x :: xs) s))
    (hP : ∀ s2 σ2 H2 W2, Mt K c s2 σ2 H2 W2 → GrS W H W2 H2 → PoS K c Wx exc E W2 H2 (forGo tn xs s2) → P σ2 H2) : PoS K c Wx exc { E with nx := P, ct := P, bk := E.nx } W H (tn x s) := by
  have h : PoS K c Wx exc E W H (match tn x s with
    | .ok .nx s' => forGo tn xs s'
    | .ok .ct s' => forGo tn xs s'
    | .ok .bk s' => .ok .nx s'
    | .ok (.rt d) s' => .ok (.rt d) s'
    | .err e s' => .err e s'
    | .stk => .stk) := h
  cases hr : tn x s with
  | stk => rw [hr] at h; exact h
  | err e s' => rw [hr] at h; exact h
  | ok f s' =>
    rw [hr] at h
    cases f with
    | nx => exact fun σ' H' W' m g => hP s' σ' H' W' m g (PoS.gr g h)
    | ct => exact fun σ' H' W' m g => hP s' σ' H' W' m g (PoS.gr g h)
    | bk => exact h
    | rt d => exact h
theorem s_for (hp : PassesOwn (model X.prog X.w) X.A X.env X.xe) (hc : X.calm = true) (hs : ∀ x, foldedSetIterable iter X.env x = pure x) (hi : TriI X F c Wx exc tg iter it) (hg : PG X tg (gOk X.K c t)) (hb : TrSs X F Wf c Wx exc sts xs) :
    PS X (.For tg iter sts [] pos) (okS X.K c Wx exc (ex F Wf (.for t it xs))) :=
  (ps_for hp hc hi.fz hg hb hs).imp fun E σ H ⟨⟨env, dr⟩, W, m, p⟩ => by
    refine ⟨env, dr, W, m, (PoS.ofE (k := forGo (tnF (exs F Wf xs) t)) m p).mono fun J H1 ⟨ds, dr1, g1, e1, wk, p1⟩ => ?_⟩
    have m1 := m.up g1 e1
    obtain ⟨hz, G, Y, w, hw⟩ := wk
    refine for_it w (fun i σ' H' => ∃ s' W', Mt X.K c s' σ' H' W' ∧ GrS W H1 W' H' ∧ PoS X.K c Wx exc E W' H' (forGo (tnF (exs F Wf xs) t) (ds.drop i) s')) ⟨⟨env, dr1⟩, W, m1, GrS.refl, p1⟩ (fun i σ' H' hi ⟨s', W', m', g', _⟩ => (hw W' H' g').1)
      (fun i v σ' H' H'' hi ⟨s', W', m', g', p'⟩ y => ?_) (fun σ' H' ⟨s', W', m', g', p'⟩ => ?_)
    · obtain ⟨d, hd, nw⟩ := (hw W' H' g').2 i v H'' hi y
      rw [drop_at hd] at p'
      have gn : GrE c H' H'' := nw.gr m'.dr.a0
      obtain ⟨env', dr'⟩ := s'
      have m2 : Mt X.K c ⟨env', dr'⟩ σ' H'' W' := m'.up gn (m'.dr.same nw.same)
      have p2 := forGo_step (P := fun σ' H' => ∃ s' W', Mt X.K c s' σ' H' W' ∧ GrS W H1 W' H' ∧ PoS X.K c Wx exc E W' H' (forGo (tnF (exs F Wf xs) t) (ds.drop (i + 1)) s')) (PoS.gr (gn.st m'.wa) p') fun s2 σ2 H2 W2 m3 g3 p3 => ⟨s2, W2, m3, (g'.trans (gn.st m'.wa)).trans g3, p3⟩
      unfold tnF at p2
      cases h1 : tgo t d env' with
      | none => simp only [h1] at p2; exact False.elim p2
      | some env2 =>
        simp only [h1] at p2
        exact ⟨env', dr', W', d, env2, m2, nw.rep m'.dom, h1, fun σ2 m3 _ _ => ⟨⟨env2, dr'⟩, W', m3, p2⟩⟩
    · rw [List.drop_length] at p'
      exact p' σ' H' W' m' GrS.refl
theorem s_whl (hp : PassesOwn (model X.prog X.w) X.A X.env X.xe) (h : Tri X F c Wx exc e x) (hb : TrSs X F Wf c Wx exc sts xs) : PS X (.While e sts [] pos) (okS X.K c Wx exc (ex F Wf (.whl x xs))) :=
  (ps_while hp h.te hb).imp fun E σ H ⟨s, W, m, p⟩ => by
    refine ⟨fun n σ' H' => ∃ s' W', Mt X.K c s' σ' H' W' ∧ PoS X.K c Wx exc E W' H' (whlGo (fun s => ev F .tst x s.env s.dr) (fun s => exs F Wf xs s) n s'), ⟨Wf, s, W, m, p⟩, ?_⟩
    rintro n σ' H' ⟨⟨env, dr⟩, W', m', p'⟩
    cases n with
    | zero => exact False.elim p'
    | succ n =>
      have p' : PoS X.K c Wx exc E W' H' (match ev F .tst x env dr with
        | .ok (.bool true) dr => match exs F Wf xs ⟨env, dr⟩ with
          | .ok .nx s' => whlGo (fun s => ev F .tst x s.env s.dr) (fun s => exs F Wf xs s) n s'
          | .ok .ct s' => whlGo (fun s => ev F .tst x s.env s.dr) (fun s => exs F Wf xs s) n s'
          | .ok .bk s' => .ok .nx s'
          | .ok (.rt d) s' => .ok (.rt d) s'
          | .err e s' => .err e s'
          | .stk => .stk
        | .ok (.bool false) dr => .ok .nx ⟨env, dr⟩
        | .ok _ _ => .stk
        | .err e dr => .err e ⟨env, dr⟩
        | .stk => .stk) := p'
      refine ⟨env, dr, W', m', ?_⟩
      cases hr : ev F .tst x env dr with
      | stk => rw [hr] at p'; exact p'
      | err k dr1 =>
        rw [hr] at p'
        exact fun H1 g1 d1 cls dd x => p' σ' H1 W' (m'.up g1 d1) (g1.st m'.wa) cls dd x
      | ok d dr1 =>
        rw [hr] at p'
        intro b H1 g1 e1 r1
        cases (show d = .bool b from r1)
        have m1 := m'.up g1 e1
        cases b with
        | false => exact iteF (PoS.gr (g1.st m'.wa) p' _ _ _ m1 GrS.refl)
        | true =>
          refine iteT ⟨fun σ2 H2 => ∃ s' W', Mt X.K c s' σ2 H2 W' ∧ PoS X.K c Wx exc E W' H2 (whlGo (fun s => ev F .tst x s.env s.dr) (fun s => exs F Wf xs s) n s'), fun σ2 H2 q => ⟨n, Nat.lt_succ_self n, q⟩, ⟨env, dr1⟩, W', m1, ?_⟩
          have p2 := PoS.gr (g1.st m'.wa) p'
          dsimp only at p2
          cases hb : exs F Wf xs ⟨env, dr1⟩ with
          | stk => rw [hb] at p2; exact p2
          | err k s2 => rw [hb] at p2; exact p2
          | ok f s2 =>
            rw [hb] at p2
            cases f with
            | nx => exact fun σ2 H2 W2 m2 g2 => ⟨s2, W2, m2, PoS.gr g2 p2⟩
            | ct => exact fun σ2 H2 W2 m2 g2 => ⟨s2, W2, m2, PoS.gr g2 p2⟩
            | bk => exact p2
            | rt d => exact p2
end
end Ly

set_option Elab.async false
set_option linter.all false
set_option maxRecDepth 100000
set_option maxHeartbeats 2000000
/-! Ly: dict displays, pop, d[k] = v. -/
namespace Ly
open PySem PySem.Spec PyProof.Rows L2

/-- {k: v}, k a tuple -/
def tDispT (tk tv : TE) : TE := fun σ H Q => ∀ p, H p = none → tk σ (upd H p (.dT [])) fun x H1 => tv σ H1 fun y H2 => H2 p = some (.dT []) ∧ ∃ b k, x = .ref b ∧ H2 b = some (.tup (List.map kV k)) ∧ Q (.ref p) (upd H2 p (.dT [(k, y)]))
theorem pe_dispT {X : Cx} {pos : Pos} {k v : Expr} {tk tv : TE} (hu : X.A.units + 1 < cLine) (hk : PE X k tk) (hv : PE X v tv) : PE X (.Dict [some k] [v] pos) (tDispT tk tv) := by
  refine ⟨fun pins s σ H Q I q => ?_⟩
  have hn := I.hok.fresh (Nat.le_refl s.heap.objs.size)
  have I1 := I.laid (a := s.heap.objs.size) (o := .dT []) (h' := s.heap.push { cls := .type "dict", data := .dict #[] }) (t' := s.toks) (fun _ _ q => Heap.get?_push_of_some _ q) (Nat.le_refl _) (dt_empty s.heap I.big)
  rw [arm_eval_Dict, zip_pairTrees [some k] [v] X.env pos rfl rfl, dictDisplay_pairs (pairTrees [some k] [v] X.env pos) (by simp [pairTrees]) (by simp [pairTrees])]
  refine wpAny_bind (wpAny_standAt (wpAny_bind (wpAny_subDictH (knd := tupleKind (mixKind X.prog X.w)) (Q := fun d s' => wpAny (model X.prog X.w) X.A (pure (Value.ref d)) (EP X pins σ Q) X.xe s') (show X.A.units < cLine by omega) (by simp [pairTrees]) ?_)))
  refine pairTrees_cons_walk (thn (hk.run pins _ σ _ _ I1 (q _ hn)) fun u s1 ⟨x, H1, J1, rx, q1⟩ => thn (hv.run pins s1 σ H1 _ J1 q1) fun w2 s2 ⟨y, H2, J2, ry, e, b, ks, ex, eb, q2⟩ => pairTrees_nil_walk ?_)
  subst ex
  cases rx
  obtain ⟨z, hd, xs, r0, dd⟩ := dt_of J2.hok e
  cases r0
  refine ⟨[(ks, b, w2)], ⟨rfl, rfl, key_of J2.hok eb, trivial⟩, dd, fun h' tk dd' hs => wpAny_pure ?_⟩
  have ne : b ≠ s.heap.objs.size := fun z => by rw [z, e] at eb; cases eb
  have he : ∃ q, h'.get? s.heap.objs.size = some q := let ⟨q, _, _, hq, _⟩ := dd'; ⟨q, hq⟩
  obtain ⟨qo, es, ep, hq, h2, h3, h4, _, h5⟩ := dd'
  refine ⟨.ref s.heap.objs.size, upd H2 s.heap.objs.size (.dT [(ks, y)]), d_write (t' := tk) J2 (by rw [e]; exact True.intro) hs he ⟨by rw [sizeLine_eq]; show 1 ≤ 16777216; omega, hd, [(ks, b, w2)], .cons ⟨rfl, by rw [upd_ne ne]; exact eb, ry⟩ .nil, qo, es, ep, hq, h2, h3, h4, h5⟩, rfl, q2⟩

section
variable {X : Cx} {F : Nat → List D → Dr → Oc} {Wf : Nat} {c : Cc} {Wx : WX} {exc : Exc} {e a b tg : Expr} {es : List Expr} {st : Stmt} {x x1 x2 : Ex} {t : Tg} {pos : Pos}
theorem Po.toM {W : Addr → Prop} {σ : L2.St} {env : List Sl} {r : R D} {H : Hp} {Q : VK} (h : Po c Wx exc (RepF X.K c) W σ r H Q) : PoM X.K c Wx exc false W σ env r H Q := by
  cases r with
  | ok d dr => 
    intro v H' W' m g mv
    have s : Same (hid W' H') (hid W H') := hid_mono g.w fun b o _ h => h
    refine h v H' g.e ?_ (Rep.mono s (mv.fz rfl))
    obtain ⟨ca, e1, e2⟩ := m.dr
    exact ⟨ca, e1, s _ _ e2⟩
  | err e dr => exact h
  | stk => exact h
theorem Tri.of_pm (h : PE X e (okM X.K c Wx exc false (ev F .frz x))) (hr : ∀ m env dr, ev F m x env dr = (ev F .frz x env dr).bind (fin m)) (he : ∀ whole, isTrue e X.env whole = (do let v ← whole; standAt e.pos; holding [v] (truthy v))) : Tri X F c Wx exc e x :=
  .of_raw (raw := ev F .frz x) (h.imp fun σ H Q ⟨env, dr, W, m, p⟩ => ⟨env, dr, W, m, Po.toM p⟩) hr he
/-- a new object, held or not -/
theorem PoM.newB {b : Bool} {W : Addr → Prop} {σ : L2.St} {env : List Sl} {dr dr1 : Dr} {H H' : Hp} {Q : VK} {d : D} {o : HO} {p : Addr} (m : Mt X.K c ⟨env, dr⟩ σ H W) (h : PoM X.K c Wx exc b W σ env (.ok d dr1) H Q) (hp : H p = none) (g : GrE c H H') (dk : DrOk H' c.a0 (WD W p) dr1) (e : H' p = some o) (hc : Cont X.K c.a0 (hid (WD W p) H') o d) : Q (.ref p) H' := by
  cases b with
  | true => exact PoM.new m h hp g dk e hc
  | false =>
    have s : Same (hid (WD W p) H') (hid W H') := hid_mono (fun _ h => .inl h) fun b o _ h => h
    refine PoM.of_fz m h (.ref p) H' g ?_ (.mu (hid_some (fun w => m.dom p w hp) e) (Cont.mono s hc))
    obtain ⟨ca, e1, e2⟩ := dk
    exact ⟨ca, e1, s _ _ e2⟩
theorem pm_dct0 (b t : Bool) : PE X (.Dict [] [] pos) (okM X.K c Wx exc b (ev F .frz (.dct0 t))) := by
  have go : ∀ (o : HO) {σ : L2.St} {H : Hp} {Q : VK}, Cont X.K c.a0 (fun _ => none) o (dmk t []) → okM X.K c Wx exc b (ev F .frz (.dct0 t)) σ H Q → ∀ p, H p = none → Q (.ref p) (upd H p o) := by
    intro o σ H Q hc ⟨env, dr, W, m, p⟩ q hq
    have s : Same (hid W H) (hid (WD W q) (upd H q o)) := fun b o' h => by
      obtain ⟨h1, h2⟩ := hid_of h
      have nb : b ≠ q := fun e => by rw [e, hq] at h2; cases h2
      exact hid_some (fun w => w.elim h1 nb) (same_upd hq _ _ h2)
    obtain ⟨ca, e1, e2⟩ := m.dr
    exact PoM.newB m (show PoM X.K c Wx exc b W σ env (.ok (dmk t []) dr) H Q from p) hq (GrE.same m.dr.a0 (same_upd hq)) ⟨ca, same_upd hq _ _ e1, s _ _ e2⟩ upd_same (Cont.mono (fun _ _ h => by cases h) hc)
  cases t with
  | false => exact pe_dnewK.imp fun σ H Q p => go (.dK []) (.dK rfl .nil) p
  | true => exact pe_dnewT.imp fun σ H Q p => go (.dT []) (.dT rfl .nil) p
/-- a pair's reading ahead of the dict -/
theorem dct1_read {b t : Bool} {o0 : HO} {σ : L2.St} {H : Hp} {Q : VK} (h : okM X.K c Wx exc b (ev F .frz (.dct1 t x1 x2)) σ H Q) :
    ∀ p, H p = none → okR X.K c Wx exc (RepF X.K c) (ev F .frz x1) σ (upd H p o0) fun vx H1 => okR X.K c Wx exc (RepF X.K c) (ev F .frz x2) σ H1 fun vy H2 => H2 p = some o0 ∧ ∃ W1 d1 d2, RepB X.K c W1 H2 vx d1 ∧ keyOk t d1 = true ∧ (∀ o, (∀ F', Rep X.K c.a0 F' vy d2 → Cont X.K c.a0 F' o (dmk t [(d1, d2)])) → Q (.ref p) (upd H2 p o)) := by
  intro p hp
  obtain ⟨env, dr, W, m, h⟩ := h
  have h : PoM X.K c Wx exc b W σ env ((ev F .frz x1 env dr).bind fun x dr => (ev F .frz x2 env dr).bind fun y dr => lift .frz (if keyOk t x then some (dmk t [(x, y)]) else none) dr) H Q := h
  obtain ⟨ms, nd, gD, ne⟩ := m.hide (o := o0) hp
  have sw : ∀ {H' : Hp}, Same (hid (WD W p) H') (hid W H') := fun {H'} => hid_mono (fun _ h => .inl h) fun b o _ h => h
  have dw : ∀ {H' : Hp} {dr' : Dr}, DrOk H' c.a0 (WD W p) dr' → DrOk H' c.a0 W dr' := fun {H' dr'} ⟨ca, e1, e2⟩ => ⟨ca, e1, sw _ _ e2⟩
  have g0 : GrE c H (upd H p o0) := GrE.same m.dr.a0 (same_upd hp)
  refine ⟨env, dr, WD W p, ms, ?_⟩
  cases e1 : ev F .frz x1 env dr with
  | stk => rw [e1] at h; exact h
  | err k dr1 => rw [e1] at h; exact fun H' g d => h H' (g0.trans g) (dw d)
  | ok d1 dr1 =>
    rw [e1] at h
    have h : PoM X.K c Wx exc b W σ env ((ev F .frz x2 env dr1).bind fun y dr => lift .frz (if keyOk t d1 then some (dmk t [(d1, y)]) else none) dr) H Q := h
    intro vx H1 g1 k1 r1
    refine ⟨env, dr1, WD W p, ms.up g1 k1, ?_⟩
    cases e2 : ev F .frz x2 env dr1 with
    | stk => rw [e2] at h; exact h
    | err k dr2 => rw [e2] at h; exact fun H' g d => h H' ((g0.trans g1).trans g) (dw d)
    | ok d2 dr2 =>
      rw [e2] at h
      have h : PoM X.K c Wx exc b W σ env (lift .frz (if keyOk t d1 then some (dmk t [(d1, d2)]) else none) dr2) H Q := h
      intro vy H2 g2 k2 r2
      split at h
      · rename_i hk
        have hH2 : H2 p = some o0 := g2.hp p _ ne (g1.hp p _ ne upd_same)
        have wa : WD W p c.a0 := .inl m.wa
        refine ⟨hH2, WD W p, d1, d2, .inl (Rep.mono (g2.hid wa) r1), hk, fun o ho => ?_⟩
        have s : Same (hid (WD W p) H2) (hid (WD W p) (upd H2 p o)) := fun b x h => by
          obtain ⟨h1, h2⟩ := hid_of h
          exact hid_some h1 (by rw [upd_ne fun z => h1 (.inr z)]; exact h2)
        have gE : GrE c H (upd H2 p o) := ⟨fun b x n h => by
          have nb : b ≠ p := fun z => by rw [z, hp] at h; cases h
          rw [upd_ne nb]
          exact g2.hp b x n (g1.hp b x n (g0.hp b x n h)), by rw [upd_ne (Ne.symm ne)]; exact k2.a0⟩
        obtain ⟨ca, z1, z2⟩ := k2
        exact PoM.newB m h hp gE ⟨ca, by rw [upd_ne (Ne.symm ne)]; exact z1, s _ _ z2⟩ upd_same (Cont.mono s (ho _ r2))
      · exact False.elim h
theorem pm_dct1 {k v : Expr} (b t : Bool) (hu : X.A.units + 128 < cLine) (hk : Tri X F c Wx exc k x1) (hv : Tri X F c Wx exc v x2) : PE X (.Dict [some k] [v] pos) (okM X.K c Wx exc b (ev F .frz (.dct1 t x1 x2))) := by
  cases t with
  | false =>
    refine (pe_disp (pps_cons hk.fz hv.fz pps_nil) rfl rfl (by simp) (by simp)).imp fun σ H Q h p hp => ?_
    obtain ⟨env, dr, W, m, q⟩ := dct1_read h p hp
    refine ⟨env, dr, W, m, q.mono fun vx H1 ⟨env1, dr1, W1, m1, q1⟩ => ⟨env1, dr1, W1, m1, q1.mono fun vy H2 ⟨e, W2, d1, d2, r1, hk1, q2⟩ => ⟨e, ?_⟩⟩⟩
    rcases r1.key hk1 with ⟨_, z, rfl, rfl⟩ | ⟨h, _⟩
    · exact ⟨[(z, vy)], rfl, by simp, q2 _ fun F' r => .dK (by rfl) (.one r)⟩
    · cases h
  | true =>
    refine (pe_dispT (by omega) hk.fz hv.fz).imp fun σ H Q h p hp => ?_
    obtain ⟨env, dr, W, m, q⟩ := dct1_read h p hp
    refine ⟨env, dr, W, m, q.mono fun vx H1 ⟨env1, dr1, W1, m1, q1⟩ => ⟨env1, dr1, W1, m1, q1.mono fun vy H2 ⟨e, W2, d1, d2, r1, hk1, q2⟩ => ⟨e, ?_⟩⟩⟩
    rcases r1.key hk1 with ⟨h, _⟩ | ⟨_, l, z, rfl, rfl, hl⟩
    · cases h
    · exact ⟨l, z, rfl, hl, q2 _ fun F' r => .dT (by rfl) (.one r)⟩
theorem tri_dct0 (t : Bool) : Tri X F c Wx exc (.Dict [] [] pos) (.dct0 t) := .of_pm (pm_dct0 false t) (fun m env dr => rfl) (fun _ => rfl)
theorem tri_dct1 {k v : Expr} (t : Bool) (hu : X.A.units + 128 < cLine) (hk : Tri X F c Wx exc k x1) (hv : Tri X F c Wx exc v x2) : Tri X F c Wx exc (.Dict [some k] [v] pos) (.dct1 t x1 x2) := by
  refine .of_pm (pm_dct1 false t hu hk hv) (fun m env dr => ?_) (fun _ => rfl)
  show (ev F .frz x1 env dr).bind _ = R.bind ((ev F .frz x1 env dr).bind _) _
  rw [R.bind_assoc]
  congr 1; funext d1 dr1
  show (ev F .frz x2 env dr1).bind _ = R.bind ((ev F .frz x2 env dr1).bind _) _
  rw [R.bind_assoc]
  congr 1; funext d2 dr2
  split
  · rfl
  · rfl
end
end Ly

namespace Ly
open PySem PySem.Spec PyProof.Rows L2
section
variable {X : Cx} {F : Nat → List D → Dr → Oc} {Wf : Nat} {c : Cc} {Wx : WX} {exc : Exc} {e a b tg : Expr} {es : List Expr} {st : Stmt} {x x1 x2 : Ex} {t : Tg} {pos : Pos}
theorem RepL.dropLast {K : PySem.W.Frag} {a0 : Addr} {F : Hp} {vs : List V} {ds : List D} (r : RepL K a0 F vs ds) : RepL K a0 F vs.dropLast ds.dropLast := by
  rw [List.dropLast_eq_take, List.dropLast_eq_take, r.length]
  exact r.take _
theorem RepL.eraseIdx {K : PySem.W.Frag} {a0 : Addr} {F : Hp} {vs : List V} {ds : List D} (r : RepL K a0 F vs ds) (k : Nat) : RepL K a0 F (vs.eraseIdx k) (ds.eraseIdx k) := by
  rw [List.eraseIdx_eq_take_drop_succ, List.eraseIdx_eq_take_drop_succ]
  exact (r.take _).append (r.drop _)
/-- behind a pop -/
def PopEnd (X : Cx) (c : Cc) (Wx : WX) (exc : Exc) (t : Tg) (E : Ends) (σ : L2.St) (v : V) (H : Hp) : Prop := ∃ env dr W d, Mt X.K c ⟨env, dr⟩ σ H W ∧ Rep X.K c.a0 (hid W H) v d ∧ PoS X.K c Wx exc E W H (kAsg t d ⟨env, dr⟩)
theorem pop_end {i : Nat} {E : Ends} {W : Addr → Prop} {σ : L2.St} {H : Hp} {env : List Sl} {dr : Dr} {ds r : List D} {d : D} {v : V} {a : Addr} {rs : List V} (m : Mt X.K c ⟨env, dr⟩ σ H W) (hk : env[i]? = some (.ow (.list ds))) (hs : σ[i]? = some (some (.ref a)))
    (rv : Rep X.K c.a0 (hid W H) v d) (rr : RepL X.K c.a0 (hid W H) rs r) (w : W a) (p : PoS X.K c Wx exc E W H (kAsg t d ⟨env.set i (.ow (.list r)), dr⟩)) : PopEnd X c Wx exc t E σ v (upd H a (.lst rs)) := by
  obtain ⟨m2, g2⟩ := m.mut (o := .lst rs) (d' := .list r) hk hs (.lst rr)
  exact ⟨_, dr, W, d, m2, Rep.mono g2.hid rv, PoS.gr g2 p⟩
theorem pop_read0 {i : Nat} {E : Ends} {σ : L2.St} {H : Hp} {Q : VK} (hq : ∀ v H', PopEnd X c Wx exc t E σ v H' → Q v H') (h : okS X.K c Wx exc (ex F Wf (.pop t i .none)) E σ H) :
    ∃ v, σ[i]? = some (some v) ∧ tyV X.K "list" v H ∧ rPop v [] H Q := by
  obtain ⟨⟨env, dr⟩, W, m, p⟩ := h
  have p : PoS X.K c Wx exc E W H (match env[i]? with
    | some (.ow (.list ds)) => (match popD ds none with
      | some (d, r) => match tgo t d (env.set i (.ow (.list r))) with
        | some env => .ok .nx (⟨env, dr⟩ : S)
        | none => .stk
      | none => .stk)
    | _ => .stk) := p
  split at p
  · rename_i ds hk
    obtain ⟨⟨a, o, hs, ne, w, ha, hc⟩, q2⟩ := m.sl i _ hk
    cases hc with
    | @lst vs _ rv =>
      refine ⟨.ref a, hs, .inl ⟨rfl, vs, .inl (.inl ha)⟩, ?_⟩
      split at p
      · rename_i d r hp
        obtain ⟨d', hd, e⟩ := Option.map_eq_some_iff.mp (show ds.getLast?.map (fun d => (d, ds.dropLast)) = some (d, r) from hp)
        cases e
        rw [List.getLast?_eq_getElem?] at hd
        obtain ⟨u, hu, ru⟩ := rv.getD' hd
        exact ⟨a, vs, u, rfl, rfl, ha, by rw [rv.length]; exact hu, hq _ _ (pop_end m hk hs ru rv.dropLast w p)⟩
      · exact False.elim p
  · exact False.elim p
theorem pop_read1 {i : Nat} {E : Ends} {σ : L2.St} {H : Hp} {Q : VK} {xk : Ex} (hq : ∀ v H', PopEnd X c Wx exc t E σ v H' → Q v H') (h : okS X.K c Wx exc (ex F Wf (.pop t i (.some xk))) E σ H) :
    ∃ v, σ[i]? = some (some v) ∧ tyV X.K "list" v H ∧ okR X.K c Wx exc (RepB X.K c) (ev F .bor xk) σ H fun y H1 => rPopAt v [y] H1 Q := by
  obtain ⟨⟨env, dr⟩, W, m, p⟩ := h
  have p : PoS X.K c Wx exc E W H (match env[i]? with
    | some (.ow (.list ds)) => (((ev F .bor xk env dr).bind fun d dr => match d with
      | .int i => R.ok (some i) dr
      | _ => .stk).toO env fun j s => match popD ds j with
      | some (d, r) => match tgo t d (s.env.set i (.ow (.list r))) with
        | some env => .ok .nx { s with env := env }
        | none => .stk
      | none => .stk)
    | _ => .stk) := p
  split at p
  · rename_i ds hk
    obtain ⟨⟨a, o, hs, ne, w, ha, hc⟩, q2⟩ := m.sl i _ hk
    cases hc with
    | @lst vs _ rv =>
      refine ⟨.ref a, hs, .inl ⟨rfl, vs, .inl (.inl ha)⟩, env, dr, W, m, ?_⟩
      cases er : ev F .bor xk env dr with
      | stk => rw [er] at p; exact False.elim p
      | err k dr1 => 
        rw [er] at p
        exact fun H1 g1 d1 cls dd x => p σ H1 W (m.up g1 d1) (g1.st m.wa) cls dd x
      | ok d dr1 =>
        rw [er] at p
        intro y H1 g1 e1 r1
        cases d with
        | int j =>
          cases r1.int
          have p : PoS X.K c Wx exc E W H (match popD ds (some j) with
            | some (d, r) => match tgo t d (env.set i (.ow (.list r))) with
              | some env => .ok .nx (⟨env, dr1⟩ : S)
              | none => .stk
            | none => .stk) := p
          split at p
          · rename_i d r hp
            unfold popD at hp
            dsimp only at hp
            split at hp
            · rename_i hb
              rw [Bool.and_eq_true] at hb
              split at hp
              · rename_i k hk2
                obtain ⟨d', hd, e⟩ := Option.map_eq_some_iff.mp hp
                cases e
                have rv' := RepL.mono (g1.hid m.wa) rv
                obtain ⟨u, hu, ru⟩ := rv'.getD' hd
                exact ⟨a, vs, j, k, u, rfl, rfl, g1.hp a _ ne ha, of_decide_eq_true hb.1, of_decide_eq_true hb.2, by rw [rv.length]; exact hk2, hu, hq _ _ (pop_end (m.up g1 e1) hk hs ru (rv'.eraseIdx k) w (PoS.gr (g1.st m.wa) p))⟩
              · cases hp
            · cases hp
          · exact False.elim p
        | _ => exact False.elim p
  · exact False.elim p
/-- x = l.pop() -/
theorem pe_pop0 {i : Nat} {y : Str} {p1 apos cpos : Pos} (hN : X.N[i]? = some y) (hv : Vis X.env.scope y) (hd : (y == ("__debug__" : Str)) = false) (hcd : (y == ("__classdict__" : Str)) = false) (hline : (apos.endLine == cpos.line) = true) :
    PE X (.Call (.Attribute (.Name y p1) "pop" apos) [] [] cpos) (fun σ H Q => ∃ v, σ[i]? = some (some v) ∧ tyV X.K "list" v H ∧ rPop v [] H Q) :=
  pe_bm0 (cpos := cpos) (apos := apos) PySem.F.plainAttrs_list PySem.F.slot_list_pop PySem.F.type_list_pop mt_pop (pe_var (pos := p1) hN hv hd hcd) rfl hline
theorem pe_pop1 {i : Nat} {y : Str} {p1 apos cpos : Pos} {xk : Ex} (hN : X.N[i]? = some y) (hv : Vis X.env.scope y) (hd : (y == ("__debug__" : Str)) = false) (hcd : (y == ("__classdict__" : Str)) = false) (hline : (apos.endLine == cpos.line) = true) (hp : Plain [e]) (hk : Tri X F c Wx exc e xk) :
    PE X (.Call (.Attribute (.Name y p1) "pop" apos) [e] [] cpos) (fun σ H Q => ∃ v, σ[i]? = some (some v) ∧ tyV X.K "list" v H ∧ okR X.K c Wx exc (RepB X.K c) (ev F .bor xk) σ H fun y H1 => rPopAt v [y] H1 Q) := by
  have hfew : ((backTo cpos (starEach [e] X.env)).all (fun x => !x.1) && (backToKw cpos (keywordEach [] X.env)).all (fun x => x.1.isSome)
      && decide ([e].length + ([] : List Keyword).length + (if ([] : List Keyword).isEmpty then 0 else 1) < 30)) = true := by
    rw [hp.all]; rfl
  exact (pe_bm (cpos := cpos) (apos := apos) PySem.F.plainAttrs_list PySem.F.slot_list_pop PySem.F.type_list_pop mt_popAt (pe_var (pos := p1) hN hv hd hcd) (pa_cons hk.bo pa_nil (hp.head _)) rfl hfew hline (hp.head _) rfl).imp fun σ H Q h => h
/-- a pop as a value, behind which a store stands -/
structure PopE (X : Cx) (F : Nat → List D → Dr → Oc) (Wf : Nat) (c : Cc) (Wx : WX) (exc : Exc) (e : Expr) (i : Nat) (k : Exo) : Prop where
  run : ∀ t : Tg, ∃ T : TE, PE X e T ∧ ∀ E σ H Q, okS X.K c Wx exc (ex F Wf (.pop t i k)) E σ H → (∀ v H', PopEnd X c Wx exc t E σ v H' → Q v H') → T σ H Q
theorem popE0 {i : Nat} {y : Str} {p1 apos cpos : Pos} (hN : X.N[i]? = some y) (hv : Vis X.env.scope y) (hd : (y == ("__debug__" : Str)) = false) (hcd : (y == ("__classdict__" : Str)) = false) (hline : (apos.endLine == cpos.line) = true) :
    PopE X F Wf c Wx exc (.Call (.Attribute (.Name y p1) "pop" apos) [] [] cpos) i .none := ⟨fun t => ⟨_, pe_pop0 hN hv hd hcd hline, fun E σ H Q h hq => pop_read0 hq h⟩⟩
theorem popE1 {i : Nat} {y : Str} {p1 apos cpos : Pos} {xk : Ex} (hN : X.N[i]? = some y) (hv : Vis X.env.scope y) (hd : (y == ("__debug__" : Str)) = false) (hcd : (y == ("__classdict__" : Str)) = false) (hline : (apos.endLine == cpos.line) = true) (hp : Plain [e]) (hk : Tri X F c Wx exc e xk) :
    PopE X F Wf c Wx exc (.Call (.Attribute (.Name y p1) "pop" apos) [e] [] cpos) i (.some xk) := ⟨fun t => ⟨_, pe_pop1 hN hv hd hcd hline hp hk, fun E σ H Q h hq => pop_read1 hq h⟩⟩
/-- stored to one name -/
theorem s_pop_nm {i j : Nat} {z : Str} {pz : Pos} {k : Exo} (hNd : X.N.Nodup) (hi : X.N[j]? = some z) (hx : Loc X.env.scope z) (hf : X.fn z = true ∨ X.env.scope.names.lookup z = some .local) (hs : swapsWith e (some (.Name z pz)) pos.line X.env = pure false)
    (h : PopE X F Wf c Wx exc e i k) : PS X (.Assign [.Name z pz] e pos) (okS X.K c Wx exc (ex F Wf (.pop (.nm j) i k))) := by
  obtain ⟨T, hT, q⟩ := h.run (.nm j)
  exact (ps_set hNd hi hx hT hs hf).imp fun E σ H p => q E σ H _ p fun v H' ⟨env, dr, W, d, m, r, p⟩ => set_end m r p
/-- stored to a target -/
theorem s_pop_tg {i : Nat} {k : Exo} (hs : swapsWithSole [tg] e pos.line X.env = pure false) (hw : swappedStores [tg] e X.env = pure none) (h1 : (assignEach [tg] X.env).map (·.2) = [assign tg X.env]) (hg : PG X tg (gOk X.K c t))
    (h : PopE X F Wf c Wx exc e i k) : PS X (.Assign [tg] e pos) (okS X.K c Wx exc (ex F Wf (.pop t i k))) := by
  obtain ⟨T, hT, q⟩ := h.run t
  exact (ps_asg hT hg hs hw h1).imp fun E σ H p => q E σ H _ p fun v H' ⟨env, dr, W, d, m, r, p⟩ => asg_end m r p
end
end Ly

set_option Elab.async false
set_option linter.all false
set_option maxRecDepth 100000
set_option maxHeartbeats 2000000
/-! Ly: dict comprehensions. -/
namespace Ly
open PySem PySem.Spec PyProof.Rows L2
theorem dcP_snoc (r : List D) (k v : D) : dcP (r ++ [.tuple [k, v]]) = putD (dcP r) k v := by unfold dcP; rw [List.foldl_append]; rfl
section
variable {K : PySem.W.Frag} {c : Cc} {exc : Exc} {σ : L2.St} {H : Hp} {W : Addr → Prop} {D : Addr} {env : List Sl} {dr dr' : Dr}
theorem tnD_step {tg : Tg} {own : List Nat} {tst kel vel : List Sl → Dr → R Ly.D} {x : V} {d : Ly.D} {r r0 : List Ly.D} {acc : List (Key × V)} {Nx : Hp → Prop} (ho : ∀ i ∈ tgN tg, i ∈ own)
    (m : Mt K c ⟨env, dr⟩ σ H (WD W D)) (wa : W c.a0) (nd : NoD env σ D) (gD : c.G D = none) (ne : D ≠ c.a0) (hD : H D = some (.dK acc)) (ra : PR keyD K c.a0 (hid (WD W D) H) acc (dcP r0)) (hz : r ≠ [] → acc.length < sizeLine)
    (rx : Rep K c.a0 (hid (WD W D) H) x d) (h : tn1 tg own env tst (pairE kel vel) d dr = some (r, dr'))
    (hN : ∀ H' acc', GrD c D H H' → DrOk H' c.a0 (WD W D) dr' → H' D = some (.dK acc') → PR keyD K c.a0 (hid (WD W D) H') acc' (dcP (r0 ++ r)) → acc'.length ≤ acc.length + 1 → Nx H') :
    gOk K c tg x (wipe σ own) H fun σ2 H2 => wipe σ2 own = wipe σ own ∧ okR K c Wx0 exc RepX tst σ2 H2 fun b H3 =>
      if b = true then okR K c Wx0 exc (RepF K c) kel σ2 H3 fun y H4 => okR K c Wx0 exc (RepF K c) vel σ2 H4 fun z H5 => ∃ kvs k, y = kV k ∧ H5 D = some (.dK kvs) ∧ kvs.length < sizeLine ∧ Nx (upd H5 D (.dK (putK kvs k z))) else Nx H3 := by
  unfold tn1 at h
  cases h1 : tgo tg d (wipeE env own) with
  | none => simp only [h1] at h; cases h
  | some env' =>
    simp only [h1] at h
    refine ⟨wipeE env own, dr, WD W D, d, env', m.wipe own, rx, h1, fun σ' m' hl hk => ⟨?_, ?_⟩⟩
    · have e1 : wipe σ' own = wipe (wipe σ own) own := wipe_eq hl.symm fun i hi => hk i fun z => hi (ho i z)
      have e2 : wipe (wipe σ own) own = wipe σ own := by
        refine wipe_eq (wipe_length σ own).symm fun i hi => ?_
        have : ∀ vs : List Nat, i ∉ vs → (wipe σ vs)[i]? = σ[i]? := by
          intro vs
          induction vs with
          | nil => intro _; rfl
          | cons v vs ih =>
            intro hv
            simp only [List.mem_cons, not_or] at hv
            show ((wipe σ vs).set v none)[i]? = _
            rw [List.getElem?_set_ne fun z => hv.1 z.symm, ih hv.2]
        exact this own hi
      rw [e1, e2]
    · have hDn : H D ≠ none := by rw [hD]; simp
      cases ht : tst env' dr with
      | err e q => simp only [ht] at h; cases h
      | stk => simp only [ht] at h; cases h
      | ok v dr1 =>
        simp only [ht] at h
        refine ⟨env', dr, WD W D, m', ?_⟩
        rw [ht]
        intro b H3 g3 e3 r3
        cases (show v = .bool b from r3)
        have m3 := m'.up g3 e3
        have hD3 : H3 D = some (.dK acc) := g3.hp D _ ne hD
        cases b with
        | false =>
          cases h
          exact iteF (hN H3 acc (g3.d hDn ne) e3 hD3 (by rw [List.append_nil]; exact PR.mono (g3.hid m.wa) ra) (Nat.le_succ _))
        | true =>
          refine iteT ⟨env', dr1, WD W D, m3, ?_⟩
          unfold pairE at h
          cases he : kel env' dr1 with
          | err e q => simp only [he] at h; cases h
          | stk => simp only [he] at h; cases h
          | ok y dr2 =>
            intro yv H4 g4 e4 r4
            have m4 := m3.up g4 e4
            refine ⟨env', dr2, WD W D, m4, ?_⟩
            simp only [he] at h
            have h : (match (vel env' dr2).bind fun v dr => if isKey0 y then R.ok (PyData.tuple [y, v]) dr else .stk with
              | .ok d dr => some ([d], dr)
              | _ => none) = some (r, dr') := h
            cases hv : vel env' dr2 with
            | err e q => rw [hv] at h; cases h
            | stk => rw [hv] at h; cases h
            | ok z dr3 =>
              rw [hv] at h
              have h : (match (if isKey0 y then R.ok (PyData.tuple [y, z]) dr3 else .stk : R Ly.D) with
                | .ok d dr => some ([d], dr)
                | _ => none) = some (r, dr') := h
              by_cases hk0 : isKey0 y = true
              · rw [if_pos hk0] at h
                cases h
                intro zv H5 g5 e5 r5
                have hD5 : H5 D = some (.dK acc) := g5.hp D _ ne (g4.hp D _ ne hD3)
                obtain ⟨k, hk1, hk2⟩ : ∃ k, y = keyD k ∧ yv = kV k := by
                  rcases (RepB.key (c := c) (W := WD W D) (H := H4) (t := false) (.inl r4) hk0) with ⟨_, k, e1, e2⟩ | ⟨h, _⟩
                  · exact ⟨k, e1, e2⟩
                  · cases h
                subst hk1 hk2
                have same : Same (hid (WD W D) H5) (hid (WD W D) (upd H5 D (.dK (putK acc k zv)))) := fun b o q => by
                  obtain ⟨q1, q2⟩ := hid_of q
                  exact hid_some q1 (by rw [upd_ne fun e => q1 (.inr e)]; exact q2)
                refine ⟨acc, k, rfl, hD5, hz (by simp), hN _ (putK acc k zv) ((((g3.trans g4).trans g5).d hDn ne).upd ne) (e5.upd ne) upd_same ?_ (length_putK _ _ _)⟩
                rw [dcP_snoc]
                exact PR.put keq_keyD k (Rep.mono same r5) (PR.mono same (PR.mono (g5.hid m.wa) (PR.mono (g4.hid m.wa) (PR.mono (g3.hid m.wa) ra))))
              · rw [if_neg hk0] at h; cases h
end
/-- over any walk -/
theorem dc_it {J : It} {n : Nat} {G : Hp → Prop} {Y : Nat → Hp → V → Hp → Prop} (w : Walk J n G Y) {g : TG} {tt : TT} {tk tv : TE} {vs : List Nat} {σ : L2.St} {H1 : Hp} {D : Addr} {Qd : Hp → Prop} (Pv : Nat → Hp → Prop) (h0 : Pv 0 (upd H1 D (.dK []))) (hG : ∀ i H, i ≤ n → Pv i H → G H)
    (hs : ∀ i x H H', i < n → Pv i H → Y i H x H' → g x (wipe σ vs) H' fun σ2 H2 => wipe σ2 vs = wipe σ vs ∧ tt σ2 H2 fun b H3 =>
      if b = true then tk σ2 H3 fun y H4 => tv σ2 H4 fun z H5 => ∃ kvs k, y = kV k ∧ H5 D = some (.dK kvs) ∧ kvs.length < sizeLine ∧ Pv (i + 1) (upd H5 D (.dK (putK kvs k z))) else Pv (i + 1) H3) (hd : ∀ H, Pv n H → Qd H) :
    ∃ W : Nat → Nat → Hp → Prop, (∃ m, W 0 m (upd H1 D (.dK []))) ∧ ∀ i m H, W i m H →
      (J.stop i H ∧ Qd H) ∨ (J.go i H ∧ ∃ Nx : Hp → Prop, (∀ H', Nx H' → ∃ m', m' < m ∧ W (i + 1) m' H') ∧ ∀ x H', J.yld i H x H' → g x (wipe σ vs) H' fun σ2 H2 => wipe σ2 vs = wipe σ vs ∧ tt σ2 H2 fun b H3 =>
        if b = true then tk σ2 H3 fun y H4 => tv σ2 H4 fun z H5 => ∃ kvs k, y = kV k ∧ H5 D = some (.dK kvs) ∧ kvs.length < sizeLine ∧ Nx (upd H5 D (.dK (putK kvs k z))) else Nx H3) := by
  refine ⟨fun i m H => m = n - i ∧ i ≤ n ∧ Pv i H, ⟨n, by simp, Nat.zero_le _, h0⟩, ?_⟩
  rintro i m H ⟨rfl, hi, p⟩
  have q := hG i H hi p
  by_cases hlt : i < n
  · exact .inr ⟨w.goes i H hlt q, Pv (i + 1), fun H' p' => ⟨n - (i + 1), by omega, rfl, hlt, p'⟩, fun x H' y => hs i x H H' hlt p (w.yields i H x H' hlt q y)⟩
  · have e : i = n := by omega
    subst e
    exact .inl ⟨w.stops H q, hd H p⟩
section
variable {K : PySem.W.Frag} {c : Cc} {exc : Exc} {σ : L2.St} {H : Hp} {W : Addr → Prop} {D : Addr} {env : List Sl} {dr dr' : Dr}
theorem GrE.of_o {H1 H : Hp} {o : HO} (hD : H1 D = Option.none) (g : GrD c D (upd H1 D o) H) : GrE c H1 H := ⟨fun b x n e => g.hp b x n (fun z => by rw [z, hD] at e; cases e) (same_upd hD _ _ e), g.a0⟩
theorem GrS.of_o {H1 H : Hp} {o : HO} (wa : W c.a0) (hD : H1 D = none) (g : GrD c D (upd H1 D o) H) : GrS W H1 (WD W D) H := ⟨fun b x n e => ⟨fun z => z.elim n (fun z => by rw [z, hD] at e; cases e), (GrE.of_o hD g).hp b x (fun z => n (z ▸ wa)) e⟩⟩
theorem dc_all {tg : Tg} {own : List Nat} {tst kel vel : List Sl → Dr → R Ly.D} {J : It} {ds r : List Ly.D} {H1 : Hp} {Q : VK} (ho : ∀ i ∈ tgN tg, i ∈ own) (m : Mt K c ⟨env, dr⟩ σ H1 W) (wk : WkB K c W H1 J ds)
    (h : lcGo (tn1 tg own env tst (pairE kel vel)) ds dr = some (r, dr')) (q : ∀ D H' acc, H1 D = none → GrD c D (upd H1 D (.dK [])) H' → DrOk H' c.a0 (WD W D) dr' → H' D = some (.dK acc) → PR keyD K c.a0 (hid (WD W D) H') acc (dcP r) → Q (.ref D) H') :
    ∀ D, H1 D = none → ∃ Wi : Nat → Nat → Hp → Prop, (∃ k, Wi 0 k (upd H1 D (.dK []))) ∧ ∀ i k H, Wi i k H →
      (J.stop i H ∧ Q (.ref D) H) ∨ (J.go i H ∧ ∃ Nx : Hp → Prop, (∀ H', Nx H' → ∃ k', k' < k ∧ Wi (i + 1) k' H') ∧ ∀ x H', J.yld i H x H' → gOk K c tg x (wipe σ own) H' fun σ2 H2 => wipe σ2 own = wipe σ own ∧ okR K c Wx0 exc RepX tst σ2 H2 fun b H3 =>
        if b = true then okR K c Wx0 exc (RepF K c) kel σ2 H3 fun y H4 => okR K c Wx0 exc (RepF K c) vel σ2 H4 fun z H5 => ∃ kvs k, y = kV k ∧ H5 D = some (.dK kvs) ∧ kvs.length < sizeLine ∧ Nx (upd H5 D (.dK (putK kvs k z))) else Nx H3) := by
  intro D hD
  obtain ⟨hz, G, Y, w, hw⟩ := wk
  obtain ⟨ms, nd, gD, ne⟩ := m.hide (o := .dK []) hD
  refine dc_it w (Qd := Q (.ref D)) (fun i H => ∃ dr1 r0 r1 acc, lcGo (tn1 tg own env tst (pairE kel vel)) (ds.drop i) dr1 = some (r1, dr') ∧ r = r0 ++ r1 ∧ GrD c D (upd H1 D (.dK [])) H ∧ DrOk H c.a0 (WD W D) dr1 ∧ H D = some (.dK acc) ∧ PR keyD K c.a0 (hid (WD W D) H) acc (dcP r0) ∧ acc.length ≤ i)
    ⟨dr, [], r, [], h, rfl, GrD.refl ms.dr.a0 (by rw [upd_same]; simp), ms.dr, upd_same, .nil, Nat.le_refl _⟩
    (fun i H hi ⟨dr1, r0, r1, acc, _, _, g, _⟩ => (hw (WD W D) H ⟨GrE.of_o hD g, GrS.of_o m.wa hD g⟩).1) (fun i x H H' hi ⟨dr1, r0, r1, acc, e1, e2, g, d, ed, ra, hl⟩ y => ?_) (fun H ⟨dr1, r0, r1, acc, e1, e2, g, d, ed, ra, hl⟩ => ?_)
  · obtain ⟨dd, hd, nw⟩ := (hw (WD W D) H ⟨GrE.of_o hD g, GrS.of_o m.wa hD g⟩).2 i x H' hi y
    have hdrop : ds.drop i = dd :: ds.drop (i + 1) := by
      obtain ⟨h1, h2⟩ := List.getElem?_eq_some_iff.mp hd
      rw [← h2]
      exact List.drop_eq_getElem_cons h1
    rw [hdrop] at e1
    obtain ⟨rt, dr2, r2, t1, t2, t3⟩ := lcGo_cons e1
    have hDn : H D ≠ none := by rw [ed]; simp
    have gn : GrE c H H' := nw.gr d.a0
    have mH : Mt K c ⟨env, dr1⟩ σ H (WD W D) := ms.upD m.wa nd gD g d
    have dm := mH.dom
    have mH' : Mt K c ⟨env, dr1⟩ σ H' (WD W D) := mH.up gn (d.same nw.same)
    have ed' : H' D = some (.dK acc) := gn.hp D _ ne ed
    refine tnD_step ho mH' m.wa nd gD ne ed' (PR.mono (gn.hid mH.wa) ra) (fun _ => by omega) (nw.rep dm) t1 fun H2 acc' g2 d2 e2' ra2 hl2 => ⟨dr2, r0 ++ rt, r2, acc', t2, by rw [e2, t3, List.append_assoc], (g.trans (gn.d hDn ne)).trans g2, d2, e2', ra2, by omega⟩
  · have hdrop : ds.drop ds.length = [] := List.drop_length
    rw [hdrop] at e1
    cases (show some ([], dr1) = some (r1, dr') from e1)
    rw [List.append_nil] at e2
    subst e2
    exact q D H acc hD g d ed ra
end
section
variable {X : Cx} {F : Nat → List D → Dr → Oc} {c : Cc} {Wx : WX} {exc : Exc} {e tg iter kx vx : Expr} {ifs : List Expr} {k v : Ex} {t : Tg} {it : Itx} {cs : Exs} {scope : Scope} {own : List (Str × Nat)} {pos : Pos}
theorem pm_dc (b : Bool) (hc : X.calm = true) (hN : X.N.Nodup) (hs : ∀ x, foldedSetIterable iter X.env x = pure x) (ok : BlkOk X.N X.env.scope scope own) (ho : ∀ i ∈ tgN t, i ∈ own.map (·.2)) (hi : TriI X F c Wx exc tg iter it)
    (hg : ∀ s H C cl fp, PG (X.blk s H scope (compEnvC scope cl C X.env) fp) tg (gOk X.K c t)) (ht : ∀ s H C cl fp, TriT (X.blk s H scope (compEnvC scope cl C X.env) fp) F c Wx0 exc ifs cs)
    (hk : ∀ s H C cl fp, Tri (X.blk s H scope (compEnvC scope cl C X.env) fp) F c Wx0 exc kx k) (hv : ∀ s H C cl fp, Tri (X.blk s H scope (compEnvC scope cl C X.env) fp) F c Wx0 exc vx v) :
    PE X (.DictComp kx vx [⟨tg, iter, ifs, 0⟩] scope pos) (okM X.K c Wx exc b (ev F .frz (.dc (own.map (·.2)) t it cs k v))) := by
  refine (pe_dc (kx := kx) (vx := vx) (tk := okR X.K c Wx0 exc (RepF X.K c) (ev F .frz k)) (tv := okR X.K c Wx0 exc (RepF X.K c) (ev F .frz v)) (tt := okR X.K c Wx0 exc RepX (evt F cs)) (pos := pos) hc hN hi.bo ok hg (fun s H C cl fp => (ht s H C cl fp).te) (fun s H C cl fp => (hk s H C cl fp).fz) (fun s H C cl fp => (hv s H C cl fp).fz) hs).imp fun σ H Q h => ?_
  obtain ⟨env, dr, W, m, p⟩ := h
  refine ⟨env, dr, W, m, ?_⟩
  have p : PoM X.K c Wx exc b W σ env ((evi F .bor it env dr).bind fun ds dr => match lcGo (tn1 t (own.map (·.2)) env (fun env dr => evt F cs env dr) (pairE (fun env dr => ev F .frz k env dr) fun env dr => ev F .frz v env dr)) ds dr with
    | some (r, dr) => fin .frz (.dict (dcP r)) dr
    | none => .stk) H Q := p
  cases hr : evi F .bor it env dr with
  | stk => rw [hr] at p; exact p
  | err k dr1 => rw [hr] at p; exact p
  | ok ds dr1 =>
    rw [hr] at p
    intro J H1 g1 e1 wk
    have m1 := m.up g1 e1
    have p : PoM X.K c Wx exc b W σ env (match lcGo (tn1 t (own.map (·.2)) env (fun env dr => evt F cs env dr) (pairE (fun env dr => ev F .frz k env dr) fun env dr => ev F .frz v env dr)) ds dr1 with
      | some (r, dr) => fin .frz (.dict (dcP r)) dr
      | none => .stk) H Q := p
    cases hl : lcGo (tn1 t (own.map (·.2)) env (fun env dr => evt F cs env dr) (pairE (fun env dr => ev F .frz k env dr) fun env dr => ev F .frz v env dr)) ds dr1 with
    | none => rw [hl] at p; exact False.elim p
    | some z =>
      obtain ⟨r, dr2⟩ := z
      rw [hl] at p
      have p : PoM X.K c Wx exc b W σ env (.ok (.dict (dcP r)) dr2) H Q := p
      exact dc_all ho m1 wk hl fun D H' acc hD g d e ra => PoM.newB m p (g1.none hD) (g1.trans (GrE.of_o hD g)) d e (.dK ra.1 ra.2)
theorem tri_dc (hp : PE X e (okM X.K c Wx exc false (ev F .frz (.dc (own.map (·.2)) t it cs k v)))) (he : ∀ whole, isTrue e X.env whole = (do let v ← whole; standAt e.pos; holding [v] (truthy v))) : Tri X F c Wx exc e (.dc (own.map (·.2)) t it cs k v) := by
  refine .of_pm hp (fun m env dr => ?_) he
  show (evi F .bor it env dr).bind _ = R.bind ((evi F .bor it env dr).bind _) _
  rw [R.bind_assoc]
  congr 1; funext ds dr1
  cases lcGo (tn1 t (own.map (·.2)) env (fun env dr => evt F cs env dr) (pairE (fun env dr => ev F .frz k env dr) fun env dr => ev F .frz v env dr)) ds dr1 with
  | none => rfl
  | some z => rfl
/-- list(range(..)) -/
theorem rgV_rep {F' : Hp} {a0 : Addr} {K : PySem.W.Frag} (i j : Int) : RepL K a0 F' (rgV i j) (rngL i j) := by
  unfold rgV rngL
  have : ∀ l : List Nat, RepL K a0 F' (l.map fun k => V.int (i + (k : Nat))) (l.map fun k => PyData.int (i + (k : Nat))) := fun l => by
    induction l with
    | nil => exact .nil
    | cons a l ih => exact .cons (.int _) ih
  exact this _
theorem rgOk_of {i j : Int} (h1 : rngOk i = true) (h2 : rngOk j = true) (h3 : okLen (j - i).toNat = true) : RgOk i j := by
  unfold rngOk at h1 h2
  simp only [Bool.and_eq_true, decide_eq_true_eq] at h1 h2
  have := okLen_of h3
  rw [szl] at this
  exact ⟨h1.1, h1.2, h2.1, h2.2, by omega⟩
end
end Ly

set_option Elab.async false
set_option linter.all false
set_option maxRecDepth 100000
set_option maxHeartbeats 2000000
/-! Ly: exceptions of the program's own classes: raised with a text, caught by name. -/
namespace Ly
open PySem PySem.Spec PyProof.Rows L2

/-- a class y of the program, number n: its instances may be raised, and are caught by its name alone -/
structure ExcFact (K : PySem.W.Frag) (mg : Str → Option Value) (exc : Exc) (n : Nat) (y : Str) : Prop where
  ex : ∃ (C : Addr) (B newId initId : String) (bmB : List Value), ExcBaseFacts B newId initId bmB ∧ PySem.W.excIn K C bmB newId = true ∧ mg y = some (.ref C) ∧ PySem.W.keepIn K (.ref C) = true ∧
    PySem.W.subIn K (.ref C) (.type "BaseException") = some true ∧ PySem.W.typeIn K (.ref C) = some (.type "type") ∧ exc n (.ref C) none ∧ ∀ n' cls dd, exc n' cls dd → PySem.W.exmOne K cls (.ref C) = some (decide (n' = n))
section
variable {X : Cx} {F : Nat → List D → Dr → Oc} {Wf : Nat} {c : Cc} {Wx : WX} {exc : Exc} {e : Expr} {body : List Stmt} {xs : Sts} {n : Nat} {y : Str}
theorem s_rai {m : Str} {j : Nat} {p p2 pos' pos : Pos} (k : ExcFact X.K X.mg exc n y) (hc : X.calm = true) (tk : Takes X Wx) (hg : Gl X y) (hdb : (y == ("__debug__" : Str)) = false) :
    PS X (.Raise (some (.Call (.Name y p) [.Constant (.str m) j p2] [] pos')) none pos) (okS X.K c Wx exc (ex F Wf (.rai n))) := by
  obtain ⟨C, B, newId, initId, bmB, f1, f2, f3, f4, f5, f6, f7, f8⟩ := k.ex
  exact (ps_raise hc tk (pmk_own f1 f2 f3 f4 (raises_own f5 f6) hg hdb)).imp fun E σ H ⟨s, W, m, p⟩ => p σ H W m GrS.refl (.ref C) none f7
theorem s_try {d : D} {v : V} {np pos' p2 pos : Pos} (hs : X.stack = X.env :: X.outer) (hf : X.env.frame = some X.env.locals) (k : ExcFact X.K X.mg exc n y) (tk : Takes X Wx) (hg : Gl X y) (hdb : (y == ("__debug__" : Str)) = false)
    (hb : ∀ (W : WX) (pn : List (Addr × Obj)) (xe : Value → Shared → Prop), Takes (X.tr pn xe) W → PassesOwn (model X.prog X.w) X.A X.env xe → TrSs (X.tr pn xe) F Wf c W exc body xs)
    (hv : ∀ X' : Cx, PE X' e (tC v)) (hr : ∀ F' : Hp, Rep X.K c.a0 F' v d) :
    PS X (.Try body [.ExceptHandler (some (.Name y np)) none [.Return (some e) p2] pos'] [] [] pos) (okS X.K c Wx exc (ex F Wf (.try xs n (.cons (.ret (.con d)) .nil)))) := by
  obtain ⟨C, B, newId, initId, bmB, f1, f2, f3, f4, f5, f6, f7, f8⟩ := k.ex
  refine (ps_try_only (ts := fun _ _ _ => fun D σ H => D.rt v H) (tb := fun W => okS X.K c W exc (exs F Wf xs)) (c := .ref C) hs hf ⟨hg, hdb, .inl f3⟩ tk (fun W pn xe t1 t2 => hb W pn xe t1 t2)
    (fun a oe cls d pn _ _ => (pss_one (ps_ret (hv _))).imp fun D σ H q => q)).imp fun E σ H ⟨s, W, m, p⟩ => ⟨s, W, m, ?_⟩
  have p : PoS X.K c Wx exc E W H (match exs F Wf xs s with
    | .ok f s => .ok f s
    | .err e' s => if e' = n then exs F Wf (.cons (.ret (.con d)) .nil) s else .err e' s
    | .stk => .stk) := p
  cases hx : exs F Wf xs s with
  | ok f s' =>
    rw [hx] at p
    cases f <;> exact p
  | stk => rw [hx] at p; exact p
  | err n' s' =>
    rw [hx] at p
    intro σ' H' W' m' g cls dd he
    refine ⟨decide (n' = n), f8 n' cls dd he, fun hb a _ => ?_, fun hb => ?_⟩
    · have p : PoS X.K c Wx exc E W H (if n' = n then exs F Wf (.cons (.ret (.con d)) .nil) s' else .err n' s') := p
      rw [if_pos (of_decide_eq_true hb)] at p
      exact p v σ' H' W' m' g (hr _)
    · have p : PoS X.K c Wx exc E W H (if n' = n then exs F Wf (.cons (.ret (.con d)) .nil) s' else .err n' s') := p
      rw [if_neg (of_decide_eq_false hb)] at p
      exact p σ' H' W' m' g cls dd he
end
end Ly

set_option Elab.async false
set_option linter.all false
set_option maxRecDepth 100000
set_option maxHeartbeats 2000000
/-! Ly: in a tuple of texts that the top has written; list(range(..)). -/
namespace Ly
open PySem PySem.Spec PyProof.Rows L2
/-- y stands for a tuple of texts -/
structure TupFact (K : PySem.W.Frag) (mg : Str → Option Value) (ss : List Str) (y : Str) : Prop where
  ex : ∃ (a : Addr) (o : Obj) (its : Array Value) (n : Nat), mg y = some (.ref a) ∧ K.lookup a = some o ∧ o.cls = .type "tuple" ∧ o.data = .seq its n ∧ its.size ≤ sizeLine ∧ Vals (ss.map V.str) its.toList
theorem dp_strs {K : PySem.W.Frag} {H : Hp} : ∀ ss : List Str, DpAll K H (ss.map V.str) (ss.map PyData.str)
  | [] => .nil
  | s :: ss => .cons (.str s) (dp_strs ss)
section
variable {X : Cx} {F : Nat → List D → Dr → Oc} {c : Cc} {Wx : WX} {exc : Exc} {e a : Expr} {x : Ex} {pos : Pos}
def rInG (K : PySem.W.Frag) (c : Cc) (l : Addr) (ds : D) (f : D → D → Option Bool) : R2 := fun x y H Q => ∃ W d1 b, W c.a0 ∧ RepB K c W H x d1 ∧ y = .ref l ∧ f d1 ds = some b ∧ Q (.bl b) H
theorem op_inG (hu : X.A.units + 65 < cLine) {l : Addr} {ss : List Str} (hl : ∀ H, Dp X.K H (.ref l) (.tuple (ss.map .str))) : OpR X (compareOp .In) (rInG X.K c l (.tuple (ss.map .str)) inD) := by
  intro pins s σ H x y v u Q I rx ry h
  obtain ⟨W, d1, b, wa, r1, rfl, hf, q⟩ := h
  have hb : (if shp d1 && shp (.tuple (ss.map .str)) then some ((ss.map PyData.str).any fun d => PyData.eqv d d1) else none) = some b := hf
  split at hb
  · rename_i hs
    cases hb
    rw [Bool.and_eq_true] at hs
    obtain ⟨as, q1⟩ := Dp.reads I _ x v (r1.dp wa (shp_pl hs.1)) rx
    obtain ⟨bs, q2⟩ := Dp.reads I _ _ u (hl H) ry
    have h1 := shp_depth hs.1
    have h2 : PyData.plainAll (ss.map PyData.str) = true := by
      have := shp_pl hs.2
      simpa [PyData.plain] using this
    have h3 : min (PyData.depthAll (ss.map PyData.str)) d1.depth ≤ d1.depth := Nat.min_le_right _ _
    exact SeqAt.in_tuple_data q2 q1 h2 (shp_pl hs.1) (by omega) ⟨.bl _, H, I, rfl, q⟩
  · cases hb
theorem op_notinG (hu : X.A.units + 65 < cLine) {l : Addr} {ss : List Str} (hl : ∀ H, Dp X.K H (.ref l) (.tuple (ss.map .str))) : OpR X (compareOp .NotIn) (rInG X.K c l (.tuple (ss.map .str)) fun x y => (inD x y).map (!·)) := by
  intro pins s σ H x y v u Q I rx ry h
  obtain ⟨W, d1, b, wa, r1, rfl, hf, q⟩ := h
  obtain ⟨b', hb, rfl⟩ : ∃ b', inD d1 (.tuple (ss.map .str)) = some b' ∧ b = !b' := by
    obtain ⟨b', hb, e⟩ := Option.map_eq_some_iff.mp hf
    exact ⟨b', hb, e.symm⟩
  have hb : (if shp d1 && shp (.tuple (ss.map .str)) then some ((ss.map PyData.str).any fun d => PyData.eqv d d1) else none) = some b' := hb
  split at hb
  · rename_i hs
    cases hb
    rw [Bool.and_eq_true] at hs
    obtain ⟨as, q1⟩ := Dp.reads I _ x v (r1.dp wa (shp_pl hs.1)) rx
    obtain ⟨bs, q2⟩ := Dp.reads I _ _ u (hl H) ry
    have h1 := shp_depth hs.1
    have h2 : PyData.plainAll (ss.map PyData.str) = true := by
      have := shp_pl hs.2
      simpa [PyData.plain] using this
    have h3 : min (PyData.depthAll (ss.map PyData.str)) d1.depth ≤ d1.depth := Nat.min_le_right _ _
    exact SeqAt.notIn_tuple_data q2 q1 h2 (shp_pl hs.1) (by omega) ⟨.bl _, H, I, rfl, q⟩
  · cases hb
theorem tri_inG {o : Co} {ss : List Str} {y : Str} {p : Pos} (ho : o = .isin ∨ o = .notin) (hu : X.A.units + 128 < cLine) (k : TupFact X.K X.mg ss y) (hg : Gl X y) (hdb : (y == ("__debug__" : Str)) = false) (ha : Tri X F c Wx exc a x) :
    Tri X F c Wx exc (.Compare a [cOp o] [.Name y p] pos) (.cmp o x (.con (.tuple (ss.map .str)))) := by
  obtain ⟨l, ob, its, n, hm, hK, h1, h2, h3, h4⟩ := k.ex
  have hl : ∀ H, Dp X.K H (.ref l) (.tuple (ss.map .str)) := fun H => .tup (.inr ⟨ob, its, n, hK, h1, h2, h3, h4⟩) (dp_strs ss)
  have hn : PE X (.Name y p) (tC (.ref l)) := pe_glob hg hm rfl hdb
  have go : ∀ {γ : Type} {rep : RepT D γ} {σ : L2.St} {H : Hp} {Q : γ → Hp → Prop} (T : VK), okR X.K c Wx exc rep (ev F .bor (.cmp o x (.con (.tuple (ss.map .str))))) σ H Q → (∀ k H' W', (∀ v, rep W' H' v (.bool k) → Q v H') → T (.bl k) H') → tOp (rInG X.K c l (.tuple (ss.map .str)) (cmpD o)) (okR X.K c Wx exc (RepB X.K c) (ev F .bor x)) (tC (.ref l)) σ H T := by
    intro γ rep σ H Q T ⟨env, dr, W, m, p⟩ hT
    refine ⟨env, dr, W, m, Po.mono (Po.bind (k := fun x dr => liftB (cmpD o x (.tuple (ss.map .str))) dr) p) fun v H1 ⟨d1, dr1, g1, e1, r1, p1⟩ => ?_⟩
    unfold liftB at p1
    cases hc : cmpD o d1 (.tuple (ss.map .str)) with
    | none => simp only [hc] at p1; exact False.elim p1
    | some k =>
      simp only [hc] at p1
      exact ⟨W, d1, k, m.wa, r1, rfl, hc, hT k H1 W fun v r => p1 v H1 (GrE.refl e1.a0) e1 r⟩
  have hu' : X.A.units + 65 < cLine := by omega
  have hop : OpR X (compareOp (cOp o)) (rInG X.K c l (.tuple (ss.map .str)) (cmpD o)) := by
    rcases ho with rfl | rfl
    · exact op_inG hu' hl
    · exact op_notinG hu' hl
  have hmk : behindInMarks (cOp o) (.Name y p) = false := rfl
  exact ⟨(pe_cmpR hop ha.bo hn hmk).imp fun σ H Q p => go Q p fun k H' W' q => q _ (.bl k),
    (pe_cmpR hop ha.bo hn hmk).imp fun σ H Q p => go Q p fun k H' W' q => q _ (.inl (.bl k)),
    (pt_cmpR hop ha.bo hn hmk).imp fun σ H Q p => go _ p fun k H' W' q => ⟨k, rfl, q k rfl⟩⟩
/-- list(range(a)) -/
theorem tri_lrg1 {p p1 p2 : Pos} (hc : X.calm = true) (hgl : Gl X "list") (hml : X.mg "list" = none) (hgr : Gl X "range") (hmr : X.mg "range" = none) (hp : Plain [a]) (h : Tri X F c Wx exc a x) :
    Tri X F c Wx exc (.Call (.Name "list" p) [.Call (.Name "range" p1) [a] [] p2] [] pos) (.lrg (.cons x .nil)) := by
  refine .of_raw (raw := fun env dr => (evs F .bor (.cons x .nil) env dr).bind fun ds dr => lft ((rngD ds).map .list) dr) ((pe_listRg hc hgl hml (prg_1 hgr hmr h.bo (hp.head _))).imp fun σ H Q ⟨env, dr, W, m, q⟩ => ?_) (fun m env dr => ?_) (fun _ => rfl)
  · have q : Po c Wx exc (RepF X.K c) W σ ((ev F .bor x env dr).bind fun d dr => lft ((rngD [d]).map .list) dr) H Q := by
      have q1 := q
      dsimp only at q1
      rw [evs_one, R.bind_assoc] at q1
      exact q1
    refine ⟨env, dr, W, m, q.bind.mono fun v H1 ⟨d1, dr1, g1, e1, r1, p1⟩ => ?_⟩
    obtain ⟨d, hd, q2⟩ := raw_end (m.up g1 e1) e1 p1
    obtain ⟨r, hr, rfl⟩ := Option.map_eq_some_iff.mp hd
    unfold rngD at hr
    split at hr
    · rename_i j hz
      cases hz
      split at hr
      · rename_i hok
        cases hr
        rw [Bool.and_eq_true] at hok
        cases r1.int
        exact ⟨j, rfl, rgOk_of rfl hok.1 (by rw [Int.sub_zero]; exact hok.2), fun q hq => q2 _ _ (.mu hq (.lst (rgV_rep 0 j)))⟩
      · cases hr
    · rename_i hz; cases hz
    · cases hr
  · show (evs F .bor (.cons x .nil) env dr).bind _ = _
    exact raw_eq m _ _
/-- tuple(range(a)) -/
theorem tri_trg1 {p p1 p2 : Pos} (hc : X.calm = true) (hgl : Gl X "tuple") (hml : X.mg "tuple" = none) (hgr : Gl X "range") (hmr : X.mg "range" = none) (hp : Plain [a]) (h : Tri X F c Wx exc a x) :
    Tri X F c Wx exc (.Call (.Name "tuple" p) [.Call (.Name "range" p1) [a] [] p2] [] pos) (.trg (.cons x .nil)) := by
  refine .of_raw (raw := fun env dr => (evs F .bor (.cons x .nil) env dr).bind fun ds dr => lft ((rngD ds).map .tuple) dr) ((pe_tupRg hc hgl hml (prg_1 hgr hmr h.bo (hp.head _))).imp fun σ H Q ⟨env, dr, W, m, q⟩ => ?_) (fun m env dr => ?_) (fun _ => rfl)
  · have q : Po c Wx exc (RepF X.K c) W σ ((ev F .bor x env dr).bind fun d dr => lft ((rngD [d]).map .tuple) dr) H Q := by
      have q1 := q
      dsimp only at q1
      rw [evs_one, R.bind_assoc] at q1
      exact q1
    refine ⟨env, dr, W, m, q.bind.mono fun v H1 ⟨d1, dr1, g1, e1, r1, p1⟩ => ?_⟩
    obtain ⟨d, hd, q2⟩ := raw_end (m.up g1 e1) e1 p1
    obtain ⟨r, hr, rfl⟩ := Option.map_eq_some_iff.mp hd
    unfold rngD at hr
    split at hr
    · rename_i j hz
      cases hz
      split at hr
      · rename_i hok
        cases hr
        rw [Bool.and_eq_true] at hok
        cases r1.int
        exact ⟨j, rfl, rgOk_of rfl hok.1 (by rw [Int.sub_zero]; exact hok.2), fun q hq => q2 _ _ (.tup hq (rgV_rep 0 j))⟩
      · cases hr
    · rename_i hz; cases hz
    · cases hr
  · show (evs F .bor (.cons x .nil) env dr).bind _ = _
    exact raw_eq m _ _
end
end Ly

set_option Elab.async false
set_option linter.all false
set_option maxRecDepth 100000
set_option maxHeartbeats 2000000
/-! Ly: d.setdefault(k, []).append(v) in a loop; for .. in d.get(l.pop(), []). -/
namespace Ly
open PySem PySem.Spec PyProof.Rows L2

/-! ### a dict of lists that one loop makes -/
abbrev Tb := List (Int × Addr × List V)
def kvT (tb : Tb) : List (Key × V) := tb.map fun t => (.inl t.1, .ref t.2.1)
inductive TbOk (K : PySem.W.Frag) (a0 : Addr) (F : Hp) : Tb → List (Int × List D) → Prop
  | nil : TbOk K a0 F [] []
  | cons {k : Int} {b : Addr} {ws : List V} {row : List D} {tb : Tb} {acc : List (Int × List D)} : RepL K a0 F ws row → TbOk K a0 F tb acc → TbOk K a0 F ((k, b, ws) :: tb) ((k, row) :: acc)
def tbUp (k : Int) (v : V) : Tb → Tb
  | [] => []
  | t :: r => if t.1 = k then (t.1, t.2.1, t.2.2 ++ [v]) :: r else t :: tbUp k v r
theorem tbUp_kv (k : Int) (v : V) : ∀ tb : Tb, kvT (tbUp k v tb) = kvT tb
  | [] => rfl
  | t :: r => by
    unfold tbUp
    split
    · rfl
    · show _ :: kvT (tbUp k v r) = _ :: kvT r
      rw [tbUp_kv k v r]
theorem tbUp_ad (k : Int) (v : V) : ∀ tb : Tb, (tbUp k v tb).map (·.2.1) = tb.map (·.2.1)
  | [] => rfl
  | t :: r => by
    unfold tbUp
    split
    · rfl
    · rw [List.map_cons, List.map_cons, tbUp_ad k v r]
theorem tbUp_len (k : Int) (v : V) {n : Nat} : ∀ {tb : Tb}, (∀ t ∈ tb, t.2.2.length ≤ n) → ∀ t ∈ tbUp k v tb, t.2.2.length ≤ n + 1
  | [], _, t, h => by cases h
  | t0 :: r, hl, t, h => by
    unfold tbUp at h
    split at h
    · rcases List.mem_cons.mp h with rfl | h
      · have := hl t0 List.mem_cons_self
        show (t0.2.2 ++ [v]).length ≤ n + 1
        rw [List.length_append, List.length_singleton]; omega
      · have := hl t (List.mem_cons_of_mem _ h); omega
    · rcases List.mem_cons.mp h with rfl | h
      · have := hl t List.mem_cons_self; omega
      · exact tbUp_len k v (fun t h => hl t (List.mem_cons_of_mem _ h)) t h
theorem kvT_len (tb : Tb) : (kvT tb).length = tb.length := by unfold kvT; rw [List.length_map]
section
variable {K : PySem.W.Frag} {a0 : Addr} {F H : Hp} {k : Int} {v u : V} {d : D}
theorem tb_hit (rv : Rep K a0 F v d) : ∀ {tb : Tb} {acc : List (Int × List D)}, TbOk K a0 F tb acc → valV (kvT tb) (.inl k) = some u → (tb.map (·.2.1)).Nodup → (∀ t ∈ tb, H t.2.1 = some (.lst t.2.2)) →
    ∃ b ws, u = .ref b ∧ (k, b, ws) ∈ tb ∧ TbOk K a0 F (tbUp k v tb) (grpPut acc k d) ∧ ∀ t ∈ tbUp k v tb, (upd H b (.lst (ws ++ [v]))) t.2.1 = some (.lst t.2.2)
  | [], _, _, h, _, _ => by cases h
  | (k', b, ws) :: tb, _, .cons (row := row) (acc := acc) r t, h, hn, hh => by
    rw [List.map_cons, List.nodup_cons] at hn
    by_cases e : k' = k
    · subst e
      have h : valV ((Sum.inl k', V.ref b) :: kvT tb) (.inl k') = some u := h
      rw [valV_pos (p := (Sum.inl k', V.ref b)) rfl] at h
      cases h
      refine ⟨b, ws, rfl, List.mem_cons_self, ?_, fun t' ht => ?_⟩
      · unfold tbUp grpPut
        rw [if_pos rfl, if_pos rfl]
        exact .cons (r.append (.one rv)) t
      · unfold tbUp at ht
        rw [if_pos rfl] at ht
        rcases List.mem_cons.mp ht with rfl | ht
        · exact upd_same
        · have : t'.2.1 ≠ b := fun z => hn.1 (List.mem_map.mpr ⟨t', ht, z⟩)
          rw [upd_ne this]
          exact hh t' (List.mem_cons_of_mem _ ht)
    · have h : valV ((Sum.inl k', V.ref b) :: kvT tb) (.inl k) = some u := h
      rw [valV_neg (p := (Sum.inl k', V.ref b)) (fun z => e (by cases z; rfl))] at h
      obtain ⟨b', ws', h1, h2, h3, h4⟩ := tb_hit rv t h hn.2 fun t' ht => hh t' (List.mem_cons_of_mem _ ht)
      refine ⟨b', ws', h1, List.mem_cons_of_mem _ h2, ?_, fun t' ht => ?_⟩
      · unfold tbUp grpPut
        rw [if_neg e, if_neg e]
        exact .cons r h3
      · unfold tbUp at ht
        rw [if_neg e] at ht
        rcases List.mem_cons.mp ht with rfl | ht
        · have : b ≠ b' := fun z => hn.1 (List.mem_map.mpr ⟨_, h2, z.symm⟩)
          rw [upd_ne this]
          exact hh _ List.mem_cons_self
        · exact h4 t' ht
theorem tb_miss (q : Addr) (rv : Rep K a0 F v d) : ∀ {tb : Tb} {acc : List (Int × List D)}, TbOk K a0 F tb acc → valV (kvT tb) (.inl k) = none → TbOk K a0 F (tb ++ [(k, q, [v])]) (grpPut acc k d)
  | [], _, .nil, _ => .cons (.one rv) .nil
  | (k', b, ws) :: tb, _, .cons (row := row) (acc := acc) r t, h => by
    by_cases e : k' = k
    · subst e
      have h : valV ((Sum.inl k', V.ref b) :: kvT tb) (.inl k') = none := h
      rw [valV_pos (p := (Sum.inl k', V.ref b)) rfl] at h
      cases h
    · have h : valV ((Sum.inl k', V.ref b) :: kvT tb) (.inl k) = none := h
      rw [valV_neg (p := (Sum.inl k', V.ref b)) (fun z => e (by cases z; rfl))] at h
      unfold grpPut
      rw [if_neg e]
      exact .cons r (tb_miss q rv t h)
theorem TbOk.reps {F' : Hp} (s : Same F F') : ∀ {tb : Tb} {acc : List (Int × List D)}, TbOk K a0 F tb acc → (∀ t ∈ tb, F' t.2.1 = some (.lst t.2.2)) → Cont K a0 F' (.dK (kvT tb)) (grpT acc) := by
  have keys : ∀ {tb : Tb} {acc : List (Int × List D)}, TbOk K a0 F tb acc → (acc.map fun p => ((.int p.1 : D), (.list p.2 : D))).map (·.1) = (kvT tb).map fun p => keyD p.1 := by
    intro tb acc h
    induction h with
    | nil => rfl
    | cons _ _ ih => rw [List.map_cons, List.map_cons, ih]; rfl
  have vals : ∀ {tb : Tb} {acc : List (Int × List D)}, TbOk K a0 F tb acc → (∀ t ∈ tb, F' t.2.1 = some (.lst t.2.2)) → RepL K a0 F' ((kvT tb).map (·.2)) ((acc.map fun p => ((.int p.1 : D), (.list p.2 : D))).map (·.2)) := by
    intro tb acc h
    induction h with
    | nil => exact fun _ => .nil
    | cons r _ ih => exact fun hh => .cons (.mu (hh _ List.mem_cons_self) (.lst (r.mono s))) (ih fun t ht => hh t (List.mem_cons_of_mem _ ht))
  exact fun {tb acc} h hh => .dK (keys h) (vals h hh)
end
section
variable {X : Cx} {F : Nat → List D → Dr → Oc} {Wf : Nat} {c : Cc} {Wx : WX} {exc : Exc} {iter na nb nc tg : Expr} {xe : Ex} {pos pt p1 p2 p3 p4 p5 ap1 cp1 ap2 cp2 : Pos} {kt kt2 : Nat} {y ya yc yd yw : Str} {ix ia ib ic : Nat} {sts : List Stmt} {xs : Sts} {t : Tg}
theorem grpGo_cons {a b c : Nat} {x : D} {ds : List D} {acc : List (Int × List D)} {env : List Sl} {r : List (Int × List D) × List Sl} (h : grpGo a b c (x :: ds) acc env = some r) :
    ∃ i t v, x = .tuple [.int i, t, v] ∧ grpGo a b c ds (grpPut acc i v) (((env.set a (.fz (.int i))).set b (.fz t)).set c (.fz v)) = some r := by
  unfold grpGo at h
  split at h
  · rename_i e; cases e
  · rename_i e; cases e; exact ⟨_, _, _, rfl, h⟩
  · cases h
theorem few_of {es : List Expr} (hp : Plain es) (hl : es.length < 29) : ((backTo cp1 (starEach es X.env)).all (fun x => !x.1) && (backToKw cp1 (keywordEach [] X.env)).all (fun x => x.1.isSome)
    && decide (es.length + ([] : List Keyword).length + (if ([] : List Keyword).isEmpty then 0 else 1) < 30)) = true := by
  rw [hp.all]
  show (true && true && decide (es.length + 0 + 0 < 30)) = true
  rw [decide_eq_true (by omega)]; rfl
theorem plain_nm : Plain [.Name y p1] := Plain.nil.cons fun _ _ h => by cases h
theorem s_grp (hp : PassesOwn (model X.prog X.w) X.A X.env X.xe) (hc : X.calm = true) (hs : ∀ x, foldedSetIterable iter X.env x = pure x) (hN : X.N.Nodup)
    (hns : NmsOk X [na, nb, nc] [(ia, false), (ib, false), (ic, false)])
    (nx : X.N[ix]? = some y) (vx : Vis X.env.scope y) (dx : (y == ("__debug__" : Str)) = false) (cx : (y == ("__classdict__" : Str)) = false)
    (nxa : X.N[ia]? = some ya) (vxa : Vis X.env.scope ya) (dxa : (ya == ("__debug__" : Str)) = false) (cxa : (ya == ("__classdict__" : Str)) = false)
    (nxc : X.N[ic]? = some yc) (vxc : Vis X.env.scope yc) (dxc : (yc == ("__debug__" : Str)) = false) (cxc : (yc == ("__classdict__" : Str)) = false)
    (l1 : (ap1.endLine == cp1.line) = true) (l2 : (ap2.endLine == cp2.line) = true) (he : Tri X F c Wx exc iter xe) :
    PS X (.For (.Tuple [na, nb, nc] kt pt) iter [.Expr (.Call (.Attribute (.Call (.Attribute (.Name y p1) "setdefault" ap1) [.Name ya p2, .List [] p3] [] cp1) "append" ap2) [.Name yc p4] [] cp2) p5] [] pos) (okS X.K c Wx exc (ex F Wf (.grp ix ia ib ic xe))) := by
  have m2 : M2 X (.Name y p1) "setdefault" ap1 (.Name ya p2) (.List [] p3) cp1 := ⟨rfl, few_of ((Plain.nil.cons fun _ _ h => by cases h).cons fun _ _ h => by cases h) (Nat.lt_of_sub_pos (by decide : 0 < 29 - 2)), l1, rfl⟩
  have hrec : PE X (.Call (.Attribute (.Name y p1) "setdefault" ap1) [.Name ya p2, .List [] p3] [] cp1) (tDSetd (tVar ix) (tVar ia) (tLst tNil)) := pe_dsetd (pe_var nx vx dx cx) (pe_var nxa vxa dxa cxa) (pe_lst pa_nil) m2
  have hbody := ps_expr (X := X) (pos := p5) (pe_bm (cpos := cp2) (apos := ap2) PySem.F.plainAttrs_list PySem.F.slot_list_append PySem.F.type_list_append mt_append hrec (pa_cons (pe_var (pos := p4) nxc vxc dxc cxc) pa_nil (plain_nm.head _)) rfl (few_of plain_nm (Nat.lt_of_sub_pos (by decide : 0 < 29 - 1))) l2 (plain_nm.head _) rfl)
  refine (ps_for hp hc (pi_seq he.fz) (pg_tup hc (pgs_nms hN hns) hns.facts.1 hns.facts.2.1) (pss_one hbody) hs).imp fun E σ H ⟨⟨env, dr⟩, W, m, p⟩ => ?_
  have p : PoS X.K c Wx exc E W H (match env[ix]? with
    | some (.ow (.dict [])) => (ev F .frz xe env dr).toO env fun d s => match grpE ix ia ib ic d s.env with
      | some env => .ok .nx { s with env := env }
      | none => .stk
    | _ => .stk) := p
  split at p
  · rename_i hix
    refine ⟨env, dr, W, m, (PoS.ofE (k := fun d s => match grpE ix ia ib ic d s.env with
      | some env => .ok .nx { s with env := env }
      | none => .stk) m p).mono fun v H1 ⟨d, dr1, g1, e1, r1, p1⟩ => ?_⟩
    have m1 := m.up g1 e1
    have p1 : PoS X.K c Wx exc E W H1 (match grpE ix ia ib ic d env with
      | some env => .ok .nx ⟨env, dr1⟩
      | none => .stk) := p1
    cases d with
    | tuple ds =>
      unfold grpE at p1
      dsimp only at p1
      split at p1
      case h_2 => exact False.elim p1
      rename_i envF hE
      split at hE
      case isFalse => cases hE
      rename_i hok
      simp only [Bool.and_eq_true, decide_eq_true_eq] at hok
      obtain ⟨⟨⟨hdl, hnd⟩, hea⟩, hec⟩ := hok
      obtain ⟨pr, hgo, rfl⟩ := Option.map_eq_some_iff.mp hE
      obtain ⟨accF, env2⟩ := pr
      dsimp only at p1
      obtain ⟨T, vs, rfl, nT, hT, rT⟩ := tup_frz r1
      obtain ⟨⟨D, o, hsD, neD, wD, hD, hcD⟩, qD⟩ := m1.sl ix _ hix
      have ho0 : o = .dK [] := by
        cases hcD with
        | @dK kvs _ e r =>
          cases kvs with
          | nil => rfl
          | cons _ _ => cases e
      subst ho0
      have hlen := rT.length
      refine ⟨T, vs, rfl, fun hz => .inr ⟨hT, ?_⟩, .inr hT⟩
      simp only [List.nodup_cons, List.mem_cons, List.not_mem_nil, or_false, not_or, not_false_eq_true, List.nodup_nil, and_true] at hnd
      obtain ⟨⟨nxa', nxb', nxc'⟩, ⟨nab, nac⟩, nbc⟩ := hnd
      have inj1 : ∀ q o, q ≠ D → H1 q = some o → True := fun _ _ _ _ => trivial
      refine for_it (walk_tup (xs := vs)) (fun i σ' H' => ∃ env' acc tb, Mt X.K c ⟨env', dr1⟩ σ' H1 W ∧ env'.length = env.length ∧ env'[ix]? = some (.ow (.dict [])) ∧ σ'[ix]? = some (some (.ref D)) ∧ grpGo ia ib ic (ds.drop i) acc env' = some (accF, env2) ∧ (∀ q o, q ≠ D → H1 q = some o → H' q = some o) ∧ H' D = some (.dK (kvT tb)) ∧ tb.length ≤ i ∧ TbOk X.K c.a0 (hid W H1) tb acc ∧ (tb.map (·.2.1)).Nodup ∧ (∀ t ∈ tb, t.2.1 ≠ D ∧ H1 t.2.1 = none ∧ H' t.2.1 = some (.lst t.2.2)) ∧ ∀ t ∈ tb, t.2.2.length ≤ i)
        ⟨env, [], [], m1, rfl, hix, hsD, hgo, fun q o _ h => h, hD, Nat.le_refl _, .nil, .nil, fun t h => (by cases h), fun t h => (by cases h)⟩ (fun i σ' H' _ ⟨env', acc, tb, i1, iL, i2, i3, i4, i5, i6, i7, i8, i9, i10, i11⟩ => .inl (.inl (i5 T _ (fun z => nT (z ▸ wD)) hT))) (fun i x σ' H' H3 hi ⟨env', acc, tb, i1, iL, i2, i3, i4, i5, i6, i7, i8, i9, i10, i11⟩ yy => ?_) (fun σ' H' ⟨env', acc, tb, i1, iL, i2, i3, i4, i5, i6, i7, i8, i9, i10, i11⟩ => ?_)
      · obtain ⟨rfl, hx⟩ := yy
        obtain ⟨d0, hd0, rd0⟩ := rT.getV hx
        obtain ⟨hlt, e0⟩ := List.getElem?_eq_some_iff.mp hd0
        rw [List.drop_eq_getElem_cons hlt, e0] at i4
        obtain ⟨k0, t0, v0, rfl, i4⟩ := grpGo_cons i4
        obtain ⟨A, ws, rfl, nA, hA, rA⟩ := tup_frz rd0
        cases rA with
        | cons q1 rest =>
          cases rest with
          | cons q2 rest =>
            cases rest with
            | cons q3 rest =>
              cases rest
              cases (RepB.int (c := c) (W := W) (H := H1) (.inl q1))
              rename_i vt vv
              have hA' := i5 A _ (fun z => nA (z ▸ wD)) hA
              refine ⟨A, _, rfl, .inl (.inl hA'), rfl, rfl, ?_⟩
              have hlnσ : σ'.length = env'.length := i1.len.symm
              let σ2 := ((σ'.set ia (some (V.int k0))).set ib (some vt)).set ic (some vv)
              have i1' : Mt X.K c ⟨((env'.set ia (.fz (.int k0))).set ib (.fz t0)).set ic (.fz v0), dr1⟩ σ2 H1 W := ((i1.set (.int k0)).set q2).set q3
              have hσx : σ2[ix]? = some (some (.ref D)) := by
                show (((σ'.set ia _).set ib _).set ic _)[ix]? = _
                rw [List.getElem?_set_ne (Ne.symm nxc'), List.getElem?_set_ne (Ne.symm nxb'), List.getElem?_set_ne (Ne.symm nxa')]
                exact i3
              have hex : (((env'.set ia (.fz (.int k0))).set ib (.fz t0)).set ic (.fz v0))[ix]? = some (.ow (.dict [])) := by
                rw [List.getElem?_set_ne (Ne.symm nxc'), List.getElem?_set_ne (Ne.symm nxb'), List.getElem?_set_ne (Ne.symm nxa')]
                exact i2
              have hla : ia < σ'.length := by rw [hlnσ, iL]; exact hea
              have hlc : ic < σ'.length := by rw [hlnσ, iL]; exact hec
              have iL' : (((env'.set ia (.fz (.int k0))).set ib (.fz t0)).set ic (.fz v0)).length = env.length := by rw [List.length_set, List.length_set, List.length_set, iL]
              have hσa : σ2[ia]? = some (some (.int k0)) := by
                show (((σ'.set ia _).set ib _).set ic _)[ia]? = _
                rw [List.getElem?_set_ne (Ne.symm nac), List.getElem?_set_ne (Ne.symm nab), List.getElem?_set_self hla]
              have hσc : σ2[ic]? = some (some vv) := by
                show (((σ'.set ia _).set ib _).set ic _)[ic]? = _
                rw [List.getElem?_set_self (by rw [List.length_set, List.length_set]; exact hlc)]
              have hkl : (kvT tb).length < sizeLine := by rw [kvT_len, szl]; omega
              refine ⟨.ref D, hσx, D, rfl, .inl ⟨_, .inl i6⟩, .int k0, hσa, Nat.zero_le _, fun q hq => ?_⟩
              have nqD : D ≠ q := fun z => by rw [z, hq] at i6; cases i6
              have nq : ∀ b o, H3 b = some o → b ≠ q := fun b o h z => by rw [z, hq] at h; cases h
              have hH1q : H1 q = none := by
                cases h : H1 q with
                | none => rfl
                | some o => exact absurd rfl (nq q o (i5 q o (fun z => nqD z.symm) h))
              refine ⟨kvT tb, .inl k0, by rw [upd_ne nqD]; exact i6, rfl, hkl, fun u hu => ?_, fun hu => ?_⟩
              · obtain ⟨b, ws, rfl, hmem, z1, z2⟩ := tb_hit (H := upd H3 q (.lst [])) q3 i8 hu i9 fun t ht => by
                  rw [upd_ne (nq _ _ (i10 t ht).2.2)]; exact (i10 t ht).2.2
                have hb := i10 _ hmem
                have hb3 : (upd H3 q (.lst [])) b = some (.lst ws) := by rw [upd_ne (nq _ _ hb.2.2)]; exact hb.2.2
                have hwl := i11 _ hmem
                refine ⟨.inl ⟨rfl, ws, .inl (.inl hb3)⟩, vv, hσc, b, ws, vv, rfl, rfl, hb3, by rw [szl]; show ws.length < _; have : ws.length ≤ i := hwl; omega, ?_⟩
                refine ⟨_, _, tbUp k0 vv tb, i1', iL', hex, hσx, i4, fun q' o' nq' h => ?_, ?_, ?_, z1, by rw [tbUp_ad]; exact i9, fun t ht => ?_, tbUp_len k0 vv i11⟩
                · have : q' ≠ b := fun z => by rw [z, hb.2.1] at h; cases h
                  have : q' ≠ q := fun z => by rw [z, hH1q] at h; cases h
                  rw [upd_ne ‹q' ≠ b›, upd_ne this]
                  exact i5 q' o' nq' h
                · rw [upd_ne (Ne.symm hb.1), upd_ne nqD, tbUp_kv]; exact i6
                · have := congrArg List.length (tbUp_ad k0 vv tb)
                  rw [List.length_map, List.length_map] at this
                  omega
                · have hadr : t.2.1 ∈ (tbUp k0 vv tb).map (·.2.1) := List.mem_map.mpr ⟨t, ht, rfl⟩
                  rw [tbUp_ad] at hadr
                  obtain ⟨t', ht', e'⟩ := List.mem_map.mp hadr
                  have := i10 t' ht'
                  exact ⟨by rw [← e']; exact this.1, by rw [← e']; exact this.2.1, z2 t ht⟩
              · have hkv : putK (kvT tb) (.inl k0) (.ref q) = kvT (tb ++ [(k0, q, [])]) := by
                  rw [putK_new _ hu]
                  unfold kvT
                  rw [List.map_append]; rfl
                have hq3 : (upd (upd H3 q (.lst [])) D (.dK (putK (kvT tb) (.inl k0) (.ref q)))) q = some (.lst []) := by rw [upd_ne (Ne.symm nqD), upd_same]
                refine ⟨.inl ⟨rfl, [], .inl (.inl hq3)⟩, vv, hσc, q, [], vv, rfl, rfl, hq3, by rw [szl]; show 0 < _; omega, ?_⟩
                refine ⟨_, _, tb ++ [(k0, q, [vv])], i1', iL', hex, hσx, i4, fun q' o' nq' h => ?_, ?_, by rw [List.length_append, List.length_singleton]; omega, tb_miss q q3 i8 hu, ?_, fun t ht => ?_, fun t ht => ?_⟩
                · have : q' ≠ q := fun z => by rw [z, hH1q] at h; cases h
                  rw [upd_ne this, upd_ne nq', upd_ne this]
                  exact i5 q' o' nq' h
                · rw [upd_ne nqD, upd_same, hkv]
                  unfold kvT
                  rw [List.map_append, List.map_append]; rfl
                · rw [List.map_append, List.nodup_append]
                  refine ⟨i9, by simp, fun b hb b' hb' => ?_⟩
                  obtain ⟨t, ht, rfl⟩ := List.mem_map.mp hb
                  simp only [List.map_cons, List.map_nil, List.mem_singleton] at hb'
                  rw [hb']
                  exact nq _ _ (i10 t ht).2.2
                · rcases List.mem_append.mp ht with ht | ht
                  · obtain ⟨w1, w2, w3⟩ := i10 t ht
                    have := nq _ _ w3
                    exact ⟨w1, w2, by rw [upd_ne this, upd_ne w1, upd_ne this]; exact w3⟩
                  · rw [List.mem_singleton.mp ht]
                    exact ⟨Ne.symm nqD, hH1q, by rw [upd_same]; rfl⟩
                · rcases List.mem_append.mp ht with ht | ht
                  · have := i11 t ht; omega
                  · rw [List.mem_singleton.mp ht]
                    show 1 ≤ i + 1; omega
      · rw [hlen, List.drop_length] at i4
        cases i4
        have hup : H' = upd (upd H' D (.dK [])) D (.dK (kvT tb)) := by
          funext q
          by_cases e : q = D
          · subst e; rw [upd_same, i6]
          · rw [upd_ne e, upd_ne e]
        have gE : GrE c H1 (upd H' D (.dK [])) := ⟨fun q o nq h => by
          by_cases e : q = D
          · subst e; rw [upd_same]; rw [hD] at h; exact h
          · rw [upd_ne e]; exact i5 q o e h, by
          rw [upd_ne (Ne.symm neD)]
          intro z
          cases h : H1 c.a0 with
          | none => exact m1.dr.a0 h
          | some o => rw [i5 _ o (Ne.symm neD) h] at z; cases z⟩
        have hsame : Same H1 (upd H' D (.dK [])) := fun q o h => by
          by_cases e : q = D
          · subst e; rw [upd_same]; rw [hD] at h; exact h
          · rw [upd_ne e]; exact i5 q o e h
        have mU := i1.up gE (i1.dr.same hsame)
        have s2 : Same (hid W H1) (hid W (upd H' D (.dK []))) := gE.hid m1.wa
        obtain ⟨m3, g3⟩ := mU.mut (o := .dK (kvT tb)) (d' := grpT accF) i2 i3 (i8.reps s2 fun t ht => by
          obtain ⟨w1, w2, w3⟩ := i10 t ht
          exact hid_some (fun w => m1.dom _ w w2) (by rw [upd_ne w1]; exact w3))
        rw [← hup] at m3 g3
        exact p1 _ _ W m3 ((gE.st m1.wa).trans g3)
    | _ => exact False.elim p1
  · exact False.elim p
def forW (g : TG) (tb : TS) (J : It) : TS := fun D σ H1 => ∃ W : Nat → Nat → L2.St → Hp → Prop, (∃ m, W 0 m σ H1) ∧ ∀ i m σ H, W i m σ H →
  (J.stop i H ∧ D.nx σ H) ∨ (J.go i H ∧ ∃ N : L2.St → Hp → Prop, (∀ σ' H', N σ' H' → ∃ m', m' < m ∧ W (i + 1) m' σ' H') ∧ ∀ x H', J.yld i H x H' → g x σ H' fun σ2 H2 => tb { D with nx := N, ct := N, bk := D.nx } σ2 H2)
/-- a loop over what stands -/
theorem for_core {E : Ends} {W1 : Addr → Prop} {σ : L2.St} {H1 : Hp} {J : It} {ds : List D} {env : List Sl} {dr1 : Dr} (m1 : Mt X.K c ⟨env, dr1⟩ σ H1 W1) (wk : WkF X.K c W1 H1 J ds) (p1 : PoS X.K c Wx exc E W1 H1 (forGo (tnF (exs F Wf xs) t) ds ⟨env, dr1⟩)) :
    forW (gOk X.K c t) (okS X.K c Wx exc (exs F Wf xs)) J E σ H1 := by
  obtain ⟨hz, G, Y, w, hw⟩ := wk
  unfold forW
  refine for_it w (fun i σ' H' => ∃ s' W', Mt X.K c s' σ' H' W' ∧ GrS W1 H1 W' H' ∧ PoS X.K c Wx exc E W' H' (forGo (tnF (exs F Wf xs) t) (ds.drop i) s')) ⟨⟨env, dr1⟩, W1, m1, GrS.refl, p1⟩ (fun i σ' H' hi ⟨s', W', m', g', _⟩ => (hw W' H' g').1)
    (fun i v σ' H' H'' hi ⟨s', W', m', g', p'⟩ y => ?_) (fun σ' H' ⟨s', W', m', g', p'⟩ => ?_)
  · obtain ⟨d, hd, nw⟩ := (hw W' H' g').2 i v H'' hi y
    rw [drop_at hd] at p'
    have gn : GrE c H' H'' := nw.gr m'.dr.a0
    obtain ⟨env', dr'⟩ := s'
    have m2 : Mt X.K c ⟨env', dr'⟩ σ' H'' W' := m'.up gn (m'.dr.same nw.same)
    have p2 := forGo_step (P := fun σ' H' => ∃ s' W', Mt X.K c s' σ' H' W' ∧ GrS W1 H1 W' H' ∧ PoS X.K c Wx exc E W' H' (forGo (tnF (exs F Wf xs) t) (ds.drop (i + 1)) s')) (PoS.gr (gn.st m'.wa) p') fun s2 σ2 H2 W2 m3 g3 p3 => ⟨s2, W2, m3, (g'.trans (gn.st m'.wa)).trans g3, p3⟩
    unfold tnF at p2
    cases h1 : tgo t d env' with
    | none => simp only [h1] at p2; exact False.elim p2
    | some env2 =>
      simp only [h1] at p2
      exact ⟨env', dr', W', d, env2, m2, nw.rep m'.dom, h1, fun σ2 m3 _ _ => ⟨⟨env2, dr'⟩, W', m3, p2⟩⟩
  · rw [List.drop_length] at p'
    exact p' σ' H' W' m' GrS.refl
theorem s_fpg (hu : X.A.units + 128 < cLine) (hp : PassesOwn (model X.prog X.w) X.A X.env X.xe) (hc : X.calm = true) {i j : Nat} (hs : ∀ x, foldedSetIterable (.Call (.Attribute (.Name yd p1) "get" ap1) [.Call (.Attribute (.Name yw p2) "pop" ap2) [] [] cp2, .List [] p3] [] cp1) X.env x = pure x)
    (nd : X.N[i]? = some yd) (vd : Vis X.env.scope yd) (dd : (yd == ("__debug__" : Str)) = false) (cd : (yd == ("__classdict__" : Str)) = false)
    (nw : X.N[j]? = some yw) (vw : Vis X.env.scope yw) (dw : (yw == ("__debug__" : Str)) = false) (cw : (yw == ("__classdict__" : Str)) = false)
    (l1 : (ap1.endLine == cp1.line) = true) (l2 : (ap2.endLine == cp2.line) = true) (hg : PG X tg (gOk X.K c t)) (hb : TrSs X F Wf c Wx exc sts xs) :
    PS X (.For tg (.Call (.Attribute (.Name yd p1) "get" ap1) [.Call (.Attribute (.Name yw p2) "pop" ap2) [] [] cp2, .List [] p3] [] cp1) sts [] pos) (okS X.K c Wx exc (ex F Wf (.fpg t i j xs))) := by
  have m2 : M2 X (.Name yd p1) "get" ap1 (.Call (.Attribute (.Name yw p2) "pop" ap2) [] [] cp2) (.List [] p3) cp1 := ⟨rfl, few_of ((Plain.nil.cons fun _ _ h => by cases h).cons fun _ _ h => by cases h) (Nat.lt_of_sub_pos (by decide : 0 < 29 - 2)), l1, rfl⟩
  have hit := pe_dget2 (X := X) (by omega) (pe_var (pos := p1) nd vd dd cd) (pe_pop0 nw vw dw cw l2) (pe_lst (pos := p3) pa_nil) m2
  refine (ps_for hp hc (pi_seq hit) hg hb hs).imp fun E σ H ⟨⟨env, dr⟩, W, m, p⟩ => ?_
  have p : PoS X.K c Wx exc E W H (match env[j]?, env[i]? with
    | some (.ow (.list ds)), some y => if i = j then .stk else match popD ds none with
      | some (k, r) => match (slD y).bind fun d => getL d k with
        | some xs' => forGo (tnF (exs F Wf xs) t) xs' (setE ⟨env, dr⟩ j (.ow (.list r)))
        | none => .stk
      | none => .stk
    | _, _ => .stk) := p
  split at p
  case h_2 => exact False.elim p
  rename_i ds y hj hi
  split at p
  · exact False.elim p
  rename_i hij
  split at p
  case h_2 => exact False.elim p
  rename_i k r hpop
  split at p
  case h_2 => exact False.elim p
  rename_i xs' hget
  obtain ⟨dy, hdy, hgl⟩ := Option.bind_eq_some_iff.mp hget
  obtain ⟨⟨w, o, hsw, neW, ww, hW, hcW⟩, q2⟩ := m.sl j _ hj
  cases hcW with
  | @lst vs _ rv =>
    obtain ⟨k', hk', e⟩ := Option.map_eq_some_iff.mp (show ds.getLast?.map (fun d => (d, ds.dropLast)) = some (k, r) from hpop)
    cases e
    rw [List.getLast?_eq_getElem?] at hk'
    obtain ⟨u, hu', ru⟩ := rv.getD' hk'
    have getR : ∀ {W : Addr → Prop} {H : Hp} {x : V}, SlOk X.K c W H (some (some x)) y → RepB X.K c W H x dy := by
      intro W H x h
      cases y with
      | un => cases hdy
      | fz d =>
        cases hdy
        obtain ⟨v, e, r⟩ := h
        cases e
        exact .inl r
      | ow d =>
        cases hdy
        exact .inr h.1
    obtain ⟨x, hx⟩ : ∃ x, σ[i]? = some (some x) := by
      have := m.sl i _ hi
      cases y with
      | un => cases hdy
      | fz d => obtain ⟨v, e, _⟩ := this; exact ⟨v, e⟩
      | ow d => obtain ⟨⟨a, _, e, _⟩, _⟩ := this; exact ⟨_, e⟩
    have hso := m.sl i _ hi
    rw [hx] at hso
    have rB := getR hso
    unfold getL at hgl
    split at hgl
    case h_2 => cases hgl
    rename_i ps
    obtain ⟨oo, hd, hov⟩ : ∃ oo, dgetD (.dict ps) k = some oo ∧ ((oo = none ∧ xs' = []) ∨ oo = some (.list xs')) := by
      split at hgl
      · rename_i e; cases hgl; exact ⟨_, e, .inl ⟨rfl, rfl⟩⟩
      · rename_i ds' e; cases hgl; exact ⟨_, e, .inr rfl⟩
      · cases hgl
    obtain ⟨a, ov0, rfl, hisD, _, _⟩ := dget_ok rB (.inl ru) hd
    refine ⟨.ref a, hx, a, rfl, hisD, .ref w, hsw, .inl ⟨rfl, vs, .inl (.inl hW)⟩, w, vs, u, rfl, rfl, hW, by rw [rv.length]; exact hu', Nat.zero_le _, fun q hq => ?_⟩
    obtain ⟨m2', g2⟩ := m.mut (o := .lst vs.dropLast) (d' := .list ds.dropLast) hj hsw (.lst rv.dropLast)
    have gE : GrE c (upd H w (.lst vs.dropLast)) (upd (upd H w (.lst vs.dropLast)) q (.lst [])) := GrE.same m2'.dr.a0 (same_upd hq)
    have m3 := m2'.up gE (m2'.dr.same (same_upd hq))
    have hyi : (env.set j (.ow (.list ds.dropLast)))[i]? = some y := by rw [List.getElem?_set_ne (fun z => hij z.symm)]; exact hi
    have hso3 := m3.sl i _ hyi
    rw [hx] at hso3
    obtain ⟨a', ov, ea, _, hg', hor⟩ := dget_ok (getR hso3) (.inl (Rep.mono (g2.trans (gE.st m2'.wa)).hid ru)) hd
    cases ea
    refine ⟨ov, hg', ?_⟩
    obtain ⟨A, ws, eA, nA, hA, rA⟩ : ∃ A ws, ov.getD (.ref q) = .ref A ∧ ¬ W A ∧ (upd (upd H w (.lst vs.dropLast)) q (.lst [])) A = some (.lst ws) ∧ RepL X.K c.a0 (hid W (upd (upd H w (.lst vs.dropLast)) q (.lst []))) ws xs' := by
      rcases hor with ⟨rfl, e⟩ | ⟨z, dd, rfl, e, rz⟩
      · rcases hov with ⟨_, rfl⟩ | e'
        · exact ⟨q, [], rfl, fun wq => m2'.dom q wq hq, upd_same, .nil⟩
        · rw [e] at e'; cases e'
      · rcases hov with ⟨e', _⟩ | e'
        · rw [e] at e'; cases e'
        · rw [e] at e'
          cases e'
          obtain ⟨A, ws, rfl, h1, h2, h3⟩ := lst_frz rz
          exact ⟨A, ws, rfl, h1, h2, h3⟩
    refine ⟨A, ws, eA, fun hz => .inl ⟨hA, ?_⟩, .inl hA⟩
    exact for_core m3 (wk_list hz rA fun W' H' g => ⟨(g.hp A _ nA hA).2, g⟩) (PoS.gr (g2.trans (gE.st m2'.wa)) p)
end
end Ly

set_option Elab.async false
set_option linter.all false
set_option maxRecDepth 100000
set_option maxHeartbeats 2000000
/-! Ly: defs. -/
namespace Ly
open PySem PySem.Spec PyProof.Rows L2

/-- a def of the text: its name, its statement, its slots, its parameters, its small body -/
structure DefT where
  name : Str
  st : Stmt
  N : List Str
  ps : List Str
  body : Sts
def tabOf (T : List DefT) : Nat → Option Df := fun f => (T[f]?).map fun d => ⟨d.ps.length, d.N.length, d.body⟩
/-- the names of the text -/
structure Gi where
  fns : List (Str × Nat)
  blt : List Str
  excs : List (Str × Nat)
  cons : List (Str × Int)
  xts : List Str
  tups : List (Str × List Str) := []
/-- what the rules want of a place in the text -/
structure CxOk (X : Cx) (F : Nat → List D → Dr → Oc) (Wx : WX) (exc : Exc) (G : Gi) (sc : Scope) (fnb : Str → Bool) (N : List Str) : Prop where
  scope : X.env.scope = sc
  names : X.N = N
  nd : N.Nodup
  calm : X.calm = true
  room : X.A.units + 128 < cLine
  fn : ∀ y, X.fn y = fnb y
  tk : Takes X Wx
  po : PassesOwn (model X.prog X.w) X.A X.env X.xe
  blt : ∀ y ∈ G.blt, X.mg y = none
  call : ∀ p ∈ G.fns, CallOk X exc F p.2 p.1
  excs : ∀ p ∈ G.excs, ExcFact X.K X.mg exc p.2 p.1
  cons : ∀ p ∈ G.cons, ∃ t, X.mg p.1 = some (.int p.2 t)
  tups : ∀ p ∈ G.tups, TupFact X.K X.mg p.2 p.1
/-- a place in a def itself -/
structure DefCx (X : Cx) : Prop where
  kind : X.env.scope.kind = .function
  stack : X.stack = X.env :: X.outer
  frame : X.env.frame = some X.env.locals
section
variable {X : Cx} {F : Nat → List D → Dr → Oc} {Wx : WX} {exc : Exc} {G : Gi} {sc : Scope} {fnb : Str → Bool} {N : List Str}
/-- within a comprehension -/
theorem CxOk.blk (k : CxOk X F Wx exc G sc fnb N) (scope : Scope) (s : Shared) (H : Hp) (C : Addr) (cl : List (Str × Addr)) (fp : List Addr) :
    CxOk (X.blk s H scope (compEnvC scope cl C X.env) fp) F Wx0 exc G (relS scope sc) (fun x => scope.names.lookup x == some .cell) N :=
  ⟨by rw [← k.scope]; rfl, k.names, k.nd, k.calm, k.room, fun _ => rfl, takes0, PassesOwn.never, k.blt, fun p hp => ⟨(k.call p hp).ex⟩, k.excs, k.cons, k.tups⟩
/-- within a try -/
theorem CxOk.tr (k : CxOk X F Wx exc G sc fnb N) {W : WX} {pn : List (Addr × Obj)} {xe : Value → Shared → Prop} (tk : Takes (X.tr pn xe) W) (po : PassesOwn (model X.prog X.w) X.A X.env xe) : CxOk (X.tr pn xe) F W exc G sc fnb N :=
  ⟨k.scope, k.names, k.nd, k.calm, k.room, k.fn, tk, po, k.blt, fun p hp => ⟨(k.call p hp).ex⟩, k.excs, k.cons, k.tups⟩
theorem DefCx.tr (k : DefCx X) {pn : List (Addr × Obj)} {xe : Value → Shared → Prop} : DefCx (X.tr pn xe) := ⟨k.kind, k.stack, k.frame⟩
end
/-- a def's body is what its small body says -/
def TransOk (W : Nat) (G : Gi) (d : DefT) : Prop := ∀ (X : Cx) (F : Nat → List D → Dr → Oc) (c : Cc) (Wx : WX) (exc : Exc), CxOk X F Wx exc G (defScope d.st) (fun _ => true) d.N → DefCx X → TrSs X F W c Wx exc (defBody d.st) d.body
/-- a def that may be called -/
structure FnAt (P : Program) (w : World) (K : PySem.W.Frag) (mg : Str → Option Value) (base : Heap) (exc : Exc) (F : Nat → List D → Dr → Oc) (k : Nat) (f : Nat) (y : Str) : Prop where
  ex : ∃ fa fd ps, FnOk P w K mg base (L2.CX P w) k fa fd ps (spF K exc F f) ∧ mg y = some (.ref fa) ∧ PySem.W.keepIn K (.ref fa) = true ∧ Binds K fd ps []
section
variable {P : Program} {w : World} {K : PySem.W.Frag} {mg : Str → Option Value} {base : Heap} {exc : Exc} {W : Nat} {G : Gi} {T : List DefT} {sp : Nat → List D → Dr → Oc}
theorem startE {vs : List V} {ds : List D} {n : Nat} {N : List Str} (hn : n = N.length) {a0 : Addr} {Wd : Addr → Prop} {H : Hp} {dr : Dr} (wa : Wd a0) (dm : ∀ b, Wd b → H b ≠ none) (dk : DrOk H a0 Wd dr) (r : RepL K a0 (hid Wd H) vs ds) (hl : ds.length ≤ n) :
    Mt K ⟨a0, Wd, H⟩ ⟨ds.map .fz ++ List.replicate (n - ds.length) .un, dr⟩ (L2.start N vs) H Wd := by
  have hv := r.length
  refine ⟨by unfold L2.start; simp [hv, hn], fun i x e => ?_, fun i j x y v e1 e2 h1 => ?_, dk, wa, fun _ h => h, dm, fun _ _ _ h => h⟩
  · by_cases hi : i < ds.length
    · rw [List.getElem?_append_left (by simpa using hi), List.getElem?_map] at e
      cases hd : ds[i]? with
      | none => rw [hd] at e; cases e
      | some d =>
        rw [hd] at e
        cases e
        obtain ⟨v, h1, h2⟩ := r.getD' hd
        refine ⟨v, ?_, h2⟩
        unfold L2.start
        rw [List.getElem?_append_left (by rw [List.length_map, hv]; exact hi), List.getElem?_map, h1]
        rfl
    · rw [List.getElem?_append_right (by simpa using hi), List.getElem?_replicate] at e
      split at e
      · cases e; trivial
      · cases e
  · have : x.held = false := by
      by_cases hi : i < ds.length
      · rw [List.getElem?_append_left (by simpa using hi), List.getElem?_map] at e1
        cases hd : ds[i]? with
        | none => rw [hd] at e1; cases e1
        | some d => rw [hd] at e1; cases e1; rfl
      · rw [List.getElem?_append_right (by simpa using hi), List.getElem?_replicate] at e1
        split at e1
        · cases e1; rfl
        · cases e1
    rw [this] at h1; cases h1
/-- a def's body at its entry -/
theorem body_ok {a0 : Addr} {Wd : Addr → Prop} {H : Hp} {dr : Dr} {vs : List V} {ds : List D} {N : List Str} {d : Df} {F : Nat → List D → Dr → Oc} {Wx : WX} {E : XK} {Q : VK} {σ0 : L2.St} (hn : d.n = N.length) (hps : d.ps ≤ N.length) (wa : Wd a0) (dm : ∀ b, Wd b → H b ≠ none) (dk : DrOk H a0 Wd dr) (r : RepL K a0 (hid Wd H) vs ds)
    (hE : ∀ cls dd σ H, E cls dd H → Wx cls dd σ H)
    (h : Po ⟨a0, Wd, H⟩ (fun cls dd _ H => E cls dd H) exc (RepF K ⟨a0, Wd, H⟩) Wd σ0 (runDf F W d ds dr).r H Q) : okS K ⟨a0, Wd, H⟩ Wx exc (exs F W d.body) { nx := fun _ H' => Q .non H', rt := Q } (L2.start N vs) H := by
  unfold runDf at h
  by_cases hl : ds.length = d.ps
  · rw [if_pos hl] at h
    have m := startE (N := N) hn wa dm dk r (by rw [hl, hn]; exact hps)
    refine ⟨_, Wd, m, ?_⟩
    have fin : ∀ {dr' : Dr} {W' : Addr → Prop} {σ' : L2.St} {H' : Hp} {env : List Sl}, Mt K ⟨a0, Wd, H⟩ ⟨env, dr'⟩ σ' H' W' → GrE ⟨a0, Wd, H⟩ H H' ∧ DrOk H' a0 Wd dr' ∧ Same (hid W' H') (hid Wd H') := fun {dr' W' σ' H' env} m' => by
      have same : Same (hid W' H') (hid Wd H') := hid_mono m'.w0 fun b o _ h => h
      refine ⟨⟨m'.keep, m'.dr.a0⟩, ?_, same⟩
      obtain ⟨a, e1, e2⟩ := m'.dr
      exact ⟨a, e1, same _ _ e2⟩
    cases hx : exs F W d.body ⟨ds.map .fz ++ List.replicate (d.n - ds.length) .un, dr⟩ with
    | stk => rw [hx] at h; exact h
    | err e s =>
      rw [hx] at h
      intro σ' H' W' m' g cls dd x
      obtain ⟨f1, f2, f3⟩ := fin (env := s.env) (dr' := s.dr) m'
      exact hE _ _ _ _ (h H' f1 f2 cls dd x)
    | ok f s =>
      rw [hx] at h
      cases f with
      | nx =>
        intro σ' H' W' m' g
        obtain ⟨f1, f2, f3⟩ := fin (env := s.env) (dr' := s.dr) m'
        exact h .non H' f1 f2 .non
      | rt dd =>
        intro v σ' H' W' m' g rv
        obtain ⟨f1, f2, f3⟩ := fin (env := s.env) (dr' := s.dr) m'
        exact h v H' f1 f2 (Rep.mono f3 rv)
      | bk => exact False.elim h
      | ct => exact False.elim h
  · rw [if_neg hl] at h
    exact False.elim h
/-- what stands behind the top -/
structure TabOk (K : PySem.W.Frag) (mg : Str → Option Value) (W : Nat) (G : Gi) (d : DefT) : Prop where
  ex : ∃ fa fd, mg d.name = some (.ref fa) ∧ Fun K d.name d.name d.st fa fd ∧ Binds K fd d.ps []
  sc : FnScope d.N d.ps (defScope d.st)
  tr : TransOk W G d
theorem all_ok (hex : ∀ p ∈ G.excs, ExcFact K mg exc p.2 p.1) (hcs : ∀ p ∈ G.cons, ∃ t, mg p.1 = some (.int p.2 t)) (htp : ∀ p ∈ G.tups, TupFact K mg p.2 p.1) (hb : ∀ y ∈ G.blt, mg y = none) (hT : ∀ (f : Nat) (d : DefT), T[f]? = some d → TabOk K mg W G d) (hG : ∀ p ∈ G.fns, (∃ d, T[p.2]? = some d ∧ d.name = p.1) ∨ (T[p.2]? = none ∧ FnAt P w K mg base exc sp 1 p.2 p.1)) :
    ∀ k p, p ∈ G.fns → FnAt P w K mg base exc (run (tabOf T) sp W k) k p.2 p.1 := by
  intro k
  induction k with
  | zero =>
    intro p hp
    have no : ∀ vs H Q E, ¬ spF K exc (run (tabOf T) sp W 0) p.2 vs H Q E := fun vs H Q E ⟨a0, Wd, dr, ds, _, _, _, _, h⟩ => h
    rcases hG p hp with ⟨d, hd, hn⟩ | ⟨_, ⟨fa, fd, ps, Fn, h1, h2, h3⟩⟩
    · obtain ⟨fa, fd, h1, h2, h3⟩ := (hT p.2 d hd).ex
      exact ⟨fa, fd, d.ps, ⟨fun vs H Q E h => absurd h (no vs H Q E), fun A outer s H args us vs Q E _ _ _ _ h => absurd h (no vs H Q E)⟩, by rw [← hn]; exact h1, h2.kp, h3⟩
    · exact ⟨fa, fd, ps, ⟨fun vs H Q E h => absurd h (no vs H Q E), fun A outer s H args us vs Q E _ _ _ _ h => absurd h (no vs H Q E)⟩, h1, h2, h3⟩
  | succ k ih =>
    intro p hp
    rcases hG p hp with ⟨d, hd, hn⟩ | ⟨hno, ⟨fa, fd, ps, Fn, h1, h2, h3⟩⟩
    · have t := hT p.2 d hd
      obtain ⟨fa, fd, h1, h2, h3⟩ := t.ex
      have et : tabOf T p.2 = some ⟨d.ps.length, d.N.length, d.body⟩ := by unfold tabOf; rw [hd]; rfl
      have er : ∀ ds dr, run (tabOf T) sp W (k + 1) p.2 ds dr = runDf (run (tabOf T) sp W k) W ⟨d.ps.length, d.N.length, d.body⟩ ds dr := fun ds dr => by
        show (match tabOf T p.2 with
          | some d => runDf (run (tabOf T) sp W k) W d ds dr
          | none => sp p.2 ds dr) = _
        rw [et]
      have hpn : d.ps.length ≤ d.N.length := by
        have := congrArg List.length t.sc.pre
        rw [List.length_take] at this
        omega
      refine ⟨fa, fd, d.ps, h2.okX t.sc (fun vs H Q E h => ?_) (fun cdv A outer s H vs Q E hr h => ?_), by rw [← hn]; exact h1, h2.kp, h3⟩
      · obtain ⟨a0, Wd, dr, ds, wa, dm, dk, r, h⟩ := h
        rw [er] at h
        unfold runDf at h
        by_cases hl : ds.length = d.ps.length
        · rw [r.length, hl]
        · rw [if_neg hl] at h; exact False.elim h
      · obtain ⟨a0, Wd, dr, ds, wa, dm, dk, r, h⟩ := h
        rw [er] at h
        refine ⟨_, t.tr _ (run (tabOf T) sp W k) ⟨a0, Wd, H⟩ (fun cls dd _ H => E cls dd H) exc ⟨rfl, rfl, t.sc.nd, rfl, ?_, fun _ => rfl, takes_of rfl rfl rfl rfl, passes_of rfl, hb, fun q hq => ?_, hex, hcs, htp⟩ ⟨t.sc.kind, rfl, rfl⟩, body_ok rfl hpn wa dm dk r (fun _ _ _ _ h => h) h⟩
        · refine Nat.lt_of_le_of_lt ?_ hr.un
          show (A.deeper (envOfC d.name (defScope d.st) s.heap.objs.size fa cdv)).units + 128 ≤ (A.deeper (envOfC d.name (defScope d.st) s.heap.objs.size fa cdv)).units + 16 * k + 200
          omega
        · obtain ⟨fa', fd', ps', Fn', g1, g2, g3⟩ := (ih q hq).ex
          exact ⟨fa', fd', ps', k, Fn', hr, g1, g2, g3⟩
    · refine ⟨fa, fd, ps, ?_, h1, h2, h3⟩
      have et : tabOf T p.2 = none := by unfold tabOf; rw [hno]; rfl
      have er : ∀ ds dr, run (tabOf T) sp W (k + 1) p.2 ds dr = sp p.2 ds dr := fun ds dr => by
        show (match tabOf T p.2 with
          | some d => runDf (run (tabOf T) sp W k) W d ds dr
          | none => sp p.2 ds dr) = _
        rw [et]
      exact (Fn.mono (Nat.le_add_left 1 k)).imp fun vs H Q E ⟨a0, Wd, dr, ds, wa, dm, dk, r, h⟩ => ⟨a0, Wd, dr, ds, wa, dm, dk, r, by rw [er] at h; exact h⟩
end
end Ly

set_option Elab.async false
set_option linter.all false
set_option maxRecDepth 100000
set_option maxHeartbeats 3200000
/-! Ly: set(xs), xs a list of ints: what the set holds, and that it may be walked in order. -/
namespace L2
open PySem PySem.Spec PyProof.Rows
section
variable {P : Program} {w : World} {A : Around} {E : Value → Shared → Prop} {s : Shared}
/-- a set just made -/
abbrev newSet (w : World) : Obj := { cls := .type "set", dict := none, data := .set #[] 0 (.fresh 0 0 (!w.params.followText "set-order")) }
abbrev itOf (l : Addr) : Obj := { cls := .type "list_iterator", data := .fields #[.ref l, .int 0 0] }
/-- all ints of the list are put in, one by one -/
theorem put_all {l : Addr} {items : Array Value} {ns : List Int} {h0 : Heap} {tk : Nat} {R : Result → Shared → Prop} (hh : A.handled = none) (hl : h0.IsList l items) (hlt : l < h0.objs.size) (hi : IntsAre items.toList ns) (hb : ns.length + 1 < scanBound)
    (hR : ∀ (h' : Heap) (t' c : Nat), SetR w h' h0.objs.size (fun j => decide (j ∈ ns)) c → c ≤ ns.length → (∀ b o, h0.get? b = some o → h'.get? b = some o) → R (.ok (.ret .none)) { s with heap := h', toks := t' }) :
    codeAny (model P w) A (.builtin "set.update.loop" ⟨[.ref h0.objs.size, .ref (h0.push (newSet w)).objs.size], []⟩) R { s with heap := (h0.push (newSet w)).push (itOf l), toks := tk } := by
  have hz : items.size = ns.length := by simpa using IntsAre.length hi
  have z1 : (h0.push (newSet w)).objs.size = h0.objs.size + 1 := Heap.size_push ..
  have d1 : l ≠ (h0.push (newSet w)).objs.size := by rw [z1]; exact Nat.ne_of_lt (Nat.lt_succ_of_lt hlt)
  have d3 : h0.objs.size ≠ (h0.push (newSet w)).objs.size := by rw [z1]; exact Nat.ne_of_lt (Nat.lt_succ_self _)
  have d2 : h0.objs.size ∉ [(h0.push (newSet w)).objs.size, l] := fun hm => (List.mem_cons.mp hm).elim d3 fun e => Nat.ne_of_gt hlt (List.mem_singleton.mp e)
  have val : ∀ (i : Nat) (v : Value), items[i]? = some v → ∃ k t, ns[i]? = some k ∧ v = .int k t := fun i v e => by
    have hlt : i < ns.length := by have := (Array.getElem?_eq_some_iff.mp e).1; omega
    obtain ⟨t, et⟩ := PyProof.Rows.IntsAre.int_at hi i v (by rw [Array.getElem?_toList, e])
    exact ⟨ns[i], t, by simp [hlt], by rw [et]; simp [List.getD_eq_getElem?_getD, hlt]⟩
  have e0 : ((h0.push (newSet w)).push (itOf l)).get? h0.objs.size = some (newSet w) := Heap.get?_push_of_some _ (Heap.get?_push_size _ rfl)
  have W := (Walks.list (prog := P) (w := w) (A := A.in1) hh (h0.push (newSet w)).objs.size l d1 items).toS
  refine set_update_ints W h0.objs.size d2 ns hz hb val items.size 0 _ rfl (Nat.zero_le _) ⟨⟨_, Heap.get?_push_size _ rfl, rfl, rfl⟩, (hl.push _).push _⟩ ⟨0, Nat.le_refl 0, setR_new_at e0⟩ fun s' c mv hc hS => ?_
  obtain ⟨h', g, d, t', os⟩ := s'
  cases mv.gens; cases mv.drawn; cases mv.os
  refine hR h' t' c hS (by omega) fun b o e => ?_
  have hlt := Heap.lt_size e
  have n1 : b ≠ h0.objs.size := Nat.ne_of_lt hlt
  have n2 : b ≠ (h0.push (newSet w)).objs.size := by rw [z1]; exact Nat.ne_of_lt (Nat.lt_succ_of_lt hlt)
  exact mv.heap b o (fun hm => (List.mem_cons.mp hm).elim n1 fun e => n2 (List.mem_singleton.mp e)) (Heap.get?_push_of_some _ (Heap.get?_push_of_some _ e))
/-- set(xs), xs a list of ints -/
theorem set_listI {l : Addr} {items : Array Value} (ns : List Int) {Q : Value → Shared → Prop} (hh : A.handled = none) (hl : s.heap.IsList l items) (hi : IntsAre items.toList ns) (hb : ns.length + 1 < scanBound)
    (hQ : ∀ (h' : Heap) (tk c : Nat), SetR w h' s.heap.objs.size (fun j => decide (j ∈ ns)) c → c ≤ ns.length → (∀ b o, s.heap.get? b = some o → h'.get? b = some o) → Q (.ref s.heap.objs.size) { s with heap := h', toks := tk }) :
    wpAny (model P w) A (call (.type "set") [.ref l]) Q E s := by
  obtain ⟨cc, tl, hmro⟩ := F.called_set.mro
  have ⟨f1, f2, f3, f4, f5⟩ := And.intro F.called_set.made (And.intro F.called_set.sub (And.intro F.called_set.notType (And.intro F.called_set.canCreate (F.typeCall_set_1 (.ref l)))))
  refine wpAny_call (codeAny_of_tree (show wpAny _ _ (callAny (.type "set") _) _ _ _ from wpAny_pure ⟨Code.quiet_builtin _ (by decide +kernel), codeAny_builtin F.entry_type_call ?_⟩))
  rw [Around.under_plain (weight_type_call_type "set" [.ref l] []) rfl]
  repeat any_goals first | assumption | wp_step
  refine codeAny_mono (code_set_led1 (.ref l) (E := E) (Q₁ := fun o s1 => o = .ref s.heap.objs.size ∧ s1 = { s with heap := s.heap.push (newSet w) }) ⟨rfl, rfl⟩) fun r s1 hr => ?_
  rcases r with e | fl
  · exact hr
  cases fl with
  | ret o =>
    obtain ⟨e1, e2⟩ := hr
    subst e1 e2
    have hS : (s.heap.push (newSet w)).get? s.heap.objs.size = some (newSet w) := Heap.get?_push_size _ rfl
    have hT : Shared.TypeIs { s with heap := s.heap.push (newSet w) } (.ref s.heap.objs.size) "set" := ⟨_, hS, rfl⟩
    have ⟨g1, g2⟩ := And.intro F.called_set.init.lookup (F.called_set.init.bind (.ref s.heap.objs.size))
    repeat any_goals first | assumption | wp_step
    refine codeAny_mono (codeAny_call_builtin (R := wants (fun r s2 => r = .none ∧ ∃ h' tk c, s2 = { s with heap := h', toks := tk } ∧ SetR w h' s.heap.objs.size (fun j => decide (j ∈ ns)) c ∧ c ≤ ns.length ∧ ∀ b o, s.heap.get? b = some o → h'.get? b = some o) E)
      F.called_set.init.plain F.entry_set_init (check_set_init_1 hT ?_)) fun r2 s2 hr2 => ?_
    · have hl0 := hl
      obtain ⟨⟨k, d, dt, sl⟩, at0, hk, n, hd⟩ := hl
      have ⟨i1, i2⟩ := And.intro F.sub_list_set F.sub_list_frozenset
      have i3 : (Value.type "list" == Value.type "dict") = false := by decide
      cases (show k = .type "list" from hk)
      cases (show dt = .seq items n from hd)
      have at1 : (s.heap.push (newSet w)).get? l = some ⟨.type "list", d, .seq items n, sl⟩ := Heap.get?_push_of_some _ at0
      unfold Builtin.«set.__init__» noKeywords Builtin.Frozenset.updateFrom
      generalize hPI : pyIter = PI
      wp_walk
      subst hPI
      have hl1 : (s.heap.push (newSet w)).IsList l items := ⟨_, at1, rfl, n, rfl⟩
      have hh3 : A.in1.in1.in1.handled = none := by simp [hh]
      refine wpAny_pyIter_list hl1 (wpAny_bind (wpAny_runValue (put_all hh3 hl0 (Heap.lt_size at0) hi hb fun h' tk c a1 a2 a3 => ?_)))
      exact wpAny_pure (show wpAny _ _ (ret Value.none) _ _ _ from wpAny_pure ⟨rfl, h', tk, c, rfl, a1, a2, a3⟩)
    · rcases r2 with e | fl2
      · exact hr2
      cases fl2 with
      | ret v =>
        obtain ⟨e1, h', tk, c, e2, a1, a2, a3⟩ := hr2
        subst e1 e2
        repeat any_goals first | assumption | wp_step
        exact hQ _ _ _ a1 a2 a3
      | _ => exact False.elim hr2
  | _ => exact False.elim hr
abbrev itTf (l : Addr) : Obj := { cls := .type "tuple_iterator", data := .fields #[.ref l, .int 0 0] }
/-- all ints of the tuple are put in, one by one -/
theorem put_allT {l : Addr} {items : Array Value} {ns : List Int} {h0 : Heap} {tk : Nat} {R : Result → Shared → Prop} (hh : A.handled = none) (hl : h0.IsTuple l items) (hlt : l < h0.objs.size) (hi : IntsAre items.toList ns) (hb : ns.length + 1 < scanBound)
    (hR : ∀ (h' : Heap) (t' c : Nat), SetR w h' h0.objs.size (fun j => decide (j ∈ ns)) c → c ≤ ns.length → (∀ b o, h0.get? b = some o → h'.get? b = some o) → R (.ok (.ret .none)) { s with heap := h', toks := t' }) :
    codeAny (model P w) A (.builtin "set.update.loop" ⟨[.ref h0.objs.size, .ref (h0.push (newSet w)).objs.size], []⟩) R { s with heap := (h0.push (newSet w)).push (itTf l), toks := tk } := by
  have hz : items.size = ns.length := by simpa using IntsAre.length hi
  have z1 : (h0.push (newSet w)).objs.size = h0.objs.size + 1 := Heap.size_push ..
  have d1 : l ≠ (h0.push (newSet w)).objs.size := by rw [z1]; exact Nat.ne_of_lt (Nat.lt_succ_of_lt hlt)
  have d3 : h0.objs.size ≠ (h0.push (newSet w)).objs.size := by rw [z1]; exact Nat.ne_of_lt (Nat.lt_succ_self _)
  have d2 : h0.objs.size ∉ [(h0.push (newSet w)).objs.size, l] := fun hm => (List.mem_cons.mp hm).elim d3 fun e => Nat.ne_of_gt hlt (List.mem_singleton.mp e)
  have val : ∀ (i : Nat) (v : Value), items[i]? = some v → ∃ k t, ns[i]? = some k ∧ v = .int k t := fun i v e => by
    have hlt : i < ns.length := by have := (Array.getElem?_eq_some_iff.mp e).1; omega
    obtain ⟨t, et⟩ := PyProof.Rows.IntsAre.int_at hi i v (by rw [Array.getElem?_toList, e])
    exact ⟨ns[i], t, by simp [hlt], by rw [et]; simp [List.getD_eq_getElem?_getD, hlt]⟩
  have e0 : ((h0.push (newSet w)).push (itTf l)).get? h0.objs.size = some (newSet w) := Heap.get?_push_of_some _ (Heap.get?_push_size _ rfl)
  have W := (Walks.tuple (prog := P) (w := w) (A := A.in1) hh (h0.push (newSet w)).objs.size l d1 items).toS
  refine set_update_ints W h0.objs.size d2 ns hz hb val items.size 0 _ rfl (Nat.zero_le _) ⟨⟨_, Heap.get?_push_size _ rfl, rfl, rfl⟩, (hl.push _).push _⟩ ⟨0, Nat.le_refl 0, setR_new_at e0⟩ fun s' c mv hc hS => ?_
  obtain ⟨h', g, d, t', os⟩ := s'
  cases mv.gens; cases mv.drawn; cases mv.os
  refine hR h' t' c hS (by omega) fun b o e => ?_
  have hlt := Heap.lt_size e
  have n1 : b ≠ h0.objs.size := Nat.ne_of_lt hlt
  have n2 : b ≠ (h0.push (newSet w)).objs.size := by rw [z1]; exact Nat.ne_of_lt (Nat.lt_succ_of_lt hlt)
  exact mv.heap b o (fun hm => (List.mem_cons.mp hm).elim n1 fun e => n2 (List.mem_singleton.mp e)) (Heap.get?_push_of_some _ (Heap.get?_push_of_some _ e))
/-- set(xs), xs a tuple of ints -/
theorem set_tupI {l : Addr} {items : Array Value} (ns : List Int) {Q : Value → Shared → Prop} (hh : A.handled = none) (hl : s.heap.IsTuple l items) (hi : IntsAre items.toList ns) (hb : ns.length + 1 < scanBound)
    (hQ : ∀ (h' : Heap) (tk c : Nat), SetR w h' s.heap.objs.size (fun j => decide (j ∈ ns)) c → c ≤ ns.length → (∀ b o, s.heap.get? b = some o → h'.get? b = some o) → Q (.ref s.heap.objs.size) { s with heap := h', toks := tk }) :
    wpAny (model P w) A (call (.type "set") [.ref l]) Q E s := by
  obtain ⟨cc, tl, hmro⟩ := F.called_set.mro
  have ⟨f1, f2, f3, f4, f5⟩ := And.intro F.called_set.made (And.intro F.called_set.sub (And.intro F.called_set.notType (And.intro F.called_set.canCreate (F.typeCall_set_1 (.ref l)))))
  refine wpAny_call (codeAny_of_tree (show wpAny _ _ (callAny (.type "set") _) _ _ _ from wpAny_pure ⟨Code.quiet_builtin _ (by decide +kernel), codeAny_builtin F.entry_type_call ?_⟩))
  rw [Around.under_plain (weight_type_call_type "set" [.ref l] []) rfl]
  repeat any_goals first | assumption | wp_step
  refine codeAny_mono (code_set_led1 (.ref l) (E := E) (Q₁ := fun o s1 => o = .ref s.heap.objs.size ∧ s1 = { s with heap := s.heap.push (newSet w) }) ⟨rfl, rfl⟩) fun r s1 hr => ?_
  rcases r with e | fl
  · exact hr
  cases fl with
  | ret o =>
    obtain ⟨e1, e2⟩ := hr
    subst e1 e2
    have hS : (s.heap.push (newSet w)).get? s.heap.objs.size = some (newSet w) := Heap.get?_push_size _ rfl
    have hT : Shared.TypeIs { s with heap := s.heap.push (newSet w) } (.ref s.heap.objs.size) "set" := ⟨_, hS, rfl⟩
    have ⟨g1, g2⟩ := And.intro F.called_set.init.lookup (F.called_set.init.bind (.ref s.heap.objs.size))
    repeat any_goals first | assumption | wp_step
    refine codeAny_mono (codeAny_call_builtin (R := wants (fun r s2 => r = .none ∧ ∃ h' tk c, s2 = { s with heap := h', toks := tk } ∧ SetR w h' s.heap.objs.size (fun j => decide (j ∈ ns)) c ∧ c ≤ ns.length ∧ ∀ b o, s.heap.get? b = some o → h'.get? b = some o) E)
      F.called_set.init.plain F.entry_set_init (check_set_init_1 hT ?_)) fun r2 s2 hr2 => ?_
    · have hl0 := hl
      obtain ⟨⟨k, d, dt, sl⟩, at0, hk, n, hd⟩ := hl
      have ⟨i1, i2⟩ := And.intro F.sub_tuple_set F.sub_tuple_frozenset
      have i3 : (Value.type "tuple" == Value.type "dict") = false := by decide
      cases (show k = .type "tuple" from hk)
      cases (show dt = .seq items n from hd)
      have at1 : (s.heap.push (newSet w)).get? l = some ⟨.type "tuple", d, .seq items n, sl⟩ := Heap.get?_push_of_some _ at0
      unfold Builtin.«set.__init__» noKeywords Builtin.Frozenset.updateFrom
      generalize hPI : pyIter = PI
      wp_walk
      subst hPI
      have hl1 : (s.heap.push (newSet w)).IsTuple l items := ⟨_, at1, rfl, n, rfl⟩
      have hh3 : A.in1.in1.in1.handled = none := by simp [hh]
      refine wpAny_pyIter_tuple hl1 (wpAny_bind (wpAny_runValue (put_allT hh3 hl0 (Heap.lt_size at0) hi hb fun h' tk c a1 a2 a3 => ?_)))
      exact wpAny_pure (show wpAny _ _ (ret Value.none) _ _ _ from wpAny_pure ⟨rfl, h', tk, c, rfl, a1, a2, a3⟩)
    · rcases r2 with e | fl2
      · exact hr2
      cases fl2 with
      | ret v =>
        obtain ⟨e1, h', tk, c, e2, a1, a2, a3⟩ := hr2
        subst e1 e2
        repeat any_goals first | assumption | wp_step
        exact hQ _ _ _ a1 a2 a3
      | _ => exact False.elim hr2
  | _ => exact False.elim hr
end
end L2

set_option Elab.async false
set_option linter.all false
set_option maxRecDepth 100000
set_option maxHeartbeats 2000000
/-! Ly: sorted(set(xs)) of ints, read. -/
namespace Ly
open PySem PySem.Spec PyProof.Rows L2
theorem dedup_mem : ∀ {ns : List Int} {k : Int}, k ∈ dedup ns ↔ k ∈ ns
  | [], k => by simp [dedup]
  | x :: r, k => by
    unfold dedup
    split
    · rename_i h
      rw [dedup_mem, List.mem_cons]
      have hx : x ∈ r := dedup_mem.mp (List.contains_iff_mem.mp h)
      exact ⟨.inr, fun z => z.elim (fun e => e ▸ hx) id⟩
    · rw [List.mem_cons, List.mem_cons, dedup_mem]
theorem dedup_nodup : ∀ ns : List Int, (dedup ns).Nodup
  | [] => by simp [dedup]
  | x :: r => by
    unfold dedup
    split
    · exact dedup_nodup r
    · rename_i h
      exact List.nodup_cons.mpr ⟨fun z => h (List.contains_iff_mem.mpr z), dedup_nodup r⟩
theorem ssL_perm (ns : List Int) : (ssL ns).Perm (dedup ns) := List.mergeSort_perm _ _
theorem ssL_mem {ns : List Int} {k : Int} : k ∈ ssL ns ↔ k ∈ ns := by rw [(ssL_perm ns).mem_iff, dedup_mem]
theorem ssL_lt (ns : List Int) : (ssL ns).Pairwise (· < ·) := by
  have h1 : (ssL ns).Pairwise (fun a b => decide (a ≤ b) = true) := List.pairwise_mergeSort (fun a b c h h' => by simp only [decide_eq_true_eq] at *; omega) (fun a b => by simp only [Bool.or_eq_true, decide_eq_true_eq]; omega) _
  exact lt_of_le_nodup _ (h1.imp fun h => of_decide_eq_true h) ((ssL_perm ns).nodup_iff.mpr (dedup_nodup ns))
theorem rise_eq : ∀ {a b : List Int}, a.Pairwise (· < ·) → b.Pairwise (· < ·) → (∀ k, k ∈ a ↔ k ∈ b) → a = b
  | [], [], _, _, _ => rfl
  | [], y :: b, _, _, h => by have := (h y).mpr List.mem_cons_self; cases this
  | x :: a, [], _, _, h => by have := (h x).mp List.mem_cons_self; cases this
  | x :: a, y :: b, ha, hb, h => by
    obtain ⟨a1, a2⟩ := List.pairwise_cons.mp ha
    obtain ⟨b1, b2⟩ := List.pairwise_cons.mp hb
    have e : x = y := by
      rcases List.mem_cons.mp ((h x).mp List.mem_cons_self) with e | e
      · exact e
      · rcases List.mem_cons.mp ((h y).mpr List.mem_cons_self) with e' | e'
        · exact e'.symm
        · have := a1 y e'
          have := b1 x e
          omega
    subst e
    congr 1
    refine rise_eq a2 b2 fun k => ⟨fun hk => ?_, fun hk => ?_⟩
    · rcases List.mem_cons.mp ((h k).mp (List.mem_cons_of_mem _ hk)) with e | e
      · have := a1 k hk; omega
      · exact e
    · rcases List.mem_cons.mp ((h k).mpr (List.mem_cons_of_mem _ hk)) with e | e
      · have := b1 k hk; omega
      · exact e
section
variable {X : Cx} {F : Nat → List D → Dr → Oc} {c : Cc} {Wx : WX} {exc : Exc} {a : Expr} {x : Ex} {pos : Pos}
def tSS (K : PySem.W.Frag) (ta : TE) : TE := fun σ H Q => ta σ H fun x H1 => ∃ (l : Addr) (ns : List Int), x = V.ref l ∧ H1 l = some (.lst (ns.map V.int)) ∧ ns.length ≤ 4000 ∧ (dedup ns).length < 64 ∧ ∀ p, H1 p = none → Q (.ref p) (upd H1 p (.lst ((ssL ns).map V.int)))
theorem pe_sset {ta : TE} {p p2 q : Pos} (hc : X.calm = true) (hg : Gl X "sorted") (hm : X.mg "sorted" = none) (hg2 : Gl X "set") (hm2 : X.mg "set" = none) (ha : PE X a ta) (hp : Plain [a]) :
    PE X (.Call (.Name "sorted" p) [.Call (.Name "set" p2) [a] [] q] [] pos) (tSS X.K ta) := by
  refine ⟨fun pins s σ H Q I h => ?_⟩
  refine Call_ (ld_blt I hg hm boot_sorted ?_)
  refine PyProof.Rows.callWith_builtin1 (PyProof.Rows.args_cons ?_ rfl) rfl rfl
  refine Call_ (ld_blt I hg2 hm2 PyProof.Rows.boot_set ?_)
  refine PyProof.Rows.callWith_type1 (PyProof.Rows.args_cons (thn (ha.run pins s σ H _ I h) fun v s1 ⟨x, H1, I1, r1, q1⟩ => PyProof.Rows.args_nil ?_) (hp.head _)) (hp.head _) rfl
  obtain ⟨l, ns, rfl, hq, h1, hd, q1⟩ := q1
  cases r1
  obtain ⟨its, r, pl, hz⟩ := I1.list (.inl (.inl hq))
  refine set_listI (P := X.prog) (w := X.w) ns (I1.ok.hd hc) pl.isList (ints_of_vals (by simpa using r)) (by unfold scanBound; omega) fun h' tk n hS hn hk => ?_
  refine PyProof.Rows.args_nil ?_
  have I2 : Inv X pins σ H1 { s1 with heap := h', toks := tk } := I1.kept hk
  have hn64 : n < 64 := by
    obtain ⟨o, es, ep, t, ho, hex, hdt, g, nd, hmem, hb, hf, hne, hr, hl⟩ := hS
    have pm : (es.toList.map keyOf).Perm (dedup ns) := by
      refine (List.perm_ext_iff_of_nodup nd (dedup_nodup ns)).mpr fun k => ?_
      rw [← hmem k, dedup_mem, decide_eq_true_eq]
    have := pm.length_eq
    rw [List.length_map, Array.length_toList, hne] at this
    omega
  refine L2.sorted_set hS (I1.ok.hd hc) hn64 fun s' p' out cc ns' k g o hp' hg' hi pw hmem hlen => ?_
  have e : ns' = ssL ns := rise_eq pw (ssL_lt ns) fun k => by rw [hmem k, decide_eq_true_eq, ssL_mem]
  subst e
  have hv : Vals ((ssL ns).map V.int) out.toList := vals_of_ints hi
  have hsz : ((ssL ns).map V.int).length ≤ sizeLine := by
    rw [List.length_map, (ssL_perm ns).length_eq, sizeLine_eq]; omega
  have hn1 : H1 p' = none := I2.hok.fresh hp'
  have J : Inv X pins σ (upd H1 p' (.lst ((ssL ns).map V.int))) { s1 with heap := s'.heap, gens := s'.gens, drawn := s'.drawn, toks := s'.toks } :=
    L2.Inv.call (s := { s1 with heap := h', toks := tk }) (ch := []) I2 (Un.laid k hp' hn1) (I2.hok.laid k hp' ⟨hsz, out.toList, cc, hv, hg'⟩) (by rw [g]; exact I2.bare) (fun _ z => nomatch z)
  have e : s' = { s1 with heap := s'.heap, gens := s'.gens, drawn := s'.drawn, toks := s'.toks } := by
    cases s'
    cases s1
    cases o
    rfl
  rw [e]
  exact ⟨.ref p', _, J, rfl, q1 p' hn1⟩
def tSST (K : PySem.W.Frag) (ta : TE) : TE := fun σ H Q => ta σ H fun x H1 => ∃ (l : Addr) (ns : List Int), x = V.ref l ∧ H1 l = some (.tup (ns.map V.int)) ∧ ns.length ≤ 4000 ∧ (dedup ns).length < 64 ∧ ∀ p, H1 p = none → Q (.ref p) (upd H1 p (.lst ((ssL ns).map V.int)))
theorem pe_ssetT {ta : TE} {p p2 q : Pos} (hc : X.calm = true) (hg : Gl X "sorted") (hm : X.mg "sorted" = none) (hg2 : Gl X "set") (hm2 : X.mg "set" = none) (ha : PE X a ta) (hp : Plain [a]) :
    PE X (.Call (.Name "sorted" p) [.Call (.Name "set" p2) [a] [] q] [] pos) (tSST X.K ta) := by
  refine ⟨fun pins s σ H Q I h => ?_⟩
  refine Call_ (ld_blt I hg hm boot_sorted ?_)
  refine PyProof.Rows.callWith_builtin1 (PyProof.Rows.args_cons ?_ rfl) rfl rfl
  refine Call_ (ld_blt I hg2 hm2 PyProof.Rows.boot_set ?_)
  refine PyProof.Rows.callWith_type1 (PyProof.Rows.args_cons (thn (ha.run pins s σ H _ I h) fun v s1 ⟨x, H1, I1, r1, q1⟩ => PyProof.Rows.args_nil ?_) (hp.head _)) (hp.head _) rfl
  obtain ⟨l, ns, rfl, hq, h1, hd, q1⟩ := q1
  cases r1
  obtain ⟨its, r, pl, hz⟩ := I1.tuple (.inl (.inl hq))
  refine set_tupI (P := X.prog) (w := X.w) ns (I1.ok.hd hc) pl (ints_of_vals (by simpa using r)) (by unfold scanBound; omega) fun h' tk n hS hn hk => ?_
  refine PyProof.Rows.args_nil ?_
  have I2 : Inv X pins σ H1 { s1 with heap := h', toks := tk } := I1.kept hk
  have hn64 : n < 64 := by
    obtain ⟨o, es, ep, t, ho, hex, hdt, g, nd, hmem, hb, hf, hne, hr, hl⟩ := hS
    have pm : (es.toList.map keyOf).Perm (dedup ns) := by
      refine (List.perm_ext_iff_of_nodup nd (dedup_nodup ns)).mpr fun k => ?_
      rw [← hmem k, dedup_mem, decide_eq_true_eq]
    have := pm.length_eq
    rw [List.length_map, Array.length_toList, hne] at this
    omega
  refine L2.sorted_set hS (I1.ok.hd hc) hn64 fun s' p' out cc ns' k g o hp' hg' hi pw hmem hlen => ?_
  have e : ns' = ssL ns := rise_eq pw (ssL_lt ns) fun k => by rw [hmem k, decide_eq_true_eq, ssL_mem]
  subst e
  have hv : Vals ((ssL ns).map V.int) out.toList := vals_of_ints hi
  have hsz : ((ssL ns).map V.int).length ≤ sizeLine := by
    rw [List.length_map, (ssL_perm ns).length_eq, sizeLine_eq]; omega
  have hn1 : H1 p' = none := I2.hok.fresh hp'
  have J : Inv X pins σ (upd H1 p' (.lst ((ssL ns).map V.int))) { s1 with heap := s'.heap, gens := s'.gens, drawn := s'.drawn, toks := s'.toks } :=
    L2.Inv.call (s := { s1 with heap := h', toks := tk }) (ch := []) I2 (Un.laid k hp' hn1) (I2.hok.laid k hp' ⟨hsz, out.toList, cc, hv, hg'⟩) (by rw [g]; exact I2.bare) (fun _ z => nomatch z)
  have e : s' = { s1 with heap := s'.heap, gens := s'.gens, drawn := s'.drawn, toks := s'.toks } := by
    cases s'
    cases s1
    cases o
    rfl
  rw [e]
  exact ⟨.ref p', _, J, rfl, q1 p' hn1⟩
theorem tri_sset {p p2 q : Pos} (hc : X.calm = true) (hg : Gl X "sorted") (hm : X.mg "sorted" = none) (hg2 : Gl X "set") (hm2 : X.mg "set" = none) (hp : Plain [a]) (h : Tri X F c Wx exc a x) :
    Tri X F c Wx exc (.Call (.Name "sorted" p) [.Call (.Name "set" p2) [a] [] q] [] pos) (.bf .sset (.cons x .nil)) := by
  refine .of_raw (raw := fun env dr => (ev F .bor x env dr).bind fun d dr => lft (bfD .sset [d]) dr)
    (((pe_sset hc hg hm hg2 hm2 h.bo hp).or (pe_ssetT hc hg hm hg2 hm2 h.bo hp)).imp fun σ H Q ⟨env, dr, W, m, p⟩ => ?_) (fun m env dr => ?_) (fun _ => rfl)
  · have intsV : ∀ {G : Hp} {is : List Int} {xs : List V}, RepL X.K c.a0 G xs (is.map PyData.int) → xs = is.map V.int := by
      intro G is
      induction is with
      | nil => intro xs r; cases r; rfl
      | cons i is ih =>
        intro xs r
        cases r with
        | cons q r =>
          rw [ih r]
          cases q with
          | int => rfl
          | mu _ z => cases z
    have stuck : ∀ {G : Ly.D → Prop} {d : Ly.D}, (∀ d', bfD .sset [d] ≠ some d') → ∀ {H1 : Hp} {dr1 : Dr} {Q : VK}, ¬ Po c Wx exc (RepF X.K c) W σ (lft (bfD .sset [d]) dr1) H1 Q := by
      intro G d hn H1 dr1 Q hp'
      cases hb : bfD .sset [d] with
      | none => rw [hb] at hp'; exact hp'
      | some d' => exact hn d' hb
    have p : Po c Wx exc (RepF X.K c) W σ ((ev F .bor x env dr).bind fun d dr => lft (bfD .sset [d]) dr) H Q := p
    cases hr : ev F .bor x env dr with
    | stk => rw [hr] at p; exact False.elim p
    | err n dr' => exact .inl ⟨env, dr, W, m, by rw [hr] at p ⊢; exact p⟩
    | ok d dr1 =>
      rw [hr] at p
      have p : Po c Wx exc (RepF X.K c) W σ (lft (bfD .sset [d]) dr1) H Q := p
      cases d with
      | list ds =>
        refine .inl ⟨env, dr, W, m, ?_⟩
        rw [hr]
        intro v H1 g1 e1 r1
        have m1 := m.up g1 e1
        obtain ⟨d', hd, qq⟩ := raw_end m1 e1 (Po.gr g1 p)
        have hd : (match intsD ds with
          | some is => if decide (is.length ≤ 4000) && decide ((dedup is).length < 64) then some (PyData.list ((ssL is).map .int)) else none
          | none => none) = some d' := hd
        split at hd
        · rename_i is hi
          split at hd
          · rename_i hk
            cases hd
            rw [Bool.and_eq_true] at hk
            obtain ⟨l, xs, rfl, _, hl, ra⟩ := r1.lst m1.wa
            rw [intsD_some hi] at ra
            have exs := intsV ra
            subst exs
            exact ⟨l, is, rfl, hl, of_decide_eq_true hk.1, of_decide_eq_true hk.2, fun p hp => qq _ _ (.mu hp (.lst (RepL.ints _)))⟩
          · cases hd
        · cases hd
      | tuple ds =>
        refine .inr ⟨env, dr, W, m, ?_⟩
        rw [hr]
        intro v H1 g1 e1 r1
        have m1 := m.up g1 e1
        obtain ⟨d', hd, qq⟩ := raw_end m1 e1 (Po.gr g1 p)
        have hd : (match intsD ds with
          | some is => if decide (is.length ≤ 4000) && decide ((dedup is).length < 64) then some (PyData.list ((ssL is).map .int)) else none
          | none => none) = some d' := hd
        split at hd
        · rename_i is hi
          split at hd
          · rename_i hk
            cases hd
            rw [Bool.and_eq_true] at hk
            obtain ⟨l, xs, rfl, hl, ra⟩ := r1.tup
            rw [intsD_some hi] at ra
            have exs := intsV ra
            subst exs
            exact ⟨l, is, rfl, hl, of_decide_eq_true hk.1, of_decide_eq_true hk.2, fun p hp => qq _ _ (.mu hp (.lst (RepL.ints _)))⟩
          · cases hd
        · cases hd
      | _ => exact absurd p (stuck (G := fun _ => True) (fun d' h => by simp [bfD] at h))
  · show ((evs F .bor (.cons x .nil) env dr).bind fun ds dr => lift m (bfD .sset ds) dr) = _
    rw [evs_one, R.bind_assoc]
    exact raw_eq m _ _
end
end Ly

set_option Elab.async false
set_option linter.all false
set_option maxRecDepth 100000
set_option maxHeartbeats 2000000
/-! Ly: from the text to the small language: expressions. -/
namespace Ly
open PySem PySem.Spec PyProof.Rows L2

structure Ti where
  G : Gi
  N : List Str
  mu : List Nat
def ixOf (N : List Str) (y : Str) : Option Nat := N.findIdx? fun z => decide (z = y)
theorem ixOf_ok {N : List Str} {y : Str} {i : Nat} (h : ixOf N y = some i) : N[i]? = some y := by
  unfold ixOf at h
  obtain ⟨h1, h2, _⟩ := List.findIdx?_eq_some_iff_getElem.mp h
  rw [List.getElem?_eq_getElem h1, of_decide_eq_true h2]
def visB (sc : Scope) (y : Str) : Bool := match sc.names.lookup y with
  | some .local => true
  | some .cell => true
  | some .free => true
  | _ => false
theorem visB_ok {sc : Scope} {y : Str} (h : visB sc y = true) : Vis sc y := by
  unfold visB at h
  unfold Vis
  split at h <;> first | (cases h; done) | (rename_i e; simp [e])
def locB (sc : Scope) (y : Str) : Bool := match sc.names.lookup y with
  | some .local => true
  | some .cell => true
  | _ => false
theorem locB_ok {sc : Scope} {y : Str} (h : locB sc y = true) : L2.Loc sc y := by
  unfold locB at h
  unfold L2.Loc
  split at h <;> first | (cases h; done) | (rename_i e; simp [e])
def glB (sc : Scope) (y : Str) : Bool := match sc.names.lookup y with
  | some .globalImplicit => true
  | _ => false
theorem glB_ok {X : Cx} {sc : Scope} {y : Str} (e : X.env.scope = sc) (h : glB sc y = true) : Gl X y := by
  unfold glB at h
  unfold Gl Env.kindOf
  rw [e]
  split at h <;> first | (cases h; done) | assumption
def nmB (y : Str) : Bool := !(y == ("__debug__" : Str)) && !(y == ("__classdict__" : Str)) && decide (y ≠ "__name__")
theorem nmB_ok {y : Str} (h : nmB y = true) : (y == ("__debug__" : Str)) = false ∧ (y == ("__classdict__" : Str)) = false ∧ y ≠ "__name__" := by
  unfold nmB at h
  simp only [Bool.and_eq_true, Bool.not_eq_true', decide_eq_true_eq] at h
  exact ⟨h.1.1, h.1.2, h.2⟩
def boOf : Operator → Option Bo
  | .Add => some .add
  | .Sub => some .sub
  | .Mult => some .mul
  | .FloorDiv => some .fdiv
  | .Mod => some .mod
  | _ => none
theorem boOf_ok {o : Operator} {b : Bo} (h : boOf o = some b) : o = bOp b := by cases o <;> cases h <;> rfl
def coOf : CmpOp → Option Co
  | .Eq => some .eq
  | .NotEq => some .ne
  | .Lt => some .lt
  | .LtE => some .le
  | .Gt => some .gt
  | .GtE => some .ge
  | .In => some .isin
  | .NotIn => some .notin
  | .Is => some .is
  | .IsNot => some .isnot
theorem coOf_ok {o : CmpOp} {b : Co} (h : coOf o = some b) : o = cOp b := by cases o <;> cases h <;> rfl
def isStar : Expr → Bool
  | .Starred .. => true
  | _ => false
theorem isStar_ok {e : Expr} (h : isStar e = false) : ∀ x p, e ≠ .Starred x p := by
  rintro x p rfl
  cases h
def isSlice : Expr → Bool
  | .Slice .. => true
  | _ => false
def isSet : Expr → Bool
  | .Set .. => true
  | _ => false
def isCall : Expr → Bool
  | .Call .. => true
  | _ => false
def isTupE : Expr → Bool
  | .Tuple .. => true
  | _ => false
theorem isTupE_ok {e : Expr} (h : isTupE e = true) : ∃ es k p, e = .Tuple es k p := by
  cases e <;> first | exact ⟨_, _, _, rfl⟩ | cases h
theorem fold_ok {e : Expr} (h : isSet e = false) : ∀ env x, foldedSetIterable e env x = pure x := by
  intro env x
  cases e <;> first | rfl | cases h
theorem mark_ok {e : Expr} {op : CmpOp} (h : isSet e = false) : behindInMarks op e = false := by
  cases e <;> first | rfl | cases h
theorem plainIx_ok {e : Expr} (h : isSlice e = false) : PlainIx e := by
  intro o i
  cases e <;> first | rfl | cases h

/-- how an expression is told -/
abbrev Tre := Scope → (Str → Bool) → Expr → Option Ex
section
variable (rec : Tre) (ti : Ti) (sc : Scope) (fnb : Str → Bool)
def trNm (y : Str) : Option Ex := if visB sc y && nmB y then (ixOf ti.N y).map .var else if glB sc y && nmB y then (ti.G.cons.find? fun p => decide (p.1 = y)).map fun p => .con (.int p.2) else none
def trC : Const → Option D
  | .int i => some (.int i)
  | .bool b => some (.bool b)
  | .str s => some (.str s)
  | .none => some .none
  | _ => none
def trL : List Expr → Option Exs
  | [] => some .nil
  | e :: es => if isStar e then none else
    match rec sc fnb e, trL es with
    | some x, some xs => some (.cons x xs)
    | _, _ => none
def trAnd : List Expr → Option Ex
  | [] => none
  | [a] => rec sc fnb a
  | a :: b :: r => match rec sc fnb a, trAnd (b :: r) with
    | some x, some y => some (.and x y)
    | _, _ => none
def trOr : List Expr → Option Ex
  | [] => none
  | [a] => rec sc fnb a
  | a :: b :: r => match rec sc fnb a, trOr (b :: r) with
    | some x, some y => some (.or x y)
    | _, _ => none
def trO : Option Expr → Option Exo
  | none => some .none
  | some e => (rec sc fnb e).map .some
def bfOf (y : Str) : Option Bf :=
  if y = "len" then some .len else if y = "tuple" then some .tuple else if y = "list" then some .list else if y = "sum" then some .sum else if y = "max" then some .max else if y = "min" then some .min else
  if y = "any" then some .any else if y = "all" then some .all else if y = "sorted" then some .sorted else if y = "abs" then some .abs else if y = "int" then some .int else none
def tyOf : Expr → Option Ty
  | .Name y _ => if y = "int" then some .int else if y = "bool" then some .bool else if y = "str" then some .str else if y = "tuple" then some .tuple else if y = "list" then some .list else if y = "dict" then some .dict else none
  | _ => none
def trIsi : List Expr → Option Ex
  | [a, t] => if isStar a then none else match rec sc fnb a, tyOf t with
    | some x, some ty => match t with
      | .Name y _ => if glB sc y && decide (y ∈ ti.G.blt) then some (.bf (.isi ty) (.cons x .nil)) else none
      | _ => none
    | _, _ => none
  | _ => none
/-- sorted(set(a)) -/
def setArg : List Expr → Option Expr
  | [.Call (.Name y _) [a] [] _] => if y = "set" then some a else none
  | _ => none
/-- list(range(a)) -/
def lrgArg : List Expr → Option Expr
  | [.Call (.Name y _) [a] [] _] => if y = "range" then some a else none
  | _ => none
def trB (y : Str) (args : List Expr) : Option Ex :=
  if y = "isinstance" then trIsi rec ti sc fnb args
  else match (if y = "sorted" then setArg args else none) with
    | some a => if isStar a || !glB sc "set" || !decide (("set" : Str) ∈ ti.G.blt) then none else (rec sc fnb a).map fun x => .bf .sset (.cons x .nil)
    | none => match (if y = "list" then lrgArg args else none) with
      | some a => if isStar a || !glB sc "range" || !decide (("range" : Str) ∈ ti.G.blt) then none else (rec sc fnb a).map fun x => .lrg (.cons x .nil)
      | none => match (if y = "tuple" then lrgArg args else none) with
      | some a => if isStar a || !glB sc "range" || !decide (("range" : Str) ∈ ti.G.blt) then none else (rec sc fnb a).map fun x => .trg (.cons x .nil)
      | none => match bfOf y, args with
        | some f, _ :: _ => (trL rec sc fnb args).map (.bf f)
        | _, _ => none
def trCall (y : Str) (args : List Expr) : Option Ex :=
  if !(glB sc y && nmB y) then none else
  match ti.G.fns.find? fun p => decide (p.1 = y) with
  | some p => match args with
    | [] => none
    | _ :: _ => (trL rec sc fnb args).map (.call p.2)
  | none => if !decide (y ∈ ti.G.blt) then none else trB rec ti sc fnb y args
def trMe (a : Expr) (m : Str) (apos : Pos) (args : List Expr) (pos : Pos) : Option Ex :=
  match args with
  | [b] => if !isCall a && !isStar b && (apos.endLine == pos.line) then match rec sc fnb a, rec sc fnb b with
      | some x, some y => if m = "count" then some (.me .count x (.cons y .nil)) else if m = "index" then some (.ixo x y) else if m = "get" then some (.dg1 x y) else none
      | _, _ => none
    else none
  | [b, d] => if !isCall a && !isStar b && !isStar d && (apos.endLine == pos.line) then match rec sc fnb a, rec sc fnb b, rec sc fnb d with
      | some x, some y, some z => if m = "get" then some (.dg2 x y z) else none
      | _, _, _ => none
    else none
  | _ => none
/-- a dict written out, with one pair at most (t: its keys are tuples) -/
def dctE (t : Bool) (e : Expr) : Option Ex :=
  match e with
  | .Dict [] [] _ => some (.dct0 t)
  | .Dict [some k] [v] _ => match rec sc fnb k, rec sc fnb v with
    | some x, some y => some (.dct1 t x y)
    | _, _ => none
  | _ => none
end
def trG (ti : Ti) (sc : Scope) (fnb : Str → Bool) : Nat → Expr → Option Tg
  | 0, _ => none
  | n + 1, e => match e with
    | .Name y _ => if locB sc y && (fnb y || decide (sc.names.lookup y = some .local)) then (ixOf ti.N y).map .nm else none
    | .Tuple es _ _ => (go (trG ti sc fnb n) es).map .tup
    | _ => none
where go (r : Expr → Option Tg) : List Expr → Option Tgs
  | [] => some .nil
  | e :: es => if isStar e then none else match r e, go r es with
    | some t, some ts => some (.cons t ts)
    | _, _ => none
section
variable (rec : Tre) (ti : Ti) (sc : Scope) (fnb : Str → Bool)
def lenArg : List Expr → Option Expr
  | [.Call (.Name y _) [a] [] _] => if y = "len" then some a else none
  | _ => none
def trRng (args : List Expr) : Option Itx :=
  match lenArg args with
  | some a => if isStar a || !glB sc "len" || !decide (("len" : Str) ∈ ti.G.blt) then none else (rec sc fnb a).map .rlen
  | none => match args with
    | [a] => if isStar a then none else (rec sc fnb a).map fun x => .rng (.cons x .nil)
    | [a, b] => if isStar a || isStar b then none else match rec sc fnb a, rec sc fnb b with
      | some x, some y => some (.rng (.cons x (.cons y .nil)))
      | _, _ => none
    | _ => none
def zstArg : Expr → Expr → Option Expr
  | .Name _ _, .Call (.Name y _) [.Starred a _] [] _ => if y = "zip" then some a else none
  | _, _ => none
def trI (tg it : Expr) : Option Itx :=
  match zstArg tg it with
  | some a => if glB sc "zip" && decide (("zip" : Str) ∈ ti.G.blt) then (rec sc fnb a).map .zst else none
  | none => match it with
  | .Call (.Name y p) args [] pos =>
    if y = "range" then (if glB sc y && decide (y ∈ ti.G.blt) then trRng rec ti sc fnb args else none)
    else if y = "zip" then (if isTupE tg && glB sc y && decide (y ∈ ti.G.blt) then match args with
      | [a, b] => if isStar a || isStar b then none else match rec sc fnb a, rec sc fnb b with
        | some x, some y => some (.zip (.cons x (.cons y .nil)))
        | _, _ => none
      | [a, b, c] => if isStar a || isStar b || isStar c then none else match rec sc fnb a, rec sc fnb b, rec sc fnb c with
        | some x, some y, some z => some (.zip (.cons x (.cons y (.cons z .nil))))
        | _, _, _ => none
      | _ => none else none)
    else if y = "enumerate" then (if isTupE tg && glB sc y && decide (y ∈ ti.G.blt) then match args with
      | [a] => if isStar a then none else (rec sc fnb a).map .enu
      | _ => none else none)
    else (rec sc fnb it).map .seq
  | _ => (rec sc fnb it).map .seq
def trTs : List Expr → Option Exs
  | [] => some .nil
  | [e] => (rec sc fnb e).map fun x => .cons x .nil
  | _ => none
def ownOf (N : List Str) (scope : Scope) : List (Str × Nat) := scope.names.filterMap fun p => match p.2 with
  | .local => (ixOf N p.1).map fun i => (p.1, i)
  | .cell => (ixOf N p.1).map fun i => (p.1, i)
  | _ => none
def fnB (scope : Scope) : Str → Bool := fun x => scope.names.lookup x == some .cell
def subB (l m : List Nat) : Bool := l.all fun i => decide (i ∈ m)
theorem subB_ok {l m : List Nat} (h : subB l m = true) : ∀ i ∈ l, i ∈ m := fun i hi => of_decide_eq_true (List.all_eq_true.mp h i hi)
/-- what a comprehension is told as -/
structure LcP where
  own : List (Str × Nat)
  t : Tg
  it : Itx
  cs : Exs
  x : Ex
structure LcP2 where
  own : List (Str × Nat)
  t : Tg
  it : Itx
  cs : Exs
  t1 : Tg
  it1 : Itx
  cs1 : Exs
  x : Ex
def trLc1 (elt tg iter : Expr) (ifs : List Expr) (scope : Scope) : Option LcP :=
  if !isSet iter && blkC ti.N sc scope (ownOf ti.N scope) then
    match trG ti (relS scope sc) (fnB scope) 4 tg, trI rec ti sc fnb tg iter, trTs rec (relS scope sc) (fnB scope) ifs, rec (relS scope sc) (fnB scope) elt with
    | some t, some it, some cs, some x => if subB (tgN t) ((ownOf ti.N scope).map (·.2)) then some ⟨ownOf ti.N scope, t, it, cs, x⟩ else none
    | _, _, _, _ => none
  else none
def trLc2 (elt tg iter : Expr) (ifs : List Expr) (tg1 iter1 : Expr) (ifs1 : List Expr) (scope : Scope) : Option LcP2 :=
  if !isSet iter && !isSet iter1 && blkC ti.N sc scope (ownOf ti.N scope) then
    match trG ti (relS scope sc) (fnB scope) 4 tg, trI rec ti sc fnb tg iter, trTs rec (relS scope sc) (fnB scope) ifs, rec (relS scope sc) (fnB scope) elt with
    | some t, some it, some cs, some x =>
      match trG ti (relS scope sc) (fnB scope) 4 tg1, trI rec ti (relS scope sc) (fnB scope) tg1 iter1, trTs rec (relS scope sc) (fnB scope) ifs1 with
      | some t1, some it1, some cs1 => if subB (tgN t) ((ownOf ti.N scope).map (·.2)) && subB (tgN t1) ((ownOf ti.N scope).map (·.2)) then some ⟨ownOf ti.N scope, t, it, cs, t1, it1, cs1, x⟩ else none
      | _, _, _ => none
    | _, _, _, _ => none
  else none
def LcP.ex (l : LcP) : Ex := .lc (l.own.map (·.2)) l.t l.it l.cs l.x
def LcP2.ex (l : LcP2) : Ex := .lc2 (l.own.map (·.2)) (tgN l.t1) l.t l.it l.cs l.t1 l.it1 l.cs1 l.x
def trLc (elt : Expr) (gs : List Comprehension) (scope : Scope) : Option Ex :=
  match gs with
  | [⟨tg, iter, ifs, a⟩] => if a = 0 then (trLc1 rec ti sc fnb elt tg iter ifs scope).map LcP.ex else none
  | [⟨tg, iter, ifs, a⟩, ⟨tg1, iter1, ifs1, b⟩] => if a = 0 ∧ b = 0 then (trLc2 rec ti sc fnb elt tg iter ifs tg1 iter1 ifs1 scope).map LcP2.ex else none
  | _ => none
/-- a dict comprehension -/
structure DcP where
  l : LcP
  v : Ex
def trDc1 (kx vx : Expr) (gs : List Comprehension) (scope : Scope) : Option DcP :=
  match gs with
  | [⟨tg, iter, ifs, a⟩] => if a = 0 then match trLc1 rec ti sc fnb kx tg iter ifs scope, rec (relS scope sc) (fnB scope) vx with
      | some l, some v => some ⟨l, v⟩
      | _, _ => none
    else none
  | _ => none
def DcP.ex (d : DcP) : Ex := .dc (d.l.own.map (·.2)) d.l.t d.l.it d.l.cs d.l.x d.v
def trDc (kx vx : Expr) (gs : List Comprehension) (scope : Scope) : Option Ex := (trDc1 rec ti sc fnb kx vx gs scope).map DcP.ex
def trSub (a b : Expr) : Option Ex :=
  match b with
  | .Slice none none (some (.UnaryOp .USub (.Constant (.int 1) _ _) _)) _ => (rec sc fnb a).map .rev
  | .Slice lo hi none _ => match rec sc fnb a, trO rec sc fnb lo, trO rec sc fnb hi with
    | some x, some l, some h => some (.slc x l h)
    | _, _, _ => none
  | b => if isSlice b then none else match rec sc fnb a, rec sc fnb b with
    | some x, some y => some (.idx x y)
    | _, _ => none
/-- in a tuple of texts that the top has written -/
def tupB (b : Expr) : Option (Str × List Str) :=
  match b with
  | .Name y _ => if glB sc y && nmB y then ti.G.tups.find? fun p => decide (p.1 = y) else none
  | _ => none
def trCmpG (a : Expr) (ops : List CmpOp) (es : List Expr) : Option Ex :=
  match ops, es with
  | [o], [b] => match tupB ti sc b, coOf o, rec sc fnb a with
    | some p, some .isin, some x => some (.cmp .isin x (.con (.tuple (p.2.map .str))))
    | some p, some .notin, some x => some (.cmp .notin x (.con (.tuple (p.2.map .str))))
    | _, _, _ => none
  | _, _ => none
def trCmp (a : Expr) (ops : List CmpOp) (es : List Expr) : Option Ex :=
  match ops, es with
  | [o], [b] => if isSet b then none else match coOf o, rec sc fnb a, rec sc fnb b with
    | some o, some x, some y => some (.cmp o x y)
    | _, _, _ => none
  | [o, o'], [b, c] => if isSet c then none else match coOf o, coOf o', rec sc fnb a, rec sc fnb b, rec sc fnb c with
    | some o, some o', some x, some y, some z => some (.chn o o' x y z)
    | _, _, _, _, _ => none
  | _, _ => none
def stepE (e : Expr) : Option Ex :=
  match e with
  | .Name y _ => trNm ti sc y
  | .Constant k _ _ => (trC k).map .con
  | .BinOp a o b _ => match boOf o, rec sc fnb a, rec sc fnb b with
    | some o, some x, some y => some (.bin o x y)
    | _, _, _ => none
  | .UnaryOp o a _ => match o with
    | .USub => (rec sc fnb a).map .neg
    | .Not => (rec sc fnb a).map .not
    | _ => none
  | .Compare a ops es _ => match trCmpG rec ti sc fnb a ops es with
    | some x => some x
    | none => trCmp rec sc fnb a ops es
  | .BoolOp o es _ => match o with
    | .And => trAnd rec sc fnb es
    | .Or => trOr rec sc fnb es
  | .IfExp c a b _ => match rec sc fnb c, rec sc fnb a, rec sc fnb b with
    | some x, some y, some z => some (.ite x y z)
    | _, _, _ => none
  | .Tuple es _ _ => (trL rec sc fnb es).map .tup
  | .List es _ => (trL rec sc fnb es).map .lst
  | .Subscript a b _ => trSub rec sc fnb a b
  | .Call f args kws pos => match kws with
    | [] => match f with
      | .Name y _ => trCall rec ti sc fnb y args
      | .Attribute a m apos => trMe rec sc fnb a m apos args pos
      | _ => none
    | _ => none
  | .ListComp elt gs scope _ => trLc rec ti sc fnb elt gs scope
  | .Dict ks vs p => dctE rec sc fnb false (.Dict ks vs p)
  | .DictComp kx vx gs scope _ => trDc rec ti sc fnb kx vx gs scope
  | _ => none
end
def trE (ti : Ti) : Nat → Tre
  | 0 => fun _ _ _ => none
  | n + 1 => fun sc fnb e => stepE (trE ti n) ti sc fnb e
end Ly

set_option Elab.async false
set_option linter.all false
set_option maxRecDepth 100000
set_option maxHeartbeats 2000000
/-! Ly: what is told is so: expressions. -/
namespace Ly
open PySem PySem.Spec PyProof.Rows L2

/-- the told expression is right in all places -/
def RecOk (ti : Ti) (rec : Tre) : Prop := ∀ (sc : Scope) (fnb : Str → Bool) (e : Expr) (x : Ex), rec sc fnb e = some x → ∀ (X : Cx) (F : Nat → List D → Dr → Oc) (c : Cc) (Wx : WX) (exc : Exc), CxOk X F Wx exc ti.G sc fnb ti.N → Tri X F c Wx exc e x
theorem pe_constS {s : Str} {X : Cx} {j pos} : PE X (.Constant (.str s) j pos) (tC (.str s)) := pe_str
section
variable {rec : Tre} {ti : Ti} {sc : Scope} {fnb : Str → Bool} {X : Cx} {F : Nat → List D → Dr → Oc} {c : Cc} {Wx : WX} {exc : Exc} {e a b : Expr} {es : List Expr} {x : Ex} {xs : Exs} {pos : Pos}
theorem trNm_ok {y : Str} (k : CxOk X F Wx exc ti.G sc fnb ti.N) (h : trNm ti sc y = some x) : Tri X F c Wx exc (.Name y pos) x := by
  unfold trNm at h
  split at h
  · rename_i hc
    rw [Bool.and_eq_true] at hc
    obtain ⟨i, hi, rfl⟩ := Option.map_eq_some_iff.mp h
    have n := nmB_ok hc.2
    exact tri_var (by rw [k.names]; exact ixOf_ok hi) (by rw [k.scope]; exact visB_ok hc.1) n.1 n.2.1
  · split at h
    · rename_i hc
      rw [Bool.and_eq_true] at hc
      obtain ⟨p, hp, rfl⟩ := Option.map_eq_some_iff.mp h
      have hpm := List.mem_of_find?_eq_some hp
      have hpy : p.1 = y := by
        have := List.find?_some hp
        exact of_decide_eq_true this
      obtain ⟨t, ht⟩ := k.cons p hpm
      rw [hpy] at ht
      have n := nmB_ok hc.2
      exact tri_con ⟨fun pins s σ H Q I q => ld_glob I (glB_ok k.scope hc.1) ht ⟨.int p.2, H, I, ⟨t, rfl⟩, q⟩ n.1⟩ (fun _ => .int _) (fun _ => rfl)
    · cases h
theorem trC_ok {q : Const} {j : Nat} {d : D} (h : trC q = some d) : Tri X F c Wx exc (.Constant q j pos) (.con d) := by
  cases q <;> cases h
  · exact tri_con pe_non (fun _ => .non) (fun _ => rfl)
  · exact tri_con pe_bl (fun _ => .bl _) (fun _ => rfl)
  · exact tri_con pe_int (fun _ => .int _) (fun _ => rfl)
  · exact tri_con pe_str (fun _ => .str _) (fun _ => rfl)
theorem trL_ok (hr : RecOk ti rec) (k : CxOk X F Wx exc ti.G sc fnb ti.N) : ∀ {es : List Expr} {xs : Exs}, trL rec sc fnb es = some xs → Plain es ∧ Tris X F c Wx exc es xs
  | [], xs, h => by cases h; exact ⟨.nil, tris_nil⟩
  | e :: es, xs, h => by
    unfold trL at h
    split at h
    · cases h
    · rename_i hs
      split at h
      · rename_i x ys h1 h2
        cases h
        obtain ⟨p, t⟩ := trL_ok hr k h2
        have hp := p.cons (isStar_ok (by simpa using hs))
        exact ⟨hp, tris_cons hp (hr _ _ _ _ h1 X F c Wx exc k) t⟩
      · cases h
theorem trAnd_ok (hr : RecOk ti rec) (k : CxOk X F Wx exc ti.G sc fnb ti.N) : ∀ {es : List Expr} {x : Ex}, trAnd rec sc fnb es = some x → TriB X F c Wx exc .And es pos x
  | [], x, h => by cases h
  | [a], x, h => trib_and1 (hr _ _ _ _ h X F c Wx exc k)
  | a :: b :: r, x, h => by
    unfold trAnd at h
    split at h
    · rename_i x y h1 h2
      cases h
      exact trib_and (hr _ _ _ _ h1 X F c Wx exc k) (trAnd_ok hr k h2)
    · cases h
theorem trOr_ok (hr : RecOk ti rec) (k : CxOk X F Wx exc ti.G sc fnb ti.N) : ∀ {es : List Expr} {x : Ex}, trOr rec sc fnb es = some x → TriB X F c Wx exc .Or es pos x
  | [], x, h => by cases h
  | [a], x, h => trib_or1 (hr _ _ _ _ h X F c Wx exc k)
  | a :: b :: r, x, h => by
    unfold trOr at h
    split at h
    · rename_i x y h1 h2
      cases h
      exact trib_or (hr _ _ _ _ h1 X F c Wx exc k) (trOr_ok hr k h2)
    · cases h
theorem trO_ok (hr : RecOk ti rec) (k : CxOk X F Wx exc ti.G sc fnb ti.N) {o : Option Expr} {y : Exo} (h : trO rec sc fnb o = some y) : TriO X F c Wx exc o y := by
  cases o with
  | none => cases h; exact trio_none
  | some e =>
    obtain ⟨x, h1, rfl⟩ := Option.map_eq_some_iff.mp h
    exact trio_some (hr _ _ _ _ h1 X F c Wx exc k)
theorem bfOf_tri {f : Bf} {y : Str} {p : Pos} (h : bfOf y = some f) (k : CxOk X F Wx exc ti.G sc fnb ti.N) (hg : Gl X y) (hm : X.mg y = none) (hp : Plain (e :: es)) (hx : Tris X F c Wx exc (e :: es) xs) :
    Tri X F c Wx exc (.Call (.Name y p) (e :: es) [] pos) (.bf f xs) := by
  have hu := k.room
  have hc := k.calm
  unfold bfOf at h
  split at h
  · rename_i e; subst e; cases h; exact tri_bfB bf_len hg hm rfl (by decide) (by decide) hp hx
  split at h
  · rename_i e; subst e; cases h; exact tri_bfT bf_tuple hg hm rfl (by decide) (by decide) hp hx
  split at h
  · rename_i e; subst e; cases h; exact tri_bfT bf_list hg hm rfl (by decide) (by decide) hp hx
  split at h
  · rename_i e; subst e; cases h; exact tri_bfB (bf_sum hc) hg hm rfl (by decide) (by decide) hp hx
  split at h
  · rename_i e; subst e; cases h; exact tri_bfB (bf_max hc hu) hg hm rfl (by decide) (by decide) hp hx
  split at h
  · rename_i e; subst e; cases h; exact tri_bfB (bf_min hc hu) hg hm rfl (by decide) (by decide) hp hx
  split at h
  · rename_i e; subst e; cases h; exact tri_bfB (bf_any hc) hg hm rfl (by decide) (by decide) hp hx
  split at h
  · rename_i e; subst e; cases h; exact tri_bfB (bf_all hc) hg hm rfl (by decide) (by decide) hp hx
  split at h
  · rename_i e; subst e; cases h; exact tri_bfB (bf_sorted k.calm hu) hg hm rfl (by decide) (by decide) hp hx
  split at h
  · rename_i e; subst e; cases h; exact tri_bfB bf_abs hg hm rfl (by decide) (by decide) hp hx
  split at h
  · rename_i e; subst e; cases h; exact tri_bfT bf_int hg hm rfl (by decide) (by decide) hp hx
  · cases h
theorem tyOf_ok {t : Ty} {y : Str} {p : Pos} (h : tyOf (.Name y p) = some t) : bootBuiltins y = some (.type (tyN t)) ∧ y ≠ "__name__" ∧ (y == ("__debug__" : Str)) = false := by
  unfold tyOf at h
  dsimp only at h
  split at h
  · rename_i e; subst e; cases h; exact ⟨rfl, by decide, by decide⟩
  split at h
  · rename_i e; subst e; cases h; exact ⟨rfl, by decide, by decide⟩
  split at h
  · rename_i e; subst e; cases h; exact ⟨rfl, by decide, by decide⟩
  split at h
  · rename_i e; subst e; cases h; exact ⟨rfl, by decide, by decide⟩
  split at h
  · rename_i e; subst e; cases h; exact ⟨rfl, by decide, by decide⟩
  split at h
  · rename_i e; subst e; cases h; exact ⟨rfl, by decide, by decide⟩
  · cases h
theorem trIsi_ok {args : List Expr} {p : Pos} (hr : RecOk ti rec) (k : CxOk X F Wx exc ti.G sc fnb ti.N) (hg : Gl X "isinstance") (hm : X.mg "isinstance" = none) (h : trIsi rec ti sc fnb args = some x) : Tri X F c Wx exc (.Call (.Name "isinstance" p) args [] pos) x := by
  unfold trIsi at h
  split at h
  · rename_i a t
    split at h
    · cases h
    · rename_i hs
      split at h
      · rename_i x1 ty h1 h2
        split at h
        · rename_i y p2 
          split at h
          · rename_i hb
            cases h
            rw [Bool.and_eq_true] at hb
            obtain ⟨b1, b2, b3⟩ := tyOf_ok h2
            exact tri_isi hg hm (glB_ok k.scope hb.1) (k.blt _ (of_decide_eq_true hb.2)) b1 b2 b3 (Plain.nil.cons (isStar_ok (by simpa using hs))) (hr _ _ _ _ h1 X F c Wx exc k)
          · cases h
        · cases h
      · cases h
  · cases h
theorem lrgArg_ok {args : List Expr} {a : Expr} (h : lrgArg args = some a) : ∃ p q, args = [.Call (.Name "range" p) [a] [] q] := by
  unfold lrgArg at h
  split at h
  · split at h
    · rename_i e
      cases h
      subst e
      exact ⟨_, _, rfl⟩
    · cases h
  · cases h
theorem setArg_ok {args : List Expr} {a : Expr} (h : setArg args = some a) : ∃ p q, args = [.Call (.Name "set" p) [a] [] q] := by
  unfold setArg at h
  split at h
  · split at h
    · rename_i e
      cases h
      subst e
      exact ⟨_, _, rfl⟩
    · cases h
  · cases h
theorem lenArg_ok {args : List Expr} {a : Expr} (h : lenArg args = some a) : ∃ p q, args = [.Call (.Name "len" p) [a] [] q] := by
  unfold lenArg at h
  split at h
  · split at h
    · rename_i e
      cases h
      subst e
      exact ⟨_, _, rfl⟩
    · cases h
  · cases h
theorem trB_ok {args : List Expr} {y : Str} {p : Pos} (hr : RecOk ti rec) (k : CxOk X F Wx exc ti.G sc fnb ti.N) (hg : Gl X y) (hm : X.mg y = none) (h : trB rec ti sc fnb y args = some x) : Tri X F c Wx exc (.Call (.Name y p) args [] pos) x := by
  unfold trB at h
  split at h
  · rename_i e
    subst e
    exact trIsi_ok hr k hg hm h
  · split at h
    · rename_i a ha
      split at ha
      · rename_i e
        subst e
        obtain ⟨p1, q1, rfl⟩ := setArg_ok ha
        split at h
        · cases h
        · rename_i hb
          simp only [Bool.or_eq_true, not_or, Bool.not_eq_true, Bool.not_eq_true', Bool.not_eq_false'] at hb
          obtain ⟨x1, h1, rfl⟩ := Option.map_eq_some_iff.mp h
          have b1 : glB sc "set" = true := by simpa using hb.1.2
          have b2 : ("set" : Str) ∈ ti.G.blt := by simpa using hb.2
          exact tri_sset k.calm hg hm (glB_ok k.scope b1) (k.blt _ b2) (Plain.nil.cons (isStar_ok hb.1.1)) (hr _ _ _ _ h1 X F c Wx exc k)
      · cases ha
    · split at h
      · rename_i a ha
        split at ha
        · rename_i e
          subst e
          obtain ⟨p1, q1, rfl⟩ := lrgArg_ok ha
          split at h
          · cases h
          · rename_i hb
            simp only [Bool.or_eq_true, not_or, Bool.not_eq_true, Bool.not_eq_true', Bool.not_eq_false'] at hb
            obtain ⟨x1, h1, rfl⟩ := Option.map_eq_some_iff.mp h
            have b1 : glB sc "range" = true := by simpa using hb.1.2
            have b2 : ("range" : Str) ∈ ti.G.blt := by simpa using hb.2
            exact tri_lrg1 k.calm hg hm (glB_ok k.scope b1) (k.blt _ b2) (Plain.nil.cons (isStar_ok hb.1.1)) (hr _ _ _ _ h1 X F c Wx exc k)
        · cases ha
      · split at h
        · rename_i a ha
          split at ha
          · rename_i e
            subst e
            obtain ⟨p1, q1, rfl⟩ := lrgArg_ok ha
            split at h
            · cases h
            · rename_i hb
              simp only [Bool.or_eq_true, not_or, Bool.not_eq_true, Bool.not_eq_true', Bool.not_eq_false'] at hb
              obtain ⟨x1, h1, rfl⟩ := Option.map_eq_some_iff.mp h
              have b1 : glB sc "range" = true := by simpa using hb.1.2
              have b2 : ("range" : Str) ∈ ti.G.blt := by simpa using hb.2
              exact tri_trg1 k.calm hg hm (glB_ok k.scope b1) (k.blt _ b2) (Plain.nil.cons (isStar_ok hb.1.1)) (hr _ _ _ _ h1 X F c Wx exc k)
          · cases ha
        · cases hf : bfOf y with
          | none => simp only [hf] at h; cases h
          | some f =>
            cases args with
            | nil => simp only [hf] at h; cases h
            | cons e0 es0 =>
              simp only [hf] at h
              obtain ⟨xs, h1, rfl⟩ := Option.map_eq_some_iff.mp h
              obtain ⟨hp, t⟩ := trL_ok hr k h1
              exact bfOf_tri hf k hg hm hp t
theorem trCall_ok {args : List Expr} {y : Str} {p : Pos} (hr : RecOk ti rec) (k : CxOk X F Wx exc ti.G sc fnb ti.N) (h : trCall rec ti sc fnb y args = some x) : Tri X F c Wx exc (.Call (.Name y p) args [] pos) x := by
  unfold trCall at h
  split at h
  · cases h
  · rename_i hb
    have hb : (glB sc y && nmB y) = true := by simpa using hb
    rw [Bool.and_eq_true] at hb
    have hg : Gl X y := glB_ok k.scope hb.1
    have n := nmB_ok hb.2
    split at h
    · rename_i q hq
      have hqm := List.mem_of_find?_eq_some hq
      have hqy : q.1 = y := by
        have := List.find?_some hq
        exact of_decide_eq_true this
      split at h
      · cases h
      · obtain ⟨xs, h1, rfl⟩ := Option.map_eq_some_iff.mp h
        obtain ⟨hp, t⟩ := trL_ok hr k h1
        exact tri_call k.tk (by rw [← hqy]; exact k.call q hqm) hg n.1 hp t
    · split at h
      · cases h
      · rename_i hm
        exact trB_ok hr k hg (k.blt _ (by simpa using hm)) h
theorem attr_ok {e : Expr} {m : Str} (h : isCall e = false) (env : Env) (w : Sem Value) : attributeBase e m env w = w := by
  cases e <;> first | rfl | cases h
theorem trMe_ok {m : Str} {apos : Pos} {args : List Expr} (hr : RecOk ti rec) (k : CxOk X F Wx exc ti.G sc fnb ti.N) (h : trMe rec sc fnb a m apos args pos = some x) : Tri X F c Wx exc (.Call (.Attribute a m apos) args [] pos) x := by
  unfold trMe at h
  split at h
  · rename_i b
    split at h
    · rename_i hb
      simp only [Bool.and_eq_true, Bool.not_eq_true'] at hb
      obtain ⟨⟨h1, h2⟩, h3⟩ := hb
      have hp := Plain.nil.cons (isStar_ok h2)
      split at h
      · rename_i x1 y1 e1 e2
        have t1 := hr _ _ _ _ e1 X F c Wx exc k
        have t2 := hr _ _ _ _ e2 X F c Wx exc k
        split at h
        · rename_i em
          subst em
          cases h
          exact tri_cntL k.room (attr_ok h1 _ _) hp h3 t1 t2
        · split at h
          · rename_i em
            subst em
            cases h
            exact tri_ixL k.room (attr_ok h1 _ _) hp h3 t1 t2
          · split at h
            · rename_i em
              subst em
              cases h
              exact tri_dg1 k.room ⟨attr_ok h1 _ _, by rw [hp.all]; rfl, h3, by rw [hp X.env]; rfl⟩ t1 t2
            · cases h
      · cases h
    · cases h
  · rename_i b d
    split at h
    · rename_i hb
      simp only [Bool.and_eq_true, Bool.not_eq_true'] at hb
      obtain ⟨⟨⟨h1, h2⟩, h4⟩, h3⟩ := hb
      have hp := (Plain.nil.cons (isStar_ok h4)).cons (isStar_ok h2)
      split at h
      · rename_i x1 y1 z1 e1 e2 e3
        split at h
        · rename_i em
          subst em
          cases h
          exact tri_dg2 k.room ⟨attr_ok h1 _ _, by rw [hp.all]; rfl, h3, by rw [hp X.env]; rfl⟩ (hr _ _ _ _ e1 X F c Wx exc k) (hr _ _ _ _ e2 X F c Wx exc k) (hr _ _ _ _ e3 X F c Wx exc k)
        · cases h
      · cases h
    · cases h
  · cases h
theorem dctE_ok {t : Bool} (hr : RecOk ti rec) (k : CxOk X F Wx exc ti.G sc fnb ti.N) (h : dctE rec sc fnb t e = some x) : Tri X F c Wx exc e x ∧ ∀ b, PE X e (okM X.K c Wx exc b (ev F .frz x)) := by
  unfold dctE at h
  split at h
  · cases h
    exact ⟨tri_dct0 t, fun b => pm_dct0 b t⟩
  · split at h
    · rename_i x1 y1 e1 e2
      cases h
      exact ⟨tri_dct1 t k.room (hr _ _ _ _ e1 X F c Wx exc k) (hr _ _ _ _ e2 X F c Wx exc k), fun b => pm_dct1 b t k.room (hr _ _ _ _ e1 X F c Wx exc k) (hr _ _ _ _ e2 X F c Wx exc k)⟩
    · cases h
  · cases h
theorem asn_cons {e : Expr} {es : List Expr} (h : isStar e = false) (env : Env) : assignEach (e :: es) env = (false, assign e env) :: assignEach es env := by
  cases e <;> first | rfl | cases h
theorem trG_ok (k : CxOk X F Wx exc ti.G sc fnb ti.N) : ∀ {n : Nat} {e : Expr} {t : Tg}, trG ti sc fnb n e = some t → PG X e (gOk X.K c t)
  | 0, e, t, h => by cases h
  | n + 1, e, t, h => by
    unfold trG at h
    cases e with
    | Name y p =>
      dsimp only at h
      split at h
      · rename_i hb
        rw [Bool.and_eq_true] at hb
        obtain ⟨i, hi, rfl⟩ := Option.map_eq_some_iff.mp h
        refine gg_nm (by rw [k.names]; exact k.nd) (by rw [k.names]; exact ixOf_ok hi) (by rw [k.scope]; exact locB_ok hb.1) ?_
        rcases Bool.or_eq_true_iff.mp hb.2 with h1 | h1
        · exact .inl (by rw [k.fn]; exact h1)
        · exact .inr (by rw [k.scope]; exact of_decide_eq_true h1)
      · cases h
    | Tuple es kk p =>
      obtain ⟨ts, hts, rfl⟩ := Option.map_eq_some_iff.mp h
      have go : ∀ {es : List Expr} {ts : Tgs}, trG.go (trG ti sc fnb n) es = some ts → PGs X es (gOks X.K c ts) ∧ (assignEach es X.env).length = tgsLen ts ∧ (assignEach es X.env).findIdx? (·.1) = none := by
        intro es
        induction es with
        | nil => intro ts h; cases h; exact ⟨ggs_nil, rfl, rfl⟩
        | cons e es ih =>
          intro ts h
          unfold trG.go at h
          split at h
          · cases h
          · rename_i hs
            split at h
            · rename_i t1 ts1 h1 h2
              cases h
              obtain ⟨i1, i2, i3⟩ := ih h2
              have e0 := asn_cons (es := es) (show isStar e = false by simpa using hs) X.env
              refine ⟨ggs_cons (by rw [e0]; rfl) (trG_ok k h1) i1, by rw [e0, List.length_cons, i2]; rfl, by rw [e0, List.findIdx?_cons, i3]; rfl⟩
            · cases h
      obtain ⟨g1, g2, g3⟩ := go hts
      exact gg_tup k.calm g2 g3 g1
    | _ => cases h
theorem trRng_ok {args : List Expr} {tg : Expr} {p : Pos} {it : Itx} (hr : RecOk ti rec) (k : CxOk X F Wx exc ti.G sc fnb ti.N) (hg : Gl X "range") (hm : X.mg "range" = none) (h : trRng rec ti sc fnb args = some it) : TriI X F c Wx exc tg (.Call (.Name "range" p) args [] pos) it := by
  unfold trRng at h
  split at h
  · rename_i a ha
    obtain ⟨p1, q1, rfl⟩ := lenArg_ok ha
    split at h
    · cases h
    · rename_i hb
      simp only [Bool.or_eq_true, not_or, Bool.not_eq_true] at hb
      obtain ⟨x1, h1, rfl⟩ := Option.map_eq_some_iff.mp h
      have b1 : glB sc "len" = true := by simpa using hb.1.2
      have b2 : ("len" : Str) ∈ ti.G.blt := by simpa using hb.2
      exact trii_rlen hg hm (glB_ok k.scope b1) (k.blt _ b2) (Plain.nil.cons (isStar_ok hb.1.1)) (hr _ _ _ _ h1 X F c Wx exc k)
  · split at h
    · split at h
      · cases h
      · rename_i hs
        obtain ⟨x1, h1, rfl⟩ := Option.map_eq_some_iff.mp h
        exact trii_rng1 hg hm (Plain.nil.cons (isStar_ok (by simpa using hs))) (hr _ _ _ _ h1 X F c Wx exc k)
    · split at h
      · cases h
      · rename_i hs
        simp only [Bool.or_eq_true, not_or, Bool.not_eq_true] at hs
        split at h
        · rename_i x1 y1 e1 e2
          cases h
          exact trii_rng2 hg hm ((Plain.nil.cons (isStar_ok hs.2)).cons (isStar_ok hs.1)) (hr _ _ _ _ e1 X F c Wx exc k) (hr _ _ _ _ e2 X F c Wx exc k)
        · cases h
    · cases h
theorem trI_ok {tg it : Expr} {i : Itx} (hr : RecOk ti rec) (k : CxOk X F Wx exc ti.G sc fnb ti.N) (h : trI rec ti sc fnb tg it = some i) : TriI X F c Wx exc tg it i := by
  have seq : ∀ {i : Itx}, (rec sc fnb it).map Itx.seq = some i → TriI X F c Wx exc tg it i := fun h => by
    obtain ⟨x1, h1, rfl⟩ := Option.map_eq_some_iff.mp h
    exact trii_seq (hr _ _ _ _ h1 X F c Wx exc k)
  unfold trI at h
  split at h
  · rename_i a0 ea
    split at h
    · rename_i hb
      rw [Bool.and_eq_true] at hb
      obtain ⟨x1, h1, rfl⟩ := Option.map_eq_some_iff.mp h
      unfold zstArg at ea
      split at ea
      · split at ea
        · rename_i e
          subst e
          cases ea
          exact trii_zst (glB_ok k.scope hb.1) (k.blt _ (of_decide_eq_true hb.2)) (hr _ _ _ _ h1 X F c Wx exc k)
        · cases ea
      · cases ea
    · cases h
  split at h
  · rename_i y p args pos
    split at h
    · rename_i e
      subst e
      split at h
      · rename_i hb
        rw [Bool.and_eq_true] at hb
        exact trRng_ok hr k (glB_ok k.scope hb.1) (k.blt _ (of_decide_eq_true hb.2)) h
      · cases h
    · split at h
      · rename_i e
        subst e
        split at h
        · rename_i hb
          simp only [Bool.and_eq_true] at hb
          obtain ⟨⟨h0, h1⟩, h2⟩ := hb
          obtain ⟨el, kk, tp, rfl⟩ := isTupE_ok h0
          split at h
          · split at h
            · cases h
            · rename_i hs
              simp only [Bool.or_eq_true, not_or, Bool.not_eq_true] at hs
              split at h
              · rename_i x1 y1 e1 e2
                cases h
                exact trii_zip (glB_ok k.scope h1) (k.blt _ (of_decide_eq_true h2)) ((Plain.nil.cons (isStar_ok hs.2)).cons (isStar_ok hs.1)) (hr _ _ _ _ e1 X F c Wx exc k) (hr _ _ _ _ e2 X F c Wx exc k)
              · cases h
          · split at h
            · cases h
            · rename_i hs
              simp only [Bool.or_eq_true, not_or, Bool.not_eq_true] at hs
              split at h
              · rename_i x1 y1 z1 e1 e2 e3
                cases h
                exact trii_zip3 (glB_ok k.scope h1) (k.blt _ (of_decide_eq_true h2)) (((Plain.nil.cons (isStar_ok hs.2)).cons (isStar_ok hs.1.2)).cons (isStar_ok hs.1.1)) (hr _ _ _ _ e1 X F c Wx exc k) (hr _ _ _ _ e2 X F c Wx exc k) (hr _ _ _ _ e3 X F c Wx exc k)
              · cases h
          · cases h
        · cases h
      · split at h
        · rename_i e
          subst e
          split at h
          · rename_i hb
            simp only [Bool.and_eq_true] at hb
            obtain ⟨⟨h0, h1⟩, h2⟩ := hb
            obtain ⟨el, kk, tp, rfl⟩ := isTupE_ok h0
            split at h
            · split at h
              · cases h
              · rename_i hs
                obtain ⟨x1, e1, rfl⟩ := Option.map_eq_some_iff.mp h
                exact trii_enu (glB_ok k.scope h1) (k.blt _ (of_decide_eq_true h2)) (Plain.nil.cons (isStar_ok (by simpa using hs))) (hr _ _ _ _ e1 X F c Wx exc k)
            · cases h
          · cases h
        · exact seq h
  · exact seq h
theorem trTs_ok {ifs : List Expr} {cs : Exs} (hr : RecOk ti rec) (k : CxOk X F Wx exc ti.G sc fnb ti.N) (h : trTs rec sc fnb ifs = some cs) : TriT X F c Wx exc ifs cs := by
  unfold trTs at h
  split at h
  · cases h; exact trit_nil
  · obtain ⟨x1, h1, rfl⟩ := Option.map_eq_some_iff.mp h
    exact trit_one (hr _ _ _ _ h1 X F c Wx exc k)
  · cases h
/-- the parts of a told comprehension -/
structure Lc1Ok (X : Cx) (F : Nat → List D → Dr → Oc) (c : Cc) (Wx : WX) (exc : Exc) (elt tg iter : Expr) (ifs : List Expr) (scope : Scope) (l : LcP) : Prop where
  hs : ∀ x, foldedSetIterable iter X.env x = pure x
  ok : BlkOk X.N X.env.scope scope l.own
  ho : ∀ i ∈ tgN l.t, i ∈ l.own.map (·.2)
  hi : TriI X F c Wx exc tg iter l.it
  hg : ∀ s H C cl fp, PG (X.blk s H scope (compEnvC scope cl C X.env) fp) tg (gOk X.K c l.t)
  ht : ∀ s H C cl fp, TriT (X.blk s H scope (compEnvC scope cl C X.env) fp) F c Wx0 exc ifs l.cs
  he : ∀ s H C cl fp, Tri (X.blk s H scope (compEnvC scope cl C X.env) fp) F c Wx0 exc elt l.x
structure Lc2Ok (X : Cx) (F : Nat → List D → Dr → Oc) (c : Cc) (Wx : WX) (exc : Exc) (elt tg iter : Expr) (ifs : List Expr) (tg1 iter1 : Expr) (ifs1 : List Expr) (scope : Scope) (l : LcP2) : Prop where
  hs : ∀ x, foldedSetIterable iter X.env x = pure x
  hs1 : ∀ env x, foldedSetIterable iter1 env x = pure x
  ok : BlkOk X.N X.env.scope scope l.own
  hv : ∀ i ∈ tgN l.t1, i ∈ l.own.map (·.2)
  ho : ∀ i ∈ tgN l.t, i ∈ l.own.map (·.2)
  hi : TriI X F c Wx exc tg iter l.it
  hg : ∀ s H C cl fp, PG (X.blk s H scope (compEnvC scope cl C X.env) fp) tg (gOk X.K c l.t)
  ht : ∀ s H C cl fp, TriT (X.blk s H scope (compEnvC scope cl C X.env) fp) F c Wx0 exc ifs l.cs
  hi1 : ∀ s H C cl fp, TriI (X.blk s H scope (compEnvC scope cl C X.env) fp) F c Wx0 exc tg1 iter1 l.it1
  hg1 : ∀ s H C cl fp, PG (X.blk s H scope (compEnvC scope cl C X.env) fp) tg1 (gOk X.K c l.t1)
  ht1 : ∀ s H C cl fp, TriT (X.blk s H scope (compEnvC scope cl C X.env) fp) F c Wx0 exc ifs1 l.cs1
  he : ∀ s H C cl fp, Tri (X.blk s H scope (compEnvC scope cl C X.env) fp) F c Wx0 exc elt l.x
theorem trLc1_ok {elt tg iter : Expr} {ifs : List Expr} {scope : Scope} {l : LcP} (hr : RecOk ti rec) (k : CxOk X F Wx exc ti.G sc fnb ti.N) (h : trLc1 rec ti sc fnb elt tg iter ifs scope = some l) : Lc1Ok X F c Wx exc elt tg iter ifs scope l := by
  unfold trLc1 at h
  split at h
  · rename_i hb
    rw [Bool.and_eq_true] at hb
    split at h
    · rename_i t it cs x h1 h2 h3 h4
      split at h
      · rename_i hs
        cases h
        exact ⟨fold_ok (by simpa using hb.1) _, by rw [k.names, k.scope]; exact blkOk_by hb.2, subB_ok hs, trI_ok hr k h2, fun s H C cl fp => trG_ok (k.blk scope s H C cl fp) h1, fun s H C cl fp => trTs_ok hr (k.blk scope s H C cl fp) h3, fun s H C cl fp => hr _ _ _ _ h4 _ F c Wx0 exc (k.blk scope s H C cl fp)⟩
      · cases h
    · cases h
  · cases h
theorem trLc2_ok {elt tg iter tg1 iter1 : Expr} {ifs ifs1 : List Expr} {scope : Scope} {l : LcP2} (hr : RecOk ti rec) (k : CxOk X F Wx exc ti.G sc fnb ti.N) (h : trLc2 rec ti sc fnb elt tg iter ifs tg1 iter1 ifs1 scope = some l) : Lc2Ok X F c Wx exc elt tg iter ifs tg1 iter1 ifs1 scope l := by
  unfold trLc2 at h
  split at h
  · rename_i hb
    simp only [Bool.and_eq_true] at hb
    split at h
    · rename_i t it cs x h1 h2 h3 h4
      split at h
      · rename_i t1 it1 cs1 g1 g2 g3
        split at h
        · rename_i hs
          rw [Bool.and_eq_true] at hs
          cases h
          exact ⟨fold_ok (by simpa using hb.1.1) _, fold_ok (by simpa using hb.1.2), by rw [k.names, k.scope]; exact blkOk_by hb.2, subB_ok hs.2, subB_ok hs.1, trI_ok hr k h2, fun s H C cl fp => trG_ok (k.blk scope s H C cl fp) h1, fun s H C cl fp => trTs_ok hr (k.blk scope s H C cl fp) h3,
            fun s H C cl fp => trI_ok hr (k.blk scope s H C cl fp) g2, fun s H C cl fp => trG_ok (k.blk scope s H C cl fp) g1, fun s H C cl fp => trTs_ok hr (k.blk scope s H C cl fp) g3, fun s H C cl fp => hr _ _ _ _ h4 _ F c Wx0 exc (k.blk scope s H C cl fp)⟩
        · cases h
      · cases h
    · cases h
  · cases h
theorem trLc_ok {elt : Expr} {gs : List Comprehension} {scope : Scope} (hr : RecOk ti rec) (k : CxOk X F Wx exc ti.G sc fnb ti.N) (h : trLc rec ti sc fnb elt gs scope = some x) : Tri X F c Wx exc (.ListComp elt gs scope pos) x := by
  have nd : X.N.Nodup := by rw [k.names]; exact k.nd
  unfold trLc at h
  split at h
  · split at h
    · rename_i e
      subst e
      obtain ⟨l, h1, rfl⟩ := Option.map_eq_some_iff.mp h
      have o := trLc1_ok (c := c) hr k h1
      exact tri_lc k.calm nd o.hs o.ok o.ho o.hi o.hg o.ht o.he
    · cases h
  · split at h
    · rename_i e
      obtain ⟨rfl, rfl⟩ := e
      obtain ⟨l, h1, rfl⟩ := Option.map_eq_some_iff.mp h
      have o := trLc2_ok (c := c) hr k h1
      exact tri_lc2 k.calm nd o.hs o.hs1 o.ok o.hv o.ho (fun _ h => h) o.hi o.hg o.ht o.hi1 o.hg1 o.ht1 o.he
    · cases h
  · cases h
theorem trSub_ok (hr : RecOk ti rec) (k : CxOk X F Wx exc ti.G sc fnb ti.N) (h : trSub rec sc fnb a b = some x) : Tri X F c Wx exc (.Subscript a b pos) x := by
  unfold trSub at h
  split at h
  · obtain ⟨x1, e1, rfl⟩ := Option.map_eq_some_iff.mp h
    exact tri_rev (hr _ _ _ _ e1 X F c Wx exc k)
  · split at h
    · rename_i x1 l1 h1 e1 e2 e3
      cases h
      exact tri_slc (hr _ _ _ _ e1 X F c Wx exc k) (trO_ok hr k e2) (trO_ok hr k e3)
    · cases h
  · split at h
    · cases h
    · rename_i hs
      split at h
      · rename_i x1 y1 e1 e2
        cases h
        exact tri_idx k.room (plainIx_ok (by simpa using hs)) (hr _ _ _ _ e1 X F c Wx exc k) (hr _ _ _ _ e2 X F c Wx exc k)
      · cases h
theorem trCmp_ok {ops : List CmpOp} (hr : RecOk ti rec) (k : CxOk X F Wx exc ti.G sc fnb ti.N) (h : trCmp rec sc fnb a ops es = some x) : Tri X F c Wx exc (.Compare a ops es pos) x := by
  unfold trCmp at h
  split at h
  · split at h
    · cases h
    · rename_i hs
      split at h
      · rename_i o1 x1 y1 e0 e1 e2
        cases h
        rw [coOf_ok e0]
        exact tri_cmp k.room (mark_ok (by simpa using hs)) (hr _ _ _ _ e1 X F c Wx exc k) (hr _ _ _ _ e2 X F c Wx exc k)
      · cases h
  · split at h
    · cases h
    · rename_i hs
      split at h
      · rename_i o1 o2 x1 y1 z1 e0 e00 e1 e2 e3
        cases h
        rw [coOf_ok e0, coOf_ok e00]
        exact tri_chn k.room (mark_ok (by simpa using hs)) (hr _ _ _ _ e1 X F c Wx exc k) (hr _ _ _ _ e2 X F c Wx exc k) (hr _ _ _ _ e3 X F c Wx exc k)
      · cases h
  · cases h
theorem tupB_ok {p : Str × List Str} {b : Expr} (k : CxOk X F Wx exc ti.G sc fnb ti.N) (h : tupB ti sc b = some p) : ∃ q, b = .Name p.1 q ∧ Gl X p.1 ∧ (p.1 == ("__debug__" : Str)) = false ∧ TupFact X.K X.mg p.2 p.1 := by
  unfold tupB at h
  split at h
  · rename_i y q
    split at h
    · rename_i hb
      rw [Bool.and_eq_true] at hb
      have hm := List.mem_of_find?_eq_some h
      have hy : p.1 = y := by
        have := List.find?_some h
        exact of_decide_eq_true this
      subst hy
      exact ⟨q, rfl, glB_ok k.scope hb.1, (nmB_ok hb.2).1, k.tups p hm⟩
    · cases h
  · cases h
theorem trCmpG_ok {ops : List CmpOp} (hr : RecOk ti rec) (k : CxOk X F Wx exc ti.G sc fnb ti.N) (h : trCmpG rec ti sc fnb a ops es = some x) : Tri X F c Wx exc (.Compare a ops es pos) x := by
  unfold trCmpG at h
  split at h
  · rename_i o b
    split at h
    · rename_i p x1 h1 h2 h3
      cases h
      rw [coOf_ok h2]
      obtain ⟨q, rfl, g1, g2, g3⟩ := tupB_ok k h1
      exact tri_inG (.inl rfl) k.room g3 g1 g2 (hr _ _ _ _ h3 X F c Wx exc k)
    · rename_i p x1 h1 h2 h3
      cases h
      rw [coOf_ok h2]
      obtain ⟨q, rfl, g1, g2, g3⟩ := tupB_ok k h1
      exact tri_inG (.inr rfl) k.room g3 g1 g2 (hr _ _ _ _ h3 X F c Wx exc k)
    · cases h
  · cases h
theorem trDc_ok {kx vx : Expr} {gs : List Comprehension} {scope : Scope} (hr : RecOk ti rec) (k : CxOk X F Wx exc ti.G sc fnb ti.N) (h : trDc rec ti sc fnb kx vx gs scope = some x) : Tri X F c Wx exc (.DictComp kx vx gs scope pos) x ∧ ∀ b, PE X (.DictComp kx vx gs scope pos) (okM X.K c Wx exc b (ev F .frz x)) := by
  have nd : X.N.Nodup := by rw [k.names]; exact k.nd
  obtain ⟨d, h1, rfl⟩ := Option.map_eq_some_iff.mp h
  unfold trDc1 at h1
  split at h1
  · split at h1
    · rename_i e
      subst e
      split at h1
      · rename_i l v h2 h3
        cases h1
        have o := trLc1_ok (c := c) (Wx := Wx) (exc := exc) hr k h2
        have hp : ∀ b, PE X (.DictComp kx vx [⟨_, _, _, 0⟩] scope pos) (okM X.K c Wx exc b (ev F .frz (.dc (l.own.map (·.2)) l.t l.it l.cs l.x v))) := fun b => pm_dc b k.calm nd o.hs o.ok o.ho o.hi o.hg o.ht o.he fun s H C cl fp => hr _ _ _ _ h3 _ F c Wx0 exc (k.blk scope s H C cl fp)
        exact ⟨tri_dc (hp false) (fun _ => rfl), hp⟩
      · cases h1
    · cases h1
  · cases h1
end
theorem stepE_ok {rec : Tre} {ti : Ti} (hr : RecOk ti rec) : RecOk ti fun sc fnb e => stepE rec ti sc fnb e := by
  intro sc fnb e x h X F c Wx exc k
  have h : stepE rec ti sc fnb e = some x := h
  unfold stepE at h
  cases e with
  | Name y p => exact trNm_ok k h
  | Constant q j p =>
    obtain ⟨d, h1, rfl⟩ := Option.map_eq_some_iff.mp h
    exact trC_ok h1
  | BinOp a o b p =>
    dsimp only at h
    split at h
    · rename_i o1 x1 y1 e0 e1 e2
      cases h
      rw [boOf_ok e0]
      exact tri_bin (hr _ _ _ _ e1 X F c Wx exc k) (hr _ _ _ _ e2 X F c Wx exc k)
    · cases h
  | UnaryOp o a p =>
    cases o with
    | USub =>
      obtain ⟨d, h1, rfl⟩ := Option.map_eq_some_iff.mp h
      exact tri_neg (hr _ _ _ _ h1 X F c Wx exc k)
    | Not =>
      obtain ⟨d, h1, rfl⟩ := Option.map_eq_some_iff.mp h
      exact tri_not (hr _ _ _ _ h1 X F c Wx exc k)
    | _ => cases h
  | Compare a ops es p =>
    dsimp only at h
    split at h
    · rename_i x1 e1
      cases h
      exact trCmpG_ok hr k e1
    · exact trCmp_ok hr k h
  | BoolOp o es p =>
    cases o with
    | And => exact (trAnd_ok hr k h).tri
    | Or => exact (trOr_ok hr k h).tri
  | IfExp q a b p =>
    dsimp only at h
    split at h
    · rename_i x1 y1 z1 e1 e2 e3
      cases h
      exact tri_ite (hr _ _ _ _ e1 X F c Wx exc k) (hr _ _ _ _ e2 X F c Wx exc k) (hr _ _ _ _ e3 X F c Wx exc k)
    · cases h
  | Tuple es kk p =>
    obtain ⟨xs, h1, rfl⟩ := Option.map_eq_some_iff.mp h
    exact tri_tup (trL_ok hr k h1).2
  | List es p =>
    obtain ⟨xs, h1, rfl⟩ := Option.map_eq_some_iff.mp h
    exact tri_lst (trL_ok hr k h1).2
  | Subscript a b p => exact trSub_ok hr k h
  | Call f args kws p =>
    cases kws with
    | cons _ _ => cases h
    | nil =>
      cases f with
      | Name y q => exact trCall_ok hr k h
      | Attribute a m ap => exact trMe_ok hr k h
      | _ => cases h
  | ListComp elt gs scope p => exact trLc_ok hr k h
  | Dict ks vs p => exact (dctE_ok hr k h).1
  | DictComp kx vx gs scope p => exact (trDc_ok hr k h).1
  | _ => cases h
theorem trE_ok (ti : Ti) : ∀ n, RecOk ti (trE ti n)
  | 0 => fun _ _ _ _ h => by cases h
  | n + 1 => stepE_ok (trE_ok ti n)
end Ly

set_option Elab.async false
set_option linter.all false
set_option maxRecDepth 100000
set_option maxHeartbeats 2000000
/-! Ly: from the text to the small language: statements. -/
namespace Ly
open PySem PySem.Spec PyProof.Rows L2

/-! ### which slots an expression wants let go -/
mutual
def fzE : Md → Ex → List Nat
  | .frz, .var i => [i]
  | _, .var _ => []
  | _, .con _ => []
  | _, .bin _ a b => fzE .bor a ++ fzE .bor b
  | _, .neg a => fzE .bor a
  | _, .cmp _ a b => fzE .bor a ++ fzE .bor b
  | _, .chn _ _ a b c => fzE .bor a ++ fzE .bor b ++ fzE .bor c
  | m, .and a b => fzE m a ++ fzE m b
  | m, .or a b => fzE m a ++ fzE m b
  | .tst, .not a => fzE .tst a
  | _, .not a => fzE .bor a
  | m, .ite c a b => fzE .tst c ++ fzE m a ++ fzE m b
  | _, .tup xs => fzEs .frz xs
  | _, .lst xs => fzEs .frz xs
  | _, .idx a b => fzE .bor a ++ fzE .bor b
  | _, .slc a l h => fzE .bor a ++ fzO l ++ fzO h
  | _, .bf _ xs => fzEs .bor xs
  | _, .me _ a xs => fzE .bor a ++ fzEs .bor xs
  | _, .call _ xs => fzEs .frz xs
  | _, .rev a => fzE .bor a
  | _, .xt0 => []
  | _, .dct0 _ => []
  | _, .lrg xs => fzEs .bor xs
  | _, .trg xs => fzEs .bor xs
  | _, .dc _ _ it cs k v => fzI .bor it ++ fzEs .tst cs ++ fzE .frz k ++ fzE .frz v
  | _, .dct1 _ k v => fzE .frz k ++ fzE .frz v
  | _, .dg1 a k => fzE .bor a ++ fzE .bor k
  | _, .ixo a k => fzE .bor a ++ fzE .bor k
  | _, .dg2 a k v => fzE .bor a ++ fzE .bor k ++ fzE .frz v
  | _, .lc _ _ it cs x => fzI .bor it ++ fzEs .tst cs ++ fzE .frz x
  | _, .lc2 _ _ _ it cs _ it1 cs1 x => fzI .bor it ++ fzEs .tst cs ++ fzI .frz it1 ++ fzEs .tst cs1 ++ fzE .frz x
def fzEs : Md → Exs → List Nat
  | _, .nil => []
  | m, .cons x xs => fzE m x ++ fzEs m xs
def fzO : Exo → List Nat
  | .none => []
  | .some x => fzE .bor x
def fzI : Md → Itx → List Nat
  | m, .seq a => fzE m a
  | _, .rng xs => fzEs .bor xs
  | _, .rlen a => fzE .bor a
  | m, .zip xs => fzEs m xs
  | m, .enu a => fzE m a
  | m, .zst a => fzE m a
end
def preS (ti : Ti) (is : List Nat) (y : St) : Sts := ((is.filter fun i => decide (i ∈ ti.mu)).eraseDups).foldr (fun i acc => .cons (.frz i) acc) (.cons y .nil)

def nm1 (kf : Str → Option NameKind) (line : Nat) : Expr → Option Str
  | .Name id pos => if kf id == some .local && pos.line == line then some id else none
  | _ => none
def nmF (kf : Str → Option NameKind) (ts : List Expr) : List Str := ts.filterMap (nm1 kf ((ts.head?.map (·.pos.line)).getD 0))
section
variable (rec : Tre) (ti : Ti) (sc : Scope) (fnb : Str → Bool)
/-- a slot whose dict has tuples as keys -/
def dkB (i : Nat) : Bool := decide (1000 + i ∈ ti.mu)
/-- a value for a slot that holds it (b) or not -/
def pmB (t b : Bool) (e : Expr) : Option Ex :=
  if b then match e with
    | .List es _ => (trL rec sc fnb es).map .lst
    | .ListComp elt gs scope _ => trLc rec ti sc fnb elt gs scope
    | .DictComp kx vx gs scope _ => trDc rec ti sc fnb kx vx gs scope
    | e => dctE rec sc fnb t e
  else match dctE rec sc fnb t e with
    | some x => some x
    | none => rec sc fnb e
def trPs : List (Nat × Bool) → List Expr → Option Exs
  | [], [] => some .nil
  | (i, b) :: ts, e :: es => if isStar e then none else match pmB rec ti sc fnb (dkB ti i) b e, trPs ts es with
    | some x, some xs => some (.cons x xs)
    | _, _ => none
  | _, _ => none
/-- l.pop(), l.pop(k) -/
def trPop (e : Expr) : Option (Nat × Exo) :=
  match e with
  | .Call (.Attribute (.Name y _) m apos) args [] cpos => if decide (m = "pop") && visB sc y && nmB y && (apos.endLine == cpos.line) then match ixOf ti.N y with
      | some i => if decide (i ∈ ti.mu) then match args with
        | [] => some (i, .none)
        | [a] => if isStar a then none else (rec sc fnb a).map fun x => (i, .some x)
        | _ => none
        else none
      | none => none
    else none
  | _ => none
def nmOf : Expr → Option Nat
  | .Name y _ => if locB sc y && (fnb y || decide (sc.names.lookup y = some .local)) then ixOf ti.N y else none
  | _ => none
def nmsOf : List Expr → Option (List (Nat × Bool))
  | [] => some []
  | e :: es => match nmOf ti sc fnb e, nmsOf es with
    | some i, some ts => some ((i, decide (i ∈ ti.mu)) :: ts)
    | _, _ => none
def swF (kf : Str → Option NameKind) (ts vs : List Expr) : Option (Option (List Str)) :=
  if (!(ts.length == 2 || ts.length == 3) || vs.length != ts.length) = true then some none else
  if vs.any isStar = true then some none else
  if ((nmF kf ts).length != ts.length || (nmF kf ts).eraseDups.length != (nmF kf ts).length) = true then some none else
  if vs.all (foldedForSure 8) = true then some none else
  if vs.all (constantsAlone 8) = true then none else
  some (some (nmF kf ts))
def swN (ts vs : List Expr) : Option (Option (List Str)) := swF (fun y => sc.names.lookup y) ts vs
def lclB (y : Str) : Bool := decide (sc.names.lookup y = some .local)
def parOk (ts : List Expr) (tf : List (Nat × Bool)) (es : List Expr) (names : List Str) : Bool :=
  match ts, tf, es with
  | [.Name y _, .Name z _], [(i, _), (j, _)], [_, _] => decide (names = [y, z]) && decide (i ≠ j) && lclB sc y && lclB sc z
  | [.Name y _, .Name z _, .Name w _], [(i, _), (j, _), (l, _)], [_, _, _] => decide (names = [y, z, w]) && decide (i ≠ j) && decide (i ≠ l) && decide (j ≠ l) && lclB sc y && lclB sc z && lclB sc w
  | _, _, _ => false
def trPar (ts es : List Expr) : Option (List (Nat × Bool) × Exs) :=
  match nmsOf ti sc fnb ts with
  | some tf => match trPs rec ti sc fnb tf es with
    | some xs => match swN sc ts es with
      | some none => if tf.length ≤ 100 then some (tf, xs) else none
      | some (some names) => if parOk sc ts tf es names then some (tf, xs) else none
      | none => none
    | none => none
  | none => none
def isComp : Expr → Bool
  | .ListComp .. => true
  | .SetComp .. => true
  | .DictComp .. => true
  | _ => false
/-- a comprehension that is stored at once -/
def swapB (y : Str) (py : Pos) (scope : Scope) (lp : Pos) : Bool := lclB sc y && (py.line == lp.line) && !(scope.names.any fun (n, k) => n == y && (k == .local || k == .cell))
/-- a tuple whose object is to be known -/
def trXt0 (e : Expr) : Option Ex :=
  match e with
  | .Tuple [] _ _ => some .xt0
  | .Call (.Name z _) [a] [] _ => if z = "tuple" then (if isStar a || !glB sc "tuple" || !decide (("tuple" : Str) ∈ ti.G.blt) then none else (rec sc fnb a).map fun x => .bf .xtup (.cons x .nil)) else none
  | _ => none
def trXt (e : Expr) : Option Ex :=
  match e with
  | .IfExp q a b _ => match rec sc fnb q, trXt0 rec ti sc fnb a, trXt0 rec ti sc fnb b with
    | some x, some y, some z => some (.ite x y z)
    | _, _, _ => none
  | e => trXt0 rec ti sc fnb e
def trNmA (y : Str) (py : Pos) (e : Expr) : Option St :=
  match nmOf ti sc fnb (.Name y py) with
  | none => none
  | some i => if decide (y ∈ ti.G.xts) then (if isComp e then none else (trXt rec ti sc fnb e).map (setX false i)) else match e with
    | .ListComp elt gs scope lp => if swapB sc y py scope lp || !lclB sc y then (trLc rec ti sc fnb elt gs scope).map (setX (decide (i ∈ ti.mu)) i) else none
    | e => if isComp e then none else match trPop rec ti sc fnb e with
      | some p => some (.pop (.nm i) p.1 p.2)
      | none => (pmB rec ti sc fnb (dkB ti i) (decide (i ∈ ti.mu)) e).map (setX (decide (i ∈ ti.mu)) i)
def trAsg (tg e : Expr) : Option St :=
  match tg with
  | .Name y py => trNmA rec ti sc fnb y py e
  | .Tuple ts _ _ => match e with
    | .Tuple es _ _ => (trPar rec ti sc fnb ts es).map fun p => .par p.1 p.2
    | e => match trPop rec ti sc fnb e with
      | some p => (trG ti sc fnb 4 tg).map fun t => .pop t p.1 p.2
      | none => match trG ti sc fnb 4 tg, rec sc fnb e with
        | some t, some x => some (.asg t x)
        | _, _ => none
  | .Subscript (.Name y _) k _ => if isSlice k || isTupE e || !(visB sc y && nmB y) then none else match ixOf ti.N y, rec sc fnb e, rec sc fnb k with
    | some i, some x, some xk => some (.setI i xk x)
    | _, _, _ => none
  | _ => none
def fzSt : St → List Nat
  | .asg _ x => fzE .frz x
  | .own _ x => fzE .frz x
  | .par _ xs => fzEs .frz xs
  | .app _ x => fzE .frz x
  | .setI _ k x => fzE .frz k ++ fzE .frz x
  | .aug _ _ x => fzE .bor x
  | .pop _ _ k => fzO k
  | .exp x => fzE .bor x
  | .ret x => fzE .frz x
  | .ifs c _ _ => fzE .tst c
  | .for _ it _ => fzI .frz it
  | .whl c _ => fzE .tst c
  | .grp _ _ _ _ e => fzE .frz e
  | _ => []
def trX (e : Expr) : Option St :=
  match e with
  | .Call (.Attribute (.Name y _) m apos) [a] [] cpos =>
    if m = "append" then (if visB sc y && nmB y && !isStar a && (apos.endLine == cpos.line) then match ixOf ti.N y, rec sc fnb a with
      | some i, some x => some (.app i x)
      | _, _ => none else none)
    else (rec sc fnb e).map .exp
  | _ => if isComp e then none else (rec sc fnb e).map .exp
/-- raise X('..') -/
def trRai (e : Expr) : Option St :=
  match e with
  | .Call (.Name y _) [.Constant (.str _) _ _] [] _ => if glB sc y && nmB y then (ti.G.excs.find? fun p => decide (p.1 = y)).map fun p => .rai p.2 else none
  | _ => none
/-- except X: return k -/
def trHd (hs : List ExceptHandler) : Option (Nat × D) :=
  match hs with
  | [.ExceptHandler (some (.Name y _)) none [.Return (some (.Constant q _ _)) _] _] => if glB sc y && nmB y then (match ti.G.excs.find? fun p => decide (p.1 = y), trC q with
    | some p, some d => some (p.2, d)
    | _, _ => none) else none
  | _ => none
/-- x.setdefault(a, []).append(c), for a, b, c in a tuple -/
def trGrp (tg it : Expr) (b : List Stmt) : Option St :=
  match tg, b with
  | .Tuple [na, nb, nc] _ _, [.Expr (.Call (.Attribute (.Call (.Attribute (.Name y _) m1 ap1) [.Name ya _, .List [] _] [] cp1) m2 ap2) [.Name yc _] [] cp2) _] =>
    if decide (m1 = "setdefault") && decide (m2 = "append") && (visB sc y && nmB y) && (visB sc ya && nmB ya) && (visB sc yc && nmB yc) && (ap1.endLine == cp1.line) && (ap2.endLine == cp2.line) then
      match nmsOf ti sc fnb [na, nb, nc], ixOf ti.N y, ixOf ti.N ya, ixOf ti.N yc, rec sc fnb it with
      | some [(ia, false), (ib, false), (ic, false)], some ix, some ja, some jc, some xe => if decide (ia = ja) && decide (ic = jc) then some (.grp ix ia ib ic xe) else none
      | _, _, _, _, _ => none
    else none
  | _, _ => none
/-- for .. in d.get(l.pop(), []) -/
def trFpg (tg it : Expr) : Option (Tg × Nat × Nat) :=
  match it with
  | .Call (.Attribute (.Name yd _) m1 ap1) [.Call (.Attribute (.Name yw _) m2 ap2) [] [] cp2, .List [] _] [] cp1 =>
    if decide (m1 = "get") && decide (m2 = "pop") && (visB sc yd && nmB yd) && (visB sc yw && nmB yw) && (ap1.endLine == cp1.line) && (ap2.endLine == cp2.line) then
      match ixOf ti.N yd, ixOf ti.N yw, trG ti sc fnb 4 tg with
      | some i, some j, some t => some (t, i, j)
      | _, _, _ => none
    else none
  | _ => none
/-- one statement, the suites by rs -/
def stepS (rs : List Stmt → Option Sts) (st : Stmt) : Option St :=
  match st with
  | .Return none _ => some .retN
  | .Return (some e) _ => (rec sc fnb e).map .ret
  | .Expr e _ => trX rec ti sc fnb e
  | .Assign tgs e _ => match tgs with
    | [tg] => trAsg rec ti sc fnb tg e
    | _ => none
  | .AugAssign tg o e _ => match tg, o with
    | .Name y p, .Add => match nmOf ti sc fnb (.Name y p), rec sc fnb e with
      | some i, some x => some (.aug .add i x)
      | _, _ => none
    | .Name y p, .Sub => match nmOf ti sc fnb (.Name y p), rec sc fnb e with
      | some i, some x => some (.aug .sub i x)
      | _, _ => none
    | _, _ => none
  | .If c a b _ => match rec sc fnb c, rs a, rs b with
    | some x, some xs, some ys => some (.ifs x xs ys)
    | _, _, _ => none
  | .For tg it b els _ => match els with
    | [] => if isSet it then none else match trG ti sc fnb 4 tg, trI rec ti sc fnb tg it, rs b with
      | some t, some i, some xs => some (.for t i xs)
      | _, _, _ => match trGrp rec ti sc fnb tg it b with
        | some z => some z
        | none => match trFpg ti sc fnb tg it, rs b with
          | some p, some xs => some (.fpg p.1 p.2.1 p.2.2 xs)
          | _, _ => none
    | _ => none
  | .While c b els _ => match els with
    | [] => match rec sc fnb c, rs b with
      | some x, some xs => some (.whl x xs)
      | _, _ => none
    | _ => none
  | .Raise x y _ => match x, y with
    | some e, none => trRai ti sc e
    | _, _ => none
  | .Try b hs els fin _ => match els, fin with
    | [], [] => match trHd ti sc hs, rs b with
      | some p, some xs => some (.try xs p.1 (.cons (.ret (.con p.2)) .nil))
      | _, _ => none
    | _, _ => none
  | .Pass _ => some .pas
  | .Break _ => some .brk
  | .Continue _ => some .cnt
  | _ => none
def trSs (step : Stmt → Option St) : List Stmt → Option Sts
  | [] => some .nil
  | s :: ss => match step s, trSs step ss with
    | some y, some ys => some ((preS ti (fzSt y) y).app ys)
    | _, _ => none
def trB' : Nat → List Stmt → Option Sts
  | 0, _ => none
  | n + 1, ss => trSs ti (stepS rec ti sc fnb (trB' n)) ss
end
/-- a def's body -/
def trD (ti : Ti) (sc : Scope) (ss : List Stmt) : Option Sts := trB' (trE ti 40) ti sc (fun _ => true) 12 ss
end Ly

set_option Elab.async false
set_option linter.all false
set_option maxRecDepth 100000
set_option maxHeartbeats 2000000
/-! Ly: what is told is so: statements. -/
namespace Ly
open PySem PySem.Spec PyProof.Rows L2

theorem sw_any {e : Expr} {t : Option Expr} (h : isComp e = false) (l : Nat) (env : Env) : swapsWith e t l env = pure false := by
  cases e <;> first | rfl | cases h
theorem sw_tup {e : Expr} {ts : List Expr} {k : Nat} {p : Pos} (l : Nat) (env : Env) : swapsWithSole [.Tuple ts k p] e l env = pure false := by
  cases e <;> rfl
theorem sw_sub {e a b : Expr} {p : Pos} (l : Nat) (env : Env) : swapsWithSole [.Subscript a b p] e l env = pure false := by
  cases e <;> rfl
theorem sws_tup {e : Expr} {ts : List Expr} {k : Nat} {p : Pos} (h : isTupE e = false) (env : Env) : swappedStores [.Tuple ts k p] e env = pure none := by
  cases e <;> first | rfl | cases h
theorem sws_sub {e a b : Expr} {p : Pos} (env : Env) : swappedStores [.Subscript a b p] e env = pure none := by
  cases e <;> rfl
theorem sw_cell {elt : Expr} {gs : List Comprehension} {scope : Scope} {lp py : Pos} {y : Str} {l : Nat} {env : Env} (hk : env.scope.kind = .function) (hy : env.scope.names.lookup y ≠ some .local) : swapsWith (.ListComp elt gs scope lp) (some (.Name y py)) l env = pure false := by
  have hb : env.blockKind = .function := by unfold Env.blockKind; rw [hk]; rfl
  have ky : (env.kindOf y == some .local) = false := by
    show (env.scope.names.lookup y == some .local) = false
    exact beq_eq_false_iff_ne.mpr hy
  unfold swapsWith
  simp only [hb, ky]
  rfl
theorem sws_eq {ts vs : List Expr} {k k2 : Nat} {p p2 : Pos} {env : Env} : swappedStores [.Tuple ts k p] (.Tuple vs k2 p2) env =
    (if (!(ts.length == 2 || ts.length == 3) || vs.length != ts.length || env.blockKind != .function) = true then pure none else
    if vs.any isStar = true then pure none else
    if ((nmF env.kindOf ts).length != ts.length || (nmF env.kindOf ts).eraseDups.length != (nmF env.kindOf ts).length) = true then pure none else
    if vs.all (foldedForSure 8) = true then pure none else
    if vs.all (constantsAlone 8) = true then (do unsupported "assign.tuple-of-constant-expressions:order-of-the-stores"; pure (some (nmF env.kindOf ts))) else
    pure (some (nmF env.kindOf ts)) : Sem (Option (List Str))) := rfl
theorem swN_ok {sc : Scope} {ts vs : List Expr} {k k2 : Nat} {p p2 : Pos} {env : Env} {r : Option (List Str)} (e : env.scope = sc) (hk : env.scope.kind = .function) (h : swN sc ts vs = some r) : swappedStores [.Tuple ts k p] (.Tuple vs k2 p2) env = pure r := by
  have hb : env.blockKind = .function := by unfold Env.blockKind; rw [hk]; rfl
  have hbb : (env.blockKind != .function) = false := by rw [hb]; rfl
  subst e
  have h : swF env.kindOf ts vs = some r := h
  rw [sws_eq]
  unfold swF at h
  rw [hbb, Bool.or_false]
  split at h
  · rename_i h1
    cases h
    rw [if_pos h1]
  · rename_i h1
    rw [if_neg h1]
    split at h
    · rename_i h2
      cases h
      rw [if_pos h2]
    · rename_i h2
      rw [if_neg h2]
      split at h
      · rename_i h3
        cases h
        rw [if_pos h3]
      · rename_i h3
        rw [if_neg h3]
        split at h
        · rename_i h4
          cases h
          rw [if_pos h4]
        · rename_i h4
          rw [if_neg h4]
          split at h
          · cases h
          · rename_i h5
            cases h
            rw [if_neg h5]
section
variable {rec : Tre} {ti : Ti} {sc : Scope} {fnb : Str → Bool} {X : Cx} {F : Nat → List D → Dr → Oc} {Wf : Nat} {c : Cc} {Wx : WX} {exc : Exc} {e a b tg : Expr} {es ts : List Expr} {x : Ex} {xs : Exs} {pos : Pos} {st : Stmt} {y : St}
theorem pm_lc {elt : Expr} {gs : List Comprehension} {scope : Scope} {b : Bool} (hr : RecOk ti rec) (k : CxOk X F Wx exc ti.G sc fnb ti.N) (h : trLc rec ti sc fnb elt gs scope = some x) : PE X (.ListComp elt gs scope pos) (okM X.K c Wx exc b (ev F .frz x)) := by
  have nd : X.N.Nodup := by rw [k.names]; exact k.nd
  unfold trLc at h
  split at h
  · split at h
    · rename_i e
      subst e
      obtain ⟨l, h1, rfl⟩ := Option.map_eq_some_iff.mp h
      have o := trLc1_ok (c := c) hr k h1
      exact (pe_lc (elt := elt) (te := okR X.K c Wx0 exc (RepF X.K c) (ev F .frz l.x)) (tt := okR X.K c Wx0 exc RepX (evt F l.cs)) (pos := pos) k.calm nd o.hi.bo o.ok o.hg (fun s H C cl fp => (o.ht s H C cl fp).te) (fun s H C cl fp => (o.he s H C cl fp).fz) o.hs).imp fun σ H Q p => lcm_read _ o.ho p
    · cases h
  · split at h
    · rename_i e
      obtain ⟨rfl, rfl⟩ := e
      obtain ⟨l, h1, rfl⟩ := Option.map_eq_some_iff.mp h
      have o := trLc2_ok (c := c) hr k h1
      exact (pe_lc2 (elt := elt) (te := okR X.K c Wx0 exc (RepF X.K c) (ev F .frz l.x)) (tt := okR X.K c Wx0 exc RepX (evt F l.cs)) (tt1 := okR X.K c Wx0 exc RepX (evt F l.cs1)) (wi1 := okR X.K c Wx0 exc (WkF X.K c) (evi F .frz l.it1)) (pos := pos) k.calm nd o.hi.bo o.ok o.hv o.hg (fun s H C cl fp => (o.ht s H C cl fp).te) (fun s H C cl fp => (o.hi1 s H C cl fp).fz) o.hg1 (fun s H C cl fp => (o.ht1 s H C cl fp).te) (fun s H C cl fp => (o.he s H C cl fp).fz) o.hs o.hs1).imp fun σ H Q p => lcm2_read _ _ o.ho (fun _ h => h) p
    · cases h
  · cases h
theorem pmB_ok {t b : Bool} (hr : RecOk ti rec) (k : CxOk X F Wx exc ti.G sc fnb ti.N) (h : pmB rec ti sc fnb t b e = some x) : PE X e (okM X.K c Wx exc b (ev F .frz x)) := by
  unfold pmB at h
  split at h
  · rename_i hb
    cases (show b = true from hb)
    split at h
    · obtain ⟨xs, h1, rfl⟩ := Option.map_eq_some_iff.mp h
      exact pm_lst (trL_ok hr k h1).2
    · exact pm_lc hr k h
    · exact (trDc_ok hr k h).2 _
    · exact (dctE_ok hr k h).2 _
  · rename_i hb
    have hb : b = false := by simpa using hb
    subst hb
    split at h
    · rename_i x1 e1
      cases h
      exact (dctE_ok hr k e1).2 _
    · exact pm_fz (hr _ _ _ _ h X F c Wx exc k)
theorem trPop_ok {p : Nat × Exo} (hr : RecOk ti rec) (k : CxOk X F Wx exc ti.G sc fnb ti.N) (h : trPop rec ti sc fnb e = some p) : PopE X F Wf c Wx exc e p.1 p.2 ∧ isTupE e = false ∧ isComp e = false := by
  unfold trPop at h
  split at h
  · split at h
    · rename_i hb
      simp only [Bool.and_eq_true, decide_eq_true_eq] at hb
      obtain ⟨⟨⟨rfl, h1⟩, h2⟩, h3⟩ := hb
      have n := nmB_ok h2
      split at h
      · rename_i i hi
        split at h
        · split at h
          · cases h
            exact ⟨popE0 (by rw [k.names]; exact ixOf_ok hi) (by rw [k.scope]; exact visB_ok h1) n.1 n.2.1 h3, rfl, rfl⟩
          · split at h
            · cases h
            · rename_i hs
              obtain ⟨x1, e1, rfl⟩ := Option.map_eq_some_iff.mp h
              exact ⟨popE1 (by rw [k.names]; exact ixOf_ok hi) (by rw [k.scope]; exact visB_ok h1) n.1 n.2.1 h3 (Plain.nil.cons (isStar_ok (by simpa using hs))) (hr _ _ _ _ e1 X F c Wx exc k), rfl, rfl⟩
          · cases h
        · cases h
      · cases h
    · cases h
  · cases h
theorem trPs_ok (hr : RecOk ti rec) (k : CxOk X F Wx exc ti.G sc fnb ti.N) : ∀ {tf : List (Nat × Bool)} {es : List Expr} {xs : Exs}, trPs rec ti sc fnb tf es = some xs → Plain es ∧ PA X es (okPs X.K c Wx exc tf (evs F .frz xs))
  | [], [], xs, h => by cases h; exact ⟨.nil, ps_nil'⟩
  | [], _ :: _, xs, h => by simp [trPs] at h
  | _ :: _, [], xs, h => by simp [trPs] at h
  | (i, b) :: tf, e :: es, xs, h => by
    unfold trPs at h
    split at h
    · cases h
    · rename_i hs
      split at h
      · rename_i x1 ys h1 h2
        cases h
        obtain ⟨hp, t⟩ := trPs_ok hr k h2
        have hp' := hp.cons (isStar_ok (show isStar e = false by simpa using hs))
        exact ⟨hp', ps_cons' hp' (pmB_ok hr k h1) t⟩
      · cases h
theorem nmOf_ok {i : Nat} (k : CxOk X F Wx exc ti.G sc fnb ti.N) (h : nmOf ti sc fnb e = some i) : ∃ y p, e = .Name y p ∧ X.N[i]? = some y ∧ L2.Loc X.env.scope y ∧ (X.fn y = true ∨ X.env.scope.names.lookup y = some .local) := by
  unfold nmOf at h
  split at h
  · rename_i y p
    split at h
    · rename_i hb
      rw [Bool.and_eq_true] at hb
      refine ⟨y, p, rfl, by rw [k.names]; exact ixOf_ok h, by rw [k.scope]; exact locB_ok hb.1, ?_⟩
      rcases Bool.or_eq_true_iff.mp hb.2 with h1 | h1
      · exact .inl (by rw [k.fn]; exact h1)
      · exact .inr (by rw [k.scope]; exact of_decide_eq_true h1)
    · cases h
  · cases h
theorem nmsOf_ok (k : CxOk X F Wx exc ti.G sc fnb ti.N) : ∀ {ts : List Expr} {tf : List (Nat × Bool)}, nmsOf ti sc fnb ts = some tf → NmsOk X ts tf
  | [], tf, h => by cases h; exact .nil
  | e :: es, tf, h => by
    unfold nmsOf at h
    split at h
    · rename_i i tf1 h1 h2
      cases h
      obtain ⟨y, p, rfl, a1, a2, a3⟩ := nmOf_ok k h1
      exact .cons a1 a2 a3 (nmsOf_ok k h2)
    · cases h
theorem nd_of (k : CxOk X F Wx exc ti.G sc fnb ti.N) : X.N.Nodup := by rw [k.names]; exact k.nd
theorem lcl_of {y : Str} (k : CxOk X F Wx exc ti.G sc fnb ti.N) (h : lclB sc y = true) : X.env.scope.names.lookup y = some .local := by rw [k.scope]; exact of_decide_eq_true h
theorem trPar_ok {kt k2 : Nat} {pt pt2 : Pos} {p : List (Nat × Bool) × Exs} (hr : RecOk ti rec) (k : CxOk X F Wx exc ti.G sc fnb ti.N) (hk : X.env.scope.kind = .function) (h : trPar rec ti sc fnb ts es = some p) :
    PS X (.Assign [.Tuple ts kt pt] (.Tuple es k2 pt2) pos) (okS X.K c Wx exc (ex F Wf (.par p.1 p.2))) := by
  unfold trPar at h
  split at h
  · rename_i tf htf
    have nm := nmsOf_ok k htf
    split at h
    · rename_i xs hxs
      obtain ⟨hp, ha⟩ := trPs_ok (c := c) hr k hxs
      split at h
      · rename_i hsw
        split at h
        · rename_i hl
          cases h
          exact s_parT k.calm (nd_of k) (Nat.le_trans hl (by rw [szl]; omega)) nm (swN_ok k.scope hk hsw) ha
        · cases h
      · rename_i names hsw
        split at h
        · rename_i hq
          cases h
          unfold parOk at hq
          split at hq
          · simp only [Bool.and_eq_true, decide_eq_true_eq] at hq
            obtain ⟨⟨⟨rfl, hij⟩, l1⟩, l2⟩ := hq
            cases nm with
            | cons a1 _ _ t => cases t with
              | cons b1 _ _ t => exact s_par2 k.calm (nd_of k) a1 b1 hij (lcl_of k l1) (lcl_of k l2) (swN_ok k.scope hk hsw) ha
          · simp only [Bool.and_eq_true, decide_eq_true_eq] at hq
            obtain ⟨⟨⟨⟨⟨⟨rfl, hij⟩, hil⟩, hjl⟩, l1⟩, l2⟩, l3⟩ := hq
            cases nm with
            | cons a1 _ _ t => cases t with
              | cons b1 _ _ t => cases t with
                | cons c1 _ _ t => exact s_par3 k.calm (nd_of k) a1 b1 c1 hij hil hjl (lcl_of k l1) (lcl_of k l2) (lcl_of k l3) (swN_ok k.scope hk hsw) ha
          · cases hq
        · cases h
      · cases h
    · cases h
  · cases h
theorem trXt0_ok (hr : RecOk ti rec) (k : CxOk X F Wx exc ti.G sc fnb ti.N) (h : trXt0 rec ti sc fnb e = some x) : Tri X F c Wx exc e x := by
  unfold trXt0 at h
  split at h
  · cases h; exact tri_xt0
  · split at h
    · rename_i e
      subst e
      split at h
      · cases h
      · rename_i hb
        simp only [Bool.or_eq_true, not_or, Bool.not_eq_true, Bool.not_eq_true', Bool.not_eq_false'] at hb
        obtain ⟨x1, h1, rfl⟩ := Option.map_eq_some_iff.mp h
        have b1 : glB sc "tuple" = true := by simpa using hb.1.2
        have b2 : ("tuple" : Str) ∈ ti.G.blt := by simpa using hb.2
        have hp := Plain.nil.cons (isStar_ok hb.1.1)
        exact tri_bfT bf_xtup (glB_ok k.scope b1) (k.blt _ b2) rfl (by decide) (by decide) hp (tris_cons hp (hr _ _ _ _ h1 X F c Wx exc k) tris_nil)
    · cases h
  · cases h
theorem trXt_ok (hr : RecOk ti rec) (k : CxOk X F Wx exc ti.G sc fnb ti.N) (h : trXt rec ti sc fnb e = some x) : Tri X F c Wx exc e x := by
  unfold trXt at h
  split at h
  · split at h
    · rename_i x1 y1 z1 h1 h2 h3
      cases h
      exact tri_ite (hr _ _ _ _ h1 X F c Wx exc k) (trXt0_ok hr k h2) (trXt0_ok hr k h3)
    · cases h
  · exact trXt0_ok hr k h
theorem exc_of {p : Str × Nat} {y : Str} (k : CxOk X F Wx exc ti.G sc fnb ti.N) (hp : ti.G.excs.find? (fun p => decide (p.1 = y)) = some p) : ExcFact X.K X.mg exc p.2 y := by
  have hpm := List.mem_of_find?_eq_some hp
  have hpy : p.1 = y := by
    have := List.find?_some hp
    exact of_decide_eq_true this
  rw [← hpy]
  exact k.excs p hpm
theorem trRai_ok {z : St} {p : Pos} (k : CxOk X F Wx exc ti.G sc fnb ti.N) (h : trRai ti sc e = some z) : PS X (.Raise (some e) none p) (okS X.K c Wx exc (ex F Wf z)) := by
  unfold trRai at h
  split at h
  · split at h
    · rename_i hb
      rw [Bool.and_eq_true] at hb
      obtain ⟨q, hq, rfl⟩ := Option.map_eq_some_iff.mp h
      exact s_rai (exc_of k hq) k.calm k.tk (glB_ok k.scope hb.1) (nmB_ok hb.2).1
    · cases h
  · cases h
theorem trC_pe {q : Const} {d : D} (h : trC q = some d) : ∃ v, (∀ (X' : Cx) (j : Nat) (p : Pos), PE X' (.Constant q j p) (tC v)) ∧ ∀ (K : PySem.W.Frag) (a0 : Addr) (F' : Hp), Rep K a0 F' v d := by
  cases q <;> cases h
  · exact ⟨_, fun _ _ _ => pe_non, fun _ _ _ => .non⟩
  · exact ⟨_, fun _ _ _ => pe_bl, fun _ _ _ => .bl _⟩
  · exact ⟨_, fun _ _ _ => pe_int, fun _ _ _ => .int _⟩
  · exact ⟨_, fun _ _ _ => pe_str, fun _ _ _ => .str _⟩
theorem trNmA_ok {y : Str} {py : Pos} {z : St} (hr : RecOk ti rec) (k : CxOk X F Wx exc ti.G sc fnb ti.N) (hk : X.env.scope.kind = .function) (h : trNmA rec ti sc fnb y py e = some z) : PS X (.Assign [.Name y py] e pos) (okS X.K c Wx exc (ex F Wf z)) := by
  unfold trNmA at h
  split at h
  · cases h
  · rename_i i hi
    obtain ⟨y', p', e1, a1, a2, a3⟩ := nmOf_ok k hi
    cases e1
    split at h
    · split at h
      · cases h
      · rename_i hc
        obtain ⟨x, h1, rfl⟩ := Option.map_eq_some_iff.mp h
        exact s_setM (nd_of k) a1 a2 a3 (sw_any (by simpa using hc) _ _) (pm_fz (trXt_ok hr k h1))
    split at h
    · rename_i elt gs scope lp
      split at h
      · rename_i hb
        obtain ⟨x, h1, rfl⟩ := Option.map_eq_some_iff.mp h
        by_cases hl : lclB sc y = true
        · have hb : swapB sc y py scope lp = true := by simpa [hl] using hb
          unfold swapB at hb
          simp only [Bool.and_eq_true, Bool.not_eq_true'] at hb
          obtain ⟨⟨_, hb1⟩, hb2⟩ := hb
          have hyl := lcl_of k hl
          have hsw : ∀ {gs : List Comprehension}, swapsWith (.ListComp elt gs scope lp) (some (.Name y py)) pos.line X.env = pure true := sw_true hk hyl hb1 hb2
          unfold trLc at h1
          split at h1
          · split at h1
            · rename_i e
              subst e
              obtain ⟨l, h2, rfl⟩ := Option.map_eq_some_iff.mp h1
              have o := trLc1_ok (c := c) hr k h2
              exact s_setLc k.calm (nd_of k) a1 hyl hsw o.hs o.ok o.ho o.hi o.hg o.ht o.he
            · cases h1
          · split at h1
            · rename_i e
              obtain ⟨rfl, rfl⟩ := e
              obtain ⟨l, h2, rfl⟩ := Option.map_eq_some_iff.mp h1
              have o := trLc2_ok (c := c) hr k h2
              exact s_setLc2 k.calm (nd_of k) a1 hyl hsw o.hs o.hs1 o.ok o.hv o.ho (fun _ h => h) o.hi o.hg o.ht o.hi1 o.hg1 o.ht1 o.he
            · cases h1
          · cases h1
        · refine s_setM (nd_of k) a1 a2 a3 (sw_cell hk ?_) (pm_lc hr k h1)
          rw [k.scope]
          exact fun z => hl (by unfold lclB; exact decide_eq_true z)
      · cases h
    · split at h
      · cases h
      · rename_i hc
        split at h
        · rename_i p hp
          cases h
          obtain ⟨q1, q2, q3⟩ := trPop_ok (Wf := Wf) (c := c) (Wx := Wx) (exc := exc) hr k hp
          exact s_pop_nm (nd_of k) a1 a2 a3 (sw_any q3 _ _) q1
        · obtain ⟨x, h1, rfl⟩ := Option.map_eq_some_iff.mp h
          exact s_setM (nd_of k) a1 a2 a3 (sw_any (by simpa using hc) _ _) (pmB_ok hr k h1)
theorem trAsg_ok {z : St} (hr : RecOk ti rec) (k : CxOk X F Wx exc ti.G sc fnb ti.N) (hk : X.env.scope.kind = .function) (h : trAsg rec ti sc fnb tg e = some z) : PS X (.Assign [tg] e pos) (okS X.K c Wx exc (ex F Wf z)) := by
  unfold trAsg at h
  split at h
  · exact trNmA_ok hr k hk h
  · split at h
    · obtain ⟨p, h1, rfl⟩ := Option.map_eq_some_iff.mp h
      exact trPar_ok hr k hk h1
    · rename_i hne
      split at h
      · rename_i p hp
        obtain ⟨q1, q2, q3⟩ := trPop_ok (Wf := Wf) (c := c) (Wx := Wx) (exc := exc) hr k hp
        obtain ⟨t, h1, rfl⟩ := Option.map_eq_some_iff.mp h
        exact s_pop_tg (sw_tup _ _) (sws_tup q2 _) rfl (trG_ok k h1) q1
      · split at h
        · rename_i t x h1 h2
          cases h
          refine s_asg (sw_tup _ _) (sws_tup ?_ _) rfl (hr _ _ _ _ h2 X F c Wx exc k) (trG_ok k h1)
          cases hz : isTupE e with
          | false => rfl
          | true =>
            obtain ⟨a, b, q, rfl⟩ := isTupE_ok hz
            exact absurd rfl (hne a b q)
        · cases h
  · rename_i y p1 k' p2
    split at h
    · cases h
    · rename_i hb
      simp only [Bool.or_eq_true, not_or, Bool.not_eq_true, Bool.not_eq_true', Bool.not_eq_false'] at hb
      obtain ⟨⟨h0, h1⟩, h2⟩ := hb
      have h2 : (visB sc y && nmB y) = true := by simpa using h2
      rw [Bool.and_eq_true] at h2
      have n := nmB_ok h2.2
      split at h
      · rename_i i x xk e1 e2 e3
        cases h
        refine s_setI k.room (by rw [k.names]; exact ixOf_ok e1) (by rw [k.scope]; exact visB_ok h2.1) n.1 n.2.1 (sw_sub _ _) (sws_sub _) rfl (fun v => ?_) (hr _ _ _ _ e2 X F c Wx exc k) (hr _ _ _ _ e3 X F c Wx exc k)
        cases k' <;> first | rfl | cases h0
      · cases h
  · cases h
theorem trX_ok {z : St} (hr : RecOk ti rec) (k : CxOk X F Wx exc ti.G sc fnb ti.N) (h : trX rec ti sc fnb e = some z) : PS X (.Expr e pos) (okS X.K c Wx exc (ex F Wf z)) := by
  unfold trX at h
  split at h
  · rename_i y p1 m apos a cpos
    split at h
    · rename_i e
      subst e
      split at h
      · rename_i hb
        simp only [Bool.and_eq_true, Bool.not_eq_true'] at hb
        obtain ⟨⟨⟨h1, h2⟩, h3⟩, h4⟩ := hb
        have n := nmB_ok h2
        split at h
        · rename_i i x e1 e2
          cases h
          exact s_app (by rw [k.names]; exact ixOf_ok e1) (by rw [k.scope]; exact visB_ok h1) n.1 n.2.1 h4 (Plain.nil.cons (isStar_ok h3)) (hr _ _ _ _ e2 X F c Wx exc k)
        · cases h
      · cases h
    · obtain ⟨x, h1, rfl⟩ := Option.map_eq_some_iff.mp h
      exact s_exp (sw_any rfl _ _) (hr _ _ _ _ h1 X F c Wx exc k)
  · split at h
    · cases h
    · rename_i hc
      obtain ⟨x, h1, rfl⟩ := Option.map_eq_some_iff.mp h
      exact s_exp (sw_any (by simpa using hc) _ _) (hr _ _ _ _ h1 X F c Wx exc k)
theorem ix_facts {y : Str} {i : Nat} (k : CxOk X F Wx exc ti.G sc fnb ti.N) (h : ixOf ti.N y = some i) (hv : visB sc y = true ∧ nmB y = true) : X.N[i]? = some y ∧ Vis X.env.scope y ∧ (y == ("__debug__" : Str)) = false ∧ (y == ("__classdict__" : Str)) = false :=
  ⟨by rw [k.names]; exact ixOf_ok h, by rw [k.scope]; exact visB_ok hv.1, (nmB_ok hv.2).1, (nmB_ok hv.2).2.1⟩
theorem trGrp_ok {it : Expr} {b : List Stmt} {z : St} (hr : RecOk ti rec) (k : CxOk X F Wx exc ti.G sc fnb ti.N) (hs : isSet it = false) (h : trGrp rec ti sc fnb tg it b = some z) : PS X (.For tg it b [] pos) (okS X.K c Wx exc (ex F Wf z)) := by
  unfold trGrp at h
  split at h
  · split at h
    · rename_i hb
      simp only [Bool.and_eq_true, decide_eq_true_eq] at hb
      obtain ⟨⟨⟨⟨⟨⟨rfl, rfl⟩, v1⟩, v2⟩, v3⟩, l1⟩, l2⟩ := hb
      split at h
      · rename_i ia ib ic ix ja jc xe e1 e2 e3 e4 e5
        split at h
        · rename_i hj
          rw [Bool.and_eq_true, decide_eq_true_eq, decide_eq_true_eq] at hj
          obtain ⟨rfl, rfl⟩ := hj
          cases h
          obtain ⟨a1, a2, a3, a4⟩ := ix_facts k e2 v1
          obtain ⟨b1, b2, b3, b4⟩ := ix_facts k e3 v2
          obtain ⟨c1, c2, c3, c4⟩ := ix_facts k e4 v3
          exact s_grp k.po k.calm (fun x => fold_ok hs _ x) (nd_of k) (nmsOf_ok k e1) a1 a2 a3 a4 b1 b2 b3 b4 c1 c2 c3 c4 l1 l2 (hr _ _ _ _ e5 X F c Wx exc k)
        · cases h
      · cases h
    · cases h
  · cases h
theorem trFpg_ok {it : Expr} {b : List Stmt} {xs : Sts} {p : Tg × Nat × Nat} (k : CxOk X F Wx exc ti.G sc fnb ti.N) (hs : isSet it = false) (h : trFpg ti sc fnb tg it = some p) (hb : TrSs X F Wf c Wx exc b xs) : PS X (.For tg it b [] pos) (okS X.K c Wx exc (ex F Wf (.fpg p.1 p.2.1 p.2.2 xs))) := by
  unfold trFpg at h
  split at h
  · split at h
    · rename_i hb'
      simp only [Bool.and_eq_true, decide_eq_true_eq] at hb'
      obtain ⟨⟨⟨⟨⟨rfl, rfl⟩, v1⟩, v2⟩, l1⟩, l2⟩ := hb'
      split at h
      · rename_i i j t e1 e2 e3
        cases h
        obtain ⟨a1, a2, a3, a4⟩ := ix_facts k e1 v1
        obtain ⟨b1, b2, b3, b4⟩ := ix_facts k e2 v2
        exact s_fpg k.room k.po k.calm (fun x => fold_ok hs _ x) a1 a2 a3 a4 b1 b2 b3 b4 l1 l2 (trG_ok k e3) hb
      · cases h
    · cases h
  · cases h
/-- suites -/
def RsOk (X : Cx) (F : Nat → List D → Dr → Oc) (Wf : Nat) (c : Cc) (Wx : WX) (exc : Exc) (rs : List Stmt → Option Sts) : Prop := ∀ ss xs, rs ss = some xs → TrSs X F Wf c Wx exc ss xs
theorem stepS_ok {rs : List Stmt → Option Sts} {z : St} (hr : RecOk ti rec) (k : CxOk X F Wx exc ti.G sc fnb ti.N) (hd : DefCx X) (hrs : ∀ (X' : Cx) (Wx' : WX), CxOk X' F Wx' exc ti.G sc fnb ti.N → DefCx X' → RsOk X' F Wf c Wx' exc rs) (h : stepS rec ti sc fnb rs st = some z) : PS X st (okS X.K c Wx exc (ex F Wf z)) := by
  have hk := hd.kind
  have hrs0 := hrs X Wx k hd
  unfold stepS at h
  cases st with
  | Return v p =>
    cases v with
    | none => cases h; exact s_retN
    | some e =>
      obtain ⟨x, h1, rfl⟩ := Option.map_eq_some_iff.mp h
      exact s_ret (hr _ _ _ _ h1 X F c Wx exc k)
  | Expr e p => exact trX_ok hr k h
  | Assign tgs e p =>
    dsimp only at h
    split at h
    · exact trAsg_ok hr k hk h
    · cases h
  | AugAssign tg o e p =>
    dsimp only at h
    split at h
    · split at h
      · rename_i i x h1 h2
        cases h
        obtain ⟨y', p', e1, a1, a2, a3⟩ := nmOf_ok k h1
        cases e1
        exact s_aug (o := .add) (.inl rfl) (nd_of k) a1 a2 a3 (hr _ _ _ _ h2 X F c Wx exc k)
      · cases h
    · split at h
      · rename_i i x h1 h2
        cases h
        obtain ⟨y', p', e1, a1, a2, a3⟩ := nmOf_ok k h1
        cases e1
        exact s_aug (o := .sub) (.inr rfl) (nd_of k) a1 a2 a3 (hr _ _ _ _ h2 X F c Wx exc k)
      · cases h
    · cases h
  | If q a b p =>
    dsimp only at h
    split at h
    · rename_i x xs ys h1 h2 h3
      cases h
      exact s_if (hr _ _ _ _ h1 X F c Wx exc k) (hrs0 _ _ h2) (hrs0 _ _ h3)
    · cases h
  | For tg it b els p =>
    dsimp only at h
    split at h
    · split at h
      · cases h
      · rename_i hs
        split at h
        · rename_i t i xs h1 h2 h3
          cases h
          exact s_for k.po k.calm (fold_ok (by simpa using hs) _) (trI_ok hr k h2) (trG_ok k h1) (hrs0 _ _ h3)
        · split at h
          · rename_i z h1
            cases h
            exact trGrp_ok hr k (by simpa using hs) h1
          · split at h
            · rename_i p xs h1 h2
              cases h
              exact trFpg_ok k (by simpa using hs) h1 (hrs0 _ _ h2)
            · cases h
    · cases h
  | While q b els p =>
    dsimp only at h
    split at h
    · split at h
      · rename_i x xs h1 h2
        cases h
        exact s_whl k.po (hr _ _ _ _ h1 X F c Wx exc k) (hrs0 _ _ h2)
      · cases h
    · cases h
  | Raise u w p =>
    dsimp only at h
    split at h
    · exact trRai_ok k h
    · cases h
  | Try b hs els fin p =>
    dsimp only at h
    split at h
    · split at h
      · rename_i q xs h1 h2
        cases h
        unfold trHd at h1
        split at h1
        · split at h1
          · rename_i hb
            rw [Bool.and_eq_true] at hb
            split at h1
            · rename_i r d e1 e2
              cases h1
              obtain ⟨v, hv, hrv⟩ := trC_pe e2
              exact s_try hd.stack hd.frame (exc_of k e1) k.tk (glB_ok k.scope hb.1) (nmB_ok hb.2).1 (fun W pn xe t1 t2 => hrs _ _ (k.tr t1 t2) hd.tr _ _ h2) (fun X' => hv X' _ _) (fun F' => hrv _ _ _)
            · cases h1
          · cases h1
        · cases h1
      · cases h
    · cases h
  | Pass p => cases h; exact s_pass
  | Break p => cases h; exact s_brk
  | Continue p => cases h; exact s_cnt
  | _ => cases h
theorem preS_ok {is : List Nat} (h : PS X st (okS X.K c Wx exc (ex F Wf y))) : TrS X F Wf c Wx exc st (preS ti is y) := by
  unfold preS
  generalize ((is.filter fun i => decide (i ∈ ti.mu)).eraseDups) = l
  induction l with
  | nil => exact trs_one h
  | cons i l ih => exact trs_frz ih
theorem trSs_ok {step : Stmt → Option St} (hs : ∀ st y, step st = some y → PS X st (okS X.K c Wx exc (ex F Wf y))) : ∀ {ss : List Stmt} {xs : Sts}, trSs ti step ss = some xs → TrSs X F Wf c Wx exc ss xs
  | [], xs, h => by cases h; exact trss_nil
  | s :: ss, xs, h => by
    unfold trSs at h
    split at h
    · rename_i y ys h1 h2
      cases h
      exact trss_cons (preS_ok (hs _ _ h1)) (trSs_ok hs h2)
    · cases h
theorem trB'_ok (hr : RecOk ti rec) : ∀ (n : Nat) {X : Cx} {Wx : WX}, CxOk X F Wx exc ti.G sc fnb ti.N → DefCx X → RsOk X F Wf c Wx exc (trB' rec ti sc fnb n)
  | 0, _, _, _, _ => fun _ _ h => by cases h
  | n + 1, _, _, k, hk => fun ss xs h => trSs_ok (fun st y h => stepS_ok hr k hk (fun X' Wx' k' hk' => trB'_ok hr n k' hk') h) h
end
/-- a told def -/
def dOk (G : Gi) (mu : List Nat) (d : DefT) : Prop := trD ⟨G, d.N, mu⟩ (defScope d.st) (defBody d.st) = some d.body
theorem trans_ok {W : Nat} {G : Gi} {mu : List Nat} {d : DefT} (h : dOk G mu d) : TransOk W G d := fun X F c Wx exc k hk => trB'_ok (ti := ⟨G, d.N, mu⟩) (trE_ok _ 40) 12 k hk _ _ h
end Ly

set_option Elab.async false
set_option linter.all false
set_option maxRecDepth 100000
set_option maxHeartbeats 2000000
/-! Ly: the draw. -/
namespace Ly
open PySem PySem.Spec PyProof.Rows L2
/-- the next cell, where the rest is used up -/
def Dr.next (d : Dr) : Dr :=
  if d.r = 0 then
    let r1 := (d.cells[(d.i + 1).toNat]?.map (·.fmod 2147483647)).getD 0
    if r1 = 0 then ⟨d.cells, d.i + 1, (d.s * 48271 + 11).fmod 2147483647, (d.s * 48271 + 11).fmod 2147483647⟩ else ⟨d.cells, d.i + 1, r1, d.s⟩
  else d
/-- a number below m -/
def takeD (d : Dr) (m : Int) : Int × Dr := (d.next.r.fmod m, { d.next with r := d.next.r.fdiv m })
def takeOk (d : Dr) (m : Int) : Bool := decide (-1 ≤ d.i) && decide (m ≠ 0) && decide (m.natAbs < 1073741824)
def takeF (args : List D) (d : Dr) : Oc := match args with
  | [.dict [(.none, .none)], .int m] => if takeOk d m then .ok (.int (takeD d m).1) (takeD d m).2 else .stk
  | _ => .stk
/-- what _law_draw makes -/
def absI (k : Int) : Int := if k < 0 then -k else k
def stepS' (s k : Int) : Int := (s * 48271 + (absI k).fmod 65521 + 1).fmod 2147483647
def drawD (l : List Int) : Dr := ⟨l.map absI, -1, 0, l.foldl stepS' 7⟩
/-- the draw's object -/
abbrev obj (c : Addr) (i r s : Int) : HO := .lst [.ref c, .int i, .int r, .int s]
def spDraw (K : PySem.W.Frag) : Sp := fun vs H Q _ => ∃ (a : Addr) (ns : List Int), vs = [.ref a] ∧ SqL K H a (ns.map V.int) ∧ ns.length ≤ 63 ∧
  ∀ H' p c, Same H H' → H' p = some (obj c (-1) 0 (ns.foldl stepS' 7)) → H' c = some (.lst ((ns.map absI).map V.int)) → c ≠ p → Q (.ref p) H'
def spLaw (K : PySem.W.Frag) : Sp := fun vs H Q _ => ∃ (a : Addr) (ns : List Int), vs = [.ref a] ∧ SqL K H a (ns.map V.int) ∧ ns.length ≤ 63 ∧ ∀ H', Q (.bl true) H'
/-- what stands in the law's slots behind the draw -/
def lawE (n : Nat) : List Sl := .un :: .fz drw :: List.replicate n .un
section
variable {P : Program} {w : World} {K : PySem.W.Frag} {mg : Str → Option Value} {base : Heap} {exc : Exc} {W : Nat} {G : Gi} {T : List DefT} {sp : Nat → List D → Dr → Oc}
/-- law: the draw, then the layer's part -/
theorem ok_law {k n : Nat} {f : Addr} {fd : FuncData} {st : Stmt} {N : List Str} {mu : List Nat} {rest : List Stmt} {B : Sts} {p1 p2 p3 p4 p5 : Pos} (F : Fun K "law" "law" st f fd) (S : FnScope N ["script"] (defScope st)) (hN : N.length = n + 2) (hn1 : N[1]? = some ("draw" : Str))
    (hb : defBody st = .Assign [.Name "draw" p1] (.Call (.Name "_law_draw" p2) [.Name "script" p3] [] p4) p5 :: rest)
    (hl : locB (defScope st) "draw" = true) (hv : visB (defScope st) "script" = true) (hg : glB (defScope st) "_law_draw" = true) (tr : trD ⟨G, N, mu⟩ (defScope st) rest = some B)
    {fD : Addr} {fdD : FuncData} {psD : List Str} (GD : FnOk P w K mg base (L2.CX P w) 1 fD fdD psD (spDraw K)) (gD : mg "_law_draw" = some (.ref fD)) (kD : PySem.W.keepIn K (.ref fD) = true) (bD : Binds K fdD psD [])
    (hex : ∀ p ∈ G.excs, ExcFact K mg exc p.2 p.1) (hcs : ∀ p ∈ G.cons, ∃ t, mg p.1 = some (.int p.2 t)) (htp : ∀ p ∈ G.tups, TupFact K mg p.2 p.1) (hbl : ∀ y ∈ G.blt, mg y = none) (all : ∀ p, p ∈ G.fns → FnAt P w K mg base exc (run (tabOf T) sp W (k + 1)) (k + 1) p.2 p.1)
    (law : ∀ ns : List Int, ns.length ≤ 63 → ∃ s', exs (run (tabOf T) sp W (k + 1)) W B ⟨lawE n, drawD ns⟩ = .ok (.rt (.bool true)) s') : FnOk P w K mg base (L2.CX P w) (k + 2) f fd ["script"] (spLaw K) := by
  refine F.okX S (fun vs H Q E h => ?_) (fun cdv A outer s H vs Q E hr h => ?_)
  · obtain ⟨a, ns, rfl, _⟩ := h; rfl
  · obtain ⟨a, ns, rfl, hS, hlen, q⟩ := h
    have hn0 : N[0]? = some ("script" : Str) := by
      have := S.pre
      cases N with
      | nil => cases hN
      | cons y N =>
        have e : [y] = [("script" : Str)] := by simpa using this
        cases e
        rfl
    rw [hb]
    have call : ∀ X : Cx, X = cxOf (L2.CX P w) P w K mg base N "law" (defScope st) f cdv A outer s H E → ∀ p ∈ G.fns, CallOk X exc (run (tabOf T) sp W (k + 1)) p.2 p.1 := fun X e p hp => by
      subst e
      obtain ⟨fa, fd', ps, Fn, h1, h2, h3⟩ := (all p hp).ex
      exact ⟨fa, fd', ps, k + 1, Fn, hr, h1, h2, h3⟩
    have cx : CxOk (cxOf (L2.CX P w) P w K mg base N "law" (defScope st) f cdv A outer s H E) (run (tabOf T) sp W (k + 1)) Wx0 exc G (defScope st) (fun _ => true) N := by
      refine ⟨rfl, rfl, S.nd, rfl, ?_, fun _ => rfl, takes0, passes_of rfl, hbl, call _ rfl, hex, hcs, htp⟩
      refine Nat.lt_of_le_of_lt ?_ hr.un
      show (A.deeper (envOfC "law" (defScope st) s.heap.objs.size f cdv)).units + 128 ≤ (A.deeper (envOfC "law" (defScope st) s.heap.objs.size f cdv)).units + 16 * (k + 1) + 200
      omega
    have tail : PSs (cxOf (L2.CX P w) P w K mg base N "law" (defScope st) f cdv A outer s H E) rest (fun D σ H' => ∃ c, okS K c Wx0 exc (exs (run (tabOf T) sp W (k + 1)) W B) D σ H') :=
      ⟨fun pins s σ H D I ⟨c, hc⟩ => (trB'_ok (ti := ⟨G, N, mu⟩) (c := c) (trE_ok _ 40) 12 cx ⟨S.kind, rfl, rfl⟩ _ _ tr).run pins s σ H D I hc⟩
    refine ⟨_, pss_cons (ps_set (i := 1) S.nd hn1 (locB_ok hl) (pe_call (GD.mono (Nat.le_add_left 1 k)) hr (glB_ok rfl hg) gD kD bD .nil passL (pa_cons (pv 0 hn0 (visB_ok hv)) pa_nil)) rfl (.inl rfl)) tail, ?_⟩
    have hst : L2.start N [V.ref a] = some (V.ref a) :: List.replicate (n + 1) none := by
      unfold L2.start
      rw [hN]
      rfl
    rw [hst]
    refine ⟨.ref a, rfl, a, ns, rfl, hS, hlen, fun H' p c same hp hc ne => ⟨⟨p, fun b => b = p, H'⟩, ⟨lawE n, drawD ns⟩, fun b => b = p, ?_, ?_⟩⟩
    · refine ⟨by simp [lawE], fun i x e => ?_, fun i j x y v e1 e2 h1 => ?_, ⟨c, hp, hid_some ne hc⟩, rfl, fun _ h => h, fun b w z => (by rw [w, hp] at z; cases z), fun _ _ _ h => h⟩
      · match i with
        | 0 => cases e; trivial
        | 1 =>
          cases e
          exact ⟨.ref p, rfl, .drw⟩
        | i + 2 =>
          have e : (List.replicate n Sl.un)[i]? = some x := e
          rw [List.getElem?_replicate] at e
          split at e
          · cases e; trivial
          · cases e
      · have hx : x.held = false := by
          match i with
          | 0 => cases e1; rfl
          | 1 => cases e1; rfl
          | i + 2 =>
            have e : (List.replicate n Sl.un)[i]? = some x := e1
            rw [List.getElem?_replicate] at e
            split at e
            · cases e; rfl
            · cases e
        rw [hx] at h1; cases h1
    · obtain ⟨s', hs'⟩ := law ns hlen
      rw [hs']
      intro v σ' H2 W2 m g r
      cases (RepB.bool (c := ⟨p, fun b => b = p, H'⟩) (W := W2) (H := H2) (.inl r))
      exact q H2
end
theorem cx_end {P : Program} {w : World} {H : Hp} {s : Shared} {e : Value} {s' : Shared} (h : L2.CX P w [] H s (fun _ _ _ => False) e s') : False := by
  obtain ⟨_, _, _, _, _, _, _, _, _, _, _, _, z⟩ := h
  exact z
end Ly

set_option Elab.async false
set_option linter.all false
set_option maxRecDepth 100000
set_option maxHeartbeats 2000000
/-! Ly: rules for the plain side: how runs of small bodies are reckoned. -/
namespace Ly
open PySem PySem.Spec PyProof.Rows L2

section
variable {T : Nat → Option Df} {sp : Nat → List D → Dr → Oc} {W k : Nat} {F : Nat → List D → Dr → Oc}
theorem run_at {f : Nat} {d : Df} (h : T f = some d) (args : List D) (dr : Dr) : run T sp W (k + 1) f args dr = runDf (run T sp W k) W d args dr := by
  show (match T f with
    | some d => runDf (run T sp W k) W d args dr
    | none => sp f args dr) = _
  rw [h]
theorem run_sp {f : Nat} (h : T f = none) (args : List D) (dr : Dr) : run T sp W (k + 1) f args dr = sp f args dr := by
  show (match T f with
    | some d => runDf (run T sp W k) W d args dr
    | none => sp f args dr) = _
  rw [h]
/-- a comprehension over given items, each turn known -/
theorem lc_go {α : Type} {tn : D → Dr → Option (List D × Dr)} {enc : α → D} {g : α → List D} {dr : Dr} : ∀ {as : List α}, (∀ a ∈ as, tn (enc a) dr = some (g a, dr)) → lcGo tn (as.map enc) dr = some (as.flatMap g, dr)
  | [], _ => rfl
  | a :: as, h => by
    rw [List.map_cons]
    unfold lcGo
    rw [h a List.mem_cons_self]
    dsimp only
    rw [lc_go fun b hb => h b (List.mem_cons_of_mem _ hb)]
    rfl
theorem flat_if {α β : Type} (p : α → Bool) (f : α → β) : ∀ as : List α, as.flatMap (fun a => if p a then [f a] else []) = (as.filter p).map f
  | [] => rfl
  | a :: as => by
    rw [List.flatMap_cons, flat_if p f as, List.filter_cons]
    cases p a <;> simp
theorem flat_one {α β : Type} (f : α → β) (as : List α) : as.flatMap (fun a => [f a]) = as.map f := by
  induction as with
  | nil => rfl
  | cons a as ih => rw [List.flatMap_cons, ih]; rfl
/-- a turn: bound, tested, told -/
theorem tn_if {tg : Tg} {own : List Nat} {env env' : List Sl} {tst el : List Sl → Dr → R D} {x d : D} {dr : Dr} {b : Bool} (h1 : tgo tg x (wipeE env own) = some env') (h2 : tst env' dr = .ok (.bool b) dr) (h3 : b = true → el env' dr = .ok d dr) :
    tn1 tg own env tst el x dr = some (if b then [d] else [], dr) := by
  unfold tn1
  rw [h1]
  dsimp only
  rw [h2]
  cases b with
  | true => dsimp only; rw [h3 rfl]; rfl
  | false => rfl
/-! ### ints as data -/
abbrev natD (n : Nat) : D := .int n
abbrev intsT (l : List Int) : D := .tuple (l.map .int)
abbrev natsT (l : List Nat) : D := .tuple (l.map natD)
theorem at0 {a : D} {l : List D} : L2.atI (a :: l) 0 = some a := L2.atI_nat (j := 0) rfl
theorem at1 {a b : D} {l : List D} : L2.atI (a :: b :: l) 1 = some b := L2.atI_nat (j := 1) rfl
theorem at2 {a b c : D} {l : List D} : L2.atI (a :: b :: c :: l) 2 = some c := L2.atI_nat (j := 2) rfl
theorem at3 {a b c d : D} {l : List D} : L2.atI (a :: b :: c :: d :: l) 3 = some d := L2.atI_nat (j := 3) rfl
theorem at_map {α : Type} {l : List α} {e : α → D} {i : Nat} {a : α} (h : l[i]? = some a) : L2.atI (l.map e) (i : Int) = some (e a) := L2.atI_nat (by rw [List.getElem?_map, h]; rfl)
theorem trus_bools (l : List Bool) : trusD (l.map .bool) = some l := by
  induction l with
  | nil => rfl
  | cons b l ih => rw [List.map_cons]; unfold trusD; rw [ih]; rfl
theorem trus_map {α : Type} (p : α → Bool) (l : List α) : trusD (l.map fun a => .bool (p a)) = some (l.map p) := by
  have := trus_bools (l.map p)
  rwa [List.map_map] at this
theorem any_bools {α : Type} (p : α → Bool) (l : List α) : bfD .any [.list (l.map fun a => .bool (p a))] = some (.bool (l.any p)) := by
  show (trusD (l.map fun a => PyData.bool (p a))).map (fun bs => PyData.bool (bs.any id)) = _
  rw [trus_map, Option.map_some, List.any_map]
  rfl
theorem all_bools {α : Type} (p : α → Bool) (l : List α) : bfD .all [.list (l.map fun a => .bool (p a))] = some (.bool (l.all p)) := by
  show (trusD (l.map fun a => PyData.bool (p a))).map (fun bs => PyData.bool (bs.all id)) = _
  rw [trus_map, Option.map_some, List.all_map]
  rfl
end

/-! ### what is reckoned without a draw -/
section
variable (F : Nat → List D → Dr → Oc) (W : Nat)
def PV (x : Ex) (env : List Sl) (d : D) : Prop := ∀ m dr, m ≠ Md.tst → ev F m x env dr = .ok d dr
def PT' (x : Ex) (env : List Sl) (b : Bool) : Prop := ∀ dr, ev F .tst x env dr = .ok (.bool b) dr
def PLs (xs : Exs) (env : List Sl) (ds : List D) : Prop := ∀ m dr, m ≠ Md.tst → evs F m xs env dr = .ok ds dr
def PIt (x : Itx) (env : List Sl) (ds : List D) : Prop := ∀ m dr, m ≠ Md.tst → evi F m x env dr = .ok ds dr
def PCs (cs : Exs) (env : List Sl) (b : Bool) : Prop := ∀ dr, evt F cs env dr = .ok (.bool b) dr
def PF (f : Nat) (args : List D) (d : D) : Prop := ∀ dr, F f args dr = .ok d dr
/-- a body gives d -/
def PB (b : Sts) (env : List Sl) (d : D) : Prop := ∀ dr, ∃ s, exs F W b ⟨env, dr⟩ = .ok (.rt d) s ∧ s.dr = dr
end
section
variable {F : Nat → List D → Dr → Oc} {W : Nat} {x a b c : Ex} {xs : Exs} {env : List Sl} {d d1 d2 : D} {ds : List D}
theorem bor_ne : Md.bor ≠ Md.tst := by intro h; cases h
theorem frz_ne : Md.frz ≠ Md.tst := by intro h; cases h
theorem fin_ne {m : Md} (h : m ≠ .tst) (d : D) (dr : Dr) : fin m d dr = .ok d dr := by cases m <;> first | rfl | exact absurd rfl h
theorem lift_ne {m : Md} {o : Option D} (h : m ≠ .tst) (e : o = some d) (dr : Dr) : lift m o dr = .ok d dr := by rw [e]; exact fin_ne h d dr
theorem pv_var {i : Nat} (h : env[i]? = some (.fz d)) : PV F (.var i) env d := fun m dr hm => by
  show vari m env[i]? dr = _
  rw [h]
  exact fin_ne hm d dr
theorem pv_con : PV F (.con d) env d := fun m dr hm => fin_ne hm d dr
theorem pv_bin {o : Bo} (h1 : PV F a env d1) (h2 : PV F b env d2) (h : binD o d1 d2 = some d) : PV F (.bin o a b) env d := fun m dr hm => by
  show (ev F .bor a env dr).bind _ = _
  rw [h1 .bor dr bor_ne]
  show (ev F .bor b env dr).bind _ = _
  rw [h2 .bor dr bor_ne]
  exact lift_ne hm h dr
theorem pv_neg (h1 : PV F a env d1) (h : negD d1 = some d) : PV F (.neg a) env d := fun m dr hm => by
  show (ev F .bor a env dr).bind _ = _
  rw [h1 .bor dr bor_ne]
  exact lift_ne hm h dr
theorem cmp_ev {o : Co} {k : Bool} {m : Md} (h1 : PV F a env d1) (h2 : PV F b env d2) (h : cmpD o d1 d2 = some k) (dr : Dr) : ev F m (.cmp o a b) env dr = .ok (.bool k) dr := by
  show (ev F .bor a env dr).bind _ = _
  rw [h1 .bor dr bor_ne]
  show (ev F .bor b env dr).bind _ = _
  rw [h2 .bor dr bor_ne]
  show liftB (cmpD o d1 d2) dr = _
  rw [h]; rfl
theorem pv_cmp {o : Co} {k : Bool} (h1 : PV F a env d1) (h2 : PV F b env d2) (h : cmpD o d1 d2 = some k) : PV F (.cmp o a b) env (.bool k) := fun m dr _ => cmp_ev h1 h2 h dr
theorem pt_cmp' {o : Co} {k : Bool} (h1 : PV F a env d1) (h2 : PV F b env d2) (h : cmpD o d1 d2 = some k) : PT' F (.cmp o a b) env k := fun dr => cmp_ev h1 h2 h dr
theorem pv_idx (h1 : PV F a env d1) (h2 : PV F b env d2) (h : idxD d1 d2 = some d) : PV F (.idx a b) env d := fun m dr hm => by
  show (ev F .bor a env dr).bind _ = _
  rw [h1 .bor dr bor_ne]
  show (ev F .bor b env dr).bind _ = _
  rw [h2 .bor dr bor_ne]
  exact lift_ne hm h dr
theorem pl_nil : PLs F .nil env [] := fun m dr hm => rfl
theorem pl_cons (h1 : PV F x env d) (h2 : PLs F xs env ds) : PLs F (.cons x xs) env (d :: ds) := fun m dr hm => by
  show (ev F m x env dr).bind _ = _
  rw [h1 m dr hm]
  show (evs F m xs env dr).bind _ = _
  rw [h2 m dr hm]; rfl
theorem pv_tup (h : PLs F xs env ds) (hl : okLen ds.length = true) : PV F (.tup xs) env (.tuple ds) := fun m dr hm => by
  show (evs F .frz xs env dr).bind _ = _
  rw [h .frz dr frz_ne]
  show lift m (if okLen ds.length then some (.tuple ds) else none) dr = _
  exact lift_ne hm (if_pos hl) dr
theorem pv_lst (h : PLs F xs env ds) (hl : okLen ds.length = true) : PV F (.lst xs) env (.list ds) := fun m dr hm => by
  show (evs F .frz xs env dr).bind _ = _
  rw [h .frz dr frz_ne]
  show lift m (if okLen ds.length then some (.list ds) else none) dr = _
  exact lift_ne hm (if_pos hl) dr
theorem pv_bf {f : Bf} (h : PLs F xs env ds) (hf : bfD f ds = some d) : PV F (.bf f xs) env d := fun m dr hm => by
  show (evs F .bor xs env dr).bind _ = _
  rw [h .bor dr bor_ne]
  exact lift_ne hm hf dr
theorem pv_call {f : Nat} (h : PLs F xs env ds) (hf : PF F f ds d) : PV F (.call f xs) env d := fun m dr hm => by
  show (evs F .frz xs env dr).bind _ = _
  rw [h .frz dr frz_ne]
  show (match F f ds dr with
    | .ok d dr => fin m d dr
    | .err e dr => .err e dr
    | .stk => .stk : R D) = _
  rw [hf dr]
  exact fin_ne hm d dr
/-- a value as a test -/
theorem pt_bf {f : Bf} {k : Bool} (h : PLs F xs env ds) (hf : bfD f ds = some d) (ht : truD d = some k) : PT' F (.bf f xs) env k := fun dr => by
  show (evs F .bor xs env dr).bind _ = _
  rw [h .bor dr bor_ne]
  show lift .tst (bfD f ds) dr = _
  rw [hf]
  show fin .tst d dr = _
  unfold fin
  rw [ht]
theorem pt_call {f : Nat} {k : Bool} (h : PLs F xs env ds) (hf : PF F f ds d) (ht : truD d = some k) : PT' F (.call f xs) env k := fun dr => by
  show (evs F .frz xs env dr).bind _ = _
  rw [h .frz dr frz_ne]
  show (match F f ds dr with
    | .ok d dr => fin .tst d dr
    | .err e dr => .err e dr
    | .stk => .stk : R D) = _
  rw [hf dr]
  show fin .tst d dr = _
  unfold fin
  rw [ht]
theorem pt_var {i : Nat} {k : Bool} (h : env[i]? = some (.fz d)) (ht : truD d = some k) : PT' F (.var i) env k := fun dr => by
  show vari .tst env[i]? dr = _
  rw [h]
  show fin .tst d dr = _
  unfold fin
  rw [ht]
theorem pt_con {k : Bool} (ht : truD d = some k) : PT' F (.con d) env k := fun dr => by
  show fin .tst d dr = _
  unfold fin
  rw [ht]
theorem pt_not' {k : Bool} (h : PT' F a env k) : PT' F (.not a) env (!k) := fun dr => by
  show (ev F .tst a env dr).bind _ = _
  rw [h dr]; rfl
theorem pv_not {k : Bool} (h : PV F a env d) (ht : truD d = some k) : PV F (.not a) env (.bool (!k)) := fun m dr hm => by
  have e : ev F m (.not a) env dr = (ev F .bor a env dr).bind fun x dr => liftB ((truD x).map (!·)) dr := by cases m <;> first | rfl | exact absurd rfl hm
  rw [e, h .bor dr bor_ne]
  show liftB ((truD d).map (!·)) dr = _
  rw [ht]; rfl
theorem pt_and {p q : Bool} (h1 : PT' F a env p) (h2 : p = true → PT' F b env q) : PT' F (.and a b) env (p && q) := fun dr => by
  show (ev F .tst a env dr).bind _ = _
  rw [h1 dr]
  cases p with
  | true => exact h2 rfl dr
  | false => rfl
theorem pt_or {p q : Bool} (h1 : PT' F a env p) (h2 : p = false → PT' F b env q) : PT' F (.or a b) env (p || q) := fun dr => by
  show (ev F .tst a env dr).bind _ = _
  rw [h1 dr]
  cases p with
  | false => exact h2 rfl dr
  | true => rfl
theorem and_ev {m : Md} (hm : m ≠ .tst) (dr : Dr) : ev F m (.and a b) env dr = (ev F m a env dr).bind fun x dr => match truD x with
    | some true => ev F m b env dr
    | some false => .ok x dr
    | none => .stk := by cases m <;> first | rfl | exact absurd rfl hm
theorem or_ev {m : Md} (hm : m ≠ .tst) (dr : Dr) : ev F m (.or a b) env dr = (ev F m a env dr).bind fun x dr => match truD x with
    | some false => ev F m b env dr
    | some true => .ok x dr
    | none => .stk := by cases m <;> first | rfl | exact absurd rfl hm
theorem pv_and {p q : Bool} (h1 : PV F a env (.bool p)) (h2 : p = true → PV F b env (.bool q)) : PV F (.and a b) env (.bool (p && q)) := fun m dr hm => by
  rw [and_ev hm, h1 m dr hm]
  cases p with
  | true => exact h2 rfl m dr hm
  | false => rfl
theorem pv_or {p q : Bool} (h1 : PV F a env (.bool p)) (h2 : p = false → PV F b env (.bool q)) : PV F (.or a b) env (.bool (p || q)) := fun m dr hm => by
  rw [or_ev hm, h1 m dr hm]
  cases p with
  | false => exact h2 rfl m dr hm
  | true => rfl
theorem pv_ite {k : Bool} (h : PT' F c env k) (h1 : k = true → PV F a env d) (h2 : k = false → PV F b env d) : PV F (.ite c a b) env d := fun m dr hm => by
  show (ev F .tst c env dr).bind _ = _
  rw [h dr]
  cases k with
  | true => exact h1 rfl m dr hm
  | false => exact h2 rfl m dr hm
/-! what is walked -/
theorem rngL_nat (n : Nat) : rngL 0 (n : Int) = (List.range n).map natD := by
  unfold rngL
  simp [natD]
theorem pi_seq' (h : PV F a env d) (hs : seqD d = some ds) : PIt F (.seq a) env ds := fun m dr hm => by
  show (ev F m a env dr).bind _ = _
  rw [h m dr hm]
  show (match walkD d with
    | some ds => .ok ds dr
    | none => .stk : R (List D)) = _
  rw [walkD_of hs]
theorem pi_wlk (h : PV F a env d) (hs : walkD d = some ds) : PIt F (.seq a) env ds := fun m dr hm => by
  show (ev F m a env dr).bind _ = _
  rw [h m dr hm]
  show (match walkD d with
    | some ds => .ok ds dr
    | none => .stk : R (List D)) = _
  rw [hs]
theorem pi_enu (h : PV F a env d) (hs : seqD d = some ds) : PIt F (.enu a) env (enuL 0 ds) := fun m dr hm => by
  show (ev F m a env dr).bind _ = _
  rw [h m dr hm]
  show (match seqD d with
    | some ds => .ok (enuL 0 ds) dr
    | none => .stk : R (List D)) = _
  rw [hs]
theorem pi_rlen {n : Nat} (h : PV F a env d) (hl : lenD d = some n) : PIt F (.rlen a) env ((List.range n).map natD) := fun m dr hm => by
  show (ev F .bor a env dr).bind _ = _
  rw [h .bor dr bor_ne]
  show (match lenD d with
    | some n => .ok (rngL 0 n) dr
    | none => .stk : R (List D)) = _
  rw [hl]
  dsimp only
  rw [rngL_nat]
theorem pi_rng (h : PLs F xs env ds) {r : List D} (hr : rngD ds = some r) : PIt F (.rng xs) env r := fun m dr hm => by
  show (evs F .bor xs env dr).bind _ = _
  rw [h .bor dr bor_ne]
  show (match rngD ds with
    | some r => .ok r dr
    | none => .stk : R (List D)) = _
  rw [hr]
theorem pi_zip' (h : PLs F xs env ds) {r : List D} (hr : zipD ds = some r) : PIt F (.zip xs) env r := fun m dr hm => by
  show (evs F m xs env dr).bind _ = _
  rw [h m dr hm]
  show (match zipD ds with
    | some r => .ok r dr
    | none => .stk : R (List D)) = _
  rw [hr]
theorem pc_nil : PCs F .nil env true := fun _ => rfl
theorem pc_one {k : Bool} (h : PT' F x env k) : PCs F (.cons x .nil) env k := h
/-! comprehensions -/
theorem lc_ev {own : List Nat} {tg : Tg} {it : Itx} {cs : Exs} {α : Type} {as : List α} {enc : α → D} {g : α → List D} (hi : PIt F it env (as.map enc))
    (h : ∀ a ∈ as, ∀ dr, tn1 tg own env (fun env dr => evt F cs env dr) (fun env dr => ev F .frz x env dr) (enc a) dr = some (g a, dr)) : PV F (.lc own tg it cs x) env (.list (as.flatMap g)) := fun m dr hm => by
  show (evi F .bor it env dr).bind _ = _
  rw [hi .bor dr bor_ne]
  show (match lcGo (tn1 tg own env (fun env dr => evt F cs env dr) (fun env dr => ev F .frz x env dr)) (as.map enc) dr with
    | some (r, dr) => fin m (.list r) dr
    | none => .stk : R D) = _
  rw [lc_go fun a ha => h a ha dr]
  exact fin_ne hm _ dr
/-- filtered and told -/
theorem pv_lc {own : List Nat} {tg : Tg} {it : Itx} {cs : Exs} {α : Type} {as : List α} {enc g : α → D} {p : α → Bool} (hi : PIt F it env (as.map enc))
    (h : ∀ a ∈ as, ∃ env', tgo tg (enc a) (wipeE env own) = some env' ∧ PCs F cs env' (p a) ∧ (p a = true → PV F x env' (g a))) : PV F (.lc own tg it cs x) env (.list ((as.filter p).map g)) := by
  rw [← flat_if p g as]
  refine lc_ev hi fun a ha dr => ?_
  obtain ⟨env', h1, h2, h3⟩ := h a ha
  exact tn_if h1 (h2 dr) fun hp => h3 hp .frz dr frz_ne
/-- all told -/
theorem pv_lcA {own : List Nat} {tg : Tg} {it : Itx} {α : Type} {as : List α} {enc g : α → D} (hi : PIt F it env (as.map enc))
    (h : ∀ a ∈ as, ∃ env', tgo tg (enc a) (wipeE env own) = some env' ∧ PV F x env' (g a)) : PV F (.lc own tg it .nil x) env (.list (as.map g)) := by
  have := pv_lc (p := fun _ => true) (x := x) (own := own) (tg := tg) (cs := .nil) (g := g) hi fun a ha => by
    obtain ⟨env', h1, h2⟩ := h a ha
    exact ⟨env', h1, pc_nil, fun _ => h2⟩
  have e : as.filter (fun _ => true) = as := List.filter_eq_self.mpr fun _ _ => rfl
  rwa [e] at this
/-! bodies -/
theorem pb_ret {r : Sts} (h : PV F x env d) : PB F W (.cons (.ret x) r) env d := fun dr => ⟨⟨env, dr⟩, by
  show ((ev F .frz x env dr).toO env fun d s => Out.ok (Fl.rt d) s).bind _ = _
  rw [h .frz dr frz_ne]; rfl, rfl⟩
theorem pb_asg {t : Tg} {env' : List Sl} {r : Sts} (h : PV F x env d1) (ht : tgo t d1 env = some env') (hr : PB F W r env' d) : PB F W (.cons (.asg t x) r) env d := fun dr => by
  obtain ⟨s, h1, h2⟩ := hr dr
  refine ⟨s, ?_, h2⟩
  show ((ev F .frz x env dr).toO env (kAsg t)).bind _ = _
  rw [h .frz dr frz_ne]
  show (kAsg t d1 ⟨env, dr⟩).bind _ = _
  unfold kAsg
  rw [ht]
  exact h1
/-- if .. return, then on -/
theorem pb_if {k : Bool} {r p : Sts} (h : PT' F c env k) (h1 : k = true → PB F W p env d) (h2 : k = false → PB F W r env d) : PB F W (.cons (.ifs c p .nil) r) env d := fun dr => by
  have e : exs F W (.cons (.ifs c p .nil) r) ⟨env, dr⟩ = (if k then (exs F W p ⟨env, dr⟩).bind (seqO (exs F W r)) else exs F W r ⟨env, dr⟩) := by
    show ((ev F .tst c env dr).toO env fun (d : D) s => (match d with
      | .bool true => exs F W p s
      | _ => exs F W .nil s : Out Fl)).bind (seqO (exs F W r)) = _
    rw [h dr]
    cases k <;> rfl
  cases k with
  | true =>
    obtain ⟨s, h3, h4⟩ := h1 rfl dr
    exact ⟨s, by rw [e, if_pos rfl, h3]; rfl, h4⟩
  | false =>
    obtain ⟨s, h3, h4⟩ := h2 rfl dr
    exact ⟨s, by rw [e, if_neg Bool.false_ne_true]; exact h3, h4⟩
theorem pf_run {T : Nat → Option Df} {sp : Nat → List D → Dr → Oc} {k f ps n : Nat} {body : Sts} {args : List D} (h : T f = some ⟨ps, n, body⟩) (hl : args.length = ps) (hb : PB (run T sp W k) W body (args.map .fz ++ List.replicate (n - args.length) .un) d) : PF (run T sp W (k + 1)) f args d := fun dr => by
  rw [run_at h]
  unfold runDf
  rw [if_pos hl]
  obtain ⟨s, h1, h2⟩ := hb dr
  dsimp only
  rw [h1]
  dsimp only
  rw [h2]
end
end Ly

set_option Elab.async false
set_option linter.all false
set_option maxRecDepth 100000
set_option maxHeartbeats 2000000
/-! Ly: the plain side: rows of ints, order, sets. -/
namespace Ly
open PySem PySem.Spec PyProof.Rows L2 PySem.W

/-! ### data of little depth -/
theorem plainAll_iff : ∀ {ds : List D}, PyData.plainAll ds = true ↔ ∀ d ∈ ds, d.plain = true
  | [] => by simp [PyData.plainAll]
  | d :: ds => by simp [PyData.plainAll, plainAll_iff (ds := ds)]
theorem depthAll_le' : ∀ {ds : List D} {k : Nat}, (∀ d ∈ ds, d.depth ≤ k) → PyData.depthAll ds ≤ k
  | [], k, _ => by simp [PyData.depthAll]
  | d :: ds, k, h => by
    have h1 := h d List.mem_cons_self
    have h2 := depthAll_le' fun e he => h e (List.mem_cons_of_mem _ he)
    simp only [PyData.depthAll]
    omega
/-- plain, of depth k at most -/
def Shal (k : Nat) (d : D) : Prop := d.plain = true ∧ d.depth ≤ k
theorem shal_int {i : Int} : Shal 0 (.int i) := ⟨rfl, Nat.le_refl _⟩
theorem shal_str {x : Str} : Shal 0 (.str x) := ⟨rfl, Nat.le_refl _⟩
theorem shal_bool {x : Bool} : Shal 0 (.bool x) := ⟨rfl, Nat.le_refl _⟩
theorem shal_none : Shal 0 .none := ⟨rfl, Nat.le_refl _⟩
theorem Shal.mono {j k : Nat} {d : D} (h : Shal j d) (hk : j ≤ k) : Shal k d := ⟨h.1, Nat.le_trans h.2 hk⟩
theorem shal_tup {k : Nat} {ds : List D} (h : ∀ d ∈ ds, Shal k d) : Shal (k + 1) (.tuple ds) := by
  refine ⟨by simp only [PyData.plain]; exact plainAll_iff.mpr fun d hd => (h d hd).1, ?_⟩
  have := depthAll_le' fun d hd => (h d hd).2
  simp only [PyData.depth]
  omega
theorem shal_lst {k : Nat} {ds : List D} (h : ∀ d ∈ ds, Shal k d) : Shal (k + 1) (.list ds) := by
  refine ⟨by simp only [PyData.plain]; exact plainAll_iff.mpr fun d hd => (h d hd).1, ?_⟩
  have := depthAll_le' fun d hd => (h d hd).2
  simp only [PyData.depth]
  omega
theorem Shal.shp {k : Nat} {d : D} (h : Shal k d) (hk : k ≤ 64) : Ly.shp d = true := by
  unfold Ly.shp
  rw [h.1, Bool.true_and]
  exact decide_eq_true (Nat.le_trans h.2 hk)
theorem shal_map {α : Type} {k : Nat} {e : α → D} (h : ∀ a, Shal k (e a)) (l : List α) : ∀ d ∈ l.map e, Shal k d := fun d hd => by
  obtain ⟨a, _, rfl⟩ := List.mem_map.mp hd
  exact h a
theorem shal_nats (l : List Nat) : Shal 1 (natsT l) := shal_tup (shal_map (fun _ => shal_int) l)
theorem shal_ints (l : List Int) : Shal 1 (intsT l) := shal_tup (shal_map (fun _ => shal_int) l)

/-! ### equality -/
theorem eqv_nat (a b : Nat) : PyData.eqv (natD a) (natD b) = decide (a = b) := by
  show ((a : Int) == (b : Int)) = _
  rw [Bool.eq_iff_iff, beq_iff_eq, decide_eq_true_eq]
  exact Int.ofNat_inj
/-- an encoding that == tells apart -/
def EqEnc {α : Type} [DecidableEq α] (e : α → D) : Prop := ∀ a b, PyData.eqv (e a) (e b) = decide (a = b)
theorem eqvAll_map {α : Type} [DecidableEq α] {e : α → D} (h : EqEnc e) : ∀ a b : List α, PyData.eqvAll (a.map e) (b.map e) = decide (a = b)
  | [], [] => rfl
  | [], _ :: _ => by simp [PyData.eqvAll]
  | _ :: _, [] => by simp [PyData.eqvAll]
  | a :: as, b :: bs => by
    simp only [List.map_cons, PyData.eqvAll, h a b, eqvAll_map h as bs, List.cons.injEq]
    rw [Bool.eq_iff_iff]; simp
theorem eqEnc_nat : EqEnc natD := eqv_nat
theorem eqEnc_int : EqEnc PyData.int := fun a b => by
  show (a == b) = _
  rw [Bool.eq_iff_iff]; simp
theorem eqEnc_str : EqEnc PyData.str := fun a b => by
  show (a == b) = _
  rw [Bool.eq_iff_iff]; simp
theorem eqEnc_tup {α : Type} [DecidableEq α] {e : α → D} (h : EqEnc e) : EqEnc fun l : List α => PyData.tuple (l.map e) := fun a b => by
  show PyData.eqvAll (a.map e) (b.map e) = _
  exact eqvAll_map h a b
theorem eqEnc_nats : EqEnc natsT := eqEnc_tup eqEnc_nat
theorem eqD_enc {α : Type} [DecidableEq α] {e : α → D} (h : EqEnc e) {k : Nat} (hs : ∀ a, Shal k (e a)) (hk : k ≤ 64) (a b : α) : eqD (e a) (e b) = some (decide (a = b)) := by
  unfold eqD
  rw [(hs a).shp hk, (hs b).shp hk, h a b]
  rfl
theorem any_enc {α : Type} [DecidableEq α] {e : α → D} (h : EqEnc e) (x : α) (l : List α) : ((l.map e).any fun d => PyData.eqv d (e x)) = decide (x ∈ l) := by
  rw [List.any_map, Bool.eq_iff_iff, List.any_eq_true, decide_eq_true_eq]
  constructor
  · rintro ⟨y, h1, h2⟩
    have h2 : PyData.eqv (e y) (e x) = true := h2
    rw [h y x] at h2
    exact of_decide_eq_true h2 ▸ h1
  · intro hx
    refine ⟨x, hx, ?_⟩
    show PyData.eqv (e x) (e x) = true
    rw [h x x]
    exact decide_eq_true rfl
theorem inD_tup {α : Type} [DecidableEq α] {e : α → D} (h : EqEnc e) {k : Nat} (hs : ∀ a, Shal k (e a)) (hk : k < 64) (x : α) (l : List α) : inD (e x) (.tuple (l.map e)) = some (decide (x ∈ l)) := by
  show (if (Ly.shp (e x) && Ly.shp (.tuple (l.map e))) = true then some ((l.map e).any fun d => PyData.eqv d (e x)) else none) = _
  rw [(hs x).shp (by omega), (shal_tup (shal_map hs l)).shp hk, any_enc h]
  rfl
theorem inD_lst {α : Type} [DecidableEq α] {e : α → D} (h : EqEnc e) {k : Nat} (hs : ∀ a, Shal k (e a)) (hk : k < 64) (x : α) (l : List α) : inD (e x) (.list (l.map e)) = some (decide (x ∈ l)) := by
  show (if (Ly.shp (e x) && Ly.shp (.list (l.map e))) = true then some ((l.map e).any fun d => PyData.eqv d (e x)) else none) = _
  rw [(hs x).shp (by omega), (shal_lst (shal_map hs l)).shp hk, any_enc h]
  rfl
/-- == [] and != [] -/
theorem eq_nil {k : Nat} {ds : List D} (hs : Shal k (.list ds)) (hk : k ≤ 64) : eqD (.list ds) (.list []) = some ds.isEmpty := by
  unfold eqD
  rw [hs.shp hk, (shal_lst (k := 0) (ds := []) (by simp)).shp (by omega)]
  cases ds <;> rfl

/-! ### order -/
theorem toks_nats_inj : ∀ {a b : List Nat}, keyToksAll (a.map natD) = keyToksAll (b.map natD) → a = b
  | [], [], _ => rfl
  | [], b :: bs, h => by simp [keyToksAll, keyToks] at h
  | a :: as, [], h => by simp [keyToksAll, keyToks] at h
  | a :: as, b :: bs, h => by
    simp only [List.map_cons, keyToksAll, keyToks, List.cons_append, List.nil_append, List.cons.injEq, Sum.inl.injEq, true_and] at h
    obtain ⟨h1, h2⟩ := h
    rw [toks_nats_inj h2, Int.ofNat.inj h1]
theorem alikeAll_nats : ∀ a b : List Nat, alikeAll (a.map natD) (b.map natD) = true
  | [], _ => by simp [alikeAll]
  | _ :: _, [] => by simp [alikeAll]
  | a :: as, b :: bs => by
    simp only [List.map_cons, alikeAll, alikeAll_nats as bs, Bool.and_true]
    rfl
theorem alike_nats (a b : List Nat) : alike (natsT a) (natsT b) = true := by
  show alikeAll (a.map natD) (b.map natD) = true
  exact alikeAll_nats a b
theorem dataLe_total : TotalLe (dataLe false fun d : D => d) := sortLe_total _ _ _
theorem sortL_perm {ds es : List D} (h : ds.Perm es) (inj : ∀ x ∈ ds, ∀ y ∈ ds, keyToks x = keyToks y → x = y) : sortL ds = sortL es := by
  have p1 := List.mergeSort_perm ds (dataLe false fun d : D => d)
  have p2 := List.mergeSort_perm es (dataLe false fun d : D => d)
  refine List.Perm.eq_of_pairwise (fun a b ha hb h1 h2 => ?_) (sort_pairwise dataLe_total ds) (sort_pairwise dataLe_total es) ((p1.trans h).trans p2.symm)
  have h1 : (!PyProof.Rows.lexLt itemOrd (keyToks b) (keyToks a)) = true := h1
  have h2 : (!PyProof.Rows.lexLt itemOrd (keyToks a) (keyToks b)) = true := h2
  have e : keyToks a = keyToks b := lex_total (O := itemOrd) _ _ (by simpa using h2) (by simpa using h1)
  exact inj a (p1.mem_iff.mp ha) b (h.mem_iff.mpr (p2.mem_iff.mp hb)) e
/-- rows of naturals are sorted: a permutation, and the same for all permutations -/
theorem sortD_nats (rs : List (List Nat)) (h : (∀ r ∈ rs, r ≠ []) ∨ (∃ t, rs = [] :: t)) : sortD (rs.map natsT) = some (sortL (rs.map natsT)) := by
  unfold sortD
  have hal : alk (rs.map natsT) = true := by
    unfold alk
    refine List.all_eq_true.mpr fun d hd => ?_
    obtain ⟨r, _, rfl⟩ := List.mem_map.mp hd
    rw [(shal_nats r).shp (by omega)]
    simp only [Bool.true_and, Bool.and_eq_true]
    refine ⟨rfl, List.all_eq_true.mpr fun e he => ?_⟩
    obtain ⟨q, _, rfl⟩ := List.mem_map.mp he
    exact alike_nats r q
  rw [hal, Bool.true_and]
  refine if_pos ?_
  rcases h with h | ⟨t, rfl⟩
  · have : (rs.map natsT).all isTup1 = true := List.all_eq_true.mpr fun d hd => by
      obtain ⟨r, hr, rfl⟩ := List.mem_map.mp hd
      cases r with
      | nil => exact absurd rfl (h _ hr)
      | cons a r => rfl
    rw [this]; rfl
  · have : ((([] : List Nat) :: t).map natsT).all isTup = true := List.all_eq_true.mpr fun d hd => by
      obtain ⟨r, hr, rfl⟩ := List.mem_map.mp hd
      rfl
    rw [this]
    rw [show firstE ((([] : List Nat) :: t).map natsT) = true from rfl]
    simp
/-- the sorted rows, as rows -/
theorem sortL_nats (rs : List (List Nat)) : ∃ qs : List (List Nat), sortL (rs.map natsT) = qs.map natsT ∧ qs.Perm rs := by
  have p := List.mergeSort_perm (rs.map natsT) (dataLe false fun d : D => d)
  have key : ∀ {l : List D} {rs : List (List Nat)}, l.Perm (rs.map natsT) → ∃ qs : List (List Nat), l = qs.map natsT ∧ qs.Perm rs := by
    intro l rs hp
    obtain ⟨f, hf⟩ : ∃ f : D → List Nat, ∀ r, f (natsT r) = r := by
      refine ⟨fun d => match d with
        | .tuple ds => ds.map fun d => match d with
          | .int i => i.toNat
          | _ => 0
        | _ => [], fun r => ?_⟩
      show (r.map natD).map _ = r
      rw [List.map_map]
      exact (List.map_congr_left (g := id) (fun a _ => by show (a : Int).toNat = a; omega)).trans (List.map_id r)
    refine ⟨l.map f, ?_, ?_⟩
    · rw [List.map_map]
      symm
      rw [List.map_congr_left (g := id)]
      · simp
      · intro d hd
        obtain ⟨r, _, rfl⟩ := List.mem_map.mp (hp.mem_iff.mp hd)
        show natsT (f (natsT r)) = natsT r
        rw [hf]
    · have := hp.map f
      rw [List.map_map] at this
      have e : rs.map (f ∘ natsT) = rs := (List.map_congr_left (g := id) (fun r _ => hf r)).trans (List.map_id rs)
      rwa [e] at this
  exact key p
theorem sortL_nats_eq {a b : List (List Nat)} (h : a.Perm b) : sortL (a.map natsT) = sortL (b.map natsT) := sortL_perm (h.map natsT) fun x hx y hy e => by
  obtain ⟨r, _, rfl⟩ := List.mem_map.mp hx
  obtain ⟨q, _, rfl⟩ := List.mem_map.mp hy
  have e : keyToksAll (r.map natD) = keyToksAll (q.map natD) := e
  rw [toks_nats_inj e]
end Ly

set_option Elab.async false
set_option linter.all false
set_option maxRecDepth 100000
set_option maxHeartbeats 2000000
/-! Ly: the plain side: two clauses, loops. -/
namespace Ly
open PySem PySem.Spec PyProof.Rows L2
section
variable {F : Nat → List D → Dr → Oc} {W : Nat} {x a b c : Ex} {xs : Exs} {env : List Sl} {d d1 d2 : D} {ds : List D}
/-- two clauses -/
theorem pv_lc2 {own own1 : List Nat} {tg tg1 : Tg} {it it1 : Itx} {cs cs1 : Exs} {α β : Type} {as : List α} {enc : α → D} {p : α → Bool} {bs : α → List β} {enc1 g : α → β → D} {p1 : α → β → Bool} (hi : PIt F it env (as.map enc))
    (h : ∀ a ∈ as, ∃ env', tgo tg (enc a) (wipeE env own) = some env' ∧ PCs F cs env' (p a) ∧ (p a = true → PIt F it1 env' ((bs a).map (enc1 a)) ∧ ∀ b ∈ bs a, ∃ env2, tgo tg1 (enc1 a b) (wipeE env' own1) = some env2 ∧ PCs F cs1 env2 (p1 a b) ∧ (p1 a b = true → PV F x env2 (g a b))))
    (hl : okLen (as.flatMap fun a => if p a then ((bs a).filter (p1 a)).map (g a) else []).length = true) :
    PV F (.lc2 own own1 tg it cs tg1 it1 cs1 x) env (.list (as.flatMap fun a => if p a then ((bs a).filter (p1 a)).map (g a) else [])) := fun m dr hm => by
  show (evi F .bor it env dr).bind _ = _
  rw [hi .bor dr bor_ne]
  show (match lcGo (tn2 tg own env (fun env dr => evt F cs env dr) (fun env dr => evi F .frz it1 env dr) fun env => tn1 tg1 own1 env (fun env dr => evt F cs1 env dr) (fun env dr => ev F .frz x env dr)) (as.map enc) dr with
    | some (r, dr) => if okLen r.length then fin m (.list r) dr else .stk
    | none => .stk : R D) = _
  rw [lc_go (g := fun a => if p a then ((bs a).filter (p1 a)).map (g a) else []) fun a ha => ?_]
  · dsimp only
    rw [if_pos hl]
    exact fin_ne hm _ dr
  · obtain ⟨env', h1, h2, h3⟩ := h a ha
    unfold tn2
    rw [h1]
    dsimp only
    rw [h2 dr]
    cases hp : p a with
    | false => rfl
    | true =>
      obtain ⟨h4, h5⟩ := h3 hp
      dsimp only
      rw [h4 .frz dr frz_ne]
      dsimp only
      rw [lc_go (g := fun b => if p1 a b then [g a b] else []) fun b hb => ?_]
      · rw [flat_if]; rfl
      · obtain ⟨env2, g1, g2, g3⟩ := h5 b hb
        exact tn_if g1 (g2 dr) fun hp1 => g3 hp1 .frz dr frz_ne
/-! ### statements that go on -/
/-- on to the next -/
def PN (F : Nat → List D → Dr → Oc) (W : Nat) (b : Sts) (env env' : List Sl) : Prop := ∀ dr, exs F W b ⟨env, dr⟩ = .ok .nx ⟨env', dr⟩
theorem pn_nil : PN F W .nil env env := fun _ => rfl
theorem pn_asg {t : Tg} {env1 env' : List Sl} {r : Sts} (h : PV F x env d1) (ht : tgo t d1 env = some env1) (hr : PN F W r env1 env') : PN F W (.cons (.asg t x) r) env env' := fun dr => by
  show ((ev F .frz x env dr).toO env (kAsg t)).bind _ = _
  rw [h .frz dr frz_ne]
  show (kAsg t d1 ⟨env, dr⟩).bind _ = _
  unfold kAsg
  rw [ht]
  exact hr dr
theorem for_go {t : Tg} {body : Sts} {dr : Dr} : ∀ {ds : List D} {I : Nat → List Sl}, (∀ i d, ds[i]? = some d → ∃ e, tgo t d (I i) = some e ∧ PN F W body e (I (i + 1))) → forGo (tnF (exs F W body) t) ds ⟨I 0, dr⟩ = .ok .nx ⟨I ds.length, dr⟩
  | [], I, _ => rfl
  | d :: ds, I, h => by
    obtain ⟨e, h1, h2⟩ := h 0 d rfl
    have hs : tnF (exs F W body) t d ⟨I 0, dr⟩ = .ok .nx ⟨I 1, dr⟩ := by
      unfold tnF
      dsimp only
      rw [h1]
      exact h2 dr
    unfold forGo
    rw [hs]
    exact for_go (I := fun i => I (i + 1)) fun i d' hd => h (i + 1) d' (by simpa using hd)
theorem pn_for {t : Tg} {it : Itx} {body r : Sts} {env' : List Sl} {I : Nat → List Sl} (h0 : I 0 = env) (hi : PIt F it env ds) (h : ∀ i d, ds[i]? = some d → ∃ e, tgo t d (I i) = some e ∧ PN F W body e (I (i + 1))) (hr : PN F W r (I ds.length) env') :
    PN F W (.cons (.for t it body) r) env env' := fun dr => by
  subst h0
  show ((evi F .frz it (I 0) dr).toO (I 0) (forGo (tnF (exs F W body) t))).bind _ = _
  rw [hi .frz dr frz_ne]
  show (forGo (tnF (exs F W body) t) ds ⟨I 0, dr⟩).bind _ = _
  rw [for_go h]
  exact hr dr
theorem pb_for {t : Tg} {it : Itx} {body r : Sts} {I : Nat → List Sl} (h0 : I 0 = env) (hi : PIt F it env ds) (h : ∀ i d, ds[i]? = some d → ∃ e, tgo t d (I i) = some e ∧ PN F W body e (I (i + 1))) (hr : PB F W r (I ds.length) d) :
    PB F W (.cons (.for t it body) r) env d := fun dr => by
  subst h0
  obtain ⟨s, h1, h2⟩ := hr dr
  refine ⟨s, ?_, h2⟩
  show ((evi F .frz it (I 0) dr).toO (I 0) (forGo (tnF (exs F W body) t))).bind _ = _
  rw [hi .frz dr frz_ne]
  show (forGo (tnF (exs F W body) t) ds ⟨I 0, dr⟩).bind _ = _
  rw [for_go h]
  exact h1
end
end Ly

set_option Elab.async false
set_option linter.all false
set_option maxRecDepth 100000
set_option maxHeartbeats 2000000
/-! Ly: the plain side: while. -/
namespace Ly
open PySem PySem.Spec PyProof.Rows L2
section
variable {F : Nat → List D → Dr → Oc} {W n : Nat} {c : Ex} {env env' env1 : List Sl} {d : D} {body r p : Sts}
theorem pn_if0 (h : PT' F c env false) (hr : PN F W r env env') : PN F W (.cons (.ifs c p .nil) r) env env' := fun dr => by
  show ((ev F .tst c env dr).toO env fun (d : D) s => (match d with
      | .bool true => exs F W p s
      | _ => exs F W .nil s : Out Fl)).bind (seqO (exs F W r)) = _
  rw [h dr]
  exact hr dr
/-- the loop, so many turns at most, gives d -/
def PW (F : Nat → List D → Dr → Oc) (W : Nat) (c : Ex) (body : Sts) (n : Nat) (env : List Sl) (d : D) : Prop := ∀ dr, ∃ s, whlGo (fun s => ev F .tst c s.env s.dr) (fun s => exs F W body s) n ⟨env, dr⟩ = .ok (.rt d) s ∧ s.dr = dr
theorem pw_ret (h : PT' F c env true) (hb : PB F W body env d) : PW F W c body (n + 1) env d := fun dr => by
  obtain ⟨s, h1, h2⟩ := hb dr
  refine ⟨s, ?_, h2⟩
  unfold whlGo
  dsimp only
  rw [h dr]
  dsimp only
  rw [h1]
theorem pw_nx (h : PT' F c env true) (hb : PN F W body env env1) (hn : PW F W c body n env1 d) : PW F W c body (n + 1) env d := fun dr => by
  obtain ⟨s, h1, h2⟩ := hn dr
  refine ⟨s, ?_, h2⟩
  unfold whlGo
  dsimp only
  rw [h dr]
  dsimp only
  rw [hb dr]
  exact h1
theorem pw_up (h : PW F W c body n env d) : PW F W c body (n + 1) env d := fun dr => by
  obtain ⟨s, h1, h2⟩ := h dr
  refine ⟨s, ?_, h2⟩
  have key : ∀ n s r s1, whlGo (fun s => ev F .tst c s.env s.dr) (fun s => exs F W body s) n s = .ok r s1 → whlGo (fun s => ev F .tst c s.env s.dr) (fun s => exs F W body s) (n + 1) s = .ok r s1 := by
    intro n
    induction n with
    | zero => intro s r s1 h; cases h
    | succ n ih =>
      intro s r s1 h
      unfold whlGo at h ⊢
      revert h
      split
      · split
        · exact ih _ _ _
        · exact ih _ _ _
        all_goals exact id
      all_goals exact id
  exact key _ _ _ _ h1
theorem pw_le {m : Nat} (hm : n ≤ m) (h : PW F W c body n env d) : PW F W c body m env d := by
  induction hm with
  | refl => exact h
  | step _ ih => exact pw_up ih
theorem pb_whl (h : PW F W c body W env d) : PB F W (.cons (.whl c body) r) env d := fun dr => by
  obtain ⟨s, h1, h2⟩ := h dr
  refine ⟨s, ?_, h2⟩
  show (whlGo (fun s => ev F .tst c s.env s.dr) (fun s => exs F W body s) W ⟨env, dr⟩).bind _ = _
  rw [h1]; rfl
end
end Ly

set_option Elab.async false
set_option linter.all false
set_option maxRecDepth 100000
set_option maxHeartbeats 2000000
/-! Ly: runs that draw: what may come out. -/
namespace Ly
open PySem PySem.Spec PyProof.Rows L2
/-- a draw as it may stand -/
def Dk (dr : Dr) : Prop := -1 ≤ dr.i
section
variable (F : Nat → List D → Dr → Oc) (W : Nat)
/-- it tells something of which P holds -/
def GV (x : Ex) (env : List Sl) (P : D → Prop) : Prop := ∀ m dr, m ≠ Md.tst → Dk dr → ∃ d dr', ev F m x env dr = .ok d dr' ∧ Dk dr' ∧ P d
def GT (x : Ex) (env : List Sl) (P : Bool → Prop) : Prop := ∀ dr, Dk dr → ∃ b dr', ev F .tst x env dr = .ok (.bool b) dr' ∧ Dk dr' ∧ P b
def GL (xs : Exs) (env : List Sl) (P : List D → Prop) : Prop := ∀ m dr, m ≠ Md.tst → Dk dr → ∃ ds dr', evs F m xs env dr = .ok ds dr' ∧ Dk dr' ∧ P ds
def GI (x : Itx) (env : List Sl) (P : List D → Prop) : Prop := ∀ m dr, m ≠ Md.tst → Dk dr → ∃ ds dr', evi F m x env dr = .ok ds dr' ∧ Dk dr' ∧ P ds
def GC (cs : Exs) (env : List Sl) (P : Bool → Prop) : Prop := ∀ dr, Dk dr → ∃ b dr', evt F cs env dr = .ok (.bool b) dr' ∧ Dk dr' ∧ P b
def GO (x : Exo) (env : List Sl) (P : Option Int → Prop) : Prop := ∀ dr, Dk dr → ∃ i dr', evo F x env dr = .ok i dr' ∧ Dk dr' ∧ P i
def GF (f : Nat) (args : List D) (P : D → Prop) : Prop := ∀ dr, Dk dr → ∃ d dr', F f args dr = .ok d dr' ∧ Dk dr' ∧ P d
def GS (b : Sts) (env : List Sl) (Q : Fl → List Sl → Prop) : Prop := ∀ dr, Dk dr → ∃ f env' dr', exs F W b ⟨env, dr⟩ = .ok f ⟨env', dr'⟩ ∧ Dk dr' ∧ Q f env'
end
section
variable {F : Nat → List D → Dr → Oc} {W : Nat} {x a b c : Ex} {xs : Exs} {env : List Sl} {d : D} {ds : List D} {P Pa Pb : D → Prop}
theorem gv (h : PV F x env d) : GV F x env (· = d) := fun m dr hm hd => ⟨d, dr, h m dr hm, hd, rfl⟩
theorem gt {k : Bool} (h : PT' F x env k) : GT F x env (· = k) := fun dr hd => ⟨k, dr, h dr, hd, rfl⟩
theorem gl (h : PLs F xs env ds) : GL F xs env (· = ds) := fun m dr hm hd => ⟨ds, dr, h m dr hm, hd, rfl⟩
theorem gi {it : Itx} (h : PIt F it env ds) : GI F it env (· = ds) := fun m dr hm hd => ⟨ds, dr, h m dr hm, hd, rfl⟩
theorem gc {k : Bool} (h : PCs F xs env k) : GC F xs env (· = k) := fun dr hd => ⟨k, dr, h dr, hd, rfl⟩
theorem gf {f : Nat} {args : List D} (h : PF F f args d) : GF F f args (· = d) := fun dr hd => ⟨d, dr, h dr, hd, rfl⟩
theorem GV.imp (h : GV F x env P) {Q : D → Prop} (i : ∀ d, P d → Q d) : GV F x env Q := fun m dr hm hd => by
  obtain ⟨d, dr', h1, h2, h3⟩ := h m dr hm hd
  exact ⟨d, dr', h1, h2, i d h3⟩
theorem GL.imp {Pl : List D → Prop} (h : GL F xs env Pl) {Q : List D → Prop} (i : ∀ d, Pl d → Q d) : GL F xs env Q := fun m dr hm hd => by
  obtain ⟨d, dr', h1, h2, h3⟩ := h m dr hm hd
  exact ⟨d, dr', h1, h2, i d h3⟩
theorem GT.imp {Pk : Bool → Prop} (h : GT F x env Pk) {Q : Bool → Prop} (i : ∀ d, Pk d → Q d) : GT F x env Q := fun dr hd => by
  obtain ⟨d, dr', h1, h2, h3⟩ := h dr hd
  exact ⟨d, dr', h1, h2, i d h3⟩
theorem pv_slc {lo hi : Exo} {d1 : D} {l r : Option Int} (h : PV F a env d1) (h1 : ∀ dr, evo F lo env dr = .ok l dr) (h2 : ∀ dr, evo F hi env dr = .ok r dr) (h3 : slcD d1 l r = some d) : PV F (.slc a lo hi) env d := fun m dr hm => by
  show (ev F .bor a env dr).bind _ = _
  rw [h .bor dr bor_ne]
  show (evo F lo env dr).bind _ = _
  rw [h1]
  show (evo F hi env dr).bind _ = _
  rw [h2]
  exact lift_ne hm h3 dr
theorem gl_nil : GL F .nil env (· = []) := gl pl_nil
theorem gl_cons {Pl : List D → Prop} (h1 : GV F x env P) (h2 : GL F xs env Pl) : GL F (.cons x xs) env (fun ds => ∃ d r, ds = d :: r ∧ P d ∧ Pl r) := fun m dr hm hd => by
  obtain ⟨d, dr1, e1, k1, p1⟩ := h1 m dr hm hd
  obtain ⟨r, dr2, e2, k2, p2⟩ := h2 m dr1 hm k1
  refine ⟨d :: r, dr2, ?_, k2, d, r, rfl, p1, p2⟩
  show (ev F m x env dr).bind _ = _
  rw [e1]
  show (evs F m xs env dr1).bind _ = _
  rw [e2]; rfl
theorem gl_one (h1 : GV F x env P) : GL F (.cons x .nil) env (fun ds => ∃ d, ds = [d] ∧ P d) := fun m dr hm hd => by
  obtain ⟨ds, dr', h1, h2, d, r, rfl, h3, rfl⟩ := gl_cons h1 gl_nil m dr hm hd
  exact ⟨_, dr', h1, h2, d, rfl, h3⟩
theorem gv_bin {o : Bo} (h1 : GV F a env Pa) (h2 : GV F b env Pb) (h : ∀ x y, Pa x → Pb y → ∃ d, binD o x y = some d ∧ P d) : GV F (.bin o a b) env P := fun m dr hm hd => by
  obtain ⟨x, dr1, e1, k1, p1⟩ := h1 .bor dr bor_ne hd
  obtain ⟨y, dr2, e2, k2, p2⟩ := h2 .bor dr1 bor_ne k1
  obtain ⟨d, e3, p3⟩ := h x y p1 p2
  refine ⟨d, dr2, ?_, k2, p3⟩
  show (ev F .bor a env dr).bind _ = _
  rw [e1]
  show (ev F .bor b env dr1).bind _ = _
  rw [e2]
  exact lift_ne hm e3 dr2
theorem gv_idx (h1 : GV F a env Pa) (h2 : GV F b env Pb) (h : ∀ x y, Pa x → Pb y → ∃ d, idxD x y = some d ∧ P d) : GV F (.idx a b) env P := fun m dr hm hd => by
  obtain ⟨x, dr1, e1, k1, p1⟩ := h1 .bor dr bor_ne hd
  obtain ⟨y, dr2, e2, k2, p2⟩ := h2 .bor dr1 bor_ne k1
  obtain ⟨d, e3, p3⟩ := h x y p1 p2
  refine ⟨d, dr2, ?_, k2, p3⟩
  show (ev F .bor a env dr).bind _ = _
  rw [e1]
  show (ev F .bor b env dr1).bind _ = _
  rw [e2]
  exact lift_ne hm e3 dr2
theorem cmp_g {o : Co} {m : Md} {Pk : Bool → Prop} (h1 : GV F a env Pa) (h2 : GV F b env Pb) (h : ∀ x y, Pa x → Pb y → ∃ k, cmpD o x y = some k ∧ Pk k) (dr : Dr) (hd : Dk dr) : ∃ k dr', ev F m (.cmp o a b) env dr = .ok (.bool k) dr' ∧ Dk dr' ∧ Pk k := by
  obtain ⟨x, dr1, e1, k1, p1⟩ := h1 .bor dr bor_ne hd
  obtain ⟨y, dr2, e2, k2, p2⟩ := h2 .bor dr1 bor_ne k1
  obtain ⟨d, e3, p3⟩ := h x y p1 p2
  refine ⟨d, dr2, ?_, k2, p3⟩
  show (ev F .bor a env dr).bind _ = _
  rw [e1]
  show (ev F .bor b env dr1).bind _ = _
  rw [e2]
  show liftB (cmpD o x y) dr2 = _
  rw [e3]; rfl
theorem gt_cmp {o : Co} {Pk : Bool → Prop} (h1 : GV F a env Pa) (h2 : GV F b env Pb) (h : ∀ x y, Pa x → Pb y → ∃ k, cmpD o x y = some k ∧ Pk k) : GT F (.cmp o a b) env Pk := cmp_g h1 h2 h
theorem gv_cmp {o : Co} {Pk : Bool → Prop} (h1 : GV F a env Pa) (h2 : GV F b env Pb) (h : ∀ x y, Pa x → Pb y → ∃ k, cmpD o x y = some k ∧ Pk k) : GV F (.cmp o a b) env (fun d => ∃ k, d = .bool k ∧ Pk k) := fun m dr hm hd => by
  obtain ⟨k, dr', e, k1, p⟩ := cmp_g (m := m) h1 h2 h dr hd
  exact ⟨_, dr', e, k1, k, rfl, p⟩
theorem gt_or {Pk Pl : Bool → Prop} (h1 : GT F a env Pk) (h2 : Pk false → GT F b env Pl) : GT F (.or a b) env (fun k => (k = true ∧ Pk true) ∨ (Pk false ∧ Pl k)) := fun dr hd => by
  obtain ⟨k, dr1, e1, k1, p1⟩ := h1 dr hd
  cases k with
  | true =>
    refine ⟨true, dr1, ?_, k1, .inl ⟨rfl, p1⟩⟩
    show (ev F .tst a env dr).bind _ = _
    rw [e1]; rfl
  | false =>
    obtain ⟨k, dr2, e2, k2, p2⟩ := h2 p1 dr1 k1
    refine ⟨k, dr2, ?_, k2, .inr ⟨p1, p2⟩⟩
    show (ev F .tst a env dr).bind _ = _
    rw [e1]
    exact e2
theorem gt_and {Pk Pl : Bool → Prop} (h1 : GT F a env Pk) (h2 : Pk true → GT F b env Pl) : GT F (.and a b) env (fun k => (k = false ∧ Pk false) ∨ (Pk true ∧ Pl k)) := fun dr hd => by
  obtain ⟨k, dr1, e1, k1, p1⟩ := h1 dr hd
  cases k with
  | false =>
    refine ⟨false, dr1, ?_, k1, .inl ⟨rfl, p1⟩⟩
    show (ev F .tst a env dr).bind _ = _
    rw [e1]; rfl
  | true =>
    obtain ⟨k, dr2, e2, k2, p2⟩ := h2 p1 dr1 k1
    refine ⟨k, dr2, ?_, k2, .inr ⟨p1, p2⟩⟩
    show (ev F .tst a env dr).bind _ = _
    rw [e1]
    exact e2
theorem gv_tup {Pl : List D → Prop} (h : GL F xs env Pl) (hl : ∀ ds, Pl ds → okLen ds.length = true) : GV F (.tup xs) env (fun d => ∃ ds, d = .tuple ds ∧ Pl ds) := fun m dr hm hd => by
  obtain ⟨ds, dr1, e1, k1, p1⟩ := h .frz dr frz_ne hd
  refine ⟨.tuple ds, dr1, ?_, k1, ds, rfl, p1⟩
  show (evs F .frz xs env dr).bind _ = _
  rw [e1]
  show lift m (if okLen ds.length then some (.tuple ds) else none) dr1 = _
  exact lift_ne hm (if_pos (hl ds p1)) dr1
theorem gv_lst {Pl : List D → Prop} (h : GL F xs env Pl) (hl : ∀ ds, Pl ds → okLen ds.length = true) : GV F (.lst xs) env (fun d => ∃ ds, d = .list ds ∧ Pl ds) := fun m dr hm hd => by
  obtain ⟨ds, dr1, e1, k1, p1⟩ := h .frz dr frz_ne hd
  refine ⟨.list ds, dr1, ?_, k1, ds, rfl, p1⟩
  show (evs F .frz xs env dr).bind _ = _
  rw [e1]
  show lift m (if okLen ds.length then some (.list ds) else none) dr1 = _
  exact lift_ne hm (if_pos (hl ds p1)) dr1
theorem gv_bf {f : Bf} {Pl : List D → Prop} (h : GL F xs env Pl) (hf : ∀ ds, Pl ds → ∃ d, bfD f ds = some d ∧ P d) : GV F (.bf f xs) env P := fun m dr hm hd => by
  obtain ⟨ds, dr1, e1, k1, p1⟩ := h .bor dr bor_ne hd
  obtain ⟨d, e2, p2⟩ := hf ds p1
  refine ⟨d, dr1, ?_, k1, p2⟩
  show (evs F .bor xs env dr).bind _ = _
  rw [e1]
  exact lift_ne hm e2 dr1
theorem gv_call {f : Nat} {Pl : List D → Prop} (h : GL F xs env Pl) (hf : ∀ ds, Pl ds → GF F f ds P) : GV F (.call f xs) env P := fun m dr hm hd => by
  obtain ⟨ds, dr1, e1, k1, p1⟩ := h .frz dr frz_ne hd
  obtain ⟨d, dr2, e2, k2, p2⟩ := hf ds p1 dr1 k1
  refine ⟨d, dr2, ?_, k2, p2⟩
  show (evs F .frz xs env dr).bind _ = _
  rw [e1]
  show (match F f ds dr1 with
    | .ok d dr => fin m d dr
    | .err e dr => .err e dr
    | .stk => .stk : R D) = _
  rw [e2]
  exact fin_ne hm d dr2
theorem go_none : GO F .none env (· = none) := fun dr hd => ⟨none, dr, rfl, hd, rfl⟩
theorem go_some {Pi : Int → Prop} (h : GV F x env (fun d => ∃ i, d = .int i ∧ Pi i)) : GO F (.some x) env (fun o => ∃ i, o = some i ∧ Pi i) := fun dr hd => by
  obtain ⟨_, dr1, e1, k1, i, rfl, p1⟩ := h .bor dr bor_ne hd
  refine ⟨some i, dr1, ?_, k1, i, rfl, p1⟩
  show (ev F .bor x env dr).bind _ = _
  rw [e1]; rfl
theorem gv_slc {lo hi : Exo} {Pl Ph : Option Int → Prop} (h : GV F a env Pa) (h1 : GO F lo env Pl) (h2 : GO F hi env Ph) (h3 : ∀ x l r, Pa x → Pl l → Ph r → ∃ d, slcD x l r = some d ∧ P d) : GV F (.slc a lo hi) env P := fun m dr hm hd => by
  obtain ⟨x, dr1, e1, k1, p1⟩ := h .bor dr bor_ne hd
  obtain ⟨l, dr2, e2, k2, p2⟩ := h1 dr1 k1
  obtain ⟨r, dr3, e3, k3, p3⟩ := h2 dr2 k2
  obtain ⟨d, e4, p4⟩ := h3 x l r p1 p2 p3
  refine ⟨d, dr3, ?_, k3, p4⟩
  show (ev F .bor a env dr).bind _ = _
  rw [e1]
  show (evo F lo env dr1).bind _ = _
  rw [e2]
  show (evo F hi env dr2).bind _ = _
  rw [e3]
  exact lift_ne hm e4 dr3
/-! what is walked -/
theorem gi_seq {Pl : List D → Prop} (h : GV F a env (fun d => ∃ ds, seqD d = some ds ∧ Pl ds)) : GI F (.seq a) env Pl := fun m dr hm hd => by
  obtain ⟨d, dr1, e1, k1, ds, s1, p1⟩ := h m dr hm hd
  refine ⟨ds, dr1, ?_, k1, p1⟩
  show (ev F m a env dr).bind _ = _
  rw [e1]
  show (match walkD d with
    | some ds => .ok ds dr1
    | none => .stk : R (List D)) = _
  rw [walkD_of s1]
theorem gi_rng {Pl Pq : List D → Prop} (h : GL F xs env Pq) (hr : ∀ ds, Pq ds → ∃ r, rngD ds = some r ∧ Pl r) : GI F (.rng xs) env Pl := fun m dr hm hd => by
  obtain ⟨ds, dr1, e1, k1, p1⟩ := h .bor dr bor_ne hd
  obtain ⟨r, e2, p2⟩ := hr ds p1
  refine ⟨r, dr1, ?_, k1, p2⟩
  show (evs F .bor xs env dr).bind _ = _
  rw [e1]
  show (match rngD ds with
    | some r => .ok r dr1
    | none => .stk : R (List D)) = _
  rw [e2]
theorem gi_zip {Pl Pq : List D → Prop} (h : GL F xs env Pq) (hr : ∀ ds, Pq ds → ∃ r, zipD ds = some r ∧ Pl r) : GI F (.zip xs) env Pl := fun m dr hm hd => by
  obtain ⟨ds, dr1, e1, k1, p1⟩ := h m dr hm hd
  obtain ⟨r, e2, p2⟩ := hr ds p1
  refine ⟨r, dr1, ?_, k1, p2⟩
  show (evs F m xs env dr).bind _ = _
  rw [e1]
  show (match zipD ds with
    | some r => .ok r dr1
    | none => .stk : R (List D)) = _
  rw [e2]
/-- one for one -/
inductive All2' {α β : Type} (R : α → β → Prop) : List α → List β → Prop where
  | nil : All2' R [] []
  | cons {a : α} {b : β} {as : List α} {bs : List β} (h : R a b) (t : All2' R as bs) : All2' R (a :: as) (b :: bs)
/-- told one for one: g of the item and what comes out -/
theorem gv_lcA {own : List Nat} {tg : Tg} {it : Itx} {Pl : List D → Prop} {Rl : D → D → Prop} (hi : GI F it env Pl)
    (h : ∀ ds, Pl ds → ∀ d ∈ ds, ∃ env', tgo tg d (wipeE env own) = some env' ∧ GV F x env' (Rl d)) : GV F (.lc own tg it .nil x) env (fun d => ∃ ds rs, d = .list rs ∧ Pl ds ∧ All2' Rl ds rs) := fun m dr hm hd => by
  obtain ⟨ds, dr1, e1, k1, p1⟩ := hi .bor dr bor_ne hd
  have key : ∀ (ds : List D) dr, Dk dr → (∀ d ∈ ds, ∃ env', tgo tg d (wipeE env own) = some env' ∧ GV F x env' (Rl d)) → ∃ rs dr', lcGo (tn1 tg own env (fun env dr => evt F .nil env dr) (fun env dr => ev F .frz x env dr)) ds dr = some (rs, dr') ∧ Dk dr' ∧ All2' Rl ds rs := by
    intro ds
    induction ds with
    | nil => intro dr hd _; exact ⟨[], dr, rfl, hd, .nil⟩
    | cons d ds ih =>
      intro dr hd hh
      obtain ⟨env', t1, g1⟩ := hh d List.mem_cons_self
      obtain ⟨r, dr1, e1, k1, p1⟩ := g1 .frz dr frz_ne hd
      obtain ⟨rs, dr2, e2, k2, p2⟩ := ih dr1 k1 fun d hd => hh d (List.mem_cons_of_mem _ hd)
      refine ⟨r :: rs, dr2, ?_, k2, .cons p1 p2⟩
      unfold lcGo
      have : tn1 tg own env (fun env dr => evt F .nil env dr) (fun env dr => ev F .frz x env dr) d dr = some ([r], dr1) := by
        unfold tn1
        rw [t1]
        show (match ev F .frz x env' dr with
          | .ok d dr => some ([d], dr)
          | _ => none) = _
        rw [e1]
      rw [this]
      dsimp only
      rw [e2]; rfl
  obtain ⟨rs, dr2, e2, k2, p2⟩ := key ds dr1 k1 (h ds p1)
  refine ⟨.list rs, dr2, ?_, k2, ds, rs, rfl, p1, p2⟩
  show (evi F .bor it env dr).bind _ = _
  rw [e1]
  show (match lcGo (tn1 tg own env (fun env dr => evt F .nil env dr) (fun env dr => ev F .frz x env dr)) ds dr1 with
    | some (r, dr) => fin m (.list r) dr
    | none => .stk : R D) = _
  rw [e2]
  exact fin_ne hm _ dr2
theorem all2_map {α : Type} {Rl : D → D → Prop} {e : α → D} {S : α → Prop} : ∀ {ds rs : List D}, All2' Rl ds rs → (∀ a ∈ ds, ∀ b, Rl a b → ∃ x, b = e x ∧ S x) → ∃ xs : List α, rs = xs.map e ∧ xs.length = ds.length ∧ ∀ x ∈ xs, S x
  | _, _, .nil, _ => ⟨[], rfl, rfl, fun _ h => by cases h⟩
  | _, _, .cons h t, hr => by
    obtain ⟨x, rfl, hx⟩ := hr _ List.mem_cons_self _ h
    obtain ⟨xs, rfl, hl, hs⟩ := all2_map t fun a ha => hr a (List.mem_cons_of_mem _ ha)
    refine ⟨x :: xs, rfl, by rw [List.length_cons, List.length_cons, hl], fun y hy => ?_⟩
    rcases List.mem_cons.mp hy with rfl | hy
    · exact hx
    · exact hs y hy
/-- told one for one, each of a kind -/
theorem gv_lcE {own : List Nat} {tg : Tg} {it : Itx} {Pl : List D → Prop} {α : Type} {e : α → D} {S : α → Prop} (hi : GI F it env Pl)
    (h : ∀ ds, Pl ds → ∀ d ∈ ds, ∃ env', tgo tg d (wipeE env own) = some env' ∧ GV F x env' (fun b => ∃ y, b = e y ∧ S y)) : GV F (.lc own tg it .nil x) env (fun d => ∃ (ds : List D) (xs : List α), Pl ds ∧ d = .list (xs.map e) ∧ xs.length = ds.length ∧ ∀ y ∈ xs, S y) :=
  (gv_lcA (Rl := fun _ b => ∃ y, b = e y ∧ S y) hi h).imp fun d ⟨ds, rs, hd, hp, ha⟩ => by
    obtain ⟨xs, rfl, hl, hs⟩ := all2_map (e := e) (S := S) ha fun _ _ _ h => h
    exact ⟨ds, xs, hp, hd, hl, hs⟩
theorem pv_bfo {f : Bf} {i : Nat} {d1 : D} (h : env[i]? = some (.ow d1)) (hf : bfD f [d1] = some d) : PV F (.bf f (.cons (.var i) .nil)) env d := fun m dr hm => by
  show ((vari .bor env[i]? dr).bind fun d dr => (evs F .bor .nil env dr).bind fun ds dr => .ok (d :: ds) dr).bind _ = _
  rw [h]
  exact lift_ne hm hf dr
theorem pv_me {f : Me} {es : List D} (h : PV F a env (.list es)) (h2 : PLs F xs env ds) (hf : meD f (.list es) ds = some d) : PV F (.me f a xs) env d := fun m dr hm => by
  show (ev F .bor a env dr).bind _ = _
  rw [h .bor dr bor_ne]
  show (evs F .bor xs env dr).bind _ = _
  rw [h2 .bor dr bor_ne]
  exact lift_ne hm hf dr
/-! bodies -/
variable {Q : Fl → List Sl → Prop} {r : Sts}
/-- a statement's outcome handed on -/
def Nx (F : Nat → List D → Dr → Oc) (W : Nat) (r : Sts) (Q : Fl → List Sl → Prop) : Fl → List Sl → Prop := fun f e => match f with
  | .nx => GS F W r e Q
  | f => Q f e
theorem gs_nil (h : Q .nx env) : GS F W .nil env Q := fun dr hd => ⟨.nx, env, dr, rfl, hd, h⟩
theorem gs_ret (h : GV F x env P) (q : ∀ d, P d → Q (.rt d) env) : GS F W (.cons (.ret x) r) env Q := fun dr hd => by
  obtain ⟨d, dr1, e1, k1, p1⟩ := h .frz dr frz_ne hd
  refine ⟨.rt d, env, dr1, ?_, k1, q d p1⟩
  show ((ev F .frz x env dr).toO env fun d s => Out.ok (Fl.rt d) s).bind _ = _
  rw [e1]; rfl
theorem gs_asg {t : Tg} (h : GV F x env P) (q : ∀ d, P d → ∃ env', tgo t d env = some env' ∧ GS F W r env' Q) : GS F W (.cons (.asg t x) r) env Q := fun dr hd => by
  obtain ⟨d, dr1, e1, k1, p1⟩ := h .frz dr frz_ne hd
  obtain ⟨env', t1, g1⟩ := q d p1
  obtain ⟨f, e2, dr2, h2, k2, p2⟩ := g1 dr1 k1
  refine ⟨f, e2, dr2, ?_, k2, p2⟩
  show ((ev F .frz x env dr).toO env (kAsg t)).bind _ = _
  rw [e1]
  show (kAsg t d ⟨env, dr1⟩).bind _ = _
  unfold kAsg
  rw [t1]
  exact h2
theorem gs_par {ts : List (Nat × Bool)} {Pl : List D → Prop} (h : GL F xs env Pl) (q : ∀ ds, Pl ds → ∃ env', parE ts ds env = some env' ∧ GS F W r env' Q) : GS F W (.cons (.par ts xs) r) env Q := fun dr hd => by
  obtain ⟨ds, dr1, e1, k1, p1⟩ := h .frz dr frz_ne hd
  obtain ⟨env', t1, g1⟩ := q ds p1
  obtain ⟨f, e2, dr2, h2, k2, p2⟩ := g1 dr1 k1
  refine ⟨f, e2, dr2, ?_, k2, p2⟩
  show ((evs F .frz xs env dr).toO env fun ds s => (match parE ts ds s.env with
    | some env => Out.ok Fl.nx { s with env := env }
    | none => .stk : Out Fl)).bind (seqO (exs F W r)) = _
  rw [e1]
  show (match parE ts ds env with
    | some env => (Out.ok Fl.nx ⟨env, dr1⟩ : Out Fl)
    | none => .stk).bind (seqO (exs F W r)) = _
  rw [t1]
  exact h2
theorem gs_app {i : Nat} (hi : env[i]? = some (.ow (.list ds))) (hl : ds.length < 16777216) (h : GV F x env P) (q : ∀ d, P d → GS F W r (env.set i (.ow (.list (ds ++ [d])))) Q) : GS F W (.cons (.app i x) r) env Q := fun dr hd => by
  obtain ⟨d, dr1, e1, k1, p1⟩ := h .frz dr frz_ne hd
  obtain ⟨f, e2, dr2, h2, k2, p2⟩ := q d p1 dr1 k1
  refine ⟨f, e2, dr2, ?_, k2, p2⟩
  have e : ex F W (.app i x) ⟨env, dr⟩ = .ok .nx ⟨env.set i (.ow (.list (ds ++ [d]))), dr1⟩ := by
    show (match env[i]? with
      | some (.ow (.list ds)) => (ev F .frz x env dr).toO env fun d s => if decide (ds.length < 16777216) then Out.ok Fl.nx (setE s i (.ow (.list (ds ++ [d])))) else .stk
      | _ => .stk : Out Fl) = _
    rw [hi]
    dsimp only
    rw [e1]
    show (if decide (ds.length < 16777216) then (Out.ok Fl.nx (setE ⟨env, dr1⟩ i (.ow (.list (ds ++ [d])))) : Out Fl) else .stk) = _
    rw [if_pos (decide_eq_true hl)]; rfl
  rw [exs_cons, e]
  exact h2
theorem gs_frz {i : Nat} (hi : env[i]? = some (.ow d)) (q : GS F W r (env.set i (.fz d)) Q) : GS F W (.cons (.frz i) r) env Q := fun dr hd => by
  obtain ⟨f, e2, dr2, h2, k2, p2⟩ := q dr hd
  refine ⟨f, e2, dr2, ?_, k2, p2⟩
  have e : ex F W (.frz i) ⟨env, dr⟩ = .ok .nx ⟨env.set i (.fz d), dr⟩ := by
    show (match env[i]? with
      | some (.ow d) => Out.ok Fl.nx (setE ⟨env, dr⟩ i (.fz d))
      | some _ => .ok .nx ⟨env, dr⟩
      | none => .stk) = _
    rw [hi]; rfl
  rw [exs_cons, e]
  exact h2
theorem nx_go {f : Fl} {e : List Sl} {dr : Dr} (hd : Dk dr) (h : Nx F W r Q f e) : ∃ f' e' dr', seqO (exs F W r) f ⟨e, dr⟩ = .ok f' ⟨e', dr'⟩ ∧ Dk dr' ∧ Q f' e' := by
  cases f with
  | nx => exact h dr hd
  | bk => exact ⟨.bk, e, dr, rfl, hd, h⟩
  | ct => exact ⟨.ct, e, dr, rfl, hd, h⟩
  | rt d => exact ⟨.rt d, e, dr, rfl, hd, h⟩
theorem gs_if {p q : Sts} {Pk : Bool → Prop} (h : GT F c env Pk) (h1 : Pk true → GS F W p env (Nx F W r Q)) (h2 : Pk false → GS F W q env (Nx F W r Q)) : GS F W (.cons (.ifs c p q) r) env Q := fun dr hd => by
  obtain ⟨k, dr1, e1, k1, p1⟩ := h dr hd
  have e : exs F W (.cons (.ifs c p q) r) ⟨env, dr⟩ = (exs F W (if k then p else q) ⟨env, dr1⟩).bind (seqO (exs F W r)) := by
    show ((ev F .tst c env dr).toO env fun (d : D) s => (match d with
      | .bool true => exs F W p s
      | _ => exs F W q s : Out Fl)).bind (seqO (exs F W r)) = _
    rw [e1]
    cases k <;> rfl
  rw [e]
  have g : GS F W (if k then p else q) env (Nx F W r Q) := by
    cases k with
    | true => exact h1 p1
    | false => exact h2 p1
  obtain ⟨f, e2, dr2, h3, k2, p2⟩ := g dr1 k1
  rw [h3]
  exact nx_go k2 p2
theorem gs_for {t : Tg} {it : Itx} {body : Sts} {Pl : List D → Prop} (hi : GI F it env Pl)
    (q : ∀ ds, Pl ds → ∃ I : Nat → List Sl → Prop, I 0 env ∧ (∀ i d e, ds[i]? = some d → I i e → ∃ e', tgo t d e = some e' ∧ GS F W body e' (fun f e2 => match f with
      | .nx => I (i + 1) e2
      | .ct => I (i + 1) e2
      | .bk => GS F W r e2 Q
      | .rt d => Q (.rt d) e2)) ∧ ∀ e, I ds.length e → GS F W r e Q) : GS F W (.cons (.for t it body) r) env Q := fun dr hd => by
  obtain ⟨ds, dr1, e1, k1, p1⟩ := hi .frz dr frz_ne hd
  obtain ⟨I, i0, st, en⟩ := q ds p1
  have key : ∀ (ds : List D) (I : Nat → List Sl → Prop) env dr, Dk dr → I 0 env → (∀ i d e, ds[i]? = some d → I i e → ∃ e', tgo t d e = some e' ∧ GS F W body e' (fun f e2 => match f with
      | .nx => I (i + 1) e2
      | .ct => I (i + 1) e2
      | .bk => GS F W r e2 Q
      | .rt d => Q (.rt d) e2)) → (∀ e, I ds.length e → GS F W r e Q) → ∃ f e2 dr2, forGo (tnF (exs F W body) t) ds ⟨env, dr⟩ = .ok f ⟨e2, dr2⟩ ∧ Dk dr2 ∧ Nx F W r Q f e2 := by
    intro ds
    induction ds with
    | nil => intro I env dr hd i0 _ en; exact ⟨.nx, env, dr, rfl, hd, en env i0⟩
    | cons d ds ih =>
      intro I env dr hd i0 st en
      obtain ⟨e', t1, g1⟩ := st 0 d env rfl i0
      obtain ⟨f, e2, dr2, h2, k2, p2⟩ := g1 dr hd
      have hs : tnF (exs F W body) t d ⟨env, dr⟩ = .ok f ⟨e2, dr2⟩ := by
        unfold tnF
        dsimp only
        rw [t1]
        exact h2
      unfold forGo
      rw [hs]
      have more : I 1 e2 → ∃ f e3 dr3, forGo (tnF (exs F W body) t) ds ⟨e2, dr2⟩ = .ok f ⟨e3, dr3⟩ ∧ Dk dr3 ∧ Nx F W r Q f e3 := fun i1 => ih (fun i => I (i + 1)) e2 dr2 k2 i1 (fun i d' e hd hi => st (i + 1) d' e (by simpa using hd) hi) (fun e he => en e he)
      cases f with
      | nx => exact more p2
      | ct => exact more p2
      | bk => exact ⟨.nx, e2, dr2, rfl, k2, p2⟩
      | rt d => exact ⟨.rt d, e2, dr2, rfl, k2, p2⟩
  obtain ⟨f, e2, dr2, h2, k2, p2⟩ := key ds I env dr1 k1 i0 st en
  show ∃ f env' dr', ((evi F .frz it env dr).toO env (forGo (tnF (exs F W body) t))).bind (seqO (exs F W r)) = _ ∧ _
  rw [e1]
  show ∃ f env' dr', (forGo (tnF (exs F W body) t) ds ⟨env, dr1⟩).bind (seqO (exs F W r)) = _ ∧ _
  rw [h2]
  exact nx_go k2 p2
theorem gf_run {T : Nat → Option Df} {sp : Nat → List D → Dr → Oc} {k f ps n : Nat} {body : Sts} {args : List D} (h : T f = some ⟨ps, n, body⟩) (hl : args.length = ps) (hb : GS (run T sp W k) W body (args.map .fz ++ List.replicate (n - args.length) .un) (fun f _ => match f with
    | .rt d => P d
    | _ => False)) : GF (run T sp W (k + 1)) f args P := fun dr hd => by
  rw [run_at h]
  unfold runDf
  rw [if_pos hl]
  obtain ⟨f, e, dr1, h1, k1, p1⟩ := hb dr hd
  dsimp only
  rw [h1]
  cases f with
  | rt d => exact ⟨d, dr1, rfl, k1, p1⟩
  | nx => exact p1.elim
  | bk => exact p1.elim
  | ct => exact p1.elim
/-- a draw below m -/
theorem gf_take {T : Nat → Option Df} {W k f : Nat} {m : Int} (h : T f = none) (h0 : 0 < m) (h1 : m < 1073741824) : GF (run T (fun _ a d => takeF a d) W (k + 1)) f [drw, .int m] (fun d => ∃ i : Nat, d = natD i ∧ (i : Int) < m) := fun dr hd => by
  rw [run_sp h]
  show ∃ d dr', (if takeOk dr m then Oc.ok (.int (takeD dr m).1) (takeD dr m).2 else .stk) = _ ∧ _
  have hk : takeOk dr m = true := by
    unfold takeOk
    have : -1 ≤ dr.i := hd
    simp only [Bool.and_eq_true, decide_eq_true_eq]
    omega
  rw [if_pos hk]
  have g0 := Int.fmod_nonneg_of_pos dr.next.r h0
  have g1 := Int.fmod_lt_of_pos dr.next.r h0
  refine ⟨_, _, rfl, ?_, (takeD dr m).1.toNat, ?_, ?_⟩
  · show -1 ≤ dr.next.i
    have hd : -1 ≤ dr.i := hd
    unfold Dr.next
    split
    · dsimp only
      split
      · show -1 ≤ dr.i + 1; omega
      · show -1 ≤ dr.i + 1; omega
    · exact hd
  · show PyData.int _ = PyData.int _
    rw [Int.toNat_of_nonneg (show 0 ≤ (takeD dr m).1 from g0)]
  · rw [Int.toNat_of_nonneg (show 0 ≤ (takeD dr m).1 from g0)]
    exact g1
end
end Ly

set_option Elab.async false
set_option linter.all false
set_option maxRecDepth 100000
set_option maxHeartbeats 2000000
/-! Ly: the plain side: exceptions, defs that fall off their end. -/
namespace Ly
open PySem PySem.Spec PyProof.Rows L2
section
variable (F : Nat → List D → Dr → Oc) (W : Nat)
/-- a call that raises e -/
def PX (f : Nat) (args : List D) (e : Nat) : Prop := ∀ dr, F f args dr = .err e dr
/-- a body that raises e -/
def PBX (b : Sts) (env : List Sl) (e : Nat) : Prop := ∀ dr, ∃ s, exs F W b ⟨env, dr⟩ = .err e s ∧ s.dr = dr
end
section
variable {F : Nat → List D → Dr → Oc} {W e f : Nat} {x c : Ex} {xs : Exs} {env env1 env' : List Sl} {d : D} {ds : List D} {a b h p r : Sts}
theorem pbx_rai : PBX F W (.cons (.rai e) r) env e := fun dr => ⟨⟨env, dr⟩, rfl, rfl⟩
theorem ev_px {m : Md} (hm : m ≠ .tst) (hl : PLs F xs env ds) (hx : PX F f ds e) (dr : Dr) : ev F m (.call f xs) env dr = .err e dr := by
  show (evs F .frz xs env dr).bind _ = _
  rw [hl .frz dr frz_ne]
  show (match F f ds dr with
    | .ok d dr => fin m d dr
    | .err e dr => .err e dr
    | .stk => .stk : R D) = _
  rw [hx dr]
theorem pbx_ret (hl : PLs F xs env ds) (hx : PX F f ds e) : PBX F W (.cons (.ret (.call f xs)) r) env e := fun dr => ⟨⟨env, dr⟩, by
  show ((ev F .frz (.call f xs) env dr).toO env fun d s => Out.ok (Fl.rt d) s).bind _ = _
  rw [ev_px frz_ne hl hx]; rfl, rfl⟩
theorem pbx_exp (hl : PLs F xs env ds) (hx : PX F f ds e) : PBX F W (.cons (.exp (.call f xs)) r) env e := fun dr => ⟨⟨env, dr⟩, by
  show ((ev F .bor (.call f xs) env dr).toO env fun d s => Out.ok Fl.nx s).bind _ = _
  rw [ev_px bor_ne hl hx]; rfl, rfl⟩
theorem pbx_asg {t : Tg} (hl : PLs F xs env ds) (hx : PX F f ds e) : PBX F W (.cons (.asg t (.call f xs)) r) env e := fun dr => ⟨⟨env, dr⟩, by
  show ((ev F .frz (.call f xs) env dr).toO env (kAsg t)).bind _ = _
  rw [ev_px frz_ne hl hx]; rfl, rfl⟩
theorem if_ev {k : Bool} (h : PT' F c env k) (dr : Dr) : exs F W (.cons (.ifs c a b) r) ⟨env, dr⟩ = (exs F W (if k then a else b) ⟨env, dr⟩).bind (seqO (exs F W r)) := by
  show ((ev F .tst c env dr).toO env fun (d : D) s => (match d with
      | .bool true => exs F W a s
      | _ => exs F W b s : Out Fl)).bind (seqO (exs F W r)) = _
  rw [h dr]
  cases k <;> rfl
theorem pbx_ifT (h : PT' F c env true) (ha : PBX F W a env e) : PBX F W (.cons (.ifs c a b) r) env e := fun dr => by
  obtain ⟨s, h1, h2⟩ := ha dr
  refine ⟨s, ?_, h2⟩
  rw [if_ev h, if_pos rfl, h1]; rfl
theorem pbx_ifF (h : PT' F c env false) (hb : PBX F W b env e) : PBX F W (.cons (.ifs c a b) r) env e := fun dr => by
  obtain ⟨s, h1, h2⟩ := hb dr
  refine ⟨s, ?_, h2⟩
  rw [if_ev h, if_neg Bool.false_ne_true, h1]; rfl
theorem pbx_if0 (h : PT' F c env false) (hb : PBX F W r env e) : PBX F W (.cons (.ifs c a .nil) r) env e := fun dr => by
  obtain ⟨s, h1, h2⟩ := hb dr
  refine ⟨s, ?_, h2⟩
  rw [if_ev h, if_neg Bool.false_ne_true]
  exact h1
theorem pn_ifT (h : PT' F c env true) (ha : PN F W a env env1) (hr : PN F W r env1 env') : PN F W (.cons (.ifs c a b) r) env env' := fun dr => by
  rw [if_ev h, if_pos rfl, ha dr]
  exact hr dr
theorem pn_ifF (h : PT' F c env false) (hb : PN F W b env env1) (hr : PN F W r env1 env') : PN F W (.cons (.ifs c a b) r) env env' := fun dr => by
  rw [if_ev h, if_neg Bool.false_ne_true, hb dr]
  exact hr dr
theorem pb_ifT (h : PT' F c env true) (ha : PB F W a env d) : PB F W (.cons (.ifs c a b) r) env d := fun dr => by
  obtain ⟨s, h1, h2⟩ := ha dr
  refine ⟨s, ?_, h2⟩
  rw [if_ev h, if_pos rfl, h1]; rfl
theorem pb_ifF (h : PT' F c env false) (hr : PB F W r env d) : PB F W (.cons (.ifs c a .nil) r) env d := fun dr => by
  obtain ⟨s, h1, h2⟩ := hr dr
  refine ⟨s, ?_, h2⟩
  rw [if_ev h, if_neg Bool.false_ne_true]
  exact h1
theorem pn_exp (h : PV F x env d) (hr : PN F W r env env') : PN F W (.cons (.exp x) r) env env' := fun dr => by
  show ((ev F .bor x env dr).toO env fun _ s => Out.ok Fl.nx s).bind (seqO (exs F W r)) = _
  rw [h .bor dr bor_ne]
  exact hr dr
theorem pb_try_nx (hb : PN F W b env env1) (hr : PB F W r env1 d) : PB F W (.cons (.try b e h) r) env d := fun dr => by
  obtain ⟨s, h1, h2⟩ := hr dr
  refine ⟨s, ?_, h2⟩
  show (match exs F W b ⟨env, dr⟩ with
    | .ok f s => .ok f s
    | .err e' s => if e' = e then exs F W h s else .err e' s
    | .stk => .stk : Out Fl).bind (seqO (exs F W r)) = _
  rw [hb dr]
  exact h1
theorem pb_try_rt (hb : PB F W b env d) : PB F W (.cons (.try b e h) r) env d := fun dr => by
  obtain ⟨s, h1, h2⟩ := hb dr
  refine ⟨s, ?_, h2⟩
  show (match exs F W b ⟨env, dr⟩ with
    | .ok f s => .ok f s
    | .err e' s => if e' = e then exs F W h s else .err e' s
    | .stk => .stk : Out Fl).bind (seqO (exs F W r)) = _
  rw [h1]; rfl
theorem pb_try_err (hb : PBX F W b env e) : PB F W (.cons (.try b e (.cons (.ret (.con d)) .nil)) r) env d := fun dr => by
  obtain ⟨s, h1, h2⟩ := hb dr
  refine ⟨s, ?_, h2⟩
  show (match exs F W b ⟨env, dr⟩ with
    | .ok f s => .ok f s
    | .err e' s => if e' = e then exs F W (.cons (.ret (.con d)) .nil) s else .err e' s
    | .stk => .stk : Out Fl).bind (seqO (exs F W r)) = _
  rw [h1]
  show (if e = e then exs F W (.cons (.ret (.con d)) .nil) s else .err e s).bind (seqO (exs F W r)) = _
  rw [if_pos rfl]; rfl
variable {T : Nat → Option Df} {sp : Nat → List D → Dr → Oc} {k ps n : Nat} {body : Sts} {args : List D}
theorem px_run (h : T f = some ⟨ps, n, body⟩) (hl : args.length = ps) (hb : PBX (run T sp W k) W body (args.map .fz ++ List.replicate (n - args.length) .un) e) : PX (run T sp W (k + 1)) f args e := fun dr => by
  rw [run_at h]
  unfold runDf
  rw [if_pos hl]
  obtain ⟨s, h1, h2⟩ := hb dr
  dsimp only
  rw [h1]
  show Oc.err e s.dr = _
  rw [h2]
theorem pf_runN {env2 : List Sl} (h : T f = some ⟨ps, n, body⟩) (hl : args.length = ps) (hb : PN (run T sp W k) W body (args.map .fz ++ List.replicate (n - args.length) .un) env2) : PF (run T sp W (k + 1)) f args .none := fun dr => by
  rw [run_at h]
  unfold runDf
  rw [if_pos hl]
  dsimp only
  rw [hb dr]
theorem pv_rev {y z : D} (h : PV F x env y) (hr : revD y = some z) : PV F (.rev x) env z := fun m dr hm => by
  show (ev F .bor x env dr).bind _ = _
  rw [h .bor dr bor_ne]
  exact lift_ne hm hr dr
theorem pv_xt0 : PV F .xt0 env (xtD []) := fun m dr hm => fin_ne hm _ dr
theorem pv_mex {g : Me} {es : List D} (h : PV F x env (xtD es)) (h2 : PLs F xs env ds) (hf : meD g (xtD es) ds = some d) : PV F (.me g x xs) env d := fun m dr hm => by
  show (ev F .bor x env dr).bind _ = _
  rw [h .bor dr bor_ne]
  show (evs F .bor xs env dr).bind _ = _
  rw [h2 .bor dr bor_ne]
  exact lift_ne hm hf dr
end
end Ly
namespace Ly
open PySem PySem.Spec PyProof.Rows L2
/-! loops that may end early -/
section
variable (F : Nat → List D → Dr → Oc) (W : Nat) (t : Tg) (body : Sts)
def FN (ds : List D) (env env' : List Sl) : Prop := ∀ dr, forGo (tnF (exs F W body) t) ds ⟨env, dr⟩ = .ok .nx ⟨env', dr⟩
def FR (ds : List D) (env : List Sl) (d : D) : Prop := ∀ dr, ∃ s, forGo (tnF (exs F W body) t) ds ⟨env, dr⟩ = .ok (.rt d) s ∧ s.dr = dr
def FX (ds : List D) (env : List Sl) (e : Nat) : Prop := ∀ dr, ∃ s, forGo (tnF (exs F W body) t) ds ⟨env, dr⟩ = .err e s ∧ s.dr = dr
end
section
variable {F : Nat → List D → Dr → Oc} {W e : Nat} {t : Tg} {body r : Sts} {it : Itx} {env env1 env2 env' : List Sl} {d x : D} {ds : List D}
theorem turn_eq (ht : tgo t x env = some env1) (dr : Dr) : tnF (exs F W body) t x ⟨env, dr⟩ = exs F W body ⟨env1, dr⟩ := by
  unfold tnF
  dsimp only
  rw [ht]
theorem fn_nil : FN F W t body [] env env := fun _ => rfl
theorem forGo_nx (ht : tgo t x env = some env1) (hb : PN F W body env1 env2) (dr : Dr) : forGo (tnF (exs F W body) t) (x :: ds) ⟨env, dr⟩ = forGo (tnF (exs F W body) t) ds ⟨env2, dr⟩ := by
  conv => lhs; unfold forGo
  rw [turn_eq ht, hb dr]
theorem fn_cons (ht : tgo t x env = some env1) (hb : PN F W body env1 env2) (hr : FN F W t body ds env2 env') : FN F W t body (x :: ds) env env' := fun dr => by
  rw [forGo_nx ht hb]
  exact hr dr
theorem fr_cons (ht : tgo t x env = some env1) (hb : PN F W body env1 env2) (hr : FR F W t body ds env2 d) : FR F W t body (x :: ds) env d := fun dr => by
  rw [forGo_nx ht hb]
  exact hr dr
theorem fx_cons (ht : tgo t x env = some env1) (hb : PN F W body env1 env2) (hr : FX F W t body ds env2 e) : FX F W t body (x :: ds) env e := fun dr => by
  rw [forGo_nx ht hb]
  exact hr dr
theorem fr_here (ht : tgo t x env = some env1) (hb : PB F W body env1 d) : FR F W t body (x :: ds) env d := fun dr => by
  obtain ⟨s, h1, h2⟩ := hb dr
  refine ⟨s, ?_, h2⟩
  unfold forGo
  rw [turn_eq ht, h1]
theorem fx_here (ht : tgo t x env = some env1) (hb : PBX F W body env1 e) : FX F W t body (x :: ds) env e := fun dr => by
  obtain ⟨s, h1, h2⟩ := hb dr
  refine ⟨s, ?_, h2⟩
  unfold forGo
  rw [turn_eq ht, h1]
theorem for_ev (hi : PIt F it env ds) (dr : Dr) : exs F W (.cons (.for t it body) r) ⟨env, dr⟩ = (forGo (tnF (exs F W body) t) ds ⟨env, dr⟩).bind (seqO (exs F W r)) := by
  show ((evi F .frz it env dr).toO env (forGo (tnF (exs F W body) t))).bind _ = _
  rw [hi .frz dr frz_ne]; rfl
theorem pb_forN (hi : PIt F it env ds) (h : FN F W t body ds env env1) (hr : PB F W r env1 d) : PB F W (.cons (.for t it body) r) env d := fun dr => by
  obtain ⟨s, h1, h2⟩ := hr dr
  refine ⟨s, ?_, h2⟩
  rw [for_ev hi, h dr]
  exact h1
theorem pb_forR (hi : PIt F it env ds) (h : FR F W t body ds env d) : PB F W (.cons (.for t it body) r) env d := fun dr => by
  obtain ⟨s, h1, h2⟩ := h dr
  refine ⟨s, ?_, h2⟩
  rw [for_ev hi, h1]; rfl
theorem pbx_forX (hi : PIt F it env ds) (h : FX F W t body ds env e) : PBX F W (.cons (.for t it body) r) env e := fun dr => by
  obtain ⟨s, h1, h2⟩ := h dr
  refine ⟨s, ?_, h2⟩
  rw [for_ev hi, h1]; rfl
theorem pbx_forN (hi : PIt F it env ds) (h : FN F W t body ds env env1) (hr : PBX F W r env1 e) : PBX F W (.cons (.for t it body) r) env e := fun dr => by
  obtain ⟨s, h1, h2⟩ := hr dr
  refine ⟨s, ?_, h2⟩
  rw [for_ev hi, h dr]
  exact h1
end
end Ly

set_option Elab.async false
set_option linter.all false
set_option maxRecDepth 100000
set_option maxHeartbeats 2000000
/-! Ly: one statement at a time; held slots; while loops; dicts. -/
namespace Ly
open PySem PySem.Spec PyProof.Rows L2
section
variable (F : Nat → List D → Dr → Oc) (W : Nat)
/-- one statement -/
def STm (st : St) (env env' : List Sl) : Prop := ∀ dr, ex F W st ⟨env, dr⟩ = .ok .nx ⟨env', dr⟩
/-- a value, looked at only -/
def PVb (x : Ex) (env : List Sl) (d : D) : Prop := ∀ dr, ev F .bor x env dr = .ok d dr
def PLb (xs : Exs) (env : List Sl) (ds : List D) : Prop := ∀ dr, evs F .bor xs env dr = .ok ds dr
def WN (c : Ex) (body : Sts) (n : Nat) (env env' : List Sl) : Prop := ∀ dr, whlGo (fun s => ev F .tst c s.env s.dr) (fun s => exs F W body s) n ⟨env, dr⟩ = .ok .nx ⟨env', dr⟩
def WXx (c : Ex) (body : Sts) (n : Nat) (env : List Sl) (e : Nat) : Prop := ∀ dr, ∃ s, whlGo (fun s => ev F .tst c s.env s.dr) (fun s => exs F W body s) n ⟨env, dr⟩ = .err e s ∧ s.dr = dr
end
section
variable {F : Nat → List D → Dr → Oc} {W : Nat} {env env1 env' : List Sl} {st : St} {a b r body : Sts} {c x y z : Ex} {xs : Exs} {d d1 d2 d3 : D} {ds : List D} {i n e : Nat} {t : Tg}
theorem pn_st (h : STm F W st env env1) (hr : PN F W r env1 env') : PN F W (.cons st r) env env' := fun dr => by
  show (ex F W st ⟨env, dr⟩).bind (seqO (exs F W r)) = _
  rw [h dr]; exact hr dr
theorem pn_one (h : STm F W st env env') : PN F W (.cons st .nil) env env' := pn_st h pn_nil
theorem pb_st (h : STm F W st env env1) (hr : PB F W r env1 d) : PB F W (.cons st r) env d := fun dr => by
  obtain ⟨s, h1, h2⟩ := hr dr
  refine ⟨s, ?_, h2⟩
  show (ex F W st ⟨env, dr⟩).bind (seqO (exs F W r)) = _
  rw [h dr]; exact h1
theorem pbx_st (h : STm F W st env env1) (hr : PBX F W r env1 e) : PBX F W (.cons st r) env e := fun dr => by
  obtain ⟨s, h1, h2⟩ := hr dr
  refine ⟨s, ?_, h2⟩
  show (ex F W st ⟨env, dr⟩).bind (seqO (exs F W r)) = _
  rw [h dr]; exact h1
theorem st_asg (h : PV F x env d) (ht : tgo t d env = some env') : STm F W (.asg t x) env env' := fun dr => by
  show (ev F .frz x env dr).toO env (kAsg t) = _
  rw [h .frz dr frz_ne]
  show kAsg t d ⟨env, dr⟩ = _
  unfold kAsg
  rw [ht]
theorem st_own (h : PV F x env d) : STm F W (.own i x) env (env.set i (.ow d)) := fun dr => by
  show (ev F .frz x env dr).toO env (kSet true i) = _
  rw [h .frz dr frz_ne]; rfl
theorem st_par {ts : List (Nat × Bool)} (h : PLs F xs env ds) (ht : parE ts ds env = some env') : STm F W (.par ts xs) env env' := fun dr => by
  show (evs F .frz xs env dr).toO env (kPar ts) = _
  rw [h .frz dr frz_ne]
  show kPar ts ds ⟨env, dr⟩ = _
  unfold kPar
  rw [ht]
theorem st_app (hi : env[i]? = some (.ow (.list ds))) (hl : ds.length < 16777216) (h : PV F x env d) : STm F W (.app i x) env (env.set i (.ow (.list (ds ++ [d])))) := fun dr => by
  show (match env[i]? with
    | some (.ow (.list ds)) => (ev F .frz x env dr).toO env fun d s => if decide (ds.length < 16777216) then Out.ok Fl.nx (setE s i (.ow (.list (ds ++ [d])))) else .stk
    | _ => .stk : Out Fl) = _
  rw [hi]
  dsimp only
  rw [h .frz dr frz_ne]
  show (if decide (ds.length < 16777216) then (Out.ok Fl.nx (setE ⟨env, dr⟩ i (.ow (.list (ds ++ [d])))) : Out Fl) else .stk) = _
  rw [if_pos (decide_eq_true hl)]; rfl
theorem st_setI {o o' kd : D} (hi : env[i]? = some (.ow o)) (h : PV F x env d) (hk : PV F y env kd) (hs : setD o kd d = some o') : STm F W (.setI i y x) env (env.set i (.ow o')) := fun dr => by
  show (match env[i]? with
    | some (.ow o) => (ev F .frz x env dr).toO env fun d s => (ev F .frz y s.env s.dr).toO s.env fun k s => match setD o k d with
      | some o' => Out.ok Fl.nx (setE s i (.ow o'))
      | none => .stk
    | _ => .stk : Out Fl) = _
  rw [hi]
  dsimp only
  rw [h .frz dr frz_ne]
  show (ev F .frz y env dr).toO env (fun k s => match setD o k d with
      | some o' => (Out.ok Fl.nx (setE s i (.ow o')) : Out Fl)
      | none => .stk) = _
  rw [hk .frz dr frz_ne]
  show (match setD o kd d with
      | some o' => (Out.ok Fl.nx (setE ⟨env, dr⟩ i (.ow o')) : Out Fl)
      | none => .stk) = _
  rw [hs]; rfl
theorem st_frz (hi : env[i]? = some (.ow d)) : STm F W (.frz i) env (env.set i (.fz d)) := fun dr => by
  show (match env[i]? with
    | some (.ow d) => Out.ok Fl.nx (setE ⟨env, dr⟩ i (.fz d))
    | some _ => .ok .nx ⟨env, dr⟩
    | none => .stk) = _
  rw [hi]; rfl
theorem st_pop0 (hi : env[i]? = some (.ow (.list (ds ++ [d])))) (ht : tgo t d (env.set i (.ow (.list ds))) = some env') : STm F W (.pop t i .none) env env' := fun dr => by
  show (match env[i]? with
    | some (.ow (.list ds)) => (match popD ds none with
      | some (d, r) => match tgo t d (env.set i (.ow (.list r))) with
        | some env => Out.ok Fl.nx (⟨env, dr⟩ : S)
        | none => .stk
      | none => .stk)
    | _ => .stk : Out Fl) = _
  rw [hi]
  dsimp only
  rw [show popD (ds ++ [d]) none = some (d, ds) by unfold popD; simp]
  dsimp only
  rw [ht]
theorem st_aug {p q : Int} (hi : env[i]? = some (.fz (.int p))) (h : PV F x env (.int q)) : STm F W (.aug .add i x) env (env.set i (.fz (.int (p + q)))) := fun dr => by
  show (match env[i]? with
    | some (.fz (.int a)) => (ev F .bor x env dr).toO env fun y s => match augD .add a y with
      | some k => Out.ok Fl.nx (setE s i (.fz (.int k)))
      | none => .stk
    | _ => .stk : Out Fl) = _
  rw [hi]
  dsimp only
  rw [h .bor dr bor_ne]; rfl
theorem st_for {it : Itx} (hi : PIt F it env ds) (h : FN F W t body ds env env') : STm F W (.for t it body) env env' := fun dr => by
  show (evi F .frz it env dr).toO env (forGo (tnF (exs F W body) t)) = _
  rw [hi .frz dr frz_ne]
  exact h dr
theorem st_whl (h : WN F W c body W env env') : STm F W (.whl c body) env env' := fun dr => h dr
theorem st_ifT (h : PT' F c env true) (ha : PN F W a env env') : STm F W (.ifs c a b) env env' := fun dr => by
  show ((ev F .tst c env dr).toO env fun (d : D) s => (match d with
      | .bool true => exs F W a s
      | _ => exs F W b s : Out Fl)) = _
  rw [h dr]; exact ha dr
theorem st_ifF (h : PT' F c env false) (hb : PN F W b env env') : STm F W (.ifs c a b) env env' := fun dr => by
  show ((ev F .tst c env dr).toO env fun (d : D) s => (match d with
      | .bool true => exs F W a s
      | _ => exs F W b s : Out Fl)) = _
  rw [h dr]; exact hb dr
theorem st_if0 (h : PT' F c env false) : STm F W (.ifs c a .nil) env env := st_ifF h pn_nil
/-! ### while -/
theorem wn_end (h : PT' F c env false) : WN F W c body (n + 1) env env := fun dr => by
  unfold whlGo
  dsimp only
  rw [h dr]
theorem wn_nx (h : PT' F c env true) (hb : PN F W body env env1) (hn : WN F W c body n env1 env') : WN F W c body (n + 1) env env' := fun dr => by
  unfold whlGo
  dsimp only
  rw [h dr]
  dsimp only
  rw [hb dr]
  exact hn dr
theorem wx_here (h : PT' F c env true) (hb : PBX F W body env e) : WXx F W c body (n + 1) env e := fun dr => by
  obtain ⟨s, h1, h2⟩ := hb dr
  refine ⟨s, ?_, h2⟩
  unfold whlGo
  dsimp only
  rw [h dr]
  dsimp only
  rw [h1]
theorem wx_nx (h : PT' F c env true) (hb : PN F W body env env1) (hn : WXx F W c body n env1 e) : WXx F W c body (n + 1) env e := fun dr => by
  obtain ⟨s, h1, h2⟩ := hn dr
  refine ⟨s, ?_, h2⟩
  unfold whlGo
  dsimp only
  rw [h dr]
  dsimp only
  rw [hb dr]
  exact h1
theorem whl_up {s : S} {o : Out Fl} (ho : o ≠ .stk) : ∀ {n : Nat} {s : S}, whlGo (fun s => ev F .tst c s.env s.dr) (fun s => exs F W body s) n s = o → whlGo (fun s => ev F .tst c s.env s.dr) (fun s => exs F W body s) (n + 1) s = o := by
  intro n
  induction n with
  | zero => intro s h; exact absurd h.symm ho
  | succ n ih =>
    intro s h
    unfold whlGo at h ⊢
    revert h
    split
    · split
      · exact ih
      · exact ih
      all_goals exact id
    all_goals exact id
theorem wn_le {m : Nat} (hm : n ≤ m) (h : WN F W c body n env env') : WN F W c body m env env' := by
  induction hm with
  | refl => exact h
  | step _ ih => exact fun dr => whl_up (s := ⟨env, dr⟩) (by intro h; cases h) (ih dr)
theorem wx_le {m : Nat} (hm : n ≤ m) (h : WXx F W c body n env e) : WXx F W c body m env e := by
  induction hm with
  | refl => exact h
  | step _ ih =>
    intro dr
    obtain ⟨s, h1, h2⟩ := ih dr
    exact ⟨s, whl_up (s := ⟨env, dr⟩) (by intro h; cases h) h1, h2⟩
theorem pbx_whl (h : WXx F W c body W env e) : PBX F W (.cons (.whl c body) r) env e := fun dr => by
  obtain ⟨s, h1, h2⟩ := h dr
  refine ⟨s, ?_, h2⟩
  show (whlGo (fun s => ev F .tst c s.env s.dr) (fun s => exs F W body s) W ⟨env, dr⟩).bind (seqO (exs F W r)) = _
  rw [h1]; rfl
/-! ### what is looked at -/
theorem pvb (h : PV F x env d) : PVb F x env d := fun dr => h .bor dr bor_ne
theorem pvb_own (h : env[i]? = some (.ow d)) : PVb F (.var i) env d := fun dr => by
  show vari .bor env[i]? dr = _
  rw [h]; rfl
theorem pt_own {k : Bool} (h : env[i]? = some (.ow d)) (ht : truD d = some k) : PT' F (.var i) env k := fun dr => by
  show vari .tst env[i]? dr = _
  rw [h]
  show (match truD d with
    | some b => (.ok (.bool b) dr : R D)
    | none => .stk) = _
  rw [ht]
theorem plb_nil : PLb F .nil env [] := fun _ => rfl
theorem plb_cons (h1 : PVb F x env d) (h2 : PLb F xs env ds) : PLb F (.cons x xs) env (d :: ds) := fun dr => by
  show (ev F .bor x env dr).bind _ = _
  rw [h1 dr]
  show (evs F .bor xs env dr).bind _ = _
  rw [h2 dr]; rfl
theorem cmp_evb {o : Co} {k : Bool} {m : Md} (h1 : PVb F x env d1) (h2 : PVb F y env d2) (h : cmpD o d1 d2 = some k) (dr : Dr) : ev F m (.cmp o x y) env dr = .ok (.bool k) dr := by
  show (ev F .bor x env dr).bind _ = _
  rw [h1 dr]
  show (ev F .bor y env dr).bind _ = _
  rw [h2 dr]
  show liftB (cmpD o d1 d2) dr = _
  rw [h]; rfl
theorem pvb_cmp {o : Co} {k : Bool} (h1 : PVb F x env d1) (h2 : PVb F y env d2) (h : cmpD o d1 d2 = some k) : PV F (.cmp o x y) env (.bool k) := fun m dr _ => cmp_evb h1 h2 h dr
theorem ptb_cmp {o : Co} {k : Bool} (h1 : PVb F x env d1) (h2 : PVb F y env d2) (h : cmpD o d1 d2 = some k) : PT' F (.cmp o x y) env k := fun dr => cmp_evb h1 h2 h dr
theorem pvb_idx (h1 : PVb F x env d1) (h2 : PVb F y env d2) (h : idxD d1 d2 = some d) : PV F (.idx x y) env d := fun m dr hm => by
  show (ev F .bor x env dr).bind _ = _
  rw [h1 dr]
  show (ev F .bor y env dr).bind _ = _
  rw [h2 dr]
  exact lift_ne hm h dr
theorem pvb_bf {f : Bf} (h : PLb F xs env ds) (hf : bfD f ds = some d) : PV F (.bf f xs) env d := fun m dr hm => by
  show (evs F .bor xs env dr).bind _ = _
  rw [h dr]
  exact lift_ne hm hf dr
theorem pvb_bin {o : Bo} (h1 : PVb F x env d1) (h2 : PVb F y env d2) (h : binD o d1 d2 = some d) : PV F (.bin o x y) env d := fun m dr hm => by
  show (ev F .bor x env dr).bind _ = _
  rw [h1 dr]
  show (ev F .bor y env dr).bind _ = _
  rw [h2 dr]
  exact lift_ne hm h dr
theorem pv_dg1 {o : Option D} (h1 : PVb F x env d1) (h2 : PVb F y env d2) (hi : isDct d1 = true) (h : dgetD d1 d2 = some o) : PV F (.dg1 x y) env (o.getD .none) := fun m dr hm => by
  show (ev F .bor x env dr).bind _ = _
  rw [h1 dr]
  show (if isDct d1 then (ev F .bor y env dr).bind fun y dr => lift m ((dgetD d1 y).map fun o => o.getD .none) dr else .stk) = _
  rw [if_pos hi, h2 dr]
  show lift m ((dgetD d1 d2).map fun o => o.getD .none) dr = _
  rw [h]; exact fin_ne hm _ dr
theorem pv_dg2 {o : Option D} (h1 : PVb F x env d1) (h2 : PVb F y env d2) (h3 : PV F z env d3) (hi : isDct d1 = true) (h : dgetD d1 d2 = some o) : PV F (.dg2 x y z) env (o.getD d3) := fun m dr hm => by
  show (ev F .bor x env dr).bind _ = _
  rw [h1 dr]
  show (if isDct d1 then (ev F .bor y env dr).bind fun y dr => (ev F .frz z env dr).bind fun z dr => lift m ((dgetD d1 y).map fun o => o.getD z) dr else .stk) = _
  rw [if_pos hi, h2 dr]
  show ((ev F .frz z env dr).bind fun z dr => lift m ((dgetD d1 d2).map fun o => o.getD z) dr) = _
  rw [h3 .frz dr frz_ne]
  show lift m ((dgetD d1 d2).map fun o => o.getD d3) dr = _
  rw [h]; exact fin_ne hm _ dr
theorem pv_ixo {j : Nat} (h1 : PVb F x env (.list ds)) (h2 : PVb F y env d2) (h : meD .index (.list ds) [d2] = some d) : PV F (.ixo x y) env d := fun m dr hm => by
  show (ev F .bor x env dr).bind _ = _
  rw [h1 dr]
  show ((ev F .bor y env dr).bind fun y dr => lift m (meD .index (.list ds) [y]) dr) = _
  rw [h2 dr]
  exact lift_ne hm h dr
theorem pv_dct0 (t : Bool) : PV F (.dct0 t) env (dmk t []) := fun m dr hm => fin_ne hm _ dr
theorem pv_dct1 {t : Bool} (h1 : PV F x env d1) (h2 : PV F y env d2) (hk : keyOk t d1 = true) : PV F (.dct1 t x y) env (dmk t [(d1, d2)]) := fun m dr hm => by
  show (ev F .frz x env dr).bind _ = _
  rw [h1 .frz dr frz_ne]
  show (ev F .frz y env dr).bind _ = _
  rw [h2 .frz dr frz_ne]
  show lift m (if keyOk t d1 then some (dmk t [(d1, d2)]) else none) dr = _
  rw [if_pos hk]; exact fin_ne hm _ dr
end
/-! ### dicts told by lists of pairs -/
section
variable {α : Type} [DecidableEq α] {e : α → D}
/-- an encoding of keys -/
structure KEnc (t : Bool) (e : α → D) : Prop where
  eq : ∀ a b, keq (e a) (e b) = decide (a = b)
  ok : ∀ a, keyOk t (e a) = true
theorem keqL_map {β : Type} [DecidableEq β] {f : β → D} (h : ∀ a b, keq0 (f a) (f b) = decide (a = b)) : ∀ a b : List β, keqL (a.map f) (b.map f) = decide (a = b)
  | [], [] => rfl
  | [], _ :: _ => (decide_eq_false (fun h => by cases h)).symm
  | _ :: _, [] => (decide_eq_false (fun h => by cases h)).symm
  | x :: xs, y :: ys => by
    show (keq0 (f x) (f y) && keqL (xs.map f) (ys.map f)) = _
    rw [h, keqL_map h xs ys]
    by_cases e : x = y
    · by_cases e2 : xs = ys
      · simp [e, e2]
      · simp [e, e2]
    · simp [e]
theorem kenc_nat : KEnc false natD := ⟨fun a b => by
  show decide ((a : Int) = (b : Int)) = _
  exact decide_eq_decide.mpr (by omega), fun _ => rfl⟩
theorem kenc_ints : KEnc true intsT := ⟨fun a b => by
  show keqL (a.map .int) (b.map .int) = _
  exact keqL_map (fun a b => rfl) a b, fun a => by
  show (a.map PyData.int).all isKey0 = true
  rw [List.all_map]
  exact List.all_eq_true.mpr fun _ _ => rfl⟩
/-- a table's pairs -/
def tabP (e : α → D) (l : List (α × D)) : List (D × D) := l.map fun p => (e p.1, p.2)
def lookL (l : List (α × D)) (k : α) : Option D := (l.find? fun p => decide (p.1 = k)).map (·.2)
theorem dsD_mk {t : Bool} (h : KEnc t e) (l : List (α × D)) : (match dmk t (tabP e l) with
    | .dict qs => dsD qs
    | _ => none) = some (t, tabP e l) := by
  cases t with
  | true => rfl
  | false =>
    cases l with
    | nil => rfl
    | cons p l =>
      have := h.ok p.1
      show dsD ((e p.1, p.2) :: tabP e l) = some (false, (e p.1, p.2) :: tabP e l)
      cases he : e p.1 with
      | int i => rfl
      | str i => rfl
      | _ => rw [he] at this; cases this
theorem lookD_tab {t : Bool} (h : KEnc t e) (l : List (α × D)) (k : α) : lookD (tabP e l) (e k) = lookL l k := by
  induction l with
  | nil => rfl
  | cons p l ih =>
    show lookD ((e p.1, p.2) :: tabP e l) (e k) = _
    rw [lookD_cons, h.eq, ih]
    unfold lookL
    rw [List.find?_cons]
    by_cases c : p.1 = k
    · rw [if_pos (decide_eq_true c), decide_eq_true c]; rfl
    · rw [if_neg (by simp [c]), decide_eq_false c]
theorem dget_tab {t : Bool} (h : KEnc t e) (l : List (α × D)) (k : α) : dgetD (dmk t (tabP e l)) (e k) = some (lookL l k) := by
  have hd := dsD_mk h l
  cases t with
  | true =>
    show (match dsD ((.bool false, .none) :: tabP e l) with
      | some (t, ps) => if keyOk t (e k) then some (lookD ps (e k)) else none
      | none => none) = _
    rw [show dsD ((.bool false, .none) :: tabP e l) = some (true, tabP e l) from hd]
    dsimp only
    rw [if_pos (h.ok k), lookD_tab h]
  | false =>
    show (match dsD (tabP e l) with
      | some (t, ps) => if keyOk t (e k) then some (lookD ps (e k)) else none
      | none => none) = _
    rw [show dsD (tabP e l) = some (false, tabP e l) from hd]
    dsimp only
    rw [if_pos (h.ok k), lookD_tab h]
theorem lookL_none {l : List (α × D)} {k : α} : lookL l k = none ↔ k ∉ l.map (·.1) := by
  unfold lookL
  rw [Option.map_eq_none_iff, List.find?_eq_none]
  constructor
  · intro h hm
    obtain ⟨p, hp, rfl⟩ := List.mem_map.mp hm
    exact h p hp (decide_eq_true rfl)
  · intro h p hp c
    exact h (List.mem_map.mpr ⟨p, hp, of_decide_eq_true c⟩)
theorem dput_new {t : Bool} (h : KEnc t e) {l : List (α × D)} {k : α} {v : D} (hn : k ∉ l.map (·.1)) (hl : l.length < 16777216) : dputD (dmk t (tabP e l)) (e k) v = some (dmk t (tabP e (l ++ [(k, v)]))) := by
  have hd := dsD_mk h l
  have hput : putD (tabP e l) (e k) v = tabP e (l ++ [(k, v)]) := by
    unfold putD
    rw [if_neg]
    · unfold tabP; rw [List.map_append]; rfl
    · intro c
      obtain ⟨p, hp, c⟩ := List.any_eq_true.mp c
      obtain ⟨q, hq, rfl⟩ := List.mem_map.mp hp
      rw [h.eq] at c
      exact hn (List.mem_map.mpr ⟨q, hq, of_decide_eq_true c⟩)
  have hlen : (tabP e l).length < 16777216 := by unfold tabP; rw [List.length_map]; exact hl
  have hc : (keyOk t (e k) && decide ((tabP e l).length < 16777216)) = true := by rw [h.ok k, decide_eq_true hlen]; rfl
  cases t with
  | true =>
    show (match dsD ((.bool false, .none) :: tabP e l) with
      | some (t, ps) => if keyOk t (e k) && decide (ps.length < 16777216) then some (dmk t (putD ps (e k) v)) else none
      | none => none) = _
    rw [show dsD ((.bool false, .none) :: tabP e l) = some (true, tabP e l) from hd]
    dsimp only
    rw [if_pos hc, hput]
  | false =>
    show (match dsD (tabP e l) with
      | some (t, ps) => if keyOk t (e k) && decide (ps.length < 16777216) then some (dmk t (putD ps (e k) v)) else none
      | none => none) = _
    rw [show dsD (tabP e l) = some (false, tabP e l) from hd]
    dsimp only
    rw [if_pos hc, hput]
theorem isDct_tab {t : Bool} (h : KEnc t e) (l : List (α × D)) : isDct (dmk t (tabP e l)) = true := by
  have hd := dsD_mk h l
  cases t with
  | true => rfl
  | false =>
    show (dsD (tabP e l)).isSome = true
    rw [show dsD (tabP e l) = some (false, tabP e l) from hd]; rfl
theorem in_tab {t : Bool} (h : KEnc t e) (l : List (α × D)) (k : α) : cmpD .isin (e k) (dmk t (tabP e l)) = some (decide (k ∈ l.map (·.1))) := by
  have hg := dget_tab h l k
  have : cmpD .isin (e k) (dmk t (tabP e l)) = (dgetD (dmk t (tabP e l)) (e k)).map (·.isSome) := by cases t <;> rfl
  rw [this, hg]
  show some (lookL l k).isSome = _
  cases hk : lookL l k with
  | none => rw [decide_eq_false (lookL_none.mp hk)]; rfl
  | some d =>
    rw [decide_eq_true]
    · rfl
    · exact Classical.byContradiction fun c => by rw [lookL_none.mpr c] at hk; cases hk
theorem nin_tab {t : Bool} (h : KEnc t e) (l : List (α × D)) (k : α) : cmpD .notin (e k) (dmk t (tabP e l)) = some (!decide (k ∈ l.map (·.1))) := by
  show (inD (e k) (dmk t (tabP e l))).map (!·) = _
  have : inD (e k) (dmk t (tabP e l)) = some (decide (k ∈ l.map (·.1))) := in_tab h l k
  rw [this]; rfl
theorem idx_tab {t : Bool} (h : KEnc t e) {l : List (α × D)} {k : α} {d : D} (hk : lookL l k = some d) : idxD (dmk t (tabP e l)) (e k) = some d := by
  have hg := dget_tab h l k
  rw [hk] at hg
  have : idxD (dmk t (tabP e l)) (e k) = (match dgetD (dmk t (tabP e l)) (e k) with
    | some o => o
    | none => none) := by cases t <;> rfl
  rw [this, hg]
end
end Ly

set_option Elab.async false
set_option linter.all false
set_option maxRecDepth 100000
set_option maxHeartbeats 2000000
/-! Ly: nets as data. -/
namespace Ly
open PySem PySem.Spec PyProof.Rows L2
structure Mv where
  nm : Str
  pre : List Int
  post : List Int
structure Nt where
  P : List Str
  M : List Mv
def Mv.d (m : Mv) : D := .tuple [.str m.nm, intsT m.pre, intsT m.post]
def Nt.d (n : Nt) : D := .tuple [.tuple (n.P.map .str), .tuple (n.M.map Mv.d)]
abbrev Nt.L (n : Nt) : Nat := n.P.length
def abc : List Str := ["a", "b", "c", "d", "e"]
def pqr : List Str := ["p", "q", "r", "s", "t"]
/-- a row of a net: so long, its numbers within 0 .. 9 -/
def Rw (L : Nat) (r : List Int) : Prop := r.length = L ∧ ∀ x ∈ r, 0 ≤ x ∧ x ≤ 9
structure Nt.Ok (n : Nt) : Prop where
  pre : ∀ m ∈ n.M, Rw n.L m.pre
  post : ∀ m ∈ n.M, Rw n.L m.post
  pos : 0 < n.L
  h5 : n.L ≤ 5
  pl : ∃ h, n.P = abc.take h
  mv : ∃ g, g ≤ 5 ∧ n.M.map (·.nm) = pqr.take g
/-- an entry of a row, 0 outside -/
def at' (r : List Int) (p : Nat) : Int := r[p]?.getD 0
theorem at_ok {r : List Int} {p : Nat} (h : p < r.length) : r[p]? = some (at' r p) := by
  unfold at'
  rw [List.getElem?_eq_getElem h]; rfl
def Nt.mv (n : Nt) (t : Nat) : Mv := n.M[t]?.getD ⟨"", [], []⟩
theorem mv_ok {n : Nt} {t : Nat} (h : t < n.M.length) : n.M[t]? = some (n.mv t) := by
  unfold Nt.mv
  rw [List.getElem?_eq_getElem h]; rfl
/-- a row told by its entries -/
def rw' (L : Nat) (f : Nat → Int) : List Int := (List.range L).map f
theorem rw_len {L : Nat} {f : Nat → Int} : (rw' L f).length = L := by unfold rw'; rw [List.length_map, List.length_range]
theorem rw_at {L p : Nat} {f : Nat → Int} (h : p < L) : at' (rw' L f) p = f p := by
  unfold at' rw'
  rw [List.getElem?_map, List.getElem?_range h]; rfl
theorem rw_congr {L : Nat} {f g : Nat → Int} (h : ∀ p, p < L → f p = g p) : rw' L f = rw' L g := List.map_congr_left fun p hp => h p (List.mem_range.mp hp)
theorem rw_self {r : List Int} {L : Nat} (h : r.length = L) : r = rw' L (at' r) := by
  subst h
  refine List.ext_getElem? fun i => ?_
  unfold rw'
  rw [List.getElem?_map]
  by_cases hi : i < r.length
  · rw [List.getElem?_range hi, at_ok hi]; rfl
  · rw [List.getElem?_eq_none (by omega), List.getElem?_eq_none (by simpa using hi)]; rfl
theorem rwD {L : Nat} {f : Nat → Int} : PyData.tuple ((List.range L).map fun p => .int (f p)) = intsT (rw' L f) := by
  unfold intsT rw'
  rw [List.map_map]; rfl
theorem zip_at {a b : List Int} {L : Nat} (ha : a.length = L) (hb : b.length = L) : zip2 (a.map .int) (b.map .int) = (List.range L).map fun p => .tuple [.int (at' a p), .int (at' b p)] := by
  refine List.ext_getElem? fun i => ?_
  unfold zip2
  rw [List.getElem?_zipWith, List.getElem?_map, List.getElem?_map, List.getElem?_map]
  by_cases hi : i < L
  · rw [List.getElem?_range hi, at_ok (by omega : i < a.length), at_ok (by omega : i < b.length)]; rfl
  · rw [List.getElem?_eq_none (by omega : a.length ≤ i), List.getElem?_eq_none (by simpa using hi : (List.range L).length ≤ i)]; rfl
theorem zip3_at {a b c : List Int} {L : Nat} (ha : a.length = L) (hb : b.length = L) (hc : c.length = L) : zip3 (a.map .int) (b.map .int) (c.map .int) = (List.range L).map fun p => .tuple [.int (at' a p), .int (at' b p), .int (at' c p)] := by
  refine List.ext_getElem? fun i => ?_
  rw [List.getElem?_map]
  by_cases hi : i < L
  · rw [List.getElem?_range hi, zip3_get (x := .int (at' a i)) (y := .int (at' b i)) (z := .int (at' c i)) (by rw [List.getElem?_map, at_ok (by omega : i < a.length)]; rfl) (by rw [List.getElem?_map, at_ok (by omega : i < b.length)]; rfl) (by rw [List.getElem?_map, at_ok (by omega : i < c.length)]; rfl)]
    rfl
  · rw [List.getElem?_eq_none (by simpa using hi : (List.range L).length ≤ i), List.getElem?_eq_none]
    · rfl
    · rw [zip3_length, List.length_map, List.length_map, List.length_map]; omega
section
variable {F : Nat → List D → Dr → Oc} {env : List Sl} {n : Nt} {m : Mv} {t p : Nat}
theorem pv_moves {x : Ex} (h : PV F x env n.d) : PV F (.idx x (.con (.int 1))) env (.tuple (n.M.map Mv.d)) := pv_idx h pv_con rfl
theorem pv_places {x : Ex} (h : PV F x env n.d) : PV F (.idx x (.con (.int 0))) env (.tuple (n.P.map .str)) := pv_idx h pv_con rfl
theorem pv_move {x y : Ex} (h : PV F x env n.d) (h2 : PV F y env (natD t)) (ht : n.M[t]? = some m) : PV F (.idx (.idx x (.con (.int 1))) y) env m.d := pv_idx (pv_moves h) h2 (at_map ht)
theorem pv_pre {x : Ex} (h : PV F x env m.d) : PV F (.idx x (.con (.int 1))) env (intsT m.pre) := pv_idx h pv_con rfl
theorem pv_post {x : Ex} (h : PV F x env m.d) : PV F (.idx x (.con (.int 2))) env (intsT m.post) := pv_idx h pv_con rfl
theorem pv_ent {x y : Ex} {r : List Int} (h : PV F x env (intsT r)) (h2 : PV F y env (natD p)) (hp : p < r.length) : PV F (.idx x y) env (.int (at' r p)) := pv_idx h h2 (at_map (e := .int) (at_ok hp))
theorem pv_as {d d' : D} {x : Ex} (h : PV F x env d) (q : d = d') : PV F x env d' := q ▸ h
theorem pt_as {b b' : Bool} {x : Ex} (h : PT' F x env b) (q : b = b') : PT' F x env b' := q ▸ h
theorem pc_as {cs : Exs} {b b' : Bool} (h : PCs F cs env b) (q : b = b') : PCs F cs env b' := q ▸ h
theorem pv_nilL : PV F (.lst .nil) env (.list []) := pv_lst pl_nil rfl
theorem len_map {α : Type} {e : α → D} {l : List α} : lenD (.tuple (l.map e)) = some l.length := by
  show some (l.map e).length = _
  rw [List.length_map]
theorem blen {α : Type} {e : α → D} {l : List α} : bfD .len [.tuple (l.map e)] = some (natD l.length) := by
  show some (PyData.int (l.map e).length) = _
  rw [List.length_map]
theorem blenL {α : Type} {e : α → D} {l : List α} : bfD .len [.list (l.map e)] = some (natD l.length) := by
  show some (PyData.int (l.map e).length) = _
  rw [List.length_map]
theorem pi_zipI {a b : Ex} {x y : List Int} {L : Nat} (h1 : PV F a env (intsT x)) (h2 : PV F b env (intsT y)) (hx : x.length = L) (hy : y.length = L) :
    PIt F (.zip (.cons a (.cons b .nil))) env ((List.range L).map fun p => .tuple [.int (at' x p), .int (at' y p)]) :=
  pi_zip' (pl_cons h1 (pl_cons h2 pl_nil)) (congrArg some (zip_at hx hy))
theorem pi_zipI3 {a b c : Ex} {x y z : List Int} {L : Nat} (h1 : PV F a env (intsT x)) (h2 : PV F b env (intsT y)) (h3 : PV F c env (intsT z)) (hx : x.length = L) (hy : y.length = L) (hz : z.length = L) :
    PIt F (.zip (.cons a (.cons b (.cons c .nil)))) env ((List.range L).map fun p => .tuple [.int (at' x p), .int (at' y p), .int (at' z p)]) :=
  pi_zip' (pl_cons h1 (pl_cons h2 (pl_cons h3 pl_nil))) (congrArg some (zip3_at hx hy hz))
theorem rng1 (n : Nat) (h : n ≤ 1000) : rngD [natD n] = some ((List.range n).map natD) := by
  unfold rngD
  show (if rngOk (n : Int) && okLen (n : Int).toNat then some (rngL 0 n) else none) = _
  have h1 : rngOk (n : Int) = true := by unfold rngOk; simp only [Bool.and_eq_true, decide_eq_true_eq]; omega
  have h2 : okLen (n : Int).toNat = true := by unfold okLen; simp; omega
  rw [h1, h2, rngL_nat]; rfl
theorem intsD_ints (l : List Int) : intsD (l.map .int) = some l := by
  induction l with
  | nil => rfl
  | cons a l ih => rw [List.map_cons]; unfold intsD; rw [ih]; rfl
theorem sum_ints (l : List Int) : bfD .sum [.list (l.map .int)] = some (.int l.sum) := by
  show (match seqD (.list (l.map PyData.int)) with
    | some ds => (intsD ds).map fun is : List Int => PyData.int is.sum
    | none => none) = _
  show (intsD (l.map PyData.int)).map (fun is : List Int => PyData.int is.sum) = _
  rw [intsD_ints]; rfl
theorem sum_intsT (l : List Int) : bfD .sum [intsT l] = some (.int l.sum) := by
  show (intsD (l.map PyData.int)).map (fun is : List Int => PyData.int is.sum) = _
  rw [intsD_ints]; rfl
end
def covB (L : Nat) (a b : List Int) : Bool := (List.range L).all fun p => decide (at' b p ≤ at' a p)
theorem filter_emp' {α : Type} (p : α → Bool) (l : List α) : (l.filter p).isEmpty = l.all fun a => !p a := by
  induction l with
  | nil => rfl
  | cons a l ih =>
    rw [List.filter_cons, List.all_cons]
    cases p a with
    | true => rfl
    | false => simpa using ih
theorem sh0 : ∀ n : Nat, Shal 0 (natD n) := fun _ => shal_int
section
variable {α : Type} {e : α → D} {k : Nat} {l : List α}
theorem emp_map : (l.map e).isEmpty = l.isEmpty := by cases l <;> rfl
theorem cmp_eq_nil (hs : ∀ a, Shal k (e a)) (hk : k < 64) : cmpD .eq (.list (l.map e)) (.list []) = some l.isEmpty := by
  show eqD _ _ = _
  rw [eq_nil (shal_lst (shal_map hs l)) (by omega), emp_map]
theorem cmp_ne_nil (hs : ∀ a, Shal k (e a)) (hk : k < 64) : cmpD .ne (.list (l.map e)) (.list []) = some (!l.isEmpty) := by
  show (eqD _ _).map (!·) = _
  rw [eq_nil (shal_lst (shal_map hs l)) (by omega), emp_map]; rfl
end
theorem eqEnc_ints : EqEnc intsT := eqEnc_tup eqEnc_int
theorem eq_intsT (a b : List Int) : cmpD .eq (intsT a) (intsT b) = some (decide (a = b)) := eqD_enc eqEnc_ints shal_ints (by omega) a b
theorem ne_intsT (a b : List Int) : cmpD .ne (intsT a) (intsT b) = some (!decide (a = b)) := by
  show (eqD (intsT a) (intsT b)).map (!·) = _
  rw [eqD_enc eqEnc_ints shal_ints (by omega)]; rfl
theorem eq_ints (a b : Int) : cmpD .eq (.int a) (.int b) = some (decide (a = b)) := eqD_enc eqEnc_int (fun _ => shal_int) (k := 0) (by omega) a b
theorem ne_ints (a b : Int) : cmpD .ne (.int a) (.int b) = some (!decide (a = b)) := by
  show (eqD (.int a) (.int b)).map (!·) = _
  rw [eqD_enc eqEnc_int (fun _ => shal_int) (k := 0) (by omega)]; rfl
theorem eq_bools (a b : Bool) : cmpD .eq (.bool a) (.bool b) = some (decide (a = b)) := by cases a <;> cases b <;> rfl
theorem ne_bools (a b : Bool) : cmpD .ne (.bool a) (.bool b) = some (!decide (a = b)) := by cases a <;> cases b <;> rfl
/-- the same on both sides -/
theorem eq_same {d : D} {k : Nat} (h : Shal k d) (hk : k ≤ 64) : cmpD .eq d d = some true := by
  show eqD d d = _
  unfold eqD
  rw [h.shp hk, SeqAt.eqv_refl_plain d h.1]; rfl
theorem ne_same {d : D} {k : Nat} (h : Shal k d) (hk : k ≤ 64) : cmpD .ne d d = some false := by
  show (eqD d d).map (!·) = _
  unfold eqD
  rw [h.shp hk, SeqAt.eqv_refl_plain d h.1]; rfl
theorem isin_nat (x : Nat) (l : List Nat) : cmpD .isin (natD x) (.list (l.map natD)) = some (decide (x ∈ l)) := inD_lst eqEnc_nat sh0 (by omega) x l
/-- a run: its object known -/
abbrev runD (l : List Nat) : D := xtD (l.map natD)
/-! ### moves -/
abbrev Nt.take (n : Nt) (t p : Nat) : Int := at' (n.mv t).pre p
abbrev Nt.give (n : Nt) (t p : Nat) : Int := at' (n.mv t).post p
def Nt.eff (n : Nt) (t p : Nat) : Int := n.give t p - n.take t p
def canB (n : Nt) (mk : List Int) (t : Nat) : Bool := covB n.L mk (n.mv t).pre
def movedL (n : Nt) (mk : List Int) (t : Nat) : List Int := rw' n.L fun p => at' mk p - n.take t p + n.give t p
theorem moved_len {n : Nt} {mk : List Int} {t : Nat} : (movedL n mk t).length = n.L := rw_len
section
variable {n : Nt} (ok : n.Ok)
include ok
theorem ok_pre {t : Nat} (ht : t < n.M.length) : (n.mv t).pre.length = n.L := (ok.pre _ (List.mem_of_getElem? (mv_ok ht))).1
theorem ok_post {t : Nat} (ht : t < n.M.length) : (n.mv t).post.length = n.L := (ok.post _ (List.mem_of_getElem? (mv_ok ht))).1
theorem take_nn {t p : Nat} (ht : t < n.M.length) (hp : p < n.L) : 0 ≤ n.take t p ∧ n.take t p ≤ 9 := (ok.pre _ (List.mem_of_getElem? (mv_ok ht))).2 _ (List.mem_of_getElem? (at_ok (by rw [ok_pre ok ht]; exact hp)))
theorem give_nn {t p : Nat} (ht : t < n.M.length) (hp : p < n.L) : 0 ≤ n.give t p ∧ n.give t p ≤ 9 := (ok.post _ (List.mem_of_getElem? (mv_ok ht))).2 _ (List.mem_of_getElem? (at_ok (by rw [ok_post ok ht]; exact hp)))
end
def cans (n : Nt) (mk : List Int) : List Nat := (List.range n.M.length).filter (canB n mk)
theorem moved_eq {n : Nt} {mk : List Int} {t : Nat} : rw' n.L (fun p => at' mk p + at' (rw' n.L (n.eff t)) p) = movedL n mk t := rw_congr fun p hp => by
  rw [rw_at hp]
  unfold Nt.eff
  omega
def Wm (L : Nat) (m : Mv) : Prop := Rw L m.pre ∧ Rw L m.post
def IsNet (d : D) : Prop := ∃ n : Nt, d = n.d ∧ n.Ok
theorem five (l : List Str) (hl : l.length = 5) {h : Nat} (hh : h ≤ 5) : slcD (.tuple (l.map .str)) none (some (h : Int)) = some (.tuple ((l.take h).map .str)) := by
  match l, hl with
  | [a, b, c, d, e], _ =>
    match h, hh with
    | 0, _ => rfl
    | 1, _ => rfl
    | 2, _ => rfl
    | 3, _ => rfl
    | 4, _ => rfl
    | 5, _ => rfl
theorem rng_c (n : Nat) (h : n ≤ 1000) : rngD [.int n] = some ((List.range n).map natD) := rng1 n h
theorem pv_lenP {F : Nat → List D → Dr → Oc} {i : Nat} {P : List Str} (h : env[i]? = some (.fz (.tuple (P.map .str)))) : PV F (.bf .len (.cons (.var i) .nil)) env (natD P.length) := pv_bf (pl_cons (pv_var h) pl_nil) blen
theorem nat_lt {d : D} {m : Int} (h : ∃ i : Nat, d = natD i ∧ (i : Int) < m) : ∃ i, d = .int i ∧ (0 ≤ i ∧ i < m) := by
  obtain ⟨i, rfl, h⟩ := h
  exact ⟨i, rfl, by omega, h⟩
/-- a list's item at a drawn index -/
theorem at_all {α : Type} {e : α → D} {l : List α} {i : Nat} (h : i < l.length) : ∃ a ∈ l, L2.atI (l.map e) (i : Int) = some (e a) :=
  ⟨l[i], List.getElem_mem h, at_map (List.getElem?_eq_getElem h)⟩
def IsMk (n : Nt) (d : D) : Prop := ∃ mk : List Int, d = intsT mk ∧ Rw n.L mk
theorem shal_mv (m : Mv) : Shal 2 m.d := shal_tup (k := 1) fun d hd => by
  simp only [List.mem_cons, List.not_mem_nil, or_false] at hd
  rcases hd with rfl | rfl | rfl
  · exact shal_str.mono (by omega)
  · exact shal_ints _
  · exact shal_ints _
theorem eq_nilT {k : Nat} {ds : List D} (hs : Shal k (.tuple ds)) (hk : k ≤ 64) : eqD (.tuple ds) (.tuple []) = some ds.isEmpty := by
  unfold eqD
  rw [hs.shp hk, (shal_tup (k := 0) (ds := []) (by simp)).shp (by omega)]
  cases ds <;> rfl
theorem moves_nil (n : Nt) : eqD (.tuple (n.M.map Mv.d)) (.tuple []) = some n.M.isEmpty := by
  rw [eq_nilT (shal_tup (shal_map shal_mv n.M)) (by omega), emp_map]
theorem zip_enc : ∀ (a b : List Int), zip2 (a.map .int) (b.map .int) = (a.zip b).map fun x => .tuple [.int x.1, .int x.2]
  | [], _ => rfl
  | _ :: _, [] => rfl
  | a :: as, b :: bs => by
    have := zip_enc as bs
    unfold zip2 at this ⊢
    simp only [List.map_cons, List.zipWith_cons_cons, List.zip_cons_cons, this]
theorem mlen {n : Nt} (ok : n.Ok) : n.M.length ≤ 5 := by
  obtain ⟨g, g5, e⟩ := ok.mv
  have := congrArg List.length e
  rw [List.length_map, List.length_take] at this
  omega
theorem okL {n : Nat} (h : n ≤ 1000000) : okLen n = true := by
  unfold okLen
  exact decide_eq_true (by omega)
theorem rwT {L : Nat} {f : Nat → Int} : bfD .tuple [.list ((List.range L).map fun p => .int (f p))] = some (intsT (rw' L f)) := congrArg some rwD
theorem rw_in {L : Nat} {r : List Int} (h : Rw L r) {p : Nat} (hp : p < L) : 0 ≤ at' r p ∧ at' r p ≤ 9 := h.2 _ (List.mem_of_getElem? (at_ok (by rw [h.1]; exact hp)))
theorem rwL {L : Nat} {f : Nat → Int} : PyData.list ((List.range L).map fun p => .int (f p)) = .list ((rw' L f).map .int) := by
  unfold rw'
  rw [List.map_map]; rfl
section
variable {F : Nat → List D → Dr → Oc} {W : Nat} {env : List Sl} {a b c x y : Ex} {d : D} {ds : List D} {r : Sts} {Q : Fl → List Sl → Prop} {P : D → Prop} {xs : Exs}
theorem evo_at {i : Int} (h : PV F x env (.int i)) (dr : Dr) : evo F (.some x) env dr = .ok (some i) dr := by
  show (ev F .bor x env dr).bind _ = _
  rw [h .bor dr bor_ne]; rfl
theorem pt_orF (h1 : PT' F a env false) (h2 : PT' F b env false) : PT' F (.or a b) env false := pt_or (p := false) (q := false) h1 fun _ => h2
theorem pt_neS {k : Nat} (h1 : PV F a env d) (h2 : PV F b env d) (hs : Shal k d) (hk : k ≤ 64) : PT' F (.cmp .ne a b) env false := pt_cmp' h1 h2 (ne_same hs hk)
theorem pt_neI {l : List Int} (h1 : PV F a env (intsT l)) (h2 : PV F b env (intsT l)) : PT' F (.cmp .ne a b) env false := pt_neS h1 h2 (shal_ints l) (by omega)
theorem pt_neB {k : Bool} (h1 : PV F a env (.bool k)) (h2 : PV F b env (.bool k)) : PT' F (.cmp .ne a b) env false := pt_neS h1 h2 shal_bool (by omega)
theorem pt_neZ {k : Int} (h1 : PV F a env (.int k)) (h2 : PV F b env (.int k)) : PT' F (.cmp .ne a b) env false := pt_neS h1 h2 shal_int (by omega)
theorem gs_if0 {p r : Sts} {Q : Fl → List Sl → Prop} (h : PT' F c env false) (q : GS F W r env Q) : GS F W (.cons (.ifs c p .nil) r) env Q := gs_if (gt h) (fun h => by cases h) fun _ => gs_nil q
theorem gs_st {st : St} {env1 : List Sl} (h : STm F W st env env1) (q : GS F W r env1 Q) : GS F W (.cons st r) env Q := fun dr hd => by
  obtain ⟨f, e, dr1, h1, k1, p1⟩ := q dr hd
  refine ⟨f, e, dr1, ?_, k1, p1⟩
  show (ex F W st ⟨env, dr⟩).bind (seqO (exs F W r)) = _
  rw [h dr]; exact h1
theorem pv_lcN {own : List Nat} {tg : Tg} {it : Itx} {cs : Exs} {α : Type} {as : List α} {enc : α → D} (hi : PIt F it env (as.map enc)) (h : ∀ a ∈ as, ∃ env', tgo tg (enc a) (wipeE env own) = some env' ∧ PCs F cs env' false) : PV F (.lc own tg it cs x) env (.list []) := by
  have := pv_lc (F := F) (x := x) (g := enc) (p := fun _ => false) hi fun a ha => by
    obtain ⟨e, h1, h2⟩ := h a ha
    exact ⟨e, h1, h2, fun z => by cases z⟩
  rwa [show as.filter (fun _ => false) = [] from List.filter_eq_nil_iff.mpr fun a _ h => by cases h] at this
theorem gv_iteP {k : Bool} (h : PT' F c env k) (h1 : k = true → GV F a env P) (h2 : k = false → GV F b env P) : GV F (.ite c a b) env P := fun m dr hm hd => by
  have e : ev F m (.ite c a b) env dr = ev F m (if k then a else b) env dr := by
    show (ev F .tst c env dr).bind _ = _
    rw [h dr]
    cases k <;> rfl
  rw [e]
  cases k with
  | true => exact h1 rfl m dr hm hd
  | false => exact h2 rfl m dr hm hd
theorem gt_orF {Pk : Bool → Prop} (h1 : PT' F a env false) (h2 : GT F b env Pk) : GT F (.or a b) env Pk := fun dr hd => by
  obtain ⟨k, dr2, e2, k2, p2⟩ := h2 dr hd
  refine ⟨k, dr2, ?_, k2, p2⟩
  show (ev F .tst a env dr).bind _ = _
  rw [h1 dr]
  exact e2
theorem gt_notC {f : Nat} (hl : PLs F xs env ds) (h : GF F f ds (· = .bool true)) : GT F (.not (.call f xs)) env (· = false) := fun dr hd => by
  obtain ⟨d, dr2, e2, k2, p2⟩ := h dr hd
  refine ⟨false, dr2, ?_, k2, rfl⟩
  have e : ev F .tst (.call f xs) env dr = .ok (.bool true) dr2 := by
    show (evs F .frz xs env dr).bind _ = _
    rw [hl .frz dr frz_ne]
    show (match F f ds dr with
      | .ok d dr => fin .tst d dr
      | .err e dr => .err e dr
      | .stk => .stk : R D) = _
    rw [e2, p2]; rfl
  show (ev F .tst (.call f xs) env dr).bind _ = _
  rw [e]; rfl
end
theorem nil_ne : cmpD .ne (.list []) (.list []) = some false := rfl
theorem nil_eq : cmpD .eq (.list []) (.list []) = some true := rfl
def optD : Option (List Int) → D
  | some l => intsT l
  | none => .none
end Ly

set_option Elab.async false
set_option linter.all false
set_option maxRecDepth 100000
set_option maxHeartbeats 2000000
/-! Ly: walks through graphs, told plainly. -/
namespace Ly
open PySem PySem.Spec PyProof.Rows L2

inductive Path {α : Type} (E : α → α → Prop) : α → α → Prop
  | refl (a : α) : Path E a a
  | tail {a b c : α} : Path E a b → E b c → Path E a c
section
variable {α : Type} {E : α → α → Prop} {a b c : α}
theorem Path.trans (h : Path E a b) (h2 : Path E b c) : Path E a c := by
  induction h2 with
  | refl => exact h
  | tail _ e ih => exact .tail ih e
theorem Path.one (h : E a b) : Path E a b := .tail (.refl a) h
theorem Path.closed {S : α → Prop} (h0 : S a) (hs : ∀ u v, S u → E u v → S v) (h : Path E a b) : S b := by
  induction h with
  | refl => exact h0
  | tail _ e ih => exact hs _ _ ih e
theorem nodup_len [DecidableEq α] : ∀ {l U : List α}, l.Nodup → (∀ x ∈ l, x ∈ U) → l.length ≤ U.length
  | [], _, _, _ => Nat.zero_le _
  | a :: l, U, hn, hs => by
    obtain ⟨h1, h2⟩ := List.nodup_cons.mp hn
    have ha := hs a List.mem_cons_self
    have := nodup_len (l := l) (U := U.erase a) h2 fun x hx => (List.mem_erase_of_ne fun e => h1 (by rw [← e]; exact hx)).mpr (hs x (List.mem_cons_of_mem _ hx))
    rw [List.length_erase_of_mem ha] at this
    have hp : 0 < U.length := List.length_pos_of_mem ha
    rw [List.length_cons]
    omega
end
/-! ### round by round -/
structure Bf' (E : Nat → Nat → Prop) (r : Nat) (found fresh : List Nat) : Prop where
  nd : found.Nodup
  rt : r ∈ found
  pt : ∀ u ∈ found, Path E r u
  fr : ∀ u ∈ fresh, u ∈ found
  cl : ∀ u ∈ found, u ∉ fresh → ∀ v, E u v → v ∈ found
section
variable {E : Nat → Nat → Prop} {r k : Nat} {found fresh fresh' waiting U : List Nat}
theorem Bf'.start : Bf' E r [r] [r] := ⟨by simp, by simp, fun u hu => by rw [List.mem_singleton.mp hu]; exact .refl _, fun u hu => hu, fun u hu hn => absurd hu hn⟩
theorem Bf'.step (h : Bf' E r found fresh) (hn : fresh'.Nodup) (hm : ∀ v, v ∈ fresh' ↔ (v ∉ found ∧ ∃ u ∈ fresh, E u v)) : Bf' E r (found ++ fresh') fresh' := by
  refine ⟨List.nodup_append.mpr ⟨h.nd, hn, fun a ha b hb e => ((hm b).mp hb).1 (e ▸ ha)⟩, List.mem_append_left _ h.rt, fun u hu => ?_, fun u hu => List.mem_append_right _ hu, fun u hu hf v e => ?_⟩
  · rcases List.mem_append.mp hu with hu | hu
    · exact h.pt u hu
    · obtain ⟨_, w, hw, e⟩ := (hm u).mp hu
      exact .tail (h.pt w (h.fr w hw)) e
  · rcases List.mem_append.mp hu with hu | hu
    · by_cases hv : v ∈ found
      · exact List.mem_append_left _ hv
      · by_cases hw : u ∈ fresh
        · exact List.mem_append_right _ ((hm v).mpr ⟨hv, u, hw, e⟩)
        · exact absurd (h.cl u hu hw v e) hv
    · exact absurd hu hf
theorem Bf'.fin (h : Bf' E r found []) (v : Nat) : v ∈ found ↔ Path E r v :=
  ⟨h.pt v, fun p => Path.closed (S := fun v => v ∈ found) h.rt (fun u v hu e => h.cl u hu (by simp) v e) p⟩
/-- either done, or so many found -/
def Bn (found fresh : List Nat) (k : Nat) : Prop := fresh = [] ∨ k + 1 ≤ found.length
theorem Bn.step (h : Bn found fresh k) (hm : ∀ v, v ∈ fresh' ↔ (v ∉ found ∧ ∃ u ∈ fresh, E u v)) : Bn (found ++ fresh') fresh' (k + 1) := by
  by_cases e : fresh' = []
  · exact .inl e
  · rcases h with h | h
    · subst h
      obtain ⟨x, hx⟩ := List.exists_mem_of_ne_nil _ e
      obtain ⟨_, u, hu, _⟩ := (hm x).mp hx
      cases hu
    · have : 0 < fresh'.length := List.length_pos_iff.mpr e
      refine .inr ?_
      rw [List.length_append]
      omega
theorem Bn.fin (h : Bn found fresh k) (hn : found.Nodup) (hU : ∀ x ∈ found, x ∈ U) (hk : U.length ≤ k) : fresh = [] := by
  rcases h with h | h
  · exact h
  · have := nodup_len hn hU
    omega
/-! ### one by one -/
structure Df' (E : Nat → Nat → Prop) (r : Nat) (found waiting : List Nat) : Prop where
  nd : found.Nodup
  rt : r ∈ found
  pt : ∀ u ∈ found, Path E r u
  wt : ∀ u ∈ waiting, u ∈ found
  cl : ∀ u ∈ found, u ∉ waiting → ∀ v, E u v → v ∈ found
def dfsAdd : List Nat → List Nat → List Nat → List Nat × List Nat
  | [], f, w => (f, w)
  | v :: vs, f, w => if v ∈ f then dfsAdd vs f w else dfsAdd vs (f ++ [v]) (w ++ [v])
theorem dfsAdd_spec : ∀ (vs f w : List Nat), ∃ new, dfsAdd vs f w = (f ++ new, w ++ new) ∧ (f.Nodup → (f ++ new).Nodup) ∧ (∀ v ∈ vs, v ∈ f ++ new) ∧ ∀ x ∈ new, x ∈ vs
  | [], f, w => ⟨[], by simp [dfsAdd], by simp, by simp, by simp⟩
  | v :: vs, f, w => by
    unfold dfsAdd
    split
    · rename_i hv
      obtain ⟨new, h1, h2, h3, h4⟩ := dfsAdd_spec vs f w
      refine ⟨new, h1, h2, fun x hx => ?_, fun x hx => List.mem_cons_of_mem _ (h4 x hx)⟩
      rcases List.mem_cons.mp hx with rfl | hx
      · exact List.mem_append_left _ hv
      · exact h3 x hx
    · rename_i hv
      obtain ⟨new, h1, h2, h3, h4⟩ := dfsAdd_spec vs (f ++ [v]) (w ++ [v])
      rw [List.append_assoc, List.append_assoc] at h1
      rw [List.append_assoc] at h2 h3
      refine ⟨v :: new, h1, fun hf => h2 (List.nodup_append.mpr ⟨hf, by simp, fun a ha b hb e => hv (by rw [List.mem_singleton.mp hb] at e; exact e ▸ ha)⟩), fun x hx => ?_, fun x hx => ?_⟩
      · rcases List.mem_cons.mp hx with rfl | hx
        · simp
        · exact h3 x hx
      · rcases List.mem_cons.mp hx with rfl | hx
        · exact List.mem_cons_self
        · exact List.mem_cons_of_mem _ (h4 x hx)
theorem Df'.start : Df' E r [r] [r] := ⟨by simp, by simp, fun u hu => by rw [List.mem_singleton.mp hu]; exact .refl _, fun u hu => hu, fun u hu hn => absurd hu hn⟩
theorem Df'.step {u : Nat} {vs w : List Nat} (h : Df' E r found (w ++ [u])) (hE : ∀ v, E u v ↔ v ∈ vs) : Df' E r (dfsAdd vs found w).1 (dfsAdd vs found w).2 := by
  obtain ⟨new, h1, h2, h3, h4⟩ := dfsAdd_spec vs found w
  rw [h1]
  have hu : u ∈ found := h.wt u (by simp)
  refine ⟨h2 h.nd, List.mem_append_left _ h.rt, fun x hx => ?_, fun x hx => ?_, fun x hx hn v e => ?_⟩
  · rcases List.mem_append.mp hx with hx | hx
    · exact h.pt x hx
    · exact .tail (h.pt u hu) ((hE x).mpr (h4 x hx))
  · rcases List.mem_append.mp hx with hx | hx
    · exact List.mem_append_left _ (h.wt x (List.mem_append_left _ hx))
    · exact List.mem_append_right _ hx
  · by_cases hxu : x = u
    · subst hxu
      exact h3 v ((hE v).mp e)
    · rcases List.mem_append.mp hx with hx | hx
      · refine List.mem_append_left _ (h.cl x hx (fun hw => ?_) v e)
        rcases List.mem_append.mp hw with hw | hw
        · exact hn (List.mem_append_left _ hw)
        · exact hxu (List.mem_singleton.mp hw)
      · exact absurd (List.mem_append_right _ hx) hn
theorem Df'.fin (h : Df' E r found []) (v : Nat) : v ∈ found ↔ Path E r v :=
  ⟨h.pt v, fun p => Path.closed (S := fun v => v ∈ found) h.rt (fun u v hu e => h.cl u hu (by simp) v e) p⟩
end
/-! ### runs by chosen moves -/
section
variable (n : Nt) (ch : List Int → List Nat)
inductive RunR : List Int → List Nat → List Int → Prop
  | nil (m : List Int) : RunR m [] m
  | cons {m m' : List Int} {t : Nat} {ts : List Nat} : t ∈ ch m → RunR (movedL n m t) ts m' → RunR m (t :: ts) m'
end
section
variable {n : Nt} {ch : List Int → List Nat} {m m1 m' : List Int} {s r : List Nat} {t : Nat}
theorem RunR.app (h : RunR n ch m s m1) (h2 : RunR n ch m1 r m') : RunR n ch m (s ++ r) m' := by
  induction h with
  | nil => exact h2
  | cons ht _ ih => exact .cons ht (ih h2)
theorem RunR.split : ∀ {s : List Nat} {m : List Int}, RunR n ch m (s ++ r) m' → ∃ m1, RunR n ch m s m1 ∧ RunR n ch m1 r m'
  | [], m, h => ⟨m, .nil m, h⟩
  | t :: s, m, h => by
    cases h with
    | cons ht h =>
      obtain ⟨m1, h1, h2⟩ := RunR.split h
      exact ⟨m1, .cons ht h1, h2⟩
theorem RunR.len (h : RunR n ch m s m') (hm : m.length = n.L) : m'.length = n.L := by
  induction h with
  | nil => exact hm
  | cons _ _ ih => exact ih moved_len
theorem RunR.take (h : RunR n ch m s m') (k : Nat) : ∃ m1, RunR n ch m (s.take k) m1 := by
  rw [← List.take_append_drop k s] at h
  obtain ⟨m1, h1, _⟩ := h.split
  exact ⟨m1, h1⟩
/-- what is visited -/
def vis (n : Nt) : List Int → List Nat → List (List Int)
  | m, [] => [m]
  | m, t :: ts => m :: vis n (movedL n m t) ts
theorem vis_len : ∀ {s : List Nat} {m : List Int}, (vis n m s).length = s.length + 1
  | [], _ => rfl
  | t :: s, m => by unfold vis; rw [List.length_cons, vis_len, List.length_cons]
theorem vis_at {y : List Int} : ∀ {s : List Nat} {m : List Int}, RunR n ch m s m' → y ∈ vis n m s → ∃ s1 s2, s = s1 ++ s2 ∧ RunR n ch m s1 y ∧ RunR n ch y s2 m'
  | [], m, h, hy => by
    rw [List.mem_singleton.mp hy]
    exact ⟨[], [], rfl, .nil m, h⟩
  | t :: s, m, h, hy => by
    rcases List.mem_cons.mp hy with rfl | hy
    · exact ⟨[], t :: s, rfl, .nil _, h⟩
    · cases h with
      | cons ht h =>
        obtain ⟨s1, s2, e, h1, h2⟩ := vis_at h hy
        exact ⟨t :: s1, s2, by rw [e]; rfl, .cons ht h1, h2⟩
theorem vis_dup : ∀ {s : List Nat} {m : List Int}, RunR n ch m s m' → ¬ (vis n m s).Nodup → ∃ s1 x t s2, RunR n ch m s1 x ∧ t ∈ ch x ∧ RunR n ch (movedL n x t) s2 x
  | [], m, h, hd => absurd (by simp [vis]) hd
  | t :: s, m, h, hd => by
    cases h with
    | cons ht h =>
      by_cases hm : m ∈ vis n (movedL n m t) s
      · obtain ⟨s1, s2, e, h1, h2⟩ := vis_at h hm
        exact ⟨[], m, t, s1, .nil m, ht, h1⟩
      · obtain ⟨s1, x, u, s2, h1, h2, h3⟩ := vis_dup h fun hn => hd (List.nodup_cons.mpr ⟨hm, hn⟩)
        exact ⟨t :: s1, x, u, s2, .cons ht h1, h2, h3⟩
end
/-! ### all that is come to by chosen moves -/
structure Expl (n : Nt) (ch : List Int → List Nat) (m0 : List Int) (found : List (List Int)) (arcs : List (Nat × Nat × Nat)) : Prop where
  nd : found.Nodup
  h0 : found[0]? = some m0
  rc : ∀ m ∈ found, ∃ s, RunR n ch m0 s m
  cl : ∀ m ∈ found, ∀ t ∈ ch m, movedL n m t ∈ found
  ar : ∀ i t j, (i, t, j) ∈ arcs ↔ ∃ m, found[i]? = some m ∧ t ∈ ch m ∧ found[j]? = some (movedL n m t)
def arcE (arcs : List (Nat × Nat × Nat)) (i j : Nat) : Prop := ∃ t, (i, t, j) ∈ arcs
def Endless (arcs : List (Nat × Nat × Nat)) (many : Nat) : Prop := ∃ k, k < many ∧ ∃ t j, (k, t, j) ∈ arcs ∧ Path (arcE arcs) j k
section
variable {n : Nt} {ch : List Int → List Nat} {m0 m m' : List Int} {found : List (List Int)} {arcs : List (Nat × Nat × Nat)} {s : List Nat}
theorem get_inj (h : found.Nodup) {i j : Nat} (h1 : found[i]? = some m) (h2 : found[j]? = some m) : i = j :=
  (List.getElem?_inj (List.getElem?_eq_some_iff.mp h1).1 h).mp (h1.trans h2.symm)
theorem Expl.stay (x : Expl n ch m0 found arcs) (h : RunR n ch m s m') (hm : m ∈ found) : m' ∈ found := by
  induction h with
  | nil => exact hm
  | cons ht _ ih => exact ih (x.cl _ hm _ ht)
theorem Expl.mem (x : Expl n ch m0 found arcs) : m ∈ found ↔ ∃ s, RunR n ch m0 s m :=
  ⟨x.rc m, fun ⟨s, h⟩ => x.stay h (List.mem_of_getElem? x.h0)⟩
theorem Expl.path_run (x : Expl n ch m0 found arcs) {i j : Nat} (p : Path (arcE arcs) i j) (hi : found[i]? = some m) : ∃ m' s, found[j]? = some m' ∧ RunR n ch m s m' := by
  induction p with
  | refl => exact ⟨m, [], hi, .nil m⟩
  | tail _ e ih =>
    obtain ⟨m1, s, h1, h2⟩ := ih
    obtain ⟨t, ht⟩ := e
    obtain ⟨m2, e1, e2, e3⟩ := (x.ar _ _ _).mp ht
    rw [h1] at e1
    cases e1
    exact ⟨_, s ++ [t], e3, h2.app (.cons e2 (.nil _))⟩
theorem Expl.run_path (x : Expl n ch m0 found arcs) : ∀ {s : List Nat} {m : List Int} {i j : Nat}, RunR n ch m s m' → found[i]? = some m → found[j]? = some m' → Path (arcE arcs) i j
  | [], m, i, j, h, hi, hj => by
    cases h
    rw [get_inj x.nd hi hj]
    exact .refl _
  | t :: s, m, i, j, h, hi, hj => by
    cases h with
    | cons ht h =>
      obtain ⟨k, hk⟩ := List.getElem?_of_mem (x.cl m (List.mem_of_getElem? hi) t ht)
      exact Path.trans (Path.one ⟨t, (x.ar i t k).mpr ⟨m, hi, ht, hk⟩⟩) (x.run_path h hk hj)
theorem Expl.endless (x : Expl n ch m0 found arcs) : Endless arcs found.length ↔ ∀ N, ∃ s m', s.length = N ∧ RunR n ch m0 s m' := by
  constructor
  · rintro ⟨k, hk, t, j, ha, p⟩ N
    obtain ⟨m, e1, e2, e3⟩ := (x.ar _ _ _).mp ha
    obtain ⟨s0, h0⟩ := x.rc m (List.mem_of_getElem? e1)
    obtain ⟨m1, s1, f1, h1⟩ := x.path_run p e3
    rw [e1] at f1
    cases f1
    have loop : ∀ N, ∃ s, N ≤ s.length ∧ RunR n ch m s m := by
      intro N
      induction N with
      | zero => exact ⟨[], Nat.zero_le _, .nil m⟩
      | succ N ih =>
        obtain ⟨s, hs, hr⟩ := ih
        refine ⟨t :: s1 ++ s, ?_, (RunR.cons e2 h1).app hr⟩
        rw [List.length_append, List.length_cons]
        omega
    obtain ⟨s, hs, hr⟩ := loop N
    obtain ⟨m2, h2⟩ := (h0.app hr).take N
    refine ⟨_, m2, ?_, h2⟩
    rw [List.length_take, List.length_append]
    omega
  · intro h
    obtain ⟨s, m', hs, hr⟩ := h found.length
    have hin : ∀ y ∈ vis n m0 s, y ∈ found := fun y hy => by
      obtain ⟨s1, _, _, h1, _⟩ := vis_at hr hy
      exact x.mem.mpr ⟨s1, h1⟩
    have hd : ¬ (vis n m0 s).Nodup := fun hn => by
      have := nodup_len hn hin
      rw [vis_len] at this
      omega
    obtain ⟨s1, y, t, s2, h1, h2, h3⟩ := vis_dup hr hd
    have hy : y ∈ found := x.mem.mpr ⟨s1, h1⟩
    obtain ⟨k, hk⟩ := List.getElem?_of_mem hy
    obtain ⟨j, hj⟩ := List.getElem?_of_mem (x.cl y hy t h2)
    exact ⟨k, (List.getElem?_eq_some_iff.mp hk).1, t, j, (x.ar k t j).mpr ⟨y, hk, h2, hj⟩, x.run_path h3 hj hk⟩
end
end Ly

set_option Elab.async false
set_option linter.all false
set_option maxRecDepth 100000
set_option maxHeartbeats 2000000
/-! Ly: stubborn sets of moves. -/
namespace Ly
open PySem PySem.Spec PyProof.Rows L2
section
variable {n : Nt} {m m1 m' : List Int} {t u v p : Nat}
theorem can_iff : canB n m t = true ↔ ∀ p, p < n.L → n.take t p ≤ at' m p := by
  unfold canB covB
  rw [List.all_eq_true]
  constructor
  · intro h p hp
    exact of_decide_eq_true (h p (List.mem_range.mpr hp))
  · intro h p hp
    exact decide_eq_true (h p (List.mem_range.mp hp))
theorem can_not : canB n m t = false ↔ ∃ p, p < n.L ∧ at' m p < n.take t p := by
  constructor
  · intro h
    refine Classical.byContradiction fun c => ?_
    rw [can_iff.mpr fun p hp => Classical.byContradiction fun c' => c ⟨p, hp, by omega⟩] at h
    cases h
  · rintro ⟨p, hp, h⟩
    cases e : canB n m t with
    | false => rfl
    | true =>
      have := can_iff.mp e p hp
      omega
theorem moved_at (hp : p < n.L) : at' (movedL n m t) p = at' m p - n.take t p + n.give t p := rw_at hp
theorem mem_cans : t ∈ cans n m ↔ t < n.M.length ∧ canB n m t = true := by
  unfold cans
  rw [List.mem_filter, List.mem_range]
/-- the moves take from no place together -/
def Disj (n : Nt) (u v : Nat) : Prop := ∀ p, p < n.L → ¬ (0 < n.take u p ∧ 0 < n.take v p)
theorem Disj.symm (h : Disj n u v) : Disj n v u := fun p hp c => h p hp ⟨c.2, c.1⟩
variable (ok : n.Ok)
include ok
theorem keep_en (hu : u < n.M.length) (hv : v < n.M.length) (cu : canB n m u = true) (cv : canB n m v = true) (d : Disj n u v) : canB n (movedL n m v) u = true := by
  refine can_iff.mpr fun p hp => ?_
  rw [moved_at hp]
  have h1 := can_iff.mp cu p hp
  have h2 := can_iff.mp cv p hp
  have h3 := take_nn ok hu hp
  have h4 := take_nn ok hv hp
  have h5 := give_nn ok hv hp
  have h6 := d p hp
  by_cases c : 0 < n.take u p
  · have : ¬ 0 < n.take v p := fun c' => h6 ⟨c, c'⟩
    omega
  · omega
omit ok in
theorem comm_moved : movedL n (movedL n m v) u = movedL n (movedL n m u) v := rw_congr fun p hp => by
  rw [moved_at hp, moved_at hp]
  omega
theorem push_front : ∀ {s : List Nat} {m : List Int}, RunR n (cans n) m s m' → u < n.M.length → canB n m u = true → (∀ v ∈ s, Disj n u v) → canB n m' u = true ∧ RunR n (cans n) (movedL n m u) s (movedL n m' u)
  | [], m, h, hu, cu, hd => by cases h; exact ⟨cu, .nil _⟩
  | v :: s, m, h, hu, cu, hd => by
    cases h with
    | cons hv h =>
      obtain ⟨v1, v2⟩ := mem_cans.mp hv
      have d := hd v List.mem_cons_self
      obtain ⟨h1, h2⟩ := push_front h hu (keep_en ok hu v1 cu v2 d) fun w hw => hd w (List.mem_cons_of_mem _ hw)
      refine ⟨h1, .cons (mem_cans.mpr ⟨v1, keep_en ok v1 hu v2 cu d.symm⟩) ?_⟩
      rw [comm_moved]
      exact h2
omit ok in
theorem stay_dis : ∀ {s : List Nat} {m : List Int}, RunR n (cans n) m s m' → p < n.L → (∀ v ∈ s, n.eff v p ≤ 0) → at' m p < n.take u p → at' m' p < n.take u p
  | [], m, h, hp, he, hl => by cases h; exact hl
  | v :: s, m, h, hp, he, hl => by
    cases h with
    | cons hv h =>
      refine stay_dis h hp (fun w hw => he w (List.mem_cons_of_mem _ hw)) ?_
      rw [moved_at hp]
      have := he v List.mem_cons_self
      unfold Nt.eff at this
      omega
/-- closed at a marking -/
structure Stub (n : Nt) (m : List Int) (S : List Nat) : Prop where
  lt : ∀ u ∈ S, u < n.M.length
  en : ∀ u ∈ S, canB n m u = true → ∀ v, v < n.M.length → v ∉ S → Disj n u v
  di : ∀ u ∈ S, canB n m u = false → ∃ p, p < n.L ∧ at' m p < n.take u p ∧ ∀ v, v < n.M.length → v ∉ S → n.eff v p ≤ 0
omit ok in
theorem run_lt {s : List Nat} (h : RunR n (cans n) m s m') : ∀ v ∈ s, v < n.M.length := by
  induction h with
  | nil => intro v hv; cases hv
  | cons ht _ ih =>
    intro v hv
    rcases List.mem_cons.mp hv with rfl | hv
    · exact (mem_cans.mp ht).1
    · exact ih v hv
omit ok in
theorem first_in (S : List Nat) : ∀ s : List Nat, (∀ v ∈ s, v ∉ S) ∨ ∃ s1 u s2, s = s1 ++ u :: s2 ∧ (∀ v ∈ s1, v ∉ S) ∧ u ∈ S
  | [] => .inl (by simp)
  | t :: s => by
    by_cases h : t ∈ S
    · exact .inr ⟨[], t, s, rfl, by simp, h⟩
    · rcases first_in S s with h2 | ⟨s1, u, s2, rfl, h2, h3⟩
      · refine .inl fun v hv => ?_
        rcases List.mem_cons.mp hv with rfl | hv
        · exact h
        · exact h2 v hv
      · refine .inr ⟨t :: s1, u, s2, rfl, fun v hv => ?_, h3⟩
        rcases List.mem_cons.mp hv with rfl | hv
        · exact h
        · exact h2 v hv
theorem to_front {S s1 s2 : List Nat} (st : Stub n m S) (h : RunR n (cans n) m (s1 ++ u :: s2) m') (hn : ∀ v ∈ s1, v ∉ S) (hu : u ∈ S) : canB n m u = true ∧ RunR n (cans n) (movedL n m u) (s1 ++ s2) m' := by
  obtain ⟨x, h1, h2⟩ := h.split
  cases h2 with
  | cons hux h2 =>
    have lt := run_lt h1
    have cu : canB n m u = true := by
      cases e : canB n m u with
      | true => rfl
      | false =>
        obtain ⟨p, hp, hl, he⟩ := st.di u hu e
        have := stay_dis h1 hp (fun v hv => he v (lt v hv) (hn v hv)) hl
        have := can_iff.mp (mem_cans.mp hux).2 p hp
        omega
    exact ⟨cu, (push_front ok h1 (st.lt u hu) cu fun v hv => st.en u hu cu v (lt v hv) (hn v hv)).2.app h2⟩
/-- the moves that may go first: those that can be made of a closed set with such -/
def FirstOk (n : Nt) (first : List Int → List Nat) : Prop := ∀ m, m.length = n.L → (cans n m = [] ∧ first m = []) ∨ ∃ S t, Stub n m S ∧ t ∈ S ∧ canB n m t = true ∧ first m = S.filter (canB n m)
variable {first : List Int → List Nat} (fo : FirstOk n first)
include fo
omit ok in
theorem first_sub (hm : m.length = n.L) : ∀ t ∈ first m, t ∈ cans n m := by
  intro t ht
  rcases fo m hm with ⟨_, h⟩ | ⟨S, t0, st, h1, h2, h3⟩
  · rw [h] at ht; cases ht
  · rw [h3] at ht
    obtain ⟨a, b⟩ := List.mem_filter.mp ht
    exact mem_cans.mpr ⟨st.lt t a, b⟩
omit ok in
theorem first_nil (hm : m.length = n.L) : first m = [] ↔ cans n m = [] := by
  rcases fo m hm with ⟨h1, h2⟩ | ⟨S, t0, st, h1, h2, h3⟩
  · exact ⟨fun _ => h1, fun _ => h2⟩
  · constructor
    · intro e
      rw [h3] at e
      have : t0 ∈ S.filter (canB n m) := List.mem_filter.mpr ⟨h1, h2⟩
      rw [e] at this
      cases this
    · intro e
      have : t0 ∈ cans n m := mem_cans.mpr ⟨st.lt t0 h1, h2⟩
      rw [e] at this
      cases this
omit ok in
theorem first_run : ∀ {s : List Nat} {m : List Int}, m.length = n.L → RunR n first m s m' → RunR n (cans n) m s m'
  | [], m, hm, h => by cases h; exact .nil _
  | t :: s, m, hm, h => by
    cases h with
    | cons ht h => exact .cons (first_sub fo hm t ht) (first_run moved_len h)
/-- stops are kept -/
theorem stop_first : ∀ (k : Nat) {s : List Nat} {m : List Int}, s.length = k → m.length = n.L → RunR n (cans n) m s m' → cans n m' = [] → ∃ s', RunR n first m s' m'
  | 0, s, m, hk, hm, h, hd => by
    cases s with
    | nil => cases h; exact ⟨[], .nil _⟩
    | cons => cases hk
  | k + 1, s, m, hk, hm, h, hd => by
    rcases fo m hm with ⟨h1, h2⟩ | ⟨S, t0, st, h1, h2, h3⟩
    · cases h with
      | nil => cases hk
      | cons ht _ => rw [h1] at ht; cases ht
    · rcases first_in S s with hn | ⟨s1, u, s2, rfl, hn, hu⟩
      · have := (push_front ok h (st.lt t0 h1) h2 fun v hv => st.en t0 h1 h2 v (run_lt h v hv) (hn v hv)).1
        have : t0 ∈ cans n m' := mem_cans.mpr ⟨st.lt t0 h1, this⟩
        rw [hd] at this
        cases this
      · obtain ⟨cu, hr⟩ := to_front ok st h hn hu
        obtain ⟨s', h'⟩ := stop_first k (by rw [List.length_append, List.length_cons] at hk; rw [List.length_append]; omega) moved_len hr hd
        exact ⟨u :: s', .cons (by rw [h3]; exact List.mem_filter.mpr ⟨hu, cu⟩) h'⟩
/-- so are endless runs -/
theorem long_first : ∀ (k : Nat) {s : List Nat} {m m' : List Int}, s.length = k → m.length = n.L → RunR n (cans n) m s m' → ∃ s' m2, s'.length = k ∧ RunR n first m s' m2
  | 0, s, m, m', hk, hm, h => ⟨[], m, rfl, .nil _⟩
  | k + 1, s, m, m', hk, hm, h => by
    rcases fo m hm with ⟨h1, h2⟩ | ⟨S, t0, st, h1, h2, h3⟩
    · cases h with
      | nil => cases hk
      | cons ht _ => rw [h1] at ht; cases ht
    · rcases first_in S s with hn | ⟨s1, u, s2, rfl, hn, hu⟩
      · have hr := (push_front ok h (st.lt t0 h1) h2 fun v hv => st.en t0 h1 h2 v (run_lt h v hv) (hn v hv)).2
        obtain ⟨m1, hr⟩ := hr.take k
        obtain ⟨s', m2, e, h'⟩ := long_first k (by rw [List.length_take]; omega) moved_len hr
        exact ⟨t0 :: s', m2, by rw [List.length_cons, e], .cons (by rw [h3]; exact List.mem_filter.mpr ⟨h1, h2⟩) h'⟩
      · obtain ⟨cu, hr⟩ := to_front ok st h hn hu
        obtain ⟨s', m2, e, h'⟩ := long_first k (by rw [List.length_append, List.length_cons] at hk; rw [List.length_append]; omega) moved_len hr
        exact ⟨u :: s', m2, by rw [List.length_cons, e], .cons (by rw [h3]; exact List.mem_filter.mpr ⟨hu, cu⟩) h'⟩
/-- of all markings, and those by first moves -/
theorem stops_same {m0 : List Int} (h0 : m0.length = n.L) {f1 f2 : List (List Int)} {a1 a2 : List (Nat × Nat × Nat)} (x1 : Expl n (cans n) m0 f1 a1) (x2 : Expl n first m0 f2 a2) (m : List Int) : (m ∈ f1 ∧ cans n m = []) ↔ (m ∈ f2 ∧ cans n m = []) := by
  constructor
  · rintro ⟨h, hd⟩
    obtain ⟨s, hs⟩ := x1.mem.mp h
    obtain ⟨s', h'⟩ := stop_first ok fo s.length rfl h0 hs hd
    exact ⟨x2.mem.mpr ⟨s', h'⟩, hd⟩
  · rintro ⟨h, hd⟩
    obtain ⟨s, hs⟩ := x2.mem.mp h
    exact ⟨x1.mem.mpr ⟨s, first_run fo h0 hs⟩, hd⟩
omit ok in
theorem sub_same {m0 : List Int} (h0 : m0.length = n.L) {f1 f2 : List (List Int)} {a1 a2 : List (Nat × Nat × Nat)} (x1 : Expl n (cans n) m0 f1 a1) (x2 : Expl n first m0 f2 a2) : ∀ m ∈ f2, m ∈ f1 := fun m h => by
  obtain ⟨s, hs⟩ := x2.mem.mp h
  exact x1.mem.mpr ⟨s, first_run fo h0 hs⟩
theorem endless_same {m0 : List Int} (h0 : m0.length = n.L) {f1 f2 : List (List Int)} {a1 a2 : List (Nat × Nat × Nat)} (x1 : Expl n (cans n) m0 f1 a1) (x2 : Expl n first m0 f2 a2) : Endless a1 f1.length ↔ Endless a2 f2.length := by
  rw [x1.endless, x2.endless]
  constructor
  · intro h N
    obtain ⟨s, m', hs, hr⟩ := h N
    exact long_first ok fo N hs h0 hr
  · intro h N
    obtain ⟨s, m', hs, hr⟩ := h N
    exact ⟨s, m', hs, first_run fo h0 hr⟩
end
end Ly

set_option Elab.async false
set_option linter.all false
set_option maxRecDepth 100000
set_option maxHeartbeats 2000000
/-! Ly: all markings, one by one. -/
namespace Ly
open PySem PySem.Spec PyProof.Rows L2
abbrev Arc := Nat × Nat × Nat
abbrev Mk := List Int
theorem idx_get {f : List Mk} {o : Mk} (h : o ∈ f) : f[f.idxOf o]? = some o := by
  have hl : f.idxOf o < f.length := List.idxOf_lt_length_of_mem h
  rw [List.getElem?_eq_getElem hl, List.getElem_idxOf hl]
def addAll (n : Nt) (most k : Nat) (m : Mk) : List Nat → List Mk → List Arc → Option (List Mk × List Arc)
  | [], f, a => some (f, a)
  | t :: ts, f, a => if movedL n m t ∈ f then addAll n most k m ts f (a ++ [(k, t, f.idxOf (movedL n m t))])
    else if f.length = most then none
    else addAll n most k m ts (f ++ [movedL n m t]) (a ++ [(k, t, f.length)])
def walk (n : Nt) (ch : Mk → List Nat) (most : Nat) (m0 : Mk) : Nat → Option (List Mk × List Arc)
  | 0 => some ([m0], [])
  | k + 1 => match walk n ch most m0 k with
    | none => none
    | some (f, a) => match f[k]? with
      | some m => addAll n most k m (ch m) f a
      | none => some (f, a)
section
variable {n : Nt} {ch : Mk → List Nat} {most k : Nat} {m0 m : Mk}
theorem get_app {f g : List Mk} {j : Nat} {x : Mk} (h : f[j]? = some x) : (f ++ g)[j]? = some x := by
  rw [List.getElem?_append_left (List.getElem?_eq_some_iff.mp h).1]; exact h
theorem addAll_spec : ∀ (ts : List Nat) {f f' : List Mk} {a a' : List Arc}, f.Nodup → f.length ≤ most → addAll n most k m ts f a = some (f', a') →
    ∃ new, f' = f ++ new ∧ f'.Nodup ∧ f'.length ≤ most ∧ (∀ x ∈ new, ∃ t ∈ ts, x = movedL n m t) ∧ (∀ t ∈ ts, movedL n m t ∈ f') ∧ ∀ i t j, (i, t, j) ∈ a' ↔ (i, t, j) ∈ a ∨ (i = k ∧ t ∈ ts ∧ f'[j]? = some (movedL n m t))
  | [], f, f', a, a', hn, hl, h => by
    cases h
    exact ⟨[], by simp, hn, hl, by simp, by simp, fun i t j => by simp⟩
  | t :: ts, f, f', a, a', hn, hl, h => by
    unfold addAll at h
    split at h
    · rename_i ho
      obtain ⟨new, h1, h2, h3, h4, h5, h6⟩ := addAll_spec ts hn hl h
      refine ⟨new, h1, h2, h3, fun x hx => ?_, fun u hu => ?_, fun i u j => ?_⟩
      · obtain ⟨u, hu, e⟩ := h4 x hx
        exact ⟨u, List.mem_cons_of_mem _ hu, e⟩
      · rcases List.mem_cons.mp hu with rfl | hu
        · rw [h1]; exact List.mem_append_left _ ho
        · exact h5 u hu
      · rw [h6, List.mem_append, List.mem_singleton]
        have hg : f'[f.idxOf (movedL n m t)]? = some (movedL n m t) := by rw [h1]; exact get_app (idx_get ho)
        constructor
        · rintro ((h | h) | ⟨h, h', h''⟩)
          · exact .inl h
          · cases h
            exact .inr ⟨rfl, List.mem_cons_self, hg⟩
          · exact .inr ⟨h, List.mem_cons_of_mem _ h', h''⟩
        · rintro (h | ⟨rfl, h', h''⟩)
          · exact .inl (.inl h)
          · rcases List.mem_cons.mp h' with rfl | h'
            · rw [get_inj h2 h'' hg]
              exact .inl (.inr rfl)
            · exact .inr ⟨rfl, h', h''⟩
    · rename_i ho
      split at h
      · cases h
      · rename_i hfull
        have hn' : (f ++ [movedL n m t]).Nodup := List.nodup_append.mpr ⟨hn, by simp, fun a ha b hb e => ho (by rw [List.mem_singleton.mp hb] at e; exact e ▸ ha)⟩
        obtain ⟨new, h1, h2, h3, h4, h5, h6⟩ := addAll_spec ts hn' (by rw [List.length_append, List.length_singleton]; omega) h
        have hg : f'[f.length]? = some (movedL n m t) := by
          rw [h1, List.append_assoc, List.getElem?_append_right (Nat.le_refl _)]
          simp
        refine ⟨movedL n m t :: new, by rw [h1, List.append_assoc]; rfl, h2, h3, fun x hx => ?_, fun u hu => ?_, fun i u j => ?_⟩
        · rcases List.mem_cons.mp hx with rfl | hx
          · exact ⟨t, List.mem_cons_self, rfl⟩
          · obtain ⟨u, hu, e⟩ := h4 x hx
            exact ⟨u, List.mem_cons_of_mem _ hu, e⟩
        · rcases List.mem_cons.mp hu with rfl | hu
          · exact List.mem_of_getElem? hg
          · exact h5 u hu
        · rw [h6, List.mem_append, List.mem_singleton]
          constructor
          · rintro ((h | h) | ⟨h, h', h''⟩)
            · exact .inl h
            · cases h
              exact .inr ⟨rfl, List.mem_cons_self, hg⟩
            · exact .inr ⟨h, List.mem_cons_of_mem _ h', h''⟩
          · rintro (h | ⟨rfl, h', h''⟩)
            · exact .inl (.inl h)
            · rcases List.mem_cons.mp h' with rfl | h'
              · rw [get_inj h2 h'' hg]
                exact .inl (.inr rfl)
              · exact .inr ⟨rfl, h', h''⟩
/-- what stands behind k turns -/
structure Wk' (n : Nt) (ch : Mk → List Nat) (m0 : Mk) (most k : Nat) (f : List Mk) (a : List Arc) : Prop where
  nd : f.Nodup
  h0 : f[0]? = some m0
  le : f.length ≤ most
  rc : ∀ m ∈ f, ∃ s, RunR n ch m0 s m
  cl : ∀ i m, i < k → f[i]? = some m → ∀ t ∈ ch m, movedL n m t ∈ f
  ar : ∀ i t j, (i, t, j) ∈ a ↔ i < k ∧ ∃ m, f[i]? = some m ∧ t ∈ ch m ∧ f[j]? = some (movedL n m t)
theorem walk_spec (h1 : 1 ≤ most) : ∀ {k : Nat} {f : List Mk} {a : List Arc}, walk n ch most m0 k = some (f, a) → Wk' n ch m0 most k f a
  | 0, f, a, h => by
    cases h
    exact ⟨by simp, rfl, h1, fun m hm => ⟨[], by rw [List.mem_singleton.mp hm]; exact .nil _⟩, fun i m hi => absurd hi (Nat.not_lt_zero _), fun i t j => by simp⟩
  | k + 1, f', a', h => by
    unfold walk at h
    split at h
    · cases h
    · rename_i f a e
      have w := walk_spec h1 e
      split at h
      · rename_i m hm
        obtain ⟨new, g1, g2, g3, g4, g5, g6⟩ := addAll_spec (ch m) w.nd w.le h
        have hmf := List.mem_of_getElem? hm
        refine ⟨g2, by rw [g1]; exact get_app w.h0, g3, fun x hx => ?_, fun i x hi hx t ht => ?_, fun i t j => ?_⟩
        · rw [g1] at hx
          rcases List.mem_append.mp hx with hx | hx
          · exact w.rc x hx
          · obtain ⟨t, ht, rfl⟩ := g4 x hx
            obtain ⟨s, hs⟩ := w.rc m hmf
            exact ⟨s ++ [t], hs.app (.cons ht (.nil _))⟩
        · by_cases hik : i = k
          · subst hik
            have : f'[i]? = some m := by rw [g1]; exact get_app hm
            rw [this] at hx
            cases hx
            exact g5 t ht
          · have hif : i < f.length := Nat.lt_of_lt_of_le (by omega) (Nat.le_of_lt (List.getElem?_eq_some_iff.mp hm).1)
            have hx' : f[i]? = some x := by
              rw [g1, List.getElem?_append_left hif] at hx
              exact hx
            rw [g1]
            exact List.mem_append_left _ (w.cl i x (by omega) hx' t ht)
        · have hkf := (List.getElem?_eq_some_iff.mp hm).1
          rw [g6, w.ar]
          constructor
          · rintro (⟨hi, x, e1, e2, e3⟩ | ⟨rfl, e2, e3⟩)
            · exact ⟨by omega, x, by rw [g1]; exact get_app e1, e2, by rw [g1]; exact get_app e3⟩
            · exact ⟨by omega, m, by rw [g1]; exact get_app hm, e2, e3⟩
          · rintro ⟨hi, x, e1, e2, e3⟩
            by_cases hik : i = k
            · subst hik
              have : f'[i]? = some m := by rw [g1]; exact get_app hm
              rw [this] at e1
              cases e1
              exact .inr ⟨rfl, e2, e3⟩
            · have hif : i < f.length := by omega
              have e1' : f[i]? = some x := by
                rw [g1, List.getElem?_append_left hif] at e1
                exact e1
              obtain ⟨j', hj'⟩ := List.getElem?_of_mem (w.cl i x (by omega) e1' t e2)
              have : j = j' := get_inj g2 e3 (by rw [g1]; exact get_app hj')
              subst this
              exact .inl ⟨by omega, x, e1', e2, hj'⟩
      · rename_i hm
        cases h
        have hlen : f'.length ≤ k := List.getElem?_eq_none_iff.mp hm
        refine ⟨w.nd, w.h0, w.le, w.rc, fun i m hi hx t ht => w.cl i m ?_ hx t ht, fun i t j => ?_⟩
        · have := (List.getElem?_eq_some_iff.mp hx).1
          omega
        · rw [w.ar]
          constructor
          · rintro ⟨hi, x, e1, e2, e3⟩
            exact ⟨by omega, x, e1, e2, e3⟩
          · rintro ⟨hi, x, e1, e2, e3⟩
            have := (List.getElem?_eq_some_iff.mp e1).1
            exact ⟨by omega, x, e1, e2, e3⟩
theorem walk_expl (h1 : 1 ≤ most) {f : List Mk} {a : List Arc} (h : walk n ch most m0 most = some (f, a)) : Expl n ch m0 f a ∧ f.length ≤ most := by
  have w := walk_spec h1 h
  refine ⟨⟨w.nd, w.h0, w.rc, fun m hm t ht => ?_, fun i t j => ?_⟩, w.le⟩
  · obtain ⟨i, hi⟩ := List.getElem?_of_mem hm
    have := (List.getElem?_eq_some_iff.mp hi).1
    exact w.cl i m (Nat.lt_of_lt_of_le this w.le) hi t ht
  · rw [w.ar]
    constructor
    · rintro ⟨_, h⟩; exact h
    · rintro ⟨m, e1, e2, e3⟩
      have := (List.getElem?_eq_some_iff.mp e1).1
      exact ⟨Nat.lt_of_lt_of_le this w.le, m, e1, e2, e3⟩
theorem walk_none : ∀ {k j : Nat}, walk n ch most m0 k = none → walk n ch most m0 (k + j) = none
  | k, 0, h => h
  | k, j + 1, h => by
    show walk n ch most m0 ((k + j) + 1) = none
    unfold walk
    rw [walk_none h]
theorem walk_stay {k : Nat} {f : List Mk} {a : List Arc} (h : walk n ch most m0 k = some (f, a)) (hl : f.length ≤ k) : ∀ j, walk n ch most m0 (k + j) = some (f, a)
  | 0 => h
  | j + 1 => by
    show walk n ch most m0 ((k + j) + 1) = _
    unfold walk
    rw [walk_stay h hl j]
    dsimp only
    rw [List.getElem?_eq_none (by omega)]
theorem walk_end {k : Nat} {f : List Mk} {a : List Arc} (h1 : 1 ≤ most) (h : walk n ch most m0 k = some (f, a)) (hk : k = f.length) : walk n ch most m0 most = some (f, a) := by
  have w := walk_spec h1 h
  have := walk_stay h (by omega) (most - k)
  rw [show k + (most - k) = most by have := w.le; omega] at this
  exact this
theorem walk_at {k : Nat} {f : List Mk} {a : List Arc} (h : walk n ch most m0 k = some (f, a)) (hk : f[k]? = some m) : walk n ch most m0 (k + 1) = addAll n most k m (ch m) f a := by
  show (match walk n ch most m0 k with
    | none => none
    | some (f, a) => match f[k]? with
      | some m => addAll n most k m (ch m) f a
      | none => some (f, a)) = _
  rw [h]
  dsimp only
  rw [hk]
/-- arcs told from the markings alone -/
def arcsOf (n : Nt) (ch : Mk → List Nat) (f : List Mk) : List Arc := (List.range f.length).flatMap fun i => (ch (f[i]?.getD [])).map fun t => (i, t, f.idxOf (movedL n (f[i]?.getD []) t))
theorem Expl.arcs {f : List Mk} {a : List Arc} (x : Expl n ch m0 f a) : Expl n ch m0 f (arcsOf n ch f) := by
  refine ⟨x.nd, x.h0, x.rc, x.cl, fun i t j => ?_⟩
  unfold arcsOf
  rw [List.mem_flatMap]
  constructor
  · rintro ⟨i', hi, h⟩
    obtain ⟨t', ht, e⟩ := List.mem_map.mp h
    cases e
    have hl := List.mem_range.mp hi
    have e : f[i]? = some f[i] := List.getElem?_eq_getElem hl
    rw [e] at ht
    rw [e]
    exact ⟨f[i], rfl, ht, idx_get (x.cl _ (List.getElem_mem hl) t ht)⟩
  · rintro ⟨m, e1, e2, e3⟩
    refine ⟨i, List.mem_range.mpr (List.getElem?_eq_some_iff.mp e1).1, List.mem_map.mpr ⟨t, by rw [e1]; exact e2, ?_⟩⟩
    rw [e1]
    show (i, t, f.idxOf (movedL n m t)) = _
    rw [get_inj x.nd (idx_get (x.cl m (List.mem_of_getElem? e1) t e2)) e3]
theorem rngA (n : Nat) (h : n ≤ 100000) : rngD [natD n] = some ((List.range n).map natD) := by
  unfold rngD
  show (if rngOk (n : Int) && okLen (n : Int).toNat then some (rngL 0 n) else none) = _
  have h1 : rngOk (n : Int) = true := by unfold rngOk; simp only [Bool.and_eq_true, decide_eq_true_eq]; omega
  have h2 : okLen (n : Int).toNat = true := by unfold okLen; simp; omega
  rw [h1, h2, rngL_nat]; rfl
/-! ### as data -/
def arcD (a : Arc) : D := .tuple [natD a.1, natD a.2.1, natD a.2.2]
/-- the numbers of the markings -/
def plc (f : List Mk) : List (Mk × D) := f.zipIdx.map fun p => (p.1, natD p.2)
theorem plc_keys (f : List Mk) : (plc f).map (·.1) = f := by
  unfold plc
  rw [List.map_map]
  exact List.zipIdx_map_fst 0 f
theorem plc_app (f : List Mk) (o : Mk) : plc (f ++ [o]) = plc f ++ [(o, natD f.length)] := by
  unfold plc
  rw [List.zipIdx_append, List.map_append]
  simp
theorem plc_len (f : List Mk) : (plc f).length = f.length := by unfold plc; simp
theorem look_app {l r : List (Mk × D)} {k : Mk} (h : k ∈ l.map (·.1)) : lookL (l ++ r) k = lookL l k := by
  unfold lookL
  rw [List.find?_append]
  cases e : l.find? fun p => decide (p.1 = k) with
  | some p => rfl
  | none =>
    obtain ⟨p, hp, rfl⟩ := List.mem_map.mp h
    exact absurd (decide_eq_true rfl) (List.find?_eq_none.mp e p hp)
theorem look_new {l : List (Mk × D)} {k : Mk} {v : D} (h : k ∉ l.map (·.1)) : lookL (l ++ [(k, v)]) k = some v := by
  unfold lookL
  rw [List.find?_append, show (l.find? fun p => decide (p.1 = k)) = none from List.find?_eq_none.mpr fun p hp c => h (List.mem_map.mpr ⟨p, hp, of_decide_eq_true c⟩)]
  simp
theorem plc_look : ∀ (f : List Mk) {o : Mk}, o ∈ f → lookL (plc f) o = some (natD (f.idxOf o)) := by
  intro f
  -- from the end
  have key : ∀ (r : List Mk) {o : Mk}, o ∈ r.reverse → lookL (plc r.reverse) o = some (natD (r.reverse.idxOf o)) := by
    intro r
    induction r with
    | nil => intro o h; cases h
    | cons x r ih =>
      intro o h
      rw [List.reverse_cons] at h ⊢
      rw [plc_app]
      by_cases ho : o ∈ r.reverse
      · rw [look_app (by rw [plc_keys]; exact ho), ih ho, List.idxOf_append, if_pos ho]
      · have : o = x := by
          rcases List.mem_append.mp h with h | h
          · exact absurd h ho
          · exact List.mem_singleton.mp h
        subst this
        rw [look_new (by rw [plc_keys]; exact ho), List.idxOf_append, if_neg ho]
        simp
  intro o h
  have := key f.reverse (o := o) (by rw [List.reverse_reverse]; exact h)
  rw [List.reverse_reverse] at this
  exact this
end
end Ly

set_option Elab.async false
set_option linter.all false
set_option maxRecDepth 100000
set_option maxHeartbeats 2000000
/-! Ly: rows of numbers and of int tuples, sorted. -/
namespace Ly
open PySem PySem.Spec PyProof.Rows L2 PySem.W
theorem sortL_natD {l C : List Nat} (hp : l.Perm C) (hC : C.Pairwise (· < ·)) : sortL (l.map natD) = C.map natD := by
  rw [sortL_perm (hp.map natD) fun x hx y hy e => ?_]
  · unfold sortL
    refine List.mergeSort_of_pairwise ?_
    rw [List.pairwise_map]
    refine hC.imp fun {a b} h => ?_
    show (!dataLt (.int (b : Int)) (.int (a : Int))) = true
    rw [dataLt_int]
    simp
    omega
  · obtain ⟨a, _, rfl⟩ := List.mem_map.mp hx
    obtain ⟨b, _, rfl⟩ := List.mem_map.mp hy
    have : [a] = [b] := toks_nats_inj (a := [a]) (b := [b]) (by
      have e : keyToks (natD a) = keyToks (natD b) := e
      simp only [List.map_cons, List.map_nil, keyToksAll]
      rw [e])
    rw [(List.cons.inj this).1]
theorem sortD_natD {l C : List Nat} (hp : l.Perm C) (hC : C.Pairwise (· < ·)) : sortD (l.map natD) = some (C.map natD) := by
  unfold sortD
  have hal : alk (l.map natD) = true := by
    unfold alk
    refine List.all_eq_true.mpr fun d hd => ?_
    obtain ⟨r, _, rfl⟩ := List.mem_map.mp hd
    rw [(sh0 r).shp (by omega)]
    simp only [Bool.true_and, Bool.and_eq_true]
    refine ⟨rfl, List.all_eq_true.mpr fun e he => ?_⟩
    obtain ⟨q, _, rfl⟩ := List.mem_map.mp he
    rfl
  have ht : ((l.map natD).all fun d => !isTup d) = true := List.all_eq_true.mpr fun d hd => by
    obtain ⟨r, _, rfl⟩ := List.mem_map.mp hd
    rfl
  rw [hal, ht, Bool.true_and, Bool.or_true, Bool.true_or, if_pos rfl, sortL_natD hp hC]
theorem nat_sorted {l C : List Nat} (hp : l.Perm C) (hC : C.Pairwise (· < ·)) : ((l.map Int.ofNat).mergeSort fun a b => decide (a ≤ b)).map PyData.int = C.map natD := by
  have : ((l.map Int.ofNat).mergeSort fun a b => decide (a ≤ b)) = C.map Int.ofNat := by
    refine sorted_uniq ((List.mergeSort_perm _ _).trans (hp.map Int.ofNat)) (sorted_ms _) ?_
    rw [List.pairwise_map]
    exact hC.imp fun {a b} h => by
      show (a : Int) ≤ (b : Int)
      omega
  rw [this, List.map_map]; rfl
theorem asc_range (T : Nat) (p : Nat → Bool) : ((List.range T).filter p).Pairwise (· < ·) := List.Pairwise.filter _ List.pairwise_lt_range
theorem asc_nodup {l : List Nat} (h : l.Pairwise (· < ·)) : l.Nodup := h.imp fun h => Nat.ne_of_lt h
theorem perm_of {α : Type} {l C : List α} (h1 : l.Nodup) (h2 : C.Nodup) (h : ∀ x, x ∈ l ↔ x ∈ C) : l.Perm C := (List.perm_ext_iff_of_nodup h1 h2).mpr h
/-! ### rows of int tuples -/
theorem toks_ints_inj : ∀ {a b : List Int}, keyToksAll (a.map .int) = keyToksAll (b.map .int) → a = b
  | [], [], _ => rfl
  | [], b :: bs, h => by simp [keyToksAll, keyToks] at h
  | a :: as, [], h => by simp [keyToksAll, keyToks] at h
  | a :: as, b :: bs, h => by
    simp only [List.map_cons, keyToksAll, keyToks, List.cons_append, List.nil_append, List.cons.injEq, Sum.inl.injEq, true_and] at h
    obtain ⟨h1, h2⟩ := h
    rw [toks_ints_inj h2, h1]
theorem alikeAll_ints : ∀ a b : List Int, alikeAll (a.map .int) (b.map .int) = true
  | [], _ => by simp [alikeAll]
  | _ :: _, [] => by simp [alikeAll]
  | a :: as, b :: bs => by
    simp only [List.map_cons, alikeAll, alikeAll_ints as bs, Bool.and_true]
    rfl
theorem sortD_rows {rs : List Mk} (h : ∀ r ∈ rs, r ≠ []) : sortD (rs.map intsT) = some (sortL (rs.map intsT)) := by
  unfold sortD
  have hal : alk (rs.map intsT) = true := by
    unfold alk
    refine List.all_eq_true.mpr fun d hd => ?_
    obtain ⟨r, _, rfl⟩ := List.mem_map.mp hd
    rw [(shal_ints r).shp (by omega)]
    simp only [Bool.true_and, Bool.and_eq_true]
    refine ⟨rfl, List.all_eq_true.mpr fun e he => ?_⟩
    obtain ⟨q, _, rfl⟩ := List.mem_map.mp he
    exact alikeAll_ints r q
  have : (rs.map intsT).all isTup1 = true := List.all_eq_true.mpr fun d hd => by
    obtain ⟨r, hr, rfl⟩ := List.mem_map.mp hd
    cases r with
    | nil => exact absurd rfl (h _ hr)
    | cons a r => rfl
  rw [hal, this]; rfl
theorem sortL_rows_eq {a b : List Mk} (h : a.Perm b) : sortL (a.map intsT) = sortL (b.map intsT) := sortL_perm (h.map intsT) fun x hx y hy e => by
  obtain ⟨r, _, rfl⟩ := List.mem_map.mp hx
  obtain ⟨q, _, rfl⟩ := List.mem_map.mp hy
  have e : keyToksAll (r.map .int) = keyToksAll (q.map .int) := e
  rw [toks_ints_inj e]
theorem sortL_rows (rs : List Mk) : ∃ qs : List Mk, sortL (rs.map intsT) = qs.map intsT ∧ qs.Perm rs := by
  have p := List.mergeSort_perm (rs.map intsT) (dataLe false fun d : D => d)
  obtain ⟨f, hf⟩ : ∃ f : D → Mk, ∀ r, f (intsT r) = r := by
    refine ⟨fun d => match d with
      | .tuple ds => ds.map fun d => match d with
        | .int i => i
        | _ => 0
      | _ => [], fun r => ?_⟩
    show (r.map PyData.int).map _ = r
    rw [List.map_map]
    exact (List.map_congr_left (g := id) (fun a _ => rfl)).trans (List.map_id r)
  have p : (sortL (rs.map intsT)).Perm (rs.map intsT) := p
  refine ⟨(sortL (rs.map intsT)).map f, ?_, ?_⟩
  · rw [List.map_map]
    symm
    rw [List.map_congr_left (g := id)]
    · simp
    · intro d hd
      obtain ⟨r, _, rfl⟩ := List.mem_map.mp (p.mem_iff.mp hd)
      show intsT (f (intsT r)) = intsT r
      rw [hf]
  · have := p.map f
    rw [List.map_map] at this
    have e : rs.map (f ∘ intsT) = rs := (List.map_congr_left (g := id) (fun r _ => hf r)).trans (List.map_id rs)
    rwa [e] at this
end Ly

set_option Elab.async false
set_option linter.all false
set_option maxRecDepth 100000
set_option maxHeartbeats 2000000
/-! Ly: more for the laws' mathematics. -/
namespace Ly
open PySem PySem.Spec PyProof.Rows L2
/-- a draw below m, whatever the other hand-told defs do -/
theorem gf_take' {T : Nat → Option Df} {sp : Nat → List D → Dr → Oc} {W k f : Nat} {m : Int} (h : T f = none) (hs : ∀ a d, sp f a d = takeF a d) (h0 : 0 < m) (h1 : m < 1073741824) : GF (run T sp W (k + 1)) f [drw, .int m] (fun d => ∃ i : Nat, d = natD i ∧ (i : Int) < m) := fun dr hd => by
  have q := gf_take (T := T) (W := W) (k := k) h h0 h1 dr hd
  rw [run_sp h] at q ⊢
  rw [hs]
  exact q
/-! ### rows and tables (as in k11) -/
theorem sset_nat (l : List Nat) (h1 : l.length ≤ 4000) (h2 : ∀ v ∈ l, v < 60) : ∃ fr : List Nat, bfD .sset [.list (l.map natD)] = some (.list (fr.map natD)) ∧ fr.Nodup ∧ ∀ v, v ∈ fr ↔ v ∈ l := by
  have hi : intsD (l.map natD) = some (l.map Int.ofNat) := by
    rw [show l.map natD = (l.map Int.ofNat).map .int by rw [List.map_map]; rfl]
    exact intsD_ints _
  have hmem : ∀ x ∈ dedup (l.map Int.ofNat), x ∈ (List.range 60).map Int.ofNat := fun x hx => by
    obtain ⟨v, hv, rfl⟩ := List.mem_map.mp (dedup_mem.mp hx)
    exact List.mem_map.mpr ⟨v, List.mem_range.mpr (h2 v hv), rfl⟩
  have hd : (dedup (l.map Int.ofNat)).length < 64 := by
    have := nodup_len (dedup_nodup _) hmem
    rw [List.length_map, List.length_range] at this
    omega
  have hcast : (ssL (l.map Int.ofNat)).map PyData.int = ((ssL (l.map Int.ofNat)).map Int.toNat).map natD := by
    rw [List.map_map]
    refine List.map_congr_left fun x hx => ?_
    obtain ⟨v, _, rfl⟩ := List.mem_map.mp (ssL_mem.mp hx)
    rfl
  refine ⟨(ssL (l.map Int.ofNat)).map Int.toNat, ?_, ?_, fun v => ?_⟩
  · show (match intsD (l.map natD) with
      | some is => if decide (is.length ≤ 4000) && decide ((dedup is).length < 64) then some (PyData.list ((ssL is).map .int)) else none
      | none => none) = _
    rw [hi]
    dsimp only
    rw [if_pos (by rw [List.length_map, decide_eq_true h1, decide_eq_true hd]; rfl), hcast]
  · show List.Pairwise (· ≠ ·) _
    rw [List.pairwise_map]
    refine List.Pairwise.imp_of_mem (fun {a b} ha hb h => ?_) (ssL_lt (l.map Int.ofNat))
    obtain ⟨v, _, rfl⟩ := List.mem_map.mp (ssL_mem.mp ha)
    obtain ⟨w, _, rfl⟩ := List.mem_map.mp (ssL_mem.mp hb)
    have h : (v : Int) < (w : Int) := h
    show v ≠ w
    omega
  · rw [List.mem_map]
    constructor
    · rintro ⟨x, hx, rfl⟩
      obtain ⟨w, hw, rfl⟩ := List.mem_map.mp (ssL_mem.mp hx)
      exact hw
    · intro hv
      exact ⟨Int.ofNat v, ssL_mem.mpr (List.mem_map.mpr ⟨v, hv, rfl⟩), rfl⟩
theorem nin_nat (x : Nat) (l : List Nat) : cmpD .notin (natD x) (.list (l.map natD)) = some (!decide (x ∈ l)) := by
  show (inD (natD x) (.list (l.map natD))).map (!·) = _
  rw [inD_lst eqEnc_nat sh0 (k := 0) (by omega)]; rfl
theorem add_nats {f w : List Nat} (h : f.length + w.length ≤ 1000000) : binD .add (.list (f.map natD)) (.list (w.map natD)) = some (.list ((f ++ w).map natD)) := by
  show (if okLen ((f.map natD).length + (w.map natD).length) then some (PyData.list (f.map natD ++ w.map natD)) else none) = _
  rw [List.length_map, List.length_map, if_pos (okL h), List.map_append]
theorem addAll_len {n : Nt} {most k : Nat} {m : Mk} : ∀ {ts : List Nat} {f f' : List Mk} {a a' : List Arc}, addAll n most k m ts f a = some (f', a') → a'.length = a.length + ts.length
  | [], f, f', a, a', h => by cases h; rfl
  | t :: ts, f, f', a, a', h => by
    unfold addAll at h
    split at h
    · have := addAll_len h
      rw [List.length_append, List.length_singleton] at this
      rw [this, List.length_cons]; omega
    · split at h
      · cases h
      · have := addAll_len h
        rw [List.length_append, List.length_singleton] at this
        rw [this, List.length_cons]; omega
def pdct (f : List Mk) : D := dmk true (tabP intsT (plc f))
theorem in_p (f : List Mk) (o : Mk) : cmpD .notin (intsT o) (pdct f) = some (!decide (o ∈ f)) := by
  have := nin_tab kenc_ints (plc f) o
  rw [plc_keys] at this
  exact this.trans (congrArg (fun b => some (!b)) (by rw [Bool.eq_iff_iff]; simp only [decide_eq_true_eq]))
theorem set_p {f : List Mk} {o : Mk} (h : o ∉ f) (hl : f.length < 16777216) : setD (pdct f) (intsT o) (natD f.length) = some (pdct (f ++ [o])) := by
  show dputD (dmk true (tabP intsT (plc f))) (intsT o) (natD f.length) = _
  rw [dput_new kenc_ints (by rw [plc_keys]; exact h) (by rw [plc_len]; exact hl), ← plc_app]; rfl
theorem idx_p {f : List Mk} {o : Mk} (h : o ∈ f) : idxD (pdct f) (intsT o) = some (natD (f.idxOf o)) := idx_tab kenc_ints (plc_look f h)
theorem map_snoc {α : Type} {e : α → D} (l : List α) (x : α) : (l ++ [x]).map e = l.map e ++ [e x] := by rw [List.map_append]; rfl
def spaceD (f : List Mk) (a : List Arc) : D := .tuple [.tuple (f.map intsT), .tuple (a.map arcD)]
theorem lay_ints (m : Mk) : (intsT m).canLay0 = true := by
  show PyData.canLayAll0 (m.map .int) = true
  induction m with
  | nil => rfl
  | cons a m ih => rw [List.map_cons]; simp only [PyData.canLayAll0, PyData.canLay0, ih, Bool.and_self]
theorem lay_rows (f : List Mk) : (PyData.list (f.map intsT)).canLay0 = true := by
  show PyData.canLayAll0 (f.map intsT) = true
  induction f with
  | nil => rfl
  | cons a m ih => rw [List.map_cons]; simp only [PyData.canLayAll0, lay_ints, ih, Bool.and_self]
theorem index_rows {f : List Mk} {o : Mk} (hn : f.Nodup) (h : o ∈ f) : meD .index (.list (f.map intsT)) [intsT o] = some (natD (f.idxOf o)) := by
  have hs1 : SeqAt.shaped (intsT o) = true := by
    unfold SeqAt.shaped
    rw [lay_ints, decide_eq_true (Nat.le_trans (shal_ints o).2 (by omega))]; rfl
  have hs2 : SeqAt.shaped (.list (f.map intsT)) = true := by
    unfold SeqAt.shaped
    rw [lay_rows, decide_eq_true (Nat.le_trans (shal_lst (shal_map shal_ints f)).2 (by omega))]; rfl
  show (if SeqAt.shaped (intsT o) && SeqAt.shaped (.list (f.map intsT)) then ((f.map intsT).findIdx? fun d => PyData.eqv d (intsT o)).map fun j => PyData.int (j : Nat) else none) = _
  rw [hs1, hs2, if_pos (show (true && true) = true from rfl)]
  have hi := idx_get h
  have hlt := (List.getElem?_eq_some_iff.mp hi).1
  have : (f.map intsT).findIdx? (fun d => PyData.eqv d (intsT o)) = some (f.idxOf o) := by
    rw [List.findIdx?_eq_some_iff_getElem]
    refine ⟨by rw [List.length_map]; exact hlt, ?_, fun j hj => ?_⟩
    · rw [List.getElem_map, eqEnc_ints]
      have := (List.getElem?_eq_some_iff.mp hi).2
      rw [this]; simp
    · rw [List.getElem_map, eqEnc_ints]
      simp only [decide_eq_true_eq]
      intro e
      have : j = f.idxOf o := get_inj hn (List.getElem?_eq_some_iff.mpr ⟨by omega, e⟩) hi
      omega
  rw [this]; rfl
theorem nin_rows (f : List Mk) (o : Mk) : cmpD .notin (intsT o) (.list (f.map intsT)) = some (!decide (o ∈ f)) := by
  show (inD (intsT o) (.list (f.map intsT))).map (!·) = _
  rw [inD_lst eqEnc_ints shal_ints (by omega)]
  exact congrArg (fun b => some (!b)) (by rw [Bool.eq_iff_iff]; simp only [decide_eq_true_eq])
theorem add_rows {f w : List Mk} (h : f.length + w.length ≤ 1000000) : binD .add (.list (f.map intsT)) (.list (w.map intsT)) = some (.list ((f ++ w).map intsT)) := by
  show (if okLen ((f.map intsT).length + (w.map intsT).length) then some (PyData.list (f.map intsT ++ w.map intsT)) else none) = _
  rw [List.length_map, List.length_map, if_pos (okL h), List.map_append]
theorem look_mem {l : List (Mk × D)} {k : Mk} {d : D} (h : lookL l k = some d) : ∃ p ∈ l, p.2 = d := by
  unfold lookL at h
  obtain ⟨p, hp, rfl⟩ := Option.map_eq_some_iff.mp h
  exact ⟨p, List.mem_of_find?_eq_some hp, rfl⟩
def rdct (rl : List (Mk × D)) : D := dmk true (tabP intsT rl)
structure RlOk (f : List Mk) (rl : List (Mk × D)) : Prop where
  ks : rl.map (·.1) = f
  rs : ∀ p ∈ rl, ∃ r : List Nat, p.2 = natsT r ∧ r.length ≤ f.length
theorem nin_r {f : List Mk} {rl : List (Mk × D)} (h : RlOk f rl) (o : Mk) : cmpD .notin (intsT o) (rdct rl) = some (!decide (o ∈ f)) := by
  have := nin_tab kenc_ints rl o
  rw [h.ks] at this
  exact this.trans (congrArg (fun b => some (!b)) (by rw [Bool.eq_iff_iff]; simp only [decide_eq_true_eq]))
theorem gs_cnt {F : Nat → List D → Dr → Oc} {W : Nat} {r : Sts} {env : List Sl} {Q : Fl → List Sl → Prop} (q : Q .ct env) : GS F W (.cons .cnt r) env Q := fun dr hd => ⟨.ct, env, dr, rfl, hd, q⟩
theorem flat_len {α β : Type} {g : α → List β} : ∀ (l : List α), (∀ a ∈ l, (g a).length ≤ 5) → (l.flatMap g).length ≤ 5 * l.length
  | [], _ => by simp
  | a :: l, h => by
    have := h a List.mem_cons_self
    have := flat_len l fun b hb => h b (List.mem_cons_of_mem _ hb)
    rw [List.flatMap_cons, List.length_append, List.length_cons]
    omega
theorem walk_alen {n : Nt} {ch : Mk → List Nat} {most : Nat} {m0 : Mk} (h1 : 1 ≤ most) (hm0 : m0.length = n.L) (hc : ∀ m, m.length = n.L → (ch m).length ≤ 5) : ∀ {k : Nat} {f : List Mk} {a : List Arc}, walk n ch most m0 k = some (f, a) → a.length ≤ 5 * k
  | 0, f, a, h => by cases h; simp
  | k + 1, f, a, h => by
    unfold walk at h
    split at h
    · cases h
    · rename_i f0 a0 e
      have ih := walk_alen h1 hm0 hc e
      split at h
      · rename_i m hm
        obtain ⟨s, hs⟩ := (walk_spec h1 e).rc m (List.mem_of_getElem? hm)
        have := hc m (hs.len hm0)
        have := addAll_len h
        omega
      · cases h; omega
theorem shal_arc (a : Arc) : Shal 1 (arcD a) := shal_tup fun d hd => by
  simp only [List.mem_cons, List.not_mem_nil, or_false] at hd
  rcases hd with rfl | rfl | rfl <;> exact shal_int
theorem shal_space (f : List Mk) (a : List Arc) : Shal 3 (spaceD f a) := shal_tup fun d hd => by
  simp only [List.mem_cons, List.not_mem_nil, or_false] at hd
  rcases hd with rfl | rfl
  · exact shal_tup (shal_map shal_ints f)
  · exact shal_tup (shal_map shal_arc a)
/-! ### dict comprehensions, rows of naturals -/
section
variable {F : Nat → List D → Dr → Oc} {env : List Sl} {kx vx : Ex}
theorem pv_dc {own : List Nat} {tg : Tg} {it : Itx} {cs : Exs} {α : Type} {as : List α} {enc gk gv : α → D} {p : α → Bool} (hi : PIt F it env (as.map enc))
    (h : ∀ a ∈ as, ∃ env', tgo tg (enc a) (wipeE env own) = some env' ∧ PCs F cs env' (p a) ∧ (p a = true → PV F kx env' (gk a) ∧ PV F vx env' (gv a) ∧ isKey0 (gk a) = true)) : PV F (.dc own tg it cs kx vx) env (.dict (dcP ((as.filter p).map fun a => .tuple [gk a, gv a]))) := fun m dr hm => by
  show (evi F .bor it env dr).bind _ = _
  rw [hi .bor dr bor_ne]
  show (match lcGo (tn1 tg own env (fun env dr => evt F cs env dr) (pairE (fun env dr => ev F .frz kx env dr) fun env dr => ev F .frz vx env dr)) (as.map enc) dr with
    | some (r, dr) => fin m (.dict (dcP r)) dr
    | none => .stk : R D) = _
  rw [lc_go (g := fun a => if p a then [PyData.tuple [gk a, gv a]] else []) fun a ha => ?_, flat_if p (fun a => PyData.tuple [gk a, gv a])]
  · exact fin_ne hm _ dr
  · obtain ⟨env', h1, h2, h3⟩ := h a ha
    refine tn_if h1 (h2 dr) fun hp => ?_
    obtain ⟨g1, g2, g3⟩ := h3 hp
    show (ev F .frz kx env' dr).bind _ = _
    rw [g1 .frz dr frz_ne]
    show (ev F .frz vx env' dr).bind _ = _
    rw [g2 .frz dr frz_ne]
    show (if isKey0 (gk a) then R.ok (PyData.tuple [gk a, gv a]) dr else .stk) = _
    rw [g3]; rfl
end
theorem pt_idx {F : Nat → List D → Dr → Oc} {env : List Sl} {x y : Ex} {d d1 d2 : D} {k : Bool} (h1 : PV F x env d1) (h2 : PV F y env d2) (h : idxD d1 d2 = some d) (ht : truD d = some k) : PT' F (.idx x y) env k := fun dr => by
  show (ev F .bor x env dr).bind _ = _
  rw [h1 .bor dr bor_ne]
  show (ev F .bor y env dr).bind _ = _
  rw [h2 .bor dr bor_ne]
  show lift .tst (idxD d1 d2) dr = _
  rw [h]
  show (match truD d with
    | some b => R.ok (PyData.bool b) dr
    | none => .stk) = _
  rw [ht]
abbrev lsD (l : List Nat) : D := .list (l.map natD)
def nxD (nx : List (List Nat)) : D := .list (nx.map lsD)
theorem shal_ls (l : List Nat) : Shal 1 (lsD l) := shal_lst (shal_map sh0 l)
theorem eqEnc_lst {α : Type} [DecidableEq α] {e : α → D} (h : EqEnc e) : EqEnc fun l : List α => PyData.list (l.map e) := fun a b => by
  show PyData.eqvAll (a.map e) (b.map e) = _
  exact eqvAll_map h a b
theorem eqEnc_ls : EqEnc lsD := eqEnc_lst eqEnc_nat
theorem eq_ls (a b : List Nat) : cmpD .eq (lsD a) (lsD b) = some (decide (a = b)) := eqD_enc eqEnc_ls shal_ls (by omega) a b
theorem ne_ls (a b : List Nat) : cmpD .ne (lsD a) (lsD b) = some (!decide (a = b)) := by
  show (eqD (lsD a) (lsD b)).map (!·) = _
  rw [show eqD (lsD a) (lsD b) = some (decide (a = b)) from eq_ls a b]; rfl
/-- a set of numbers below N -/
def fl (N : Nat) (p : Nat → Bool) : List Nat := (List.range N).filter p
theorem mem_fl {N : Nat} {p : Nat → Bool} {k : Nat} : k ∈ fl N p ↔ k < N ∧ p k = true := by unfold fl; rw [List.mem_filter, List.mem_range]
theorem fl_asc (N : Nat) (p : Nat → Bool) : (fl N p).Pairwise (· < ·) := asc_range N p
theorem fl_nodup (N : Nat) (p : Nat → Bool) : (fl N p).Nodup := asc_nodup (fl_asc N p)
theorem fl_len (N : Nat) (p : Nat → Bool) : (fl N p).length ≤ N := by
  unfold fl
  refine Nat.le_trans (List.length_filter_le _ _) ?_
  rw [List.length_range]; exact Nat.le_refl _
theorem fl_congr {N : Nat} {p q : Nat → Bool} (h : ∀ k, k < N → p k = q k) : fl N p = fl N q := List.filter_congr fun k hk => h k (List.mem_range.mp hk)
theorem dec_fl {N : Nat} {p : Nat → Bool} {k : Nat} (hk : k < N) : decide (k ∈ fl N p) = p k := by
  rw [Bool.eq_iff_iff, decide_eq_true_eq, mem_fl]
  exact ⟨fun h => h.2, fun h => ⟨hk, h⟩⟩
theorem fl_perm {N : Nat} {p : Nat → Bool} {l : List Nat} (hn : l.Nodup) (h : ∀ k, k ∈ l ↔ k < N ∧ p k = true) : l.Perm (fl N p) := perm_of hn (fl_nodup N p) fun k => by rw [h, mem_fl]
theorem fl_filter {N : Nat} {p q : Nat → Bool} : (fl N p).filter q = fl N fun k => q k && p k := by unfold fl; rw [List.filter_filter]
theorem pt_isin_ls {F : Nat → List D → Dr → Oc} {env : List Sl} {x y : Ex} {k : Nat} {l : List Nat} (h1 : PV F x env (natD k)) (h2 : PV F y env (lsD l)) : PT' F (.cmp .isin x y) env (decide (k ∈ l)) := pt_cmp' h1 h2 (isin_nat _ _)
theorem pt_nin_ls {F : Nat → List D → Dr → Oc} {env : List Sl} {x y : Ex} {k : Nat} {l : List Nat} (h1 : PV F x env (natD k)) (h2 : PV F y env (lsD l)) : PT' F (.cmp .notin x y) env (!decide (k ∈ l)) := pt_cmp' h1 h2 (nin_nat _ _)
/-- the rows of a graph below N -/
structure NxOk (N : Nat) (S : Nat → Nat → Prop) (nx : List (List Nat)) : Prop where
  len : nx.length = N
  mem : ∀ k l, nx[k]? = some l → ∀ j, j ∈ l ↔ S k j
  lt : ∀ k j, S k j → j < N
  sz : ∀ l ∈ nx, l.length ≤ 100
def rowOf (nx : List (List Nat)) (k : Nat) : List Nat := nx[k]?.getD []
section
variable {N : Nat} {S : Nat → Nat → Prop} {nx : List (List Nat)} (ok : NxOk N S nx) {k : Nat} (hk : k < N)
include ok hk
theorem NxOk.at : nx[k]? = some (rowOf nx k) := by
  have : k < nx.length := by rw [ok.len]; exact hk
  unfold rowOf
  rw [List.getElem?_eq_getElem this]; rfl
theorem NxOk.row (j : Nat) : j ∈ rowOf nx k ↔ S k j := ok.mem k _ (ok.at hk) j
theorem NxOk.rl : (rowOf nx k).length ≤ 100 := ok.sz _ (List.mem_of_getElem? (ok.at hk))
theorem pv_row {F : Nat → List D → Dr → Oc} {env : List Sl} {x y : Ex} (h1 : PV F x env (nxD nx)) (h2 : PV F y env (natD k)) : PV F (.idx x y) env (lsD (rowOf nx k)) := pv_idx h1 h2 (at_map (e := lsD) (ok.at hk))
end
theorem tru_ls (l : List Nat) : truD (lsD l) = some (!l.isEmpty) := by
  show some (!(l.map natD).isEmpty) = _
  rw [emp_map]
theorem idx_row {N : Nat} {S : Nat → Nat → Prop} {nx : List (List Nat)} (ok : NxOk N S nx) {k : Nat} (hk : k < N) : idxD (nxD nx) (natD k) = some (lsD (rowOf nx k)) := at_map (e := lsD) (ok.at hk)
/-! ### walks that stay, walks that come -/
inductive Ev (S : Nat → Nat → Prop) (w g : Nat → Bool) : Nat → Prop
  | here {k : Nat} : g k = true → Ev S w g k
  | go {k j : Nat} : w k = true → S k j → Ev S w g j → Ev S w g k
def Sty (S : Nat → Nat → Prop) (w : Nat → Bool) (k : Nat) : Prop := ∃ X : Nat → Prop, X k ∧ ∀ x, X x → w x = true ∧ ((∀ j, ¬ S x j) ∨ ∃ j, S x j ∧ X j)
noncomputable def evB (S : Nat → Nat → Prop) (w g : Nat → Bool) : Nat → Bool := fun k => @decide (Ev S w g k) (Classical.propDecidable _)
noncomputable def stB (S : Nat → Nat → Prop) (w : Nat → Bool) : Nat → Bool := fun k => @decide (Sty S w k) (Classical.propDecidable _)
theorem evB_iff {S : Nat → Nat → Prop} {w g : Nat → Bool} {k : Nat} : evB S w g k = true ↔ Ev S w g k := @decide_eq_true_iff _ (Classical.propDecidable _)
theorem stB_iff {S : Nat → Nat → Prop} {w : Nat → Bool} {k : Nat} : stB S w k = true ↔ Sty S w k := @decide_eq_true_iff _ (Classical.propDecidable _)
/-- one round of staying -/
def stp (nx : List (List Nat)) (N : Nat) (q : Nat → Bool) (k : Nat) : Bool := ((rowOf nx k).isEmpty || (rowOf nx k).any fun j => decide (j ∈ fl N q)) && q k
section
variable {N : Nat} {S : Nat → Nat → Prop} {nx : List (List Nat)} (ok : NxOk N S nx) {w q : Nat → Bool}
include ok
theorem stp_keeps (h : ∀ k, k < N → Sty S w k → q k = true) : ∀ k, k < N → Sty S w k → stp nx N q k = true := fun k hk hs => by
  unfold stp
  rw [h k hk hs, Bool.and_true, Bool.or_eq_true]
  obtain ⟨X, x0, hx⟩ := hs
  rcases (hx k x0).2 with h1 | ⟨j, h1, h2⟩
  · left
    rw [List.isEmpty_iff]
    exact List.eq_nil_iff_forall_not_mem.mpr fun j hj => h1 j ((ok.row hk j).mp hj)
  · right
    rw [List.any_eq_true]
    refine ⟨j, (ok.row hk j).mpr h1, decide_eq_true (mem_fl.mpr ⟨ok.lt k j h1, h j (ok.lt k j h1) ⟨X, h2, hx⟩⟩)⟩
theorem stp_end (hw : ∀ k, k < N → q k = true → w k = true) (h : ∀ k, k < N → Sty S w k → q k = true) (he : fl N (stp nx N q) = fl N q) : fl N q = fl N (stB S w) := fl_congr fun k hk => by
  rw [Bool.eq_iff_iff, stB_iff]
  refine ⟨fun hq => ⟨fun x => x < N ∧ q x = true, ⟨hk, hq⟩, fun x hx => ⟨hw x hx.1 hx.2, ?_⟩⟩, h k hk⟩
  have : x ∈ fl N (stp nx N q) := he ▸ mem_fl.mpr hx
  have hs := (mem_fl.mp this).2
  unfold stp at hs
  rw [Bool.and_eq_true, Bool.or_eq_true] at hs
  rcases hs.1 with h1 | h1
  · left
    intro j hj
    have := (ok.row hx.1 j).mpr hj
    rw [List.isEmpty_iff.mp h1] at this
    cases this
  · right
    obtain ⟨j, h2, h3⟩ := List.any_eq_true.mp h1
    exact ⟨j, (ok.row hx.1 j).mp h2, mem_fl.mp (of_decide_eq_true h3)⟩
theorem stp_len (he : fl N (stp nx N q) ≠ fl N q) : (fl N (stp nx N q)).length < (fl N q).length := by
  have e : fl N (stp nx N q) = (fl N q).filter fun k => (rowOf nx k).isEmpty || (rowOf nx k).any fun j => decide (j ∈ fl N q) := fl_filter.symm
  rw [e] at he ⊢
  refine Nat.lt_of_le_of_ne (List.length_filter_le _ _) fun h => he ?_
  exact List.filter_eq_self.mpr (List.length_filter_eq_length_iff.mp h)
end
end Ly

set_option Elab.async false
set_option linter.all false
set_option maxRecDepth 100000
set_option maxHeartbeats 4000000
namespace K01
open PySem PySem.Spec PyProof.Rows L2 Ly
def topS (i : Nat) : Stmt := PySem.Challenge.pw_tokensmove_k01_all_markings_where_they_a.main.body.getD i (.Pass ⟨0, 0, 0, 0⟩)
abbrev s (x : String) : Str := PySem.Str.ofString x
def G : Gi := ⟨[(s "covers", 0), (s "added", 1), (s "less", 2), (s "effect", 3), (s "can_move", 4), (s "moves_of", 5), (s "space_of", 6), (s "least_runs", 7), (s "run_to", 8), (s "steps_from", 9), (s "reached_from", 10), (s "knots_of", 11), (s "ends_of", 12), (s "greatest_at", 13), (s "_law_net", 14), (s "_law_marking", 15), (s "_law_can", 16), (s "_law_moved", 17), (s "_law_space", 18), (s "_law_arcs", 19), (s "_law_reached", 20), (s "_law_told", 21), (s "_law_take", 22)], [s "len", s "tuple", s "list", s "max", s "all", s "sorted", s "abs", s "int", s "isinstance", s "set", s "range", s "zip"], [(s "Missing", 0)], [(s "MAX_MARKINGS", 300)], [], []⟩
def mk (name : Str) (i : Nat) (ps N : List Str) (mu : List Nat) : DefT := ⟨name, topS i, N, ps, (trD ⟨G, N, mu⟩ (defScope (topS i)) (defBody (topS i))).getD .nil⟩
def mu0 : List Nat := ([] : List Str).filterMap (ixOf [s "one", s "other", s "a", s "b"])
def d0 : DefT := mk "covers" 4 [s "one", s "other"] [s "one", s "other", s "a", s "b"] mu0
def mu1 : List Nat := ([] : List Str).filterMap (ixOf [s "one", s "other", s "a", s "b"])
def d1 : DefT := mk "added" 5 [s "one", s "other"] [s "one", s "other", s "a", s "b"] mu1
def mu2 : List Nat := ([] : List Str).filterMap (ixOf [s "one", s "other", s "a", s "b"])
def d2 : DefT := mk "less" 6 [s "one", s "other"] [s "one", s "other", s "a", s "b"] mu2
def mu3 : List Nat := ([] : List Str).filterMap (ixOf [s "net", s "t", s "_", s "takes", s "gives"])
def d3 : DefT := mk "effect" 7 [s "net", s "t"] [s "net", s "t", s "_", s "takes", s "gives"] mu3
def mu4 : List Nat := ([] : List Str).filterMap (ixOf [s "net", s "marking", s "t"])
def d4 : DefT := mk "can_move" 8 [s "net", s "marking", s "t"] [s "net", s "marking", s "t"] mu4
def mu5 : List Nat := ([] : List Str).filterMap (ixOf [s "net", s "marking", s "t"])
def d5 : DefT := mk "moves_of" 9 [s "net", s "marking"] [s "net", s "marking", s "t"] mu5
def mu6 : List Nat := ([s "places", s "arcs", s "found"] : List Str).filterMap (ixOf [s "net", s "marking", s "most", s "found", s "places", s "arcs", s "at", s "t", s "other"]) ++ ([s "places"] : List Str).filterMap (fun y => (ixOf [s "net", s "marking", s "most", s "found", s "places", s "arcs", s "at", s "t", s "other"] y).map (1000 + ·))
def d6 : DefT := mk "space_of" 12 [s "net", s "marking", s "most"] [s "net", s "marking", s "most", s "found", s "places", s "arcs", s "at", s "t", s "other"] mu6
def mu7 : List Nat := ([s "runs"] : List Str).filterMap (ixOf [s "space", s "runs", s "markings", s "arcs", s "i", s "t", s "j", s "k"])
def d7 : DefT := mk "least_runs" 13 [s "space"] [s "space", s "runs", s "markings", s "arcs", s "i", s "t", s "j", s "k"] mu7
def mu8 : List Nat := ([] : List Str).filterMap (ixOf [s "net", s "marking", s "goal", s "most", s "space", s "one", s "run"])
def d8 : DefT := mk "run_to" 14 [s "net", s "marking", s "goal", s "most"] [s "net", s "marking", s "goal", s "most", s "space", s "one", s "run"] mu8
def mu9 : List Nat := ([] : List Str).filterMap (ixOf [s "space", s "k", s "i", s "t", s "j"])
def d9 : DefT := mk "steps_from" 15 [s "space", s "k"] [s "space", s "k", s "i", s "t", s "j"] mu9
def mu10 : List Nat := ([s "waiting", s "found", s "nexts"] : List Str).filterMap (ixOf [s "space", s "k", s "nexts", s "i", s "_", s "j", s "found", s "waiting"])
def d10 : DefT := mk "reached_from" 16 [s "space", s "k"] [s "space", s "k", s "nexts", s "i", s "_", s "j", s "found", s "waiting"] mu10
def mu11 : List Nat := ([s "done", s "found"] : List Str).filterMap (ixOf [s "space", s "reach", s "k", s "found", s "done", s "knot", s "j"])
def d11 : DefT := mk "knots_of" 17 [s "space"] [s "space", s "reach", s "k", s "found", s "done", s "knot", s "j"] mu11
def mu12 : List Nat := ([s "last"] : List Str).filterMap (ixOf [s "space", s "last", s "knot"])
def d12 : DefT := mk "ends_of" 18 [s "space"] [s "space", s "last", s "knot"] mu12
def mu13 : List Nat := ([] : List Str).filterMap (ixOf [s "space", s "markings", s "row"])
def d13 : DefT := mk "greatest_at" 19 [s "space"] [s "space", s "markings", s "row"] mu13
def mu14 : List Nat := ([s "moves"] : List Str).filterMap (ixOf [s "draw", s "most", s "places", s "label", s "moves", s "kind", s "rows", s "taken", s "given", s "k", s "side", s "p"])
def d14 : DefT := mk "_law_net" 23 [s "draw", s "most"] [s "draw", s "most", s "places", s "label", s "moves", s "kind", s "rows", s "taken", s "given", s "k", s "side", s "p"] mu14
def mu15 : List Nat := ([] : List Str).filterMap (ixOf [s "draw", s "net", s "most", s "row", s "p", s "a", s "b"])
def d15 : DefT := mk "_law_marking" 24 [s "draw", s "net", s "most"] [s "draw", s "net", s "most", s "row", s "p", s "a", s "b"] mu15
def mu16 : List Nat := ([] : List Str).filterMap (ixOf [s "net", s "marking", s "t", s "p"])
def d16 : DefT := mk "_law_can" 25 [s "net", s "marking", s "t"] [s "net", s "marking", s "t", s "p"] mu16
def mu17 : List Nat := ([] : List Str).filterMap (ixOf [s "net", s "marking", s "t", s "p"])
def d17 : DefT := mk "_law_moved" 26 [s "net", s "marking", s "t"] [s "net", s "marking", s "t", s "p"] mu17
def mu18 : List Nat := ([s "runs"] : List Str).filterMap (ixOf [s "net", s "marking", s "most", s "k", s "runs", s "rows", s "t", s "other"]) ++ ([s "runs"] : List Str).filterMap (fun y => (ixOf [s "net", s "marking", s "most", s "k", s "runs", s "rows", s "t", s "other"] y).map (1000 + ·))
def d18 : DefT := mk "_law_space" 30 [s "net", s "marking", s "most"] [s "net", s "marking", s "most", s "k", s "runs", s "rows", s "t", s "other"] mu18
def mu19 : List Nat := ([] : List Str).filterMap (ixOf [s "net", s "rows", s "found", s "i", s "t"])
def d19 : DefT := mk "_law_arcs" 31 [s "net", s "rows"] [s "net", s "rows", s "found", s "i", s "t"] mu19
def mu20 : List Nat := ([] : List Str).filterMap (ixOf [s "arcs", s "k", s "turn", s "found", s "fresh", s "i", s "t", s "j"])
def d20 : DefT := mk "_law_reached" 32 [s "arcs", s "k"] [s "arcs", s "k", s "turn", s "found", s "fresh", s "i", s "t", s "j"] mu20
def mu21 : List Nat := ([] : List Str).filterMap (ixOf [s "kind", s "net", s "marking", s "goal", s "most"])
def d21 : DefT := mk "_law_told" 33 [s "kind", s "net", s "marking", s "goal", s "most"] [s "kind", s "net", s "marking", s "goal", s "most"] mu21
def T : List DefT := [d0, d1, d2, d3, d4, d5, d6, d7, d8, d9, d10, d11, d12, d13, d14, d15, d16, d17, d18, d19, d20, d21]
def lawN : List Str := [s "script", s "draw", s "turn", s "net", s "walked", s "arcs", s "reach", s "knots", s "first", s "marking", s "goal", s "rows", s "runs", s "space", s "many", s "k", s "j", s "one", s "knot", s "p", s "i", s "t"]
def lawMu : List Str := []
def lawI : Nat := 34
end K01

set_option Elab.async false
set_option linter.all false
set_option maxRecDepth 100000
set_option maxHeartbeats 4000000
namespace K01
open PySem PySem.Spec PyProof.Rows L2 Ly
abbrev takeS : Stmt := topS 22
abbrev drawS : Stmt := topS 21
theorem scTake : FnScope ["draw", "many", "found"] ["draw", "many"] (defScope takeS) := ⟨rfl, rfl, rfl, by decide +kernel, rfl, by decide +kernel, by decide +kernel⟩
theorem scDraw : FnScope ["script", "seed", "cell"] ["script"] (defScope drawS) := ⟨rfl, rfl, rfl, by decide +kernel, rfl, by decide +kernel, by decide +kernel⟩
section
variable {P : Program} {w : World} {K : PySem.W.Frag} {mg : Str → Option Value} {base : Heap} {exc : Exc}
theorem rd {σ : L2.St} {H : Hp} {a0 c : Addr} {i r s k : Int} {v : V} {Q : VK} (hσ : σ[0]? = some (some (.ref a0))) (h : H a0 = some (obj c i r s)) (e : atI [V.ref c, .int i, .int r, .int s] k = some v) (q : Q v H) :
    tOp (rIxL K) (tVar 0) (tC (.int k)) σ H Q := ⟨.ref a0, hσ, a0, _, k, v, rfl, rfl, .inl (.inl h), e, q⟩
theorem wr {σ : L2.St} {H : Hp} {a0 c : Addr} {i r s k : Int} {j : Nat} {v : V} {Q : L2.St → Hp → Prop} (hσ : σ[0]? = some (some (.ref a0))) (h : H a0 = some (obj c i r s)) (e : ixN 4 k = some j)
    (q : Q σ (upd H a0 (.lst ([V.ref c, .int i, .int r, .int s].set j v)))) : gSub (tVar 0) (tC (.int k)) rSetL v σ H Q := ⟨.ref a0, hσ, a0, _, k, j, rfl, rfl, h, e, q⟩
theorem drw_ref {a0 : Addr} {H : Hp} {v : V} (h : Rep K a0 H v drw) : v = .ref a0 := by
  have no : ∀ {o : HO}, ¬ Cont K a0 H o drw := fun {o} q => by
    generalize hd : drw = d at q
    cases q with
    | lst _ => cases hd
    | dK e _ =>
      cases hd
      rename_i kvs _
      cases kvs with
      | nil => cases e
      | cons p t =>
        obtain ⟨pk, pv⟩ := p
        have := (List.cons.inj e).1
        cases pk <;> cases this
    | dT e _ => cases hd
  generalize hd : drw = d at h
  cases h with
  | drw => rfl
  | mu _ q => subst hd; exact absurd q no
  | _ => cases hd
abbrev rInt1 : List V → Hp → VK → Prop := fun xs H Q => (∃ i, xs = [.int i] ∧ Q (.int i) H) ∨ ∃ k, xs = [.bl k] ∧ Q (.int (if k then 1 else 0)) H
def restT (K : PySem.W.Frag) : TS := tSeq (tAsg (tOp (rI (fun _ j => j ≠ 0) fun i j => .int (i.fmod j)) (tCB rInt1 (tCons (tOp (rIxL K) (tVar 0) (tC (.int 2))) tNil)) (tVar 1)) (gName 2))
  (tSeq (tAsg (tOp (rI CDivN fun i j => .int (i.fdiv j)) (tOp (rIxL K) (tVar 0) (tC (.int 2))) (tVar 1)) (gSub (tVar 0) (tC (.int 2)) rSetL)) (tRet (tVar 2)))
theorem rest_ok {a0 c : Addr} {i r s m : Int} {H : Hp} {D : Ends} (h : H a0 = some (obj c i r s)) (h0 : m ≠ 0) (hb : m.natAbs < 1073741824) (q : D.rt (.int (r.fmod m)) (upd H a0 (obj c i (r.fdiv m) s))) :
    restT K D [some (.ref a0), some (.int m), none] H := by
  refine rd (k := 2) rfl h rfl (.inl ⟨r, rfl, .int m, rfl, r, m, rfl, rfl, h0, ?_⟩)
  refine rd (k := 2) rfl h rfl ⟨.int m, rfl, r, m, rfl, rfl, ⟨h0, hb⟩, wr (k := 2) (j := 2) rfl h rfl ⟨_, rfl, q⟩⟩
theorem ok_take {f : Addr} {fd : FuncData} (F : Fun K "_law_take" "_law_take" takeS f fd) (ml : mg "len" = none) (mi : mg "int" = none) (n : Nat) (sp : Nat → List D → Dr → Oc) (hsp : ∀ a d, sp n a d = takeF a d) :
    FnOk P w K mg base (L2.CX P w) 1 f fd ["draw", "many"] (spF K exc sp n) := by
  refine F.okX scTake (fun vs H Q E h => ?_) (fun cdv A outer s H vs Q E hr h => ?_)
  · obtain ⟨a0, W, dr, ds, wa, dm, dk, rp, h⟩ := h
    rw [hsp] at h
    unfold takeF at h
    split at h
    · rw [rp.length]; rfl
    · exact False.elim h
  · obtain ⟨a0, W, dr, ds, wa, dm, dk, rp, h⟩ := h
    rw [hsp] at h
    unfold takeF at h
    split at h
    · rename_i m
      split at h
      · rename_i hok
        unfold takeOk at hok
        simp only [Bool.and_eq_true, decide_eq_true_eq] at hok
        obtain ⟨⟨hi, hm0⟩, hmb⟩ := hok
        refine ⟨_, pss_cons (ps_if (pt_cmpR op_eq (pe_ix ix_list (pv 0) pe_int (fun _ _ => rfl)) pe_int (nomark _))
            (pss_cons (ps_asg (pe_op op_add (pe_ix ix_list (pv 0) pe_int (fun _ _ => rfl)) pe_int) (pg_sub (pv 0) pe_int set_list))
            (pss_cons (ps_if (pt_cmpR op_lt (pe_ix ix_list (pv 0) pe_int (fun _ _ => rfl)) (pe_callB call_len_seq (by rfl) ml PySem.boot_len (pa_cons (pe_ix ix_list (pv 0) pe_int (fun _ _ => rfl)) pa_nil)) (nomark _))
              (pss_one (ps_asg (pe_op op_modN (pe_ix ix_list (pe_ix ix_list (pv 0) pe_int (fun _ _ => rfl)) (pe_ix ix_list (pv 0) pe_int (fun _ _ => rfl)) (fun _ _ => rfl)) pe_int) (pg_sub (pv 0) pe_int set_list))) pss_nil)
            (pss_one (ps_if (pt_cmpR op_eq (pe_ix ix_list (pv 0) pe_int (fun _ _ => rfl)) pe_int (nomark _))
              (pss_cons (ps_asg (pe_op op_modN (pe_callTy call_int1 (by rfl) mi (by rfl) (pa_cons (pe_op op_add (pe_op op_mul (pe_ix ix_list (pv 0) pe_int (fun _ _ => rfl)) pe_int) pe_int) pa_nil)) pe_int) (pg_sub (pv 0) pe_int set_list))
              (pss_one (ps_asg (pe_ix ix_list (pv 0) pe_int (fun _ _ => rfl)) (pg_sub (pv 0) pe_int set_list)))) pss_nil)))) pss_nil)
          (pss_cons (ps_set (i := 2) scTake.nd rfl (.inl rfl) (pe_op op_modN (pe_callTy call_int1 (by rfl) mi (by rfl) (pa_cons (pe_ix ix_list (pv 0) pe_int (fun _ _ => rfl)) pa_nil)) (pv 1)))
          (pss_cons (ps_asg (pe_op op_fdivN (pe_ix ix_list (pv 0) pe_int (fun _ _ => rfl)) (pv 1)) (pg_sub (pv 0) pe_int set_list))
          (pss_one (ps_ret (pv 2))))), ?_⟩
        obtain ⟨cells, i, r, s0⟩ := dr
        obtain ⟨c, e1, e2⟩ := dk
        obtain ⟨nw, e2⟩ := hid_of e2
        have ne : c ≠ a0 := fun z => nw (z ▸ wa)
        have hi : -1 ≤ i := hi
        cases rp with
        | cons q1 t =>
          cases t with
          | cons q2 t =>
            cases t
            cases drw_ref q1
            cases (RepB.int (c := ⟨a0, W, H⟩) (W := W) (H := H) (.inl q2))
            have stp : L2.start ["draw", "many", "found"] [V.ref a0, V.int m] = [some (.ref a0), some (.int m), none] := rfl
            rw [stp]
            -- the end, from any heap that differs at a0 alone
            have fin : ∀ (H' : Hp) (i' r' s' : Int), (∀ b, b ≠ a0 → H' b = H b) → H' a0 = some (obj c i' r' s') → Dr.next ⟨cells, i, r, s0⟩ = ⟨cells, i', r', s'⟩ → restT K { nx := fun _ H' => Q .non H', rt := Q } [some (.ref a0), some (.int m), none] H' := by
              intro H' i' r' s' hb ha hn
              refine rest_ok ha hm0 hmb ?_
              have e : takeD ⟨cells, i, r, s0⟩ m = (r'.fmod m, ⟨cells, i', r'.fdiv m, s'⟩) := by unfold takeD; rw [hn]
              rw [e] at h
              refine h _ _ ⟨fun b o nb eb => ?_, by rw [upd_same]; simp⟩ ⟨c, upd_same, hid_some nw ?_⟩ (.int _)
              · rw [upd_ne nb, hb b nb]; exact eb
              · rw [upd_ne ne, hb c ne]; exact e2
            refine rd (k := 2) rfl e1 rfl ⟨rfl, _, rfl, ?_⟩
            rw [dec_int]
            by_cases hr0 : r = 0
            · subst hr0
              refine iteT ?_
              have a1 : (upd H a0 (obj c (i + 1) 0 s0)) a0 = some (obj c (i + 1) 0 s0) := upd_same
              have b1 : ∀ b, b ≠ a0 → (upd H a0 (obj c (i + 1) 0 s0)) b = H b := fun b nb => upd_ne nb
              refine rd (k := 1) rfl e1 rfl ⟨i, 1, rfl, rfl, wr (k := 1) (j := 1) rfl e1 rfl ?_⟩
              show tSeq _ _ _ _ (upd H a0 (obj c (i + 1) 0 s0))
              -- behind the cell
              have two : ∀ (H' : Hp) (r' : Int), (∀ b, b ≠ a0 → H' b = H b) → H' a0 = some (obj c (i + 1) r' s0) → r' = (cells[(i + 1).toNat]?.map (·.fmod 2147483647)).getD 0 →
                  tIfS (tTest (tOp rEq (tOp (rIxL K) (tVar 0) (tC (.int 2))) (tC (.int 0)))) (tSeq (tAsg (tOp (rI (fun _ j => j ≠ 0) fun i j => .int (i.fmod j)) (tCB rInt1 (tCons (tOp (rI0 fun i j => .int (i + j)) (tOp (rI CMul fun i j => .int (i * j)) (tOp (rIxL K) (tVar 0) (tC (.int 3))) (tC (.int 48271))) (tC (.int 11))) tNil)) (tC (.int 2147483647))) (gSub (tVar 0) (tC (.int 3)) rSetL))
                    (tAsg (tOp (rIxL K) (tVar 0) (tC (.int 3))) (gSub (tVar 0) (tC (.int 2)) rSetL))) tNext { nx := fun σ' H' => restT K { nx := fun _ H' => Q .non H', rt := Q } σ' H', rt := Q } [some (.ref a0), some (.int m), none] H' := by
                intro H' r' hb ha hr'
                refine rd (k := 2) rfl ha rfl ⟨rfl, _, rfl, ?_⟩
                rw [dec_int]
                by_cases h0 : r' = 0
                · rw [h0] at ha hr' ⊢
                  refine iteT (rd (k := 3) rfl ha rfl ⟨s0, 48271, rfl, rfl, .inr ⟨by decide, by decide⟩, s0 * 48271, 11, rfl, rfl, .inl ⟨s0 * 48271 + 11, rfl, s0 * 48271 + 11, 2147483647, rfl, rfl, (show (2147483647 : Int) ≠ 0 by decide), wr (k := 3) (j := 3) rfl ha rfl ?_⟩⟩)
                  have a2 : (upd H' a0 (obj c (i + 1) 0 ((s0 * 48271 + 11).fmod 2147483647))) a0 = some (obj c (i + 1) 0 ((s0 * 48271 + 11).fmod 2147483647)) := upd_same
                  refine rd (k := 3) rfl a2 rfl (wr (k := 2) (j := 2) rfl a2 rfl (fin _ (i + 1) ((s0 * 48271 + 11).fmod 2147483647) ((s0 * 48271 + 11).fmod 2147483647) (fun b nb => ?_) upd_same ?_))
                  · rw [upd_ne nb, upd_ne nb, hb b nb]
                  · unfold Dr.next
                    rw [if_pos rfl]
                    dsimp only
                    rw [← hr', if_pos rfl]
                · have hne : (r' == 0) = false := beq_eq_false_iff_ne.mpr h0
                  rw [hne]
                  refine iteF (fin H' (i + 1) r' s0 hb ha ?_)
                  unfold Dr.next
                  rw [if_pos rfl]
                  dsimp only
                  rw [← hr', if_neg h0]
              refine rd (k := 1) rfl a1 rfl (rd (k := 0) rfl a1 rfl ⟨c, cells.map V.int, rfl, .inl (.inl (.inl ?_)), i + 1, _, rfl, rfl, _, rfl, ?_⟩)
              · rw [b1 c ne]; exact e2
              · rw [List.length_map]
                by_cases hlt : i + 1 < (cells.length : Int)
                · rw [decide_eq_true hlt]
                  refine iteT ?_
                  have hlt' : (i + 1).toNat < cells.length := by omega
                  have hat : atI (cells.map V.int) (i + 1) = some (.int (cells[(i + 1).toNat])) := by
                    have := atI_nat (xs := cells.map V.int) (j := (i + 1).toNat) (v := V.int (cells[(i + 1).toNat])) (by rw [List.getElem?_map, List.getElem?_eq_getElem hlt']; rfl)
                    rw [show (((i + 1).toNat : Nat) : Int) = i + 1 by omega] at this
                    exact this
                  refine rd (k := 0) rfl a1 rfl (rd (k := 1) rfl a1 rfl ⟨c, _, i + 1, _, rfl, rfl, .inl (.inl (by rw [b1 c ne]; exact e2)), hat, cells[(i + 1).toNat], 2147483647, rfl, rfl, (show (2147483647 : Int) ≠ 0 by decide), wr (k := 2) (j := 2) rfl a1 rfl ?_⟩)
                  refine two _ ((cells[(i + 1).toNat]).fmod 2147483647) (fun b nb => by rw [upd_ne nb, upd_ne nb]) upd_same ?_
                  rw [List.getElem?_eq_getElem hlt']
                  rfl
                · rw [decide_eq_false hlt]
                  refine iteF (two _ 0 b1 a1 ?_)
                  rw [List.getElem?_eq_none (by omega)]
                  rfl
            · have hne : (r == 0) = false := beq_eq_false_iff_ne.mpr hr0
              rw [hne]
              refine iteF (fin H i r s0 (fun _ _ => rfl) e1 ?_)
              unfold Dr.next
              rw [if_neg hr0]
      · exact False.elim h
    · exact False.elim h
/-! ### the draw is made -/
theorem take_step {ns : List Int} {i : Nat} {k : Int} (h : ns[i]? = some k) {α : Type} (f : α → Int → α) (z : α) : (ns.take (i + 1)).foldl f z = f ((ns.take i).foldl f z) k := by
  rw [List.take_add_one, h]
  simp
theorem ok_draw {f : Addr} {fd : FuncData} (F : Fun K "_law_draw" "_law_draw" drawS f fd) (ma : mg "abs" = none) (mi : mg "int" = none) : FnOk P w K mg base (L2.CX P w) 1 f fd ["script"] (spDraw K) := by
  refine F.okX scDraw (fun vs H Q E h => ?_) (fun cdv A outer s H vs Q E hr h => ?_)
  · obtain ⟨a, ns, rfl, _⟩ := h; rfl
  · obtain ⟨a, ns, rfl, hS, hlen, q⟩ := h
    refine ⟨_, pss_cons (ps_set (i := 1) scDraw.nd rfl (.inl rfl) pe_int)
      (pss_cons (ps_for (passes_of rfl) rfl (pi_list (pv 0)) (pg_name (i := 2) scDraw.nd rfl (.inl rfl))
        (pss_one (ps_set (i := 1) scDraw.nd rfl (.inl rfl) (pe_op op_modN (pe_callTy call_int1 (by rfl) mi (by rfl) (pa_cons (pe_op op_add (pe_op op_add (pe_op op_mul (pv 1) pe_int) (pe_op op_modN (pe_callB call_abs (by rfl) ma (by rfl) (pa_cons (pe_callTy call_int1 (by rfl) mi (by rfl) (pa_cons (pv 2) pa_nil)) pa_nil)) pe_int)) pe_int) pa_nil)) pe_int))))
      (pss_one (ps_ret (pe_lst (pa_cons (pe_lc (te := tCB (fun xs H Q => ∃ i, xs = [.int i] ∧ Q (.int (if i < 0 then -i else i)) H) (tCons (tCB rInt1 (tCons (tVar 2) tNil)) tNil)) rfl scDraw.nd (pi_list (pv 0)) (blkOk_by (own := [("cell", 2)]) (by show blkC ["script", "seed", "cell"] (defScope drawS) _ _ = true; decide +kernel)) (fun s H C cl fp => pg_name (i := 2) scDraw.nd rfl (.inl rfl)) (fun s H C cl fp => pts_nil)
          (fun s H C cl fp => pe_callB call_abs (by rfl) ma (by rfl) (pa_cons (pe_callTy call_int1 (by rfl) mi (by rfl) (pa_cons (pv 2) pa_nil)) pa_nil)))
        (pa_cons (pe_un un_neg pe_int) (pa_cons pe_int (pa_cons (pv 1) pa_nil)))))))), ?_⟩
    have stp : L2.start ["script", "seed", "cell"] [V.ref a] = [some (.ref a), none, none] := rfl
    rw [stp]
    refine ⟨.ref a, rfl, a, rfl, ⟨_, hS⟩, for_it (walk_list (xs := ns.map V.int)) (fun i σ' H' => H' = H ∧ ∃ y, σ' = [some (.ref a), some (.int ((ns.take i).foldl stepS' 7)), y]) ⟨rfl, none, rfl⟩ (fun i σ' H' _ p => by rw [p.1]; exact hS) (fun i x σ' H1 H2 hi p y => ?_) (fun σ' H' p => ?_)⟩
    · obtain ⟨rfl, y3, rfl⟩ := p
      obtain ⟨rfl, hx⟩ := y
      rw [List.getElem?_map] at hx
      cases hk : ns[i]? with
      | none => rw [hk] at hx; cases hx
      | some k =>
        rw [hk] at hx
        cases hx
        refine ⟨.int ((ns.take i).foldl stepS' 7), rfl, (ns.take i).foldl stepS' 7, 48271, rfl, rfl, .inr ⟨by decide, by decide⟩, .int k, rfl, .inl ⟨k, rfl, k, rfl, absI k, 65521, rfl, rfl, (show (65521 : Int) ≠ 0 by decide), _, _, rfl, rfl, _, 1, rfl, rfl, .inl ⟨_, rfl, _, 2147483647, rfl, rfl, (show (2147483647 : Int) ≠ 0 by decide), rfl, some (.int k), ?_⟩⟩⟩
        rw [take_step hk]
        rfl
    · obtain ⟨rfl, y3, rfl⟩ := p
      rw [List.length_map, List.take_length]
      refine ⟨.ref a, rfl, a, rfl, ⟨_, hS⟩, fun D hD => ?_⟩
      have nD : ∀ b o, H' b = some o → b ≠ D := fun b o e z => by rw [z, hD] at e; cases e
      refine lc_it (walk_list (xs := ns.map V.int)) (fun i H2 => H2 D = some (.lst (((ns.take i).map absI).map V.int)) ∧ ∀ b, b ≠ D → H2 b = H' b) ⟨upd_same, fun b nb => upd_ne nb⟩ (fun i H2 _ p => ?_) (fun i x H2 H3 hi p y => ?_) (fun H2 p => ?_)
      · rcases hS with (h1 | ⟨o, h1⟩) | h1
        · exact .inl (.inl (by rw [p.2 a (nD a _ h1)]; exact h1))
        · exact .inl (.inr ⟨o, by rw [p.2 a (nD a _ h1)]; exact h1⟩)
        · exact .inr h1
      · obtain ⟨rfl, hx⟩ := y
        rw [List.getElem?_map] at hx
        cases hk : ns[i]? with
        | none => rw [hk] at hx; cases hx
        | some k =>
          rw [hk] at hx
          cases hx
          refine ⟨rfl, ?_⟩
          dsimp only [tYes]
          rw [if_pos rfl]
          refine ⟨.int k, rfl, .inl ⟨k, rfl, k, rfl, _, p.1, ?_, ?_, fun b nb => ?_⟩⟩
          · rw [List.length_map, List.length_map, szl]
            have := List.length_take_le' i ns
            omega
          · rw [upd_same, List.take_add_one, hk]
            simp [absI]
          · rw [upd_ne nb]; exact p.2 b nb
      · rw [List.length_map, List.take_length] at p
        refine ⟨1, rfl, .int (ns.foldl stepS' 7), rfl, (show 4 ≤ sizeLine by rw [szl]; decide), fun z hz => ?_⟩
        have nz : D ≠ z := fun e => by rw [← e, p.1] at hz; cases hz
        refine q _ z D (fun b o e => ?_) upd_same (by rw [upd_ne nz]; exact p.1) nz
        rw [upd_ne (fun e' => by rw [← e', p.2 b (nD b o e), e] at hz; cases hz), p.2 b (nD b o e)]
        exact e
end
end K01

set_option Elab.async false
set_option linter.all false
set_option maxRecDepth 100000
set_option maxHeartbeats 4000000
namespace K01
open PySem PySem.Spec PyProof.Rows L2 Ly
abbrev lawS : Stmt := topS lawI
def lvl : Nat := 12
def Wf : Nat := 1000
abbrev spT : Nat → List D → Dr → Oc := fun n a d => takeF a d
def lawB : Sts := (trD ⟨G, lawN, lawMu.filterMap (ixOf lawN)⟩ (defScope lawS) ((defBody lawS).drop 1)).getD .nil
theorem getD_ok {o : Option Sts} (h : o.isSome = true) : o = some (o.getD .nil) := by cases o <;> first | rfl | cases h
theorem scLaw : FnScope lawN ["script"] (defScope lawS) := ⟨rfl, rfl, rfl, by decide +kernel, rfl, by decide +kernel, by decide +kernel⟩
theorem lawTr : trD ⟨G, lawN, lawMu.filterMap (ixOf lawN)⟩ (defScope lawS) ((defBody lawS).drop 1) = some lawB := getD_ok (by decide +kernel)
theorem sc0 : FnScope d0.N d0.ps (defScope d0.st) := ⟨rfl, rfl, rfl, by decide +kernel, rfl, by decide +kernel, by decide +kernel⟩
theorem tr0 : TransOk Wf G d0 := trans_ok (mu := mu0) (getD_ok (by decide +kernel))
theorem sc1 : FnScope d1.N d1.ps (defScope d1.st) := ⟨rfl, rfl, rfl, by decide +kernel, rfl, by decide +kernel, by decide +kernel⟩
theorem tr1 : TransOk Wf G d1 := trans_ok (mu := mu1) (getD_ok (by decide +kernel))
theorem sc2 : FnScope d2.N d2.ps (defScope d2.st) := ⟨rfl, rfl, rfl, by decide +kernel, rfl, by decide +kernel, by decide +kernel⟩
theorem tr2 : TransOk Wf G d2 := trans_ok (mu := mu2) (getD_ok (by decide +kernel))
theorem sc3 : FnScope d3.N d3.ps (defScope d3.st) := ⟨rfl, rfl, rfl, by decide +kernel, rfl, by decide +kernel, by decide +kernel⟩
theorem tr3 : TransOk Wf G d3 := trans_ok (mu := mu3) (getD_ok (by decide +kernel))
theorem sc4 : FnScope d4.N d4.ps (defScope d4.st) := ⟨rfl, rfl, rfl, by decide +kernel, rfl, by decide +kernel, by decide +kernel⟩
theorem tr4 : TransOk Wf G d4 := trans_ok (mu := mu4) (getD_ok (by decide +kernel))
theorem sc5 : FnScope d5.N d5.ps (defScope d5.st) := ⟨rfl, rfl, rfl, by decide +kernel, rfl, by decide +kernel, by decide +kernel⟩
theorem tr5 : TransOk Wf G d5 := trans_ok (mu := mu5) (getD_ok (by decide +kernel))
theorem sc6 : FnScope d6.N d6.ps (defScope d6.st) := ⟨rfl, rfl, rfl, by decide +kernel, rfl, by decide +kernel, by decide +kernel⟩
theorem tr6 : TransOk Wf G d6 := trans_ok (mu := mu6) (getD_ok (by decide +kernel))
theorem sc7 : FnScope d7.N d7.ps (defScope d7.st) := ⟨rfl, rfl, rfl, by decide +kernel, rfl, by decide +kernel, by decide +kernel⟩
theorem tr7 : TransOk Wf G d7 := trans_ok (mu := mu7) (getD_ok (by decide +kernel))
theorem sc8 : FnScope d8.N d8.ps (defScope d8.st) := ⟨rfl, rfl, rfl, by decide +kernel, rfl, by decide +kernel, by decide +kernel⟩
theorem tr8 : TransOk Wf G d8 := trans_ok (mu := mu8) (getD_ok (by decide +kernel))
theorem sc9 : FnScope d9.N d9.ps (defScope d9.st) := ⟨rfl, rfl, rfl, by decide +kernel, rfl, by decide +kernel, by decide +kernel⟩
theorem tr9 : TransOk Wf G d9 := trans_ok (mu := mu9) (getD_ok (by decide +kernel))
theorem sc10 : FnScope d10.N d10.ps (defScope d10.st) := ⟨rfl, rfl, rfl, by decide +kernel, rfl, by decide +kernel, by decide +kernel⟩
theorem tr10 : TransOk Wf G d10 := trans_ok (mu := mu10) (getD_ok (by decide +kernel))
theorem sc11 : FnScope d11.N d11.ps (defScope d11.st) := ⟨rfl, rfl, rfl, by decide +kernel, rfl, by decide +kernel, by decide +kernel⟩
theorem tr11 : TransOk Wf G d11 := trans_ok (mu := mu11) (getD_ok (by decide +kernel))
theorem sc12 : FnScope d12.N d12.ps (defScope d12.st) := ⟨rfl, rfl, rfl, by decide +kernel, rfl, by decide +kernel, by decide +kernel⟩
theorem tr12 : TransOk Wf G d12 := trans_ok (mu := mu12) (getD_ok (by decide +kernel))
theorem sc13 : FnScope d13.N d13.ps (defScope d13.st) := ⟨rfl, rfl, rfl, by decide +kernel, rfl, by decide +kernel, by decide +kernel⟩
theorem tr13 : TransOk Wf G d13 := trans_ok (mu := mu13) (getD_ok (by decide +kernel))
theorem sc14 : FnScope d14.N d14.ps (defScope d14.st) := ⟨rfl, rfl, rfl, by decide +kernel, rfl, by decide +kernel, by decide +kernel⟩
theorem tr14 : TransOk Wf G d14 := trans_ok (mu := mu14) (getD_ok (by decide +kernel))
theorem sc15 : FnScope d15.N d15.ps (defScope d15.st) := ⟨rfl, rfl, rfl, by decide +kernel, rfl, by decide +kernel, by decide +kernel⟩
theorem tr15 : TransOk Wf G d15 := trans_ok (mu := mu15) (getD_ok (by decide +kernel))
theorem sc16 : FnScope d16.N d16.ps (defScope d16.st) := ⟨rfl, rfl, rfl, by decide +kernel, rfl, by decide +kernel, by decide +kernel⟩
theorem tr16 : TransOk Wf G d16 := trans_ok (mu := mu16) (getD_ok (by decide +kernel))
theorem sc17 : FnScope d17.N d17.ps (defScope d17.st) := ⟨rfl, rfl, rfl, by decide +kernel, rfl, by decide +kernel, by decide +kernel⟩
theorem tr17 : TransOk Wf G d17 := trans_ok (mu := mu17) (getD_ok (by decide +kernel))
theorem sc18 : FnScope d18.N d18.ps (defScope d18.st) := ⟨rfl, rfl, rfl, by decide +kernel, rfl, by decide +kernel, by decide +kernel⟩
theorem tr18 : TransOk Wf G d18 := trans_ok (mu := mu18) (getD_ok (by decide +kernel))
theorem sc19 : FnScope d19.N d19.ps (defScope d19.st) := ⟨rfl, rfl, rfl, by decide +kernel, rfl, by decide +kernel, by decide +kernel⟩
theorem tr19 : TransOk Wf G d19 := trans_ok (mu := mu19) (getD_ok (by decide +kernel))
theorem sc20 : FnScope d20.N d20.ps (defScope d20.st) := ⟨rfl, rfl, rfl, by decide +kernel, rfl, by decide +kernel, by decide +kernel⟩
theorem tr20 : TransOk Wf G d20 := trans_ok (mu := mu20) (getD_ok (by decide +kernel))
theorem sc21 : FnScope d21.N d21.ps (defScope d21.st) := ⟨rfl, rfl, rfl, by decide +kernel, rfl, by decide +kernel, by decide +kernel⟩
theorem tr21 : TransOk Wf G d21 := trans_ok (mu := mu21) (getD_ok (by decide +kernel))
theorem mem_cons' {α : Type} {P : α → Prop} {a : α} {l : List α} (h : P a) (t : ∀ x ∈ l, P x) : ∀ x ∈ a :: l, P x := fun x hx => (List.mem_cons.mp hx).elim (fun e => e ▸ h) (t x)
theorem mem_nil' {α : Type} {P : α → Prop} : ∀ x ∈ ([] : List α), P x := fun x hx => by cases hx
def excT (cs : List Addr) : Exc := fun n cls dd => dd = none ∧ ∃ C, cs[n]? = some C ∧ cls = .ref C
theorem exm_mk {K : PySem.W.Frag} {C C2 : Addr} {b : Bool} {kc : ClassData} (h1 : PySem.W.subIn K (.ref C) (.type "BaseException") = some true) (h2 : PySem.W.clsIn K C = some kc) (h3 : PySem.W.typeIn K (.ref C) = some (.type "type")) (h4 : PySem.W.subIn K (.ref C2) (.ref C) = some b) : PySem.W.exmOne K (.ref C2) (.ref C) = some b := by
  unfold PySem.W.exmOne PySem.W.kitCls
  rw [h1]
  dsimp only
  rw [h2, h3, h4]
  rfl
theorem all_mk {l : PySem.W.OpenLaw} {w : World} {K : PySem.W.Frag} {h : Heap} {mg : Str → Option Value} {fa : Addr} (X : K.In h) (G0 : h.Ns mainGlobals mg) (hfa : mg "law" = some (.ref fa))
    (math : ∀ ns : List Int, ns.length ≤ 63 → ∃ s', exs (run (tabOf T) spT Wf (lvl + 1)) Wf lawB ⟨lawE (lawN.length - 2), drawD ns⟩ = .ok (.rt (.bool true)) s')
    {f0 : Addr} {od0 an0 : Option Addr} {sl0 : Array (Option Value)} {oc0 kV0 dc0 pm0 cd0 ct0 : Value}
    (a0 : PySem.W.nsIn K mainGlobals "covers" = some (some (.ref f0))) (l0 : K.lookup f0 = some ⟨oc0, od0, .func (PySem.W.fnOf "covers" "covers" (defArgs (topS 4)) (defBody (topS 4)) (defScope (topS 4)) .none kV0 dc0 pm0 an0 cd0 ct0), sl0⟩) (c0 : PySem.W.codeIn K cd0 "covers" = true) (k0 : PySem.W.keepIn K (.ref f0) = true)
    {f1 : Addr} {od1 an1 : Option Addr} {sl1 : Array (Option Value)} {oc1 kV1 dc1 pm1 cd1 ct1 : Value}
    (a1 : PySem.W.nsIn K mainGlobals "added" = some (some (.ref f1))) (l1 : K.lookup f1 = some ⟨oc1, od1, .func (PySem.W.fnOf "added" "added" (defArgs (topS 5)) (defBody (topS 5)) (defScope (topS 5)) .none kV1 dc1 pm1 an1 cd1 ct1), sl1⟩) (c1 : PySem.W.codeIn K cd1 "added" = true) (k1 : PySem.W.keepIn K (.ref f1) = true)
    {f2 : Addr} {od2 an2 : Option Addr} {sl2 : Array (Option Value)} {oc2 kV2 dc2 pm2 cd2 ct2 : Value}
    (a2 : PySem.W.nsIn K mainGlobals "less" = some (some (.ref f2))) (l2 : K.lookup f2 = some ⟨oc2, od2, .func (PySem.W.fnOf "less" "less" (defArgs (topS 6)) (defBody (topS 6)) (defScope (topS 6)) .none kV2 dc2 pm2 an2 cd2 ct2), sl2⟩) (c2 : PySem.W.codeIn K cd2 "less" = true) (k2 : PySem.W.keepIn K (.ref f2) = true)
    {f3 : Addr} {od3 an3 : Option Addr} {sl3 : Array (Option Value)} {oc3 kV3 dc3 pm3 cd3 ct3 : Value}
    (a3 : PySem.W.nsIn K mainGlobals "effect" = some (some (.ref f3))) (l3 : K.lookup f3 = some ⟨oc3, od3, .func (PySem.W.fnOf "effect" "effect" (defArgs (topS 7)) (defBody (topS 7)) (defScope (topS 7)) .none kV3 dc3 pm3 an3 cd3 ct3), sl3⟩) (c3 : PySem.W.codeIn K cd3 "effect" = true) (k3 : PySem.W.keepIn K (.ref f3) = true)
    {f4 : Addr} {od4 an4 : Option Addr} {sl4 : Array (Option Value)} {oc4 kV4 dc4 pm4 cd4 ct4 : Value}
    (a4 : PySem.W.nsIn K mainGlobals "can_move" = some (some (.ref f4))) (l4 : K.lookup f4 = some ⟨oc4, od4, .func (PySem.W.fnOf "can_move" "can_move" (defArgs (topS 8)) (defBody (topS 8)) (defScope (topS 8)) .none kV4 dc4 pm4 an4 cd4 ct4), sl4⟩) (c4 : PySem.W.codeIn K cd4 "can_move" = true) (k4 : PySem.W.keepIn K (.ref f4) = true)
    {f5 : Addr} {od5 an5 : Option Addr} {sl5 : Array (Option Value)} {oc5 kV5 dc5 pm5 cd5 ct5 : Value}
    (a5 : PySem.W.nsIn K mainGlobals "moves_of" = some (some (.ref f5))) (l5 : K.lookup f5 = some ⟨oc5, od5, .func (PySem.W.fnOf "moves_of" "moves_of" (defArgs (topS 9)) (defBody (topS 9)) (defScope (topS 9)) .none kV5 dc5 pm5 an5 cd5 ct5), sl5⟩) (c5 : PySem.W.codeIn K cd5 "moves_of" = true) (k5 : PySem.W.keepIn K (.ref f5) = true)
    {f6 : Addr} {od6 an6 : Option Addr} {sl6 : Array (Option Value)} {oc6 kV6 dc6 pm6 cd6 ct6 : Value}
    (a6 : PySem.W.nsIn K mainGlobals "space_of" = some (some (.ref f6))) (l6 : K.lookup f6 = some ⟨oc6, od6, .func (PySem.W.fnOf "space_of" "space_of" (defArgs (topS 12)) (defBody (topS 12)) (defScope (topS 12)) .none kV6 dc6 pm6 an6 cd6 ct6), sl6⟩) (c6 : PySem.W.codeIn K cd6 "space_of" = true) (k6 : PySem.W.keepIn K (.ref f6) = true)
    {f7 : Addr} {od7 an7 : Option Addr} {sl7 : Array (Option Value)} {oc7 kV7 dc7 pm7 cd7 ct7 : Value}
    (a7 : PySem.W.nsIn K mainGlobals "least_runs" = some (some (.ref f7))) (l7 : K.lookup f7 = some ⟨oc7, od7, .func (PySem.W.fnOf "least_runs" "least_runs" (defArgs (topS 13)) (defBody (topS 13)) (defScope (topS 13)) .none kV7 dc7 pm7 an7 cd7 ct7), sl7⟩) (c7 : PySem.W.codeIn K cd7 "least_runs" = true) (k7 : PySem.W.keepIn K (.ref f7) = true)
    {f8 : Addr} {od8 an8 : Option Addr} {sl8 : Array (Option Value)} {oc8 kV8 dc8 pm8 cd8 ct8 : Value}
    (a8 : PySem.W.nsIn K mainGlobals "run_to" = some (some (.ref f8))) (l8 : K.lookup f8 = some ⟨oc8, od8, .func (PySem.W.fnOf "run_to" "run_to" (defArgs (topS 14)) (defBody (topS 14)) (defScope (topS 14)) .none kV8 dc8 pm8 an8 cd8 ct8), sl8⟩) (c8 : PySem.W.codeIn K cd8 "run_to" = true) (k8 : PySem.W.keepIn K (.ref f8) = true)
    {f9 : Addr} {od9 an9 : Option Addr} {sl9 : Array (Option Value)} {oc9 kV9 dc9 pm9 cd9 ct9 : Value}
    (a9 : PySem.W.nsIn K mainGlobals "steps_from" = some (some (.ref f9))) (l9 : K.lookup f9 = some ⟨oc9, od9, .func (PySem.W.fnOf "steps_from" "steps_from" (defArgs (topS 15)) (defBody (topS 15)) (defScope (topS 15)) .none kV9 dc9 pm9 an9 cd9 ct9), sl9⟩) (c9 : PySem.W.codeIn K cd9 "steps_from" = true) (k9 : PySem.W.keepIn K (.ref f9) = true)
    {f10 : Addr} {od10 an10 : Option Addr} {sl10 : Array (Option Value)} {oc10 kV10 dc10 pm10 cd10 ct10 : Value}
    (a10 : PySem.W.nsIn K mainGlobals "reached_from" = some (some (.ref f10))) (l10 : K.lookup f10 = some ⟨oc10, od10, .func (PySem.W.fnOf "reached_from" "reached_from" (defArgs (topS 16)) (defBody (topS 16)) (defScope (topS 16)) .none kV10 dc10 pm10 an10 cd10 ct10), sl10⟩) (c10 : PySem.W.codeIn K cd10 "reached_from" = true) (k10 : PySem.W.keepIn K (.ref f10) = true)
    {f11 : Addr} {od11 an11 : Option Addr} {sl11 : Array (Option Value)} {oc11 kV11 dc11 pm11 cd11 ct11 : Value}
    (a11 : PySem.W.nsIn K mainGlobals "knots_of" = some (some (.ref f11))) (l11 : K.lookup f11 = some ⟨oc11, od11, .func (PySem.W.fnOf "knots_of" "knots_of" (defArgs (topS 17)) (defBody (topS 17)) (defScope (topS 17)) .none kV11 dc11 pm11 an11 cd11 ct11), sl11⟩) (c11 : PySem.W.codeIn K cd11 "knots_of" = true) (k11 : PySem.W.keepIn K (.ref f11) = true)
    {f12 : Addr} {od12 an12 : Option Addr} {sl12 : Array (Option Value)} {oc12 kV12 dc12 pm12 cd12 ct12 : Value}
    (a12 : PySem.W.nsIn K mainGlobals "ends_of" = some (some (.ref f12))) (l12 : K.lookup f12 = some ⟨oc12, od12, .func (PySem.W.fnOf "ends_of" "ends_of" (defArgs (topS 18)) (defBody (topS 18)) (defScope (topS 18)) .none kV12 dc12 pm12 an12 cd12 ct12), sl12⟩) (c12 : PySem.W.codeIn K cd12 "ends_of" = true) (k12 : PySem.W.keepIn K (.ref f12) = true)
    {f13 : Addr} {od13 an13 : Option Addr} {sl13 : Array (Option Value)} {oc13 kV13 dc13 pm13 cd13 ct13 : Value}
    (a13 : PySem.W.nsIn K mainGlobals "greatest_at" = some (some (.ref f13))) (l13 : K.lookup f13 = some ⟨oc13, od13, .func (PySem.W.fnOf "greatest_at" "greatest_at" (defArgs (topS 19)) (defBody (topS 19)) (defScope (topS 19)) .none kV13 dc13 pm13 an13 cd13 ct13), sl13⟩) (c13 : PySem.W.codeIn K cd13 "greatest_at" = true) (k13 : PySem.W.keepIn K (.ref f13) = true)
    {f14 : Addr} {od14 an14 : Option Addr} {sl14 : Array (Option Value)} {oc14 kV14 dc14 pm14 cd14 ct14 : Value}
    (a14 : PySem.W.nsIn K mainGlobals "_law_net" = some (some (.ref f14))) (l14 : K.lookup f14 = some ⟨oc14, od14, .func (PySem.W.fnOf "_law_net" "_law_net" (defArgs (topS 23)) (defBody (topS 23)) (defScope (topS 23)) .none kV14 dc14 pm14 an14 cd14 ct14), sl14⟩) (c14 : PySem.W.codeIn K cd14 "_law_net" = true) (k14 : PySem.W.keepIn K (.ref f14) = true)
    {f15 : Addr} {od15 an15 : Option Addr} {sl15 : Array (Option Value)} {oc15 kV15 dc15 pm15 cd15 ct15 : Value}
    (a15 : PySem.W.nsIn K mainGlobals "_law_marking" = some (some (.ref f15))) (l15 : K.lookup f15 = some ⟨oc15, od15, .func (PySem.W.fnOf "_law_marking" "_law_marking" (defArgs (topS 24)) (defBody (topS 24)) (defScope (topS 24)) .none kV15 dc15 pm15 an15 cd15 ct15), sl15⟩) (c15 : PySem.W.codeIn K cd15 "_law_marking" = true) (k15 : PySem.W.keepIn K (.ref f15) = true)
    {f16 : Addr} {od16 an16 : Option Addr} {sl16 : Array (Option Value)} {oc16 kV16 dc16 pm16 cd16 ct16 : Value}
    (a16 : PySem.W.nsIn K mainGlobals "_law_can" = some (some (.ref f16))) (l16 : K.lookup f16 = some ⟨oc16, od16, .func (PySem.W.fnOf "_law_can" "_law_can" (defArgs (topS 25)) (defBody (topS 25)) (defScope (topS 25)) .none kV16 dc16 pm16 an16 cd16 ct16), sl16⟩) (c16 : PySem.W.codeIn K cd16 "_law_can" = true) (k16 : PySem.W.keepIn K (.ref f16) = true)
    {f17 : Addr} {od17 an17 : Option Addr} {sl17 : Array (Option Value)} {oc17 kV17 dc17 pm17 cd17 ct17 : Value}
    (a17 : PySem.W.nsIn K mainGlobals "_law_moved" = some (some (.ref f17))) (l17 : K.lookup f17 = some ⟨oc17, od17, .func (PySem.W.fnOf "_law_moved" "_law_moved" (defArgs (topS 26)) (defBody (topS 26)) (defScope (topS 26)) .none kV17 dc17 pm17 an17 cd17 ct17), sl17⟩) (c17 : PySem.W.codeIn K cd17 "_law_moved" = true) (k17 : PySem.W.keepIn K (.ref f17) = true)
    {f18 : Addr} {od18 an18 : Option Addr} {sl18 : Array (Option Value)} {oc18 kV18 dc18 pm18 cd18 ct18 : Value}
    (a18 : PySem.W.nsIn K mainGlobals "_law_space" = some (some (.ref f18))) (l18 : K.lookup f18 = some ⟨oc18, od18, .func (PySem.W.fnOf "_law_space" "_law_space" (defArgs (topS 30)) (defBody (topS 30)) (defScope (topS 30)) .none kV18 dc18 pm18 an18 cd18 ct18), sl18⟩) (c18 : PySem.W.codeIn K cd18 "_law_space" = true) (k18 : PySem.W.keepIn K (.ref f18) = true)
    {f19 : Addr} {od19 an19 : Option Addr} {sl19 : Array (Option Value)} {oc19 kV19 dc19 pm19 cd19 ct19 : Value}
    (a19 : PySem.W.nsIn K mainGlobals "_law_arcs" = some (some (.ref f19))) (l19 : K.lookup f19 = some ⟨oc19, od19, .func (PySem.W.fnOf "_law_arcs" "_law_arcs" (defArgs (topS 31)) (defBody (topS 31)) (defScope (topS 31)) .none kV19 dc19 pm19 an19 cd19 ct19), sl19⟩) (c19 : PySem.W.codeIn K cd19 "_law_arcs" = true) (k19 : PySem.W.keepIn K (.ref f19) = true)
    {f20 : Addr} {od20 an20 : Option Addr} {sl20 : Array (Option Value)} {oc20 kV20 dc20 pm20 cd20 ct20 : Value}
    (a20 : PySem.W.nsIn K mainGlobals "_law_reached" = some (some (.ref f20))) (l20 : K.lookup f20 = some ⟨oc20, od20, .func (PySem.W.fnOf "_law_reached" "_law_reached" (defArgs (topS 32)) (defBody (topS 32)) (defScope (topS 32)) .none kV20 dc20 pm20 an20 cd20 ct20), sl20⟩) (c20 : PySem.W.codeIn K cd20 "_law_reached" = true) (k20 : PySem.W.keepIn K (.ref f20) = true)
    {f21 : Addr} {od21 an21 : Option Addr} {sl21 : Array (Option Value)} {oc21 kV21 dc21 pm21 cd21 ct21 : Value}
    (a21 : PySem.W.nsIn K mainGlobals "_law_told" = some (some (.ref f21))) (l21 : K.lookup f21 = some ⟨oc21, od21, .func (PySem.W.fnOf "_law_told" "_law_told" (defArgs (topS 33)) (defBody (topS 33)) (defScope (topS 33)) .none kV21 dc21 pm21 an21 cd21 ct21), sl21⟩) (c21 : PySem.W.codeIn K cd21 "_law_told" = true) (k21 : PySem.W.keepIn K (.ref f21) = true)
    {fT : Addr} {odT anT : Option Addr} {slT : Array (Option Value)} {ocT kVT dcT pmT cdT ctT : Value}
    (aT : PySem.W.nsIn K mainGlobals "_law_take" = some (some (.ref fT))) (lT : K.lookup fT = some ⟨ocT, odT, .func (PySem.W.fnOf "_law_take" "_law_take" (defArgs (topS 22)) (defBody (topS 22)) (defScope (topS 22)) .none kVT dcT pmT anT cdT ctT), slT⟩) (cT : PySem.W.codeIn K cdT "_law_take" = true) (kT : PySem.W.keepIn K (.ref fT) = true)
    {fD : Addr} {odD anD : Option Addr} {slD : Array (Option Value)} {ocD kVD dcD pmD cdD ctD : Value}
    (aD : PySem.W.nsIn K mainGlobals "_law_draw" = some (some (.ref fD))) (lD : K.lookup fD = some ⟨ocD, odD, .func (PySem.W.fnOf "_law_draw" "_law_draw" (defArgs (topS 21)) (defBody (topS 21)) (defScope (topS 21)) .none kVD dcD pmD anD cdD ctD), slD⟩) (cD : PySem.W.codeIn K cdD "_law_draw" = true) (kD : PySem.W.keepIn K (.ref fD) = true)
    {fL : Addr} {odL anL : Option Addr} {slL : Array (Option Value)} {ocL kVL dcL pmL cdL ctL : Value}
    (aL : PySem.W.nsIn K mainGlobals "law" = some (some (.ref fL))) (lL : K.lookup fL = some ⟨ocL, odL, .func (PySem.W.fnOf "law" "law" (defArgs (topS 34)) (defBody (topS 34)) (defScope (topS 34)) .none kVL dcL pmL anL cdL ctL), slL⟩) (cL : PySem.W.codeIn K cdL "law" = true) (kL : PySem.W.keepIn K (.ref fL) = true)
    {C0 : Addr} (xg0 : PySem.W.nsIn K mainGlobals "Missing" = some (some (.ref C0))) (xi0 : PySem.W.excIn K C0 [.type "ValueError", .type "Exception", .type "BaseException", .type "object"] "ValueError.__new__" = true) (xk0 : PySem.W.keepIn K (.ref C0) = true) (xs0 : PySem.W.subIn K (.ref C0) (.type "BaseException") = some true) (xt0 : PySem.W.typeIn K (.ref C0) = some (.type "type"))
    {tk0 : Tok} (q0 : PySem.W.nsIn K mainGlobals "MAX_MARKINGS" = some (some (.int 300 tk0)))
    (z_len : PySem.W.nsIn K mainGlobals "len" = some none)
    (z_tuple : PySem.W.nsIn K mainGlobals "tuple" = some none)
    (z_list : PySem.W.nsIn K mainGlobals "list" = some none)
    (z_max : PySem.W.nsIn K mainGlobals "max" = some none)
    (z_all : PySem.W.nsIn K mainGlobals "all" = some none)
    (z_sorted : PySem.W.nsIn K mainGlobals "sorted" = some none)
    (z_abs : PySem.W.nsIn K mainGlobals "abs" = some none)
    (z_int : PySem.W.nsIn K mainGlobals "int" = some none)
    (z_isinstance : PySem.W.nsIn K mainGlobals "isinstance" = some none)
    (z_set : PySem.W.nsIn K mainGlobals "set" = some none)
    (z_range : PySem.W.nsIn K mainGlobals "range" = some none)
    (z_zip : PySem.W.nsIn K mainGlobals "zip" = some none)
    {kc0 : ClassData} (xc0 : PySem.W.clsIn K C0 = some kc0)
    (xm0_0 : PySem.W.subIn K (.ref C0) (.ref C0) = some true) :
    ∃ fd : FuncData, (∀ (s : Shared) (v : Value), BindsTo s fd ⟨[v], []⟩ [("script", v)]) ∧ ∀ base : Heap, K.In base → base.Ns mainGlobals mg → FnOk l.prog w K mg base (L2.CX l.prog w) (lvl + 2) fa fd ["script"] (spLaw K) := by
  have e := hfa.symm.trans (PySem.W.mg_of X G0 aL)
  cases e
  have hb : ∀ y ∈ G.blt, mg y = none := mem_cons' (PySem.W.mg_none_of X G0 z_len) (mem_cons' (PySem.W.mg_none_of X G0 z_tuple) (mem_cons' (PySem.W.mg_none_of X G0 z_list) (mem_cons' (PySem.W.mg_none_of X G0 z_max) (mem_cons' (PySem.W.mg_none_of X G0 z_all) (mem_cons' (PySem.W.mg_none_of X G0 z_sorted) (mem_cons' (PySem.W.mg_none_of X G0 z_abs) (mem_cons' (PySem.W.mg_none_of X G0 z_int) (mem_cons' (PySem.W.mg_none_of X G0 z_isinstance) (mem_cons' (PySem.W.mg_none_of X G0 z_set) (mem_cons' (PySem.W.mg_none_of X G0 z_range) (mem_cons' (PySem.W.mg_none_of X G0 z_zip) (mem_nil'))))))))))))
  have t0 : TabOk K mg Wf G d0 := ⟨⟨f0, _, PySem.W.mg_of X G0 a0, fun_mk (st := topS 4) l0 c0 k0, (fun_mk (st := topS 4) l0 c0 k0).binds (ps := d0.ps) fun _ _ _ _ _ _ us hl => match us, hl with | [_, _], _ => rfl⟩, sc0, tr0⟩
  have t1 : TabOk K mg Wf G d1 := ⟨⟨f1, _, PySem.W.mg_of X G0 a1, fun_mk (st := topS 5) l1 c1 k1, (fun_mk (st := topS 5) l1 c1 k1).binds (ps := d1.ps) fun _ _ _ _ _ _ us hl => match us, hl with | [_, _], _ => rfl⟩, sc1, tr1⟩
  have t2 : TabOk K mg Wf G d2 := ⟨⟨f2, _, PySem.W.mg_of X G0 a2, fun_mk (st := topS 6) l2 c2 k2, (fun_mk (st := topS 6) l2 c2 k2).binds (ps := d2.ps) fun _ _ _ _ _ _ us hl => match us, hl with | [_, _], _ => rfl⟩, sc2, tr2⟩
  have t3 : TabOk K mg Wf G d3 := ⟨⟨f3, _, PySem.W.mg_of X G0 a3, fun_mk (st := topS 7) l3 c3 k3, (fun_mk (st := topS 7) l3 c3 k3).binds (ps := d3.ps) fun _ _ _ _ _ _ us hl => match us, hl with | [_, _], _ => rfl⟩, sc3, tr3⟩
  have t4 : TabOk K mg Wf G d4 := ⟨⟨f4, _, PySem.W.mg_of X G0 a4, fun_mk (st := topS 8) l4 c4 k4, (fun_mk (st := topS 8) l4 c4 k4).binds (ps := d4.ps) fun _ _ _ _ _ _ us hl => match us, hl with | [_, _, _], _ => rfl⟩, sc4, tr4⟩
  have t5 : TabOk K mg Wf G d5 := ⟨⟨f5, _, PySem.W.mg_of X G0 a5, fun_mk (st := topS 9) l5 c5 k5, (fun_mk (st := topS 9) l5 c5 k5).binds (ps := d5.ps) fun _ _ _ _ _ _ us hl => match us, hl with | [_, _], _ => rfl⟩, sc5, tr5⟩
  have t6 : TabOk K mg Wf G d6 := ⟨⟨f6, _, PySem.W.mg_of X G0 a6, fun_mk (st := topS 12) l6 c6 k6, (fun_mk (st := topS 12) l6 c6 k6).binds (ps := d6.ps) fun _ _ _ _ _ _ us hl => match us, hl with | [_, _, _], _ => rfl⟩, sc6, tr6⟩
  have t7 : TabOk K mg Wf G d7 := ⟨⟨f7, _, PySem.W.mg_of X G0 a7, fun_mk (st := topS 13) l7 c7 k7, (fun_mk (st := topS 13) l7 c7 k7).binds (ps := d7.ps) fun _ _ _ _ _ _ us hl => match us, hl with | [_], _ => rfl⟩, sc7, tr7⟩
  have t8 : TabOk K mg Wf G d8 := ⟨⟨f8, _, PySem.W.mg_of X G0 a8, fun_mk (st := topS 14) l8 c8 k8, (fun_mk (st := topS 14) l8 c8 k8).binds (ps := d8.ps) fun _ _ _ _ _ _ us hl => match us, hl with | [_, _, _, _], _ => rfl⟩, sc8, tr8⟩
  have t9 : TabOk K mg Wf G d9 := ⟨⟨f9, _, PySem.W.mg_of X G0 a9, fun_mk (st := topS 15) l9 c9 k9, (fun_mk (st := topS 15) l9 c9 k9).binds (ps := d9.ps) fun _ _ _ _ _ _ us hl => match us, hl with | [_, _], _ => rfl⟩, sc9, tr9⟩
  have t10 : TabOk K mg Wf G d10 := ⟨⟨f10, _, PySem.W.mg_of X G0 a10, fun_mk (st := topS 16) l10 c10 k10, (fun_mk (st := topS 16) l10 c10 k10).binds (ps := d10.ps) fun _ _ _ _ _ _ us hl => match us, hl with | [_, _], _ => rfl⟩, sc10, tr10⟩
  have t11 : TabOk K mg Wf G d11 := ⟨⟨f11, _, PySem.W.mg_of X G0 a11, fun_mk (st := topS 17) l11 c11 k11, (fun_mk (st := topS 17) l11 c11 k11).binds (ps := d11.ps) fun _ _ _ _ _ _ us hl => match us, hl with | [_], _ => rfl⟩, sc11, tr11⟩
  have t12 : TabOk K mg Wf G d12 := ⟨⟨f12, _, PySem.W.mg_of X G0 a12, fun_mk (st := topS 18) l12 c12 k12, (fun_mk (st := topS 18) l12 c12 k12).binds (ps := d12.ps) fun _ _ _ _ _ _ us hl => match us, hl with | [_], _ => rfl⟩, sc12, tr12⟩
  have t13 : TabOk K mg Wf G d13 := ⟨⟨f13, _, PySem.W.mg_of X G0 a13, fun_mk (st := topS 19) l13 c13 k13, (fun_mk (st := topS 19) l13 c13 k13).binds (ps := d13.ps) fun _ _ _ _ _ _ us hl => match us, hl with | [_], _ => rfl⟩, sc13, tr13⟩
  have t14 : TabOk K mg Wf G d14 := ⟨⟨f14, _, PySem.W.mg_of X G0 a14, fun_mk (st := topS 23) l14 c14 k14, (fun_mk (st := topS 23) l14 c14 k14).binds (ps := d14.ps) fun _ _ _ _ _ _ us hl => match us, hl with | [_, _], _ => rfl⟩, sc14, tr14⟩
  have t15 : TabOk K mg Wf G d15 := ⟨⟨f15, _, PySem.W.mg_of X G0 a15, fun_mk (st := topS 24) l15 c15 k15, (fun_mk (st := topS 24) l15 c15 k15).binds (ps := d15.ps) fun _ _ _ _ _ _ us hl => match us, hl with | [_, _, _], _ => rfl⟩, sc15, tr15⟩
  have t16 : TabOk K mg Wf G d16 := ⟨⟨f16, _, PySem.W.mg_of X G0 a16, fun_mk (st := topS 25) l16 c16 k16, (fun_mk (st := topS 25) l16 c16 k16).binds (ps := d16.ps) fun _ _ _ _ _ _ us hl => match us, hl with | [_, _, _], _ => rfl⟩, sc16, tr16⟩
  have t17 : TabOk K mg Wf G d17 := ⟨⟨f17, _, PySem.W.mg_of X G0 a17, fun_mk (st := topS 26) l17 c17 k17, (fun_mk (st := topS 26) l17 c17 k17).binds (ps := d17.ps) fun _ _ _ _ _ _ us hl => match us, hl with | [_, _, _], _ => rfl⟩, sc17, tr17⟩
  have t18 : TabOk K mg Wf G d18 := ⟨⟨f18, _, PySem.W.mg_of X G0 a18, fun_mk (st := topS 30) l18 c18 k18, (fun_mk (st := topS 30) l18 c18 k18).binds (ps := d18.ps) fun _ _ _ _ _ _ us hl => match us, hl with | [_, _, _], _ => rfl⟩, sc18, tr18⟩
  have t19 : TabOk K mg Wf G d19 := ⟨⟨f19, _, PySem.W.mg_of X G0 a19, fun_mk (st := topS 31) l19 c19 k19, (fun_mk (st := topS 31) l19 c19 k19).binds (ps := d19.ps) fun _ _ _ _ _ _ us hl => match us, hl with | [_, _], _ => rfl⟩, sc19, tr19⟩
  have t20 : TabOk K mg Wf G d20 := ⟨⟨f20, _, PySem.W.mg_of X G0 a20, fun_mk (st := topS 32) l20 c20 k20, (fun_mk (st := topS 32) l20 c20 k20).binds (ps := d20.ps) fun _ _ _ _ _ _ us hl => match us, hl with | [_, _], _ => rfl⟩, sc20, tr20⟩
  have t21 : TabOk K mg Wf G d21 := ⟨⟨f21, _, PySem.W.mg_of X G0 a21, fun_mk (st := topS 33) l21 c21 k21, (fun_mk (st := topS 33) l21 c21 k21).binds (ps := d21.ps) fun _ _ _ _ _ _ us hl => match us, hl with | [_, _, _, _, _], _ => rfl⟩, sc21, tr21⟩
  have hT : ∀ d ∈ T, TabOk K mg Wf G d := mem_cons' t0 (mem_cons' t1 (mem_cons' t2 (mem_cons' t3 (mem_cons' t4 (mem_cons' t5 (mem_cons' t6 (mem_cons' t7 (mem_cons' t8 (mem_cons' t9 (mem_cons' t10 (mem_cons' t11 (mem_cons' t12 (mem_cons' t13 (mem_cons' t14 (mem_cons' t15 (mem_cons' t16 (mem_cons' t17 (mem_cons' t18 (mem_cons' t19 (mem_cons' t20 (mem_cons' t21 (mem_nil'))))))))))))))))))))))
  have FT := fun_mk (st := topS 22) lT cT kT
  have FD := fun_mk (st := topS 21) lD cD kD
  have FL := fun_mk (st := topS 34) lL cL kL
  have bT := FT.binds (ps := ["draw", "many"]) fun _ _ _ _ _ _ us hl => match us, hl with | [_, _], _ => rfl
  have bD := FD.binds (ps := ["script"]) fun _ _ _ _ _ _ us hl => match us, hl with | [_], _ => rfl
  refine ⟨PySem.W.fnOf "law" "law" (defArgs lawS) (defBody lawS) (defScope lawS) .none kVL dcL pmL anL cdL ctL, fun s v => .of_eq rfl, fun base _ _ => ?_⟩
  have hex : ∀ p ∈ G.excs, ExcFact K mg (excT [C0]) p.2 p.1 := mem_cons' ⟨C0, _, _, _, _, PySem.F.excBase_ValueError, xi0, PySem.W.mg_of X G0 xg0, xk0, xs0, xt0, ⟨rfl, C0, rfl, rfl⟩, fun n' cls dd ⟨_, C', hn, e⟩ => by subst e; match n', hn with | 0, hn => cases hn; exact exm_mk xs0 xc0 xt0 xm0_0 | _ + 1, hn => cases hn⟩ (mem_nil')
  have htp : ∀ p ∈ G.tups, TupFact K mg p.2 p.1 := mem_nil'
  have hcs : ∀ p ∈ G.cons, ∃ t, mg p.1 = some (.int p.2 t) := mem_cons' ⟨_, PySem.W.mg_of X G0 q0⟩ (mem_nil')
  have gi : mg "int" = none := PySem.W.mg_none_of X G0 z_int
  have okT : FnAt l.prog w K mg base (excT [C0]) spT 1 22 "_law_take" := ⟨fT, _, _, ok_take FT (PySem.W.mg_none_of X G0 z_len) gi 22 spT (fun _ _ => rfl), PySem.W.mg_of X G0 aT, kT, bT⟩
  have hG : ∀ p ∈ G.fns, (∃ d, T[p.2]? = some d ∧ d.name = p.1) ∨ (T[p.2]? = none ∧ FnAt l.prog w K mg base (excT [C0]) spT 1 p.2 p.1) := mem_cons' (.inl ⟨d0, rfl, rfl⟩) (mem_cons' (.inl ⟨d1, rfl, rfl⟩) (mem_cons' (.inl ⟨d2, rfl, rfl⟩) (mem_cons' (.inl ⟨d3, rfl, rfl⟩) (mem_cons' (.inl ⟨d4, rfl, rfl⟩) (mem_cons' (.inl ⟨d5, rfl, rfl⟩) (mem_cons' (.inl ⟨d6, rfl, rfl⟩) (mem_cons' (.inl ⟨d7, rfl, rfl⟩) (mem_cons' (.inl ⟨d8, rfl, rfl⟩) (mem_cons' (.inl ⟨d9, rfl, rfl⟩) (mem_cons' (.inl ⟨d10, rfl, rfl⟩) (mem_cons' (.inl ⟨d11, rfl, rfl⟩) (mem_cons' (.inl ⟨d12, rfl, rfl⟩) (mem_cons' (.inl ⟨d13, rfl, rfl⟩) (mem_cons' (.inl ⟨d14, rfl, rfl⟩) (mem_cons' (.inl ⟨d15, rfl, rfl⟩) (mem_cons' (.inl ⟨d16, rfl, rfl⟩) (mem_cons' (.inl ⟨d17, rfl, rfl⟩) (mem_cons' (.inl ⟨d18, rfl, rfl⟩) (mem_cons' (.inl ⟨d19, rfl, rfl⟩) (mem_cons' (.inl ⟨d20, rfl, rfl⟩) (mem_cons' (.inl ⟨d21, rfl, rfl⟩) (mem_cons' (.inr ⟨rfl, okT⟩) (mem_nil')))))))))))))))))))))))
  exact ok_law (n := lawN.length - 2) (mu := lawMu.filterMap (ixOf lawN)) FL scLaw rfl rfl rfl (by decide +kernel) (by decide +kernel) (by decide +kernel) lawTr (ok_draw FD (PySem.W.mg_none_of X G0 z_abs) gi) (PySem.W.mg_of X G0 aD) kD bD hex hcs htp hb
    (fun p hp => all_ok (exc := (excT [C0])) hex hcs htp hb (fun f d hd => hT d (List.mem_of_getElem? hd)) hG (lvl + 1) p hp) math
end K01

set_option Elab.async false
set_option linter.all false
set_option maxRecDepth 100000
set_option maxHeartbeats 4000000
namespace K01
open PySem PySem.Spec PyProof.Rows L2 Ly
theorem b0 : tabOf T 0 = some ⟨2, 4, (.cons (.ret (.bf .all (.cons (.lc [2, 3] (.tup (.cons (.nm 2) (.cons (.nm 3) .nil))) (.zip (.cons (.var 0) (.cons (.var 1) .nil))) .nil (.cmp .ge (.var 2) (.var 3))) .nil))) .nil)⟩ := by kernel_rfl
theorem b1 : tabOf T 1 = some ⟨2, 4, (.cons (.ret (.bf .tuple (.cons (.lc [2, 3] (.tup (.cons (.nm 2) (.cons (.nm 3) .nil))) (.zip (.cons (.var 0) (.cons (.var 1) .nil))) .nil (.bin .add (.var 2) (.var 3))) .nil))) .nil)⟩ := by kernel_rfl
theorem b2 : tabOf T 2 = some ⟨2, 4, (.cons (.ret (.bf .tuple (.cons (.lc [2, 3] (.tup (.cons (.nm 2) (.cons (.nm 3) .nil))) (.zip (.cons (.var 0) (.cons (.var 1) .nil))) .nil (.bin .sub (.var 2) (.var 3))) .nil))) .nil)⟩ := by kernel_rfl
theorem b3 : tabOf T 3 = some ⟨2, 5, (.cons (.asg (.tup (.cons (.nm 2) (.cons (.nm 3) (.cons (.nm 4) .nil)))) (.idx (.idx (.var 0) (.con (.int 1))) (.var 1))) (.cons (.ret (.call 2 (.cons (.var 4) (.cons (.var 3) .nil)))) .nil))⟩ := by kernel_rfl
theorem b4 : tabOf T 4 = some ⟨3, 3, (.cons (.ret (.call 0 (.cons (.var 1) (.cons (.idx (.idx (.idx (.var 0) (.con (.int 1))) (.var 2)) (.con (.int 1))) .nil)))) .nil)⟩ := by kernel_rfl
theorem b5 : tabOf T 5 = some ⟨2, 3, (.cons (.ret (.bf .tuple (.cons (.lc [2] (.nm 2) (.rlen (.idx (.var 0) (.con (.int 1)))) (.cons (.call 4 (.cons (.var 0) (.cons (.var 1) (.cons (.var 2) .nil)))) .nil) (.var 2)) .nil))) .nil)⟩ := by kernel_rfl
theorem b6 : tabOf T 6 = some ⟨3, 9, (.cons (.par [(3, true), (4, true), (5, true), (6, false)] (.cons (.lst (.cons (.var 1) .nil)) (.cons (.dct1 true (.var 1) (.con (.int 0))) (.cons (.lst .nil) (.cons (.con (.int 0)) .nil))))) (.cons (.whl (.cmp .lt (.var 6) (.bf .len (.cons (.var 3) .nil))) (.cons (.for (.nm 7) (.seq (.call 5 (.cons (.var 0) (.cons (.idx (.var 3) (.var 6)) .nil)))) (.cons (.asg (.nm 8) (.call 1 (.cons (.idx (.var 3) (.var 6)) (.cons (.call 3 (.cons (.var 0) (.cons (.var 7) .nil))) .nil)))) (.cons (.ifs (.cmp .notin (.var 8) (.var 4)) (.cons (.ifs (.cmp .eq (.bf .len (.cons (.var 3) .nil)) (.var 2)) (.cons (.rai 0) .nil) .nil) (.cons (.setI 4 (.var 8) (.bf .len (.cons (.var 3) .nil))) (.cons (.app 3 (.var 8)) .nil))) .nil) (.cons (.app 5 (.tup (.cons (.var 6) (.cons (.var 7) (.cons (.idx (.var 4) (.var 8)) .nil))))) .nil)))) (.cons (.aug .add 6 (.con (.int 1))) .nil))) (.cons (.ret (.tup (.cons (.bf .tuple (.cons (.var 3) .nil)) (.cons (.bf .tuple (.cons (.var 5) .nil)) .nil)))) .nil)))⟩ := by kernel_rfl
theorem b7 : tabOf T 7 = some ⟨1, 8, (.cons (.asg (.tup (.cons (.nm 2) (.cons (.nm 3) .nil))) (.var 0)) (.cons (.own 1 (.dct1 false (.con (.int 0)) (.tup .nil))) (.cons (.for (.tup (.cons (.nm 4) (.cons (.nm 5) (.cons (.nm 6) .nil)))) (.seq (.var 3)) (.cons (.ifs (.cmp .notin (.var 6) (.var 1)) (.cons (.setI 1 (.var 6) (.bin .add (.idx (.var 1) (.var 4)) (.tup (.cons (.var 5) .nil)))) .nil) .nil) .nil)) (.cons (.ret (.bf .tuple (.cons (.lc [7] (.nm 7) (.rlen (.var 2)) .nil (.idx (.var 1) (.var 7))) .nil))) .nil))))⟩ := by kernel_rfl
theorem b8 : tabOf T 8 = some ⟨4, 7, (.cons (.asg (.nm 4) (.call 6 (.cons (.var 0) (.cons (.var 1) (.cons (.var 3) .nil))))) (.cons (.for (.tup (.cons (.nm 5) (.cons (.nm 6) .nil))) (.zip (.cons (.idx (.var 4) (.con (.int 0))) (.cons (.call 7 (.cons (.var 4) .nil)) .nil))) (.cons (.ifs (.cmp .eq (.var 5) (.var 2)) (.cons (.ret (.var 6)) .nil) .nil) .nil)) (.cons (.rai 0) .nil)))⟩ := by kernel_rfl
theorem b9 : tabOf T 9 = some ⟨2, 5, (.cons (.ret (.bf .tuple (.cons (.lc [2, 3, 4] (.tup (.cons (.nm 2) (.cons (.nm 3) (.cons (.nm 4) .nil)))) (.seq (.idx (.var 0) (.con (.int 1)))) (.cons (.cmp .eq (.var 2) (.var 1)) .nil) (.tup (.cons (.var 3) (.cons (.var 4) .nil)))) .nil))) .nil)⟩ := by kernel_rfl
theorem b10 : tabOf T 10 = some ⟨2, 8, (.cons (.own 2 (.dct0 false)) (.cons (.grp 2 3 4 5 (.idx (.var 0) (.con (.int 1)))) (.cons (.par [(6, true), (7, true)] (.cons (.dct1 false (.var 1) (.con (.bool true))) (.cons (.lst (.cons (.var 1) .nil)) .nil))) (.cons (.whl (.var 7) (.cons (.fpg (.nm 5) 2 7 (.cons (.ifs (.cmp .notin (.var 5) (.var 6)) (.cons (.setI 6 (.var 5) (.con (.bool true))) (.cons (.app 7 (.var 5)) .nil)) .nil) .nil)) .nil)) (.cons (.ret (.bf .tuple (.cons (.bf .sorted (.cons (.var 6) .nil)) .nil))) .nil)))))⟩ := by kernel_rfl
theorem b11 : tabOf T 11 = some ⟨1, 7, (.cons (.asg (.nm 1) (.lc [2] (.nm 2) (.rlen (.idx (.var 0) (.con (.int 0)))) .nil (.call 10 (.cons (.var 0) (.cons (.var 2) .nil))))) (.cons (.par [(3, true), (4, true)] (.cons (.lst .nil) (.cons (.dct0 false) .nil))) (.cons (.for (.nm 2) (.rlen (.var 1)) (.cons (.ifs (.cmp .notin (.var 2) (.var 4)) (.cons (.asg (.nm 5) (.bf .tuple (.cons (.lc [6] (.nm 6) (.seq (.idx (.var 1) (.var 2))) (.cons (.cmp .isin (.var 2) (.idx (.var 1) (.var 6))) .nil) (.var 6)) .nil))) (.cons (.for (.nm 6) (.seq (.var 5)) (.cons (.setI 4 (.var 6) (.con (.bool true))) .nil)) (.cons (.app 3 (.var 5)) .nil))) .nil) .nil)) (.cons (.ret (.bf .tuple (.cons (.var 3) .nil))) .nil))))⟩ := by kernel_rfl
theorem b12 : tabOf T 12 = some ⟨1, 3, (.cons (.own 1 (.lst .nil)) (.cons (.for (.nm 2) (.seq (.call 11 (.cons (.var 0) .nil))) (.cons (.ifs (.cmp .eq (.call 10 (.cons (.var 0) (.cons (.idx (.var 2) (.con (.int 0))) .nil))) (.var 2)) (.cons (.app 1 (.var 2)) .nil) .nil) .nil)) (.cons (.ret (.bf .tuple (.cons (.var 1) .nil))) .nil)))⟩ := by kernel_rfl
theorem b13 : tabOf T 13 = some ⟨1, 3, (.cons (.asg (.nm 1) (.idx (.var 0) (.con (.int 0)))) (.cons (.ret (.bf .tuple (.cons (.lc [2] (.nm 2) (.zst (.var 1)) .nil (.bf .max (.cons (.var 2) .nil))) .nil))) .nil))⟩ := by kernel_rfl
theorem b14 : tabOf T 14 = some ⟨2, 12, (.cons (.asg (.nm 2) (.slc (.tup (.cons (.con (.str "a")) (.cons (.con (.str "b")) (.cons (.con (.str "c")) (.cons (.con (.str "d")) (.cons (.con (.str "e")) .nil)))))) .none (.some (.bin .add (.con (.int 1)) (.call 22 (.cons (.var 0) (.cons (.var 1) .nil))))))) (.cons (.par [(4, true), (5, false)] (.cons (.lst .nil) (.cons (.call 22 (.cons (.var 0) (.cons (.con (.int 3)) .nil))) .nil))) (.cons (.for (.nm 3) (.seq (.slc (.tup (.cons (.con (.str "p")) (.cons (.con (.str "q")) (.cons (.con (.str "r")) (.cons (.con (.str "s")) (.cons (.con (.str "t")) .nil)))))) .none (.some (.bf .max (.cons (.call 22 (.cons (.var 0) (.cons (.bin .add (.var 1) (.con (.int 1))) .nil))) (.cons (.call 22 (.cons (.var 0) (.cons (.con (.int 2)) .nil))) .nil)))))) (.cons (.asg (.nm 6) (.lc [9] (.nm 9) (.rng (.cons (.con (.int 2)) .nil)) .nil (.bf .tuple (.cons (.lc [11] (.nm 11) (.seq (.var 2)) .nil (.idx (.lst (.cons (.con (.int 0)) (.cons (.con (.int 1)) (.cons (.con (.int 0)) (.cons (.con (.int 2)) (.cons (.con (.int 1)) (.cons (.con (.int 0)) .nil))))))) (.call 22 (.cons (.var 0) (.cons (.con (.int 6)) .nil))))) .nil)))) (.cons (.ifs (.cmp .gt (.var 5) (.con (.int 0))) (.cons (.asg (.nm 7) (.lc [9] (.nm 9) (.rng (.cons (.bin .add (.con (.int 1)) (.call 22 (.cons (.var 0) (.cons (.var 5) .nil)))) .nil)) .nil (.call 22 (.cons (.var 0) (.cons (.bf .len (.cons (.var 2) .nil)) .nil))))) (.cons (.asg (.nm 8) (.lc [9] (.nm 9) (.rng (.cons (.idx (.lst (.cons (.bf .len (.cons (.var 7) .nil)) (.cons (.bf .len (.cons (.var 7) .nil)) (.cons (.con (.int 1)) (.cons (.con (.int 0)) .nil))))) (.call 22 (.cons (.var 0) (.cons (.con (.int 4)) .nil)))) .nil)) .nil (.call 22 (.cons (.var 0) (.cons (.bf .len (.cons (.var 2) .nil)) .nil))))) (.cons (.asg (.nm 6) (.lc [10] (.nm 10) (.seq (.lst (.cons (.var 7) (.cons (.var 8) .nil)))) .nil (.bf .tuple (.cons (.lc [11] (.nm 11) (.rlen (.var 2)) .nil (.me .count (.var 10) (.cons (.var 11) .nil))) .nil)))) .nil))) .nil) (.cons (.app 4 (.tup (.cons (.var 3) (.cons (.idx (.var 6) (.con (.int 0))) (.cons (.idx (.var 6) (.con (.int 1))) .nil))))) .nil)))) (.cons (.ret (.tup (.cons (.var 2) (.cons (.bf .tuple (.cons (.var 4) .nil)) .nil)))) .nil))))⟩ := by kernel_rfl
theorem b15 : tabOf T 15 = some ⟨3, 7, (.cons (.asg (.nm 3) (.bf .tuple (.cons (.lc [4] (.nm 4) (.seq (.idx (.var 1) (.con (.int 0)))) .nil (.call 22 (.cons (.var 0) (.cons (.bin .add (.var 2) (.con (.int 1))) .nil)))) .nil))) (.cons (.ifs (.or (.cmp .eq (.idx (.var 1) (.con (.int 1))) (.tup .nil)) (.cmp .eq (.call 22 (.cons (.var 0) (.cons (.con (.int 5)) .nil))) (.con (.int 0)))) (.cons (.ret (.var 3)) .nil) .nil) (.cons (.ret (.bf .tuple (.cons (.lc [5, 6] (.tup (.cons (.nm 5) (.cons (.nm 6) .nil))) (.zip (.cons (.var 3) (.cons (.idx (.idx (.idx (.var 1) (.con (.int 1))) (.call 22 (.cons (.var 0) (.cons (.bf .len (.cons (.idx (.var 1) (.con (.int 1))) .nil)) .nil)))) (.con (.int 1))) .nil))) .nil (.bf .max (.cons (.var 5) (.cons (.var 6) .nil)))) .nil))) .nil)))⟩ := by kernel_rfl
theorem b16 : tabOf T 16 = some ⟨3, 4, (.cons (.ret (.cmp .eq (.lc [3] (.nm 3) (.rlen (.var 1)) (.cons (.cmp .lt (.idx (.var 1) (.var 3)) (.idx (.idx (.idx (.idx (.var 0) (.con (.int 1))) (.var 2)) (.con (.int 1))) (.var 3))) .nil) (.var 3)) (.lst .nil))) .nil)⟩ := by kernel_rfl
theorem b17 : tabOf T 17 = some ⟨3, 4, (.cons (.ret (.bf .tuple (.cons (.lc [3] (.nm 3) (.rlen (.var 1)) .nil (.bin .add (.bin .sub (.idx (.var 1) (.var 3)) (.idx (.idx (.idx (.idx (.var 0) (.con (.int 1))) (.var 2)) (.con (.int 1))) (.var 3))) (.idx (.idx (.idx (.idx (.var 0) (.con (.int 1))) (.var 2)) (.con (.int 2))) (.var 3)))) .nil))) .nil)⟩ := by kernel_rfl
theorem b18 : tabOf T 18 = some ⟨3, 8, (.cons (.par [(4, true), (5, false)] (.cons (.dct1 true (.var 1) (.tup .nil)) (.cons (.lst (.cons (.var 1) .nil)) .nil))) (.cons (.for (.nm 3) (.rng (.cons (.var 2) .nil)) (.cons (.ifs (.cmp .lt (.var 3) (.bf .len (.cons (.var 5) .nil))) (.cons (.for (.nm 6) (.rlen (.idx (.var 0) (.con (.int 1)))) (.cons (.ifs (.call 16 (.cons (.var 0) (.cons (.idx (.var 5) (.var 3)) (.cons (.var 6) .nil)))) (.cons (.asg (.nm 7) (.call 17 (.cons (.var 0) (.cons (.idx (.var 5) (.var 3)) (.cons (.var 6) .nil))))) (.cons (.ifs (.and (.cmp .notin (.var 7) (.var 4)) (.cmp .eq (.bf .len (.cons (.var 5) .nil)) (.var 2))) (.cons (.ret (.con .none)) .nil) .nil) (.cons (.ifs (.cmp .notin (.var 7) (.var 4)) (.cons (.setI 4 (.var 7) (.bin .add (.idx (.var 4) (.idx (.var 5) (.var 3))) (.tup (.cons (.var 6) .nil)))) (.cons (.asg (.nm 5) (.bin .add (.var 5) (.lst (.cons (.var 7) .nil)))) .nil)) .nil) .nil))) .nil) .nil)) .nil) .nil) .nil)) (.cons (.frz 4) (.cons (.ret (.tup (.cons (.var 5) (.cons (.var 4) .nil)))) .nil))))⟩ := by kernel_rfl
theorem b19 : tabOf T 19 = some ⟨2, 5, (.cons (.asg (.nm 2) (.lst .nil)) (.cons (.for (.nm 3) (.rlen (.var 1)) (.cons (.asg (.nm 2) (.bin .add (.var 2) (.lc [4] (.nm 4) (.rlen (.idx (.var 0) (.con (.int 1)))) (.cons (.call 16 (.cons (.var 0) (.cons (.idx (.var 1) (.var 3)) (.cons (.var 4) .nil)))) .nil) (.tup (.cons (.var 3) (.cons (.var 4) (.cons (.ixo (.var 1) (.call 17 (.cons (.var 0) (.cons (.idx (.var 1) (.var 3)) (.cons (.var 4) .nil))))) .nil))))))) .nil)) (.cons (.ret (.var 2)) .nil)))⟩ := by kernel_rfl
theorem b20 : tabOf T 20 = some ⟨2, 8, (.cons (.par [(3, false), (4, false)] (.cons (.lst (.cons (.var 1) .nil)) (.cons (.lst (.cons (.var 1) .nil)) .nil))) (.cons (.for (.nm 2) (.rng (.cons (.bin .add (.bf .len (.cons (.var 0) .nil)) (.con (.int 1))) .nil)) (.cons (.asg (.nm 4) (.bf .sset (.cons (.lc [5, 6, 7] (.tup (.cons (.nm 5) (.cons (.nm 6) (.cons (.nm 7) .nil)))) (.seq (.var 0)) (.cons (.and (.cmp .isin (.var 5) (.var 4)) (.cmp .notin (.var 7) (.var 3))) .nil) (.var 7)) .nil))) (.cons (.asg (.nm 3) (.bin .add (.var 3) (.var 4))) .nil))) (.cons (.ret (.bf .sorted (.cons (.var 3) .nil))) .nil)))⟩ := by kernel_rfl
theorem b21 : tabOf T 21 = some ⟨5, 5, (.cons (.try (.cons (.ret (.ite (.cmp .eq (.var 0) (.con (.int 0))) (.call 6 (.cons (.var 1) (.cons (.var 2) (.cons (.var 4) .nil)))) (.call 8 (.cons (.var 1) (.cons (.var 2) (.cons (.var 3) (.cons (.var 4) .nil))))))) .nil) 0 (.cons (.ret (.con .none)) .nil)) .nil)⟩ := by kernel_rfl
theorem bL : lawB = (.cons (.for (.nm 2) (.rng (.cons (.con (.int 3)) .nil)) (.cons (.asg (.nm 3) (.call 14 (.cons (.var 1) (.cons (.con (.int 4)) .nil)))) (.cons (.par [(9, false), (10, false)] (.cons (.call 15 (.cons (.var 1) (.cons (.var 3) (.cons (.con (.int 2)) .nil)))) (.cons (.call 15 (.cons (.var 1) (.cons (.var 3) (.cons (.con (.int 2)) .nil)))) .nil))) (.cons (.asg (.nm 4) (.call 18 (.cons (.var 3) (.cons (.var 9) (.cons (.con (.int 40)) .nil))))) (.cons (.ifs (.cmp .ne (.cmp .is (.call 21 (.cons (.con (.int 0)) (.cons (.var 3) (.cons (.var 9) (.cons (.var 10) (.cons (.con (.int 40)) .nil)))))) (.con .none)) (.cmp .is (.var 4) (.con .none))) (.cons (.ret (.con (.bool false))) .nil) .nil) (.cons (.ifs (.cmp .is (.var 4) (.con .none)) (.cons .cnt .nil) .nil) (.cons (.asg (.tup (.cons (.nm 11) (.cons (.nm 12) .nil))) (.var 4)) (.cons (.par [(13, false), (14, false)] (.cons (.call 6 (.cons (.var 3) (.cons (.var 9) (.cons (.con (.int 40)) .nil)))) (.cons (.bf .len (.cons (.var 11) .nil)) .nil))) (.cons (.asg (.nm 5) (.call 19 (.cons (.var 3) (.cons (.var 11) .nil)))) (.cons (.ifs (.or (.cmp .ne (.var 13) (.tup (.cons (.bf .tuple (.cons (.var 11) .nil)) (.cons (.bf .tuple (.cons (.var 5) .nil)) .nil)))) (.or (.cmp .ne (.call 7 (.cons (.var 13) .nil)) (.bf .tuple (.cons (.lc [17] (.nm 17) (.seq (.var 11)) .nil (.idx (.var 12) (.var 17))) .nil))) (.cmp .ne (.call 21 (.cons (.con (.int 0)) (.cons (.var 3) (.cons (.var 9) (.cons (.var 10) (.cons (.var 14) .nil)))))) (.var 13)))) (.cons (.ret (.con (.bool false))) .nil) .nil) (.cons (.ifs (.and (.cmp .gt (.var 14) (.con (.int 1))) (.cmp .isnot (.call 21 (.cons (.con (.int 0)) (.cons (.var 3) (.cons (.var 9) (.cons (.var 10) (.cons (.bin .sub (.var 14) (.con (.int 1))) .nil)))))) (.con .none))) (.cons (.ret (.con (.bool false))) .nil) .nil) (.cons (.ifs (.cmp .ne (.call 21 (.cons (.con (.int 1)) (.cons (.var 3) (.cons (.var 9) (.cons (.var 10) (.cons (.con (.int 40)) .nil)))))) (.dg1 (.var 12) (.var 10))) (.cons (.ret (.con (.bool false))) .nil) .nil) (.cons (.asg (.nm 6) (.lc [15] (.nm 15) (.rng (.cons (.var 14) .nil)) .nil (.call 20 (.cons (.var 5) (.cons (.var 15) .nil))))) (.cons (.ifs (.cmp .ne (.lc [15] (.nm 15) (.rng (.cons (.var 14) .nil)) (.cons (.or (.cmp .ne (.call 10 (.cons (.var 13) (.cons (.var 15) .nil))) (.bf .tuple (.cons (.idx (.var 6) (.var 15)) .nil))) (.cmp .ne (.call 9 (.cons (.var 13) (.cons (.var 15) .nil))) (.bf .tuple (.cons (.lc [20, 21, 16] (.tup (.cons (.nm 20) (.cons (.nm 21) (.cons (.nm 16) .nil)))) (.seq (.var 5)) (.cons (.cmp .eq (.var 20) (.var 15)) .nil) (.tup (.cons (.var 21) (.cons (.var 16) .nil)))) .nil)))) .nil) (.var 15)) (.lst .nil)) (.cons (.ret (.con (.bool false))) .nil) .nil) (.cons (.asg (.nm 7) (.lc [15] (.nm 15) (.rng (.cons (.var 14) .nil)) .nil (.bf .tuple (.cons (.lc [16] (.nm 16) (.seq (.idx (.var 6) (.var 15))) (.cons (.cmp .isin (.var 15) (.idx (.var 6) (.var 16))) .nil) (.var 16)) .nil)))) (.cons (.asg (.nm 8) (.lc [15] (.nm 15) (.rng (.cons (.var 14) .nil)) (.cons (.cmp .eq (.idx (.idx (.var 7) (.var 15)) (.con (.int 0))) (.var 15)) .nil) (.idx (.var 7) (.var 15)))) (.cons (.ifs (.or (.cmp .ne (.call 11 (.cons (.var 13) .nil)) (.bf .tuple (.cons (.var 8) .nil))) (.cmp .ne (.call 12 (.cons (.var 13) .nil)) (.bf .tuple (.cons (.lc [18] (.nm 18) (.seq (.var 8)) (.cons (.cmp .eq (.idx (.var 6) (.idx (.var 18) (.con (.int 0)))) (.bf .list (.cons (.var 18) .nil))) .nil) (.var 18)) .nil)))) (.cons (.ret (.con (.bool false))) .nil) .nil) (.cons (.ifs (.or (.cmp .ne (.call 13 (.cons (.var 13) .nil)) (.bf .tuple (.cons (.lc [19] (.nm 19) (.rlen (.idx (.var 3) (.con (.int 0)))) .nil (.bf .max (.cons (.lc [17] (.nm 17) (.seq (.var 11)) .nil (.idx (.var 17) (.var 19))) .nil))) .nil))) (.not (.bf (.isi .tuple) (.cons (.call 11 (.cons (.var 13) .nil)) .nil)))) (.cons (.ret (.con (.bool false))) .nil) .nil) .nil)))))))))))))))))) (.cons (.ret (.cmp .eq (.con (.int 300)) (.con (.int 300)))) .nil)) := by kernel_rfl
end K01

set_option Elab.async false
set_option linter.all false
set_option maxRecDepth 100000
set_option maxHeartbeats 2000000
namespace K01
open PySem PySem.Spec PyProof.Rows L2 Ly
abbrev Fk (k : Nat) := run (tabOf T) spT Wf k
/-! ### rows -/
section
variable {k : Nat} {a b : List Int} {L : Nat} (ha : a.length = L) (hb : b.length = L)
include ha hb
theorem r0 : PF (Fk (k + 1)) 0 [intsT a, intsT b] (.bool (covB L a b)) :=
  pf_run b0 rfl (pb_ret (pv_bf (pl_cons (pv_lcA (as := List.range L) (enc := fun p => .tuple [.int (at' a p), .int (at' b p)]) (g := fun p => .bool (decide (at' b p ≤ at' a p))) (pi_zipI (pv_var rfl) (pv_var rfl) ha hb) fun p hp => ⟨_, rfl, pv_cmp (pv_var rfl) (pv_var rfl) rfl⟩) pl_nil) (all_bools _ _)))
theorem r1 : PF (Fk (k + 1)) 1 [intsT a, intsT b] (intsT (rw' L fun p => at' a p + at' b p)) :=
  pf_run b1 rfl (pb_ret (pv_bf (pl_cons (pv_lcA (as := List.range L) (enc := fun p => .tuple [.int (at' a p), .int (at' b p)]) (g := fun p => .int (at' a p + at' b p)) (pi_zipI (pv_var rfl) (pv_var rfl) ha hb) fun p hp => ⟨_, rfl, pv_bin (pv_var rfl) (pv_var rfl) rfl⟩) pl_nil) (congrArg some rwD)))
theorem r2 : PF (Fk (k + 1)) 2 [intsT a, intsT b] (intsT (rw' L fun p => at' a p - at' b p)) :=
  pf_run b2 rfl (pb_ret (pv_bf (pl_cons (pv_lcA (as := List.range L) (enc := fun p => .tuple [.int (at' a p), .int (at' b p)]) (g := fun p => .int (at' a p - at' b p)) (pi_zipI (pv_var rfl) (pv_var rfl) ha hb) fun p hp => ⟨_, rfl, pv_bin (pv_var rfl) (pv_var rfl) rfl⟩) pl_nil) (congrArg some rwD)))
end
section
variable {k : Nat} {n : Nt} (ok : n.Ok)
include ok
theorem r3 {t : Nat} (ht : t < n.M.length) : PF (Fk (k + 2)) 3 [n.d, natD t] (intsT (rw' n.L (n.eff t))) :=
  pf_run b3 rfl (pb_asg (d1 := (n.mv t).d) (pv_move (pv_var rfl) (pv_var rfl) (mv_ok ht)) rfl (pb_ret (pv_call (pl_cons (pv_var rfl) (pl_cons (pv_var rfl) pl_nil)) (r2 (ok_post ok ht) (ok_pre ok ht)))))
variable {mk : List Int} (hm : mk.length = n.L)
include hm
theorem r4 {t : Nat} (ht : t < n.M.length) : PF (Fk (k + 2)) 4 [n.d, intsT mk, natD t] (.bool (canB n mk t)) :=
  pf_run b4 rfl (pb_ret (pv_call (pl_cons (pv_var rfl) (pl_cons (pv_pre (pv_move (pv_var rfl) (pv_var rfl) (mv_ok ht))) pl_nil)) (r0 hm (ok_pre ok ht))))
theorem r5 : PF (Fk (k + 3)) 5 [n.d, intsT mk] (natsT (cans n mk)) :=
  pf_run b5 rfl (pb_ret (pv_bf (pl_cons (pv_lc (as := List.range n.M.length) (enc := natD) (g := natD) (p := canB n mk) (pi_rlen (pv_moves (pv_var rfl)) len_map) fun t ht => ⟨_, rfl, pc_one (pt_call (pl_cons (pv_var rfl) (pl_cons (pv_var rfl) (pl_cons (pv_var rfl) pl_nil))) (r4 ok hm (List.mem_range.mp ht)) rfl), fun _ => pv_var rfl⟩) pl_nil) rfl))
/-! the law's own -/
theorem r16 {t : Nat} (ht : t < n.M.length) : PF (Fk (k + 1)) 16 [n.d, intsT mk, natD t] (.bool (canB n mk t)) := by
  refine pf_run b16 rfl (pb_ret (pv_as (pv_cmp (o := .eq) (pv_lc (as := List.range n.L) (enc := natD) (g := natD) (p := fun p => decide (at' mk p < n.take t p)) (pi_rlen (pv_var rfl) (by rw [len_map, hm])) fun p hp => ⟨_, rfl, pc_one (pt_cmp' (o := .lt) (pv_ent (pv_var rfl) (pv_var rfl) (by rw [hm]; exact List.mem_range.mp hp)) (pv_ent (pv_pre (pv_move (pv_var rfl) (pv_var rfl) (mv_ok ht))) (pv_var rfl) (by rw [ok_pre ok ht]; exact List.mem_range.mp hp)) rfl), fun _ => pv_var rfl⟩) pv_nilL (cmp_eq_nil sh0 (by omega))) ?_))
  rw [filter_emp']
  unfold canB covB
  congr 1
  congr 1
  funext p
  rw [Bool.eq_iff_iff]
  simp
theorem r17 {t : Nat} (ht : t < n.M.length) : PF (Fk (k + 1)) 17 [n.d, intsT mk, natD t] (intsT (movedL n mk t)) :=
  pf_run b17 rfl (pb_ret (pv_bf (pl_cons (pv_lcA (as := List.range n.L) (enc := natD) (g := fun p => .int (at' mk p - n.take t p + n.give t p)) (pi_rlen (pv_var rfl) (by rw [len_map, hm])) fun p hp => ⟨_, rfl, pv_bin (pv_bin (pv_ent (pv_var rfl) (pv_var rfl) (by rw [hm]; exact List.mem_range.mp hp)) (pv_ent (pv_pre (pv_move (pv_var rfl) (pv_var rfl) (mv_ok ht))) (pv_var rfl) (by rw [ok_pre ok ht]; exact List.mem_range.mp hp)) rfl) (pv_ent (pv_post (pv_move (pv_var rfl) (pv_var rfl) (mv_ok ht))) (pv_var rfl) (by rw [ok_post ok ht]; exact List.mem_range.mp hp)) rfl⟩) pl_nil) (congrArg some rwD)))
end
theorem noT : tabOf T 22 = none := by decide +kernel
section
variable {k : Nat} {env : List Sl}
theorem g_take {x y : Ex} {m : Int} (hx : PV (Fk (k + 1)) x env drw) (hy : PV (Fk (k + 1)) y env (.int m)) (h0 : 0 < m) (h1 : m < 1073741824) : GV (Fk (k + 1)) (.call 22 (.cons x (.cons y .nil))) env (fun d => ∃ i : Nat, d = natD i ∧ (i : Int) < m) :=
  gv_call (gl (pl_cons hx (pl_cons hy pl_nil))) fun ds e => by
    cases e
    exact gf_take' noT (fun _ _ => rfl) h0 h1
def netI (P : List Str) (q : Nat) (i : Nat) (e : List Sl) : Prop := ∃ (ms : List Mv) (x3 x6 x7 x8 : Sl), e = [.fz drw, .fz (natD 4), .fz (.tuple (P.map .str)), x3, .ow (.list (ms.map Mv.d)), .fz (natD q), x6, x7, x8, .un, .un, .un] ∧ ms.length = i ∧ (∀ m ∈ ms, Wm P.length m) ∧ ms.map (·.nm) = pqr.take i
theorem app_net {P : List Str} {q i : Nat} {ms : List Mv} {nm : Str} {r0 r1 : List Int} {x7 x8 : Sl} {Q : Fl → List Sl → Prop} (hl : ms.length = i) (hi : i < 1000) (hm : ∀ m ∈ ms, Wm P.length m) (hnm : ms.map (·.nm) = pqr.take i) (hni : pqr[i]? = some nm) (h0 : Rw P.length r0) (h1 : Rw P.length r1)
    (q2 : ∀ e, netI P q (i + 1) e → Q .nx e) : GS (Fk (k + 1)) Wf (.cons (.app 4 (.tup (.cons (.var 3) (.cons (.idx (.var 6) (.con (.int 0))) (.cons (.idx (.var 6) (.con (.int 1))) .nil))))) .nil) [.fz drw, .fz (natD 4), .fz (.tuple (P.map .str)), .fz (.str nm), .ow (.list (ms.map Mv.d)), .fz (natD q), .fz (.list [intsT r0, intsT r1]), x7, x8, .un, .un, .un] Q := by
  refine gs_app (ds := ms.map Mv.d) rfl (by rw [List.length_map]; omega) (gv (d := (⟨nm, r0, r1⟩ : Mv).d) (pv_tup (pl_cons (pv_var rfl) (pl_cons (pv_idx (pv_var rfl) pv_con rfl) (pl_cons (pv_idx (pv_var rfl) pv_con rfl) pl_nil))) rfl)) fun d e => ?_
  subst e
  refine gs_nil (q2 _ ⟨ms ++ [⟨nm, r0, r1⟩], .fz (.str nm), .fz (.list [intsT r0, intsT r1]), x7, x8, ?_, by rw [List.length_append]; simp [hl], fun m h => ?_, by rw [List.map_append, hnm, List.take_succ, hni]; rfl⟩)
  · rw [List.map_append]; rfl
  · rcases List.mem_append.mp h with h | h
    · exact hm m h
    · rw [List.mem_singleton.mp h]
      exact ⟨h0, h1⟩
theorem r14 : GF (Fk (k + 2)) 14 [drw, natD 4] IsNet := by
  refine gf_run b14 rfl (gs_asg (P := fun d => ∃ P : List Str, d = .tuple (P.map .str) ∧ (0 < P.length ∧ P.length ≤ 5) ∧ ∃ h, P = abc.take h) ?_ fun d ⟨P, e, ⟨hp0, hp5⟩, hpl⟩ => ?_)
  · refine gv_slc (gv (pv_tup (ds := abc.map .str) (pl_cons pv_con (pl_cons pv_con (pl_cons pv_con (pl_cons pv_con (pl_cons pv_con pl_nil))))) rfl)) go_none (go_some (Pi := fun i => ∃ h : Nat, i = (h : Int) ∧ 0 < h ∧ h ≤ 5) (gv_bin (gv pv_con) (g_take (pv_var rfl) (pv_var rfl) (by omega) (by omega)) fun x y hx ⟨i, hy, hi⟩ => ?_)) fun x l r hx hl ⟨i, hr, h, hi, h0, h5⟩ => ?_
    · subst hx hy
      exact ⟨_, rfl, _, rfl, 1 + i, by omega, by omega, by omega⟩
    · subst hx hl hr hi
      refine ⟨_, five abc rfl h5, abc.take h, rfl, ⟨?_, ?_⟩, h, rfl⟩
      · rw [List.length_take]; simp [abc]; omega
      · rw [List.length_take]; omega
  · subst e
    refine ⟨_, rfl, gs_par (Pl := fun ds => ∃ q : Nat, ds = [.list [], natD q] ∧ q < 3) ?_ fun ds ⟨q, e, hq⟩ => ?_⟩
    · refine GL.imp (gl_cons (gv pv_nilL) (gl_cons (g_take (pv_var rfl) pv_con (by omega) (by omega)) gl_nil)) fun ds ⟨d, r, e1, e2, d2, r2, e3, ⟨i, e4, hi⟩, e5⟩ => ?_
      subst e5 e4 e3 e2 e1
      exact ⟨i, rfl, by omega⟩
    subst e
    refine ⟨_, rfl, gs_for (Pl := fun ds => ∃ h : Nat, h ≤ 5 ∧ ds = (pqr.take h).map .str) (gi_seq ?_) fun ds ⟨h, h5, e⟩ => ⟨netI P q, ⟨[], .un, .un, .un, .un, rfl, rfl, (fun _ h => by cases h), rfl⟩, fun i d e hd he => ?_, fun e he => ?_⟩⟩
    · refine gv_slc (gv (pv_tup (ds := pqr.map .str) (pl_cons pv_con (pl_cons pv_con (pl_cons pv_con (pl_cons pv_con (pl_cons pv_con pl_nil))))) rfl)) go_none (go_some (Pi := fun i => ∃ h : Nat, i = (h : Int) ∧ h ≤ 5) ?_) fun x l r hx hl ⟨i, hr, h, hi, h5⟩ => ?_
      · refine gv_bf (gl_cons (g_take (m := 5) (pv_var rfl) (pv_bin (pv_var rfl) pv_con rfl) (by omega) (by omega)) (gl_cons (g_take (pv_var rfl) pv_con (by omega) (by omega)) gl_nil)) fun ds ⟨x, r, e1, ⟨i, e2, hi⟩, y, r2, e3, ⟨j, e4, hj⟩, e5⟩ => ?_
        subst e5 e4 e3 e2 e1
        refine ⟨_, rfl, _, rfl, if j > i then j else i, ?_, by split <;> omega⟩
        by_cases hij : j > i
        · rw [if_pos hij, if_pos (by omega)]
        · rw [if_neg hij, if_neg (by omega)]
      · subst hx hl hr hi
        exact ⟨_, five pqr rfl h5, _, rfl, h, h5, rfl⟩
    · obtain ⟨ms, x3, x6, x7, x8, rfl, hl, hm, hnm⟩ := he
      subst e
      rw [List.getElem?_map] at hd
      cases hn : (pqr.take h)[i]? with
      | none => rw [hn] at hd; cases hd
      | some nm =>
        rw [hn] at hd
        cases hd
        have hni : pqr[i]? = some nm := by
          rw [List.getElem?_take] at hn
          split at hn
          · exact hn
          · cases hn
        have hi5 : i < 5 := by
          have := (List.getElem?_eq_some_iff.mp hn).1
          rw [List.length_take] at this
          omega
        refine ⟨_, rfl, gs_asg (P := fun d => ∃ r0 r1, d = .list [intsT r0, intsT r1] ∧ Rw P.length r0 ∧ Rw P.length r1) ?_ fun d ⟨r0, r1, e, h0, h1⟩ => ?_⟩
        · refine (gv_lcE (e := intsT) (S := Rw P.length) (gi (ds := (List.range 2).map natD) (pi_rng (pl_cons pv_con pl_nil) (rng1 2 (by omega)))) fun ds e d hd => ?_).imp fun d ⟨ds, xs, e, hd, hlen, hS⟩ => ?_
          · refine ⟨_, rfl, gv_bf (gl_one (gv_lcE (e := PyData.int) (S := fun x => 0 ≤ x ∧ x ≤ 9) (gi (pi_seq' (pv_var rfl) rfl)) fun ds e d hd => ⟨_, rfl, gv_idx (gv (pv_lst (ds := [0, 1, 0, 2, 1, 0].map PyData.int) (pl_cons pv_con (pl_cons pv_con (pl_cons pv_con (pl_cons pv_con (pl_cons pv_con (pl_cons pv_con pl_nil)))))) rfl)) (g_take (pv_var rfl) pv_con (by omega) (by omega)) fun x y hx ⟨j, hy, hj⟩ => ?_⟩)) fun ds ⟨d, e, ds2, xs, e2, hd, hlen, hS⟩ => ?_⟩
            · subst hx hy
              obtain ⟨a, ha, e⟩ := at_all (e := PyData.int) (l := [0, 1, 0, 2, 1, 0]) (i := j) (by simp only [List.length_cons, List.length_nil]; omega)
              refine ⟨_, e, a, rfl, ?_⟩
              have : ∀ a ∈ ([0, 1, 0, 2, 1, 0] : List Int), 0 ≤ a ∧ a ≤ 9 := by decide
              exact this a ha
            · subst e hd e2
              refine ⟨_, rfl, xs, rfl, ?_, hS⟩
              rw [hlen, List.length_map]
          · subst e hd
            rw [List.length_map, List.length_range] at hlen
            match xs, hlen, hS with
            | [a, b], _, hS => exact ⟨a, b, rfl, hS a (by simp), hS b (by simp)⟩
        · subst e
          refine ⟨_, rfl, gs_if (gt (pt_cmp' (o := .gt) (pv_var rfl) pv_con rfl)) (fun hq0 => ?_) fun _ => gs_nil (app_net hl (by omega) hm hnm hni h0 h1 fun e he => he)⟩
          have hq0 : 0 < q := by
            have := of_decide_eq_true hq0.symm
            omega
          refine gs_asg (P := fun d => ∃ l : List Nat, d = .list (l.map natD) ∧ l.length ≤ 9) ?_ fun d ⟨l7, e7, h7⟩ => ?_
          · refine (gv_lcE (e := natD) (S := fun _ => True) (gi_rng (Pl := fun ds => ds.length ≤ 9) (gl_one (gv_bin (P := fun d => ∃ i : Nat, d = natD i ∧ i ≤ 9) (gv pv_con) (g_take (pv_var rfl) (pv_var rfl) (by omega) (by omega)) fun x y hx ⟨j, hy, hj⟩ => ?A)) fun ds ⟨d, e, j, e2, hj⟩ => ?B) fun ds e d hd => ⟨_, rfl, (g_take (pv_var rfl) (pv_lenP rfl) (by omega) (by omega)).imp fun d ⟨i, h, _⟩ => ⟨i, h, trivial⟩⟩).imp fun d ⟨ds, xs, e, hd, hlen, hS⟩ => ⟨xs, hd, by omega⟩
            case A =>
              subst hx hy
              exact ⟨_, rfl, 1 + j, by show PyData.int _ = PyData.int _; congr 1, by omega⟩
            case B =>
              subst e e2
              exact ⟨_, rng1 j (by omega), by rw [List.length_map, List.length_range]; exact hj⟩
          subst e7
          refine ⟨_, rfl, gs_asg (P := fun d => ∃ l : List Nat, d = .list (l.map natD) ∧ l.length ≤ 9) ?_ fun d ⟨l8, e8, h8⟩ => ?_⟩
          · have hlen7 : ∀ {env : List Sl}, env[7]? = some (.fz (.list (l7.map natD))) → PV (Fk (k + 1)) (.bf .len (.cons (.var 7) .nil)) env (natD l7.length) := fun h => pv_bf (pl_cons (pv_var h) pl_nil) (by show some (PyData.int (l7.map natD).length) = _; rw [List.length_map])
            refine (gv_lcE (e := natD) (S := fun _ => True) (gi_rng (Pl := fun ds => ds.length ≤ 9) (gl_one (gv_idx (P := fun d => ∃ i : Nat, d = natD i ∧ i ≤ 9) (gv (pv_lst (ds := [l7.length, l7.length, 1, 0].map natD) (pl_cons (hlen7 rfl) (pl_cons (hlen7 rfl) (pl_cons pv_con (pl_cons pv_con pl_nil)))) rfl)) (g_take (pv_var rfl) pv_con (by omega) (by omega)) fun x y hx ⟨j, hy, hj⟩ => ?A)) fun ds ⟨d, e, j, e2, hj⟩ => ?B) fun ds e d hd => ⟨_, rfl, (g_take (pv_var rfl) (pv_lenP rfl) (by omega) (by omega)).imp fun d ⟨i, h, _⟩ => ⟨i, h, trivial⟩⟩).imp fun d ⟨ds, xs, e, hd, hlen, hS⟩ => ⟨xs, hd, by omega⟩
            case A =>
              subst hx hy
              obtain ⟨a, ha, e⟩ := at_all (e := natD) (l := [l7.length, l7.length, 1, 0]) (i := j) (by simp only [List.length_cons, List.length_nil]; omega)
              refine ⟨_, e, a, rfl, ?_⟩
              simp only [List.mem_cons, List.not_mem_nil, or_false] at ha
              omega
            case B =>
              subst e e2
              exact ⟨_, rng1 j (by omega), by rw [List.length_map, List.length_range]; exact hj⟩
          subst e8
          refine ⟨_, rfl, gs_asg (P := fun d => ∃ r0 r1, d = .list [intsT r0, intsT r1] ∧ Rw P.length r0 ∧ Rw P.length r1) ?_ fun d ⟨r0, r1, e, h0, h1⟩ => ?_⟩
          · refine GV.imp (gv (pv_lcA (as := [l7, l8]) (enc := fun l => .list (l.map natD)) (g := fun l => intsT ((List.range P.length).map fun p => (((l.map natD).countP fun d => PyData.eqv d (natD p) : Nat) : Int))) (pi_seq' (pv_lst (pl_cons (pv_var rfl) (pl_cons (pv_var rfl) pl_nil)) rfl) rfl) fun l hl => ⟨_, rfl, pv_bf (pl_cons (pv_lcA (as := List.range P.length) (enc := natD) (g := fun p => .int (((l.map natD).countP fun d => PyData.eqv d (natD p) : Nat) : Int)) (pi_rlen (pv_var rfl) len_map) fun p hp => ⟨_, rfl, pv_me (pv_var rfl) (pl_cons (pv_var rfl) pl_nil) ?_⟩) pl_nil) ?_⟩)) fun d e => ?_
            · show (if shp (natD p) && shp (.list (l.map natD)) then _ else none) = _
              rw [(sh0 p).shp (by omega), (shal_lst (shal_map sh0 l)).shp (by omega)]
              rfl
            · unfold intsT
              rw [List.map_map]
              rfl
            · subst e
              refine ⟨_, _, rfl, ⟨by rw [List.length_map, List.length_range], fun x hx => ?_⟩, ⟨by rw [List.length_map, List.length_range], fun x hx => ?_⟩⟩
              all_goals
                obtain ⟨p, _, rfl⟩ := List.mem_map.mp hx
                have q7 := List.countP_le_length (p := fun d => PyData.eqv d (natD p)) (l := l7.map natD)
                have q8 := List.countP_le_length (p := fun d => PyData.eqv d (natD p)) (l := l8.map natD)
                rw [List.length_map] at q7 q8
                omega
          · subst e
            exact ⟨_, rfl, gs_nil (app_net hl (by omega) hm hnm hni h0 h1 fun e he => he)⟩
    · obtain ⟨ms, x3, x6, x7, x8, rfl, hl, hm, hnm⟩ := he
      subst e
      have hg : ∃ g, g ≤ 5 ∧ ms.map (·.nm) = pqr.take g := ⟨_, by rw [List.length_map, List.length_take]; omega, hnm⟩
      refine gs_ret (gv (d := (⟨P, ms⟩ : Nt).d) (pv_tup (pl_cons (pv_var rfl) (pl_cons (pv_bfo rfl rfl) pl_nil)) rfl)) fun d e => ⟨⟨P, ms⟩, e, ⟨fun m h => (hm m h).1, fun m h => (hm m h).2, hp0, hp5, hpl, hg⟩⟩
end
section
variable {k : Nat} {n : Nt} (ok : n.Ok)
include ok
theorem r15 : GF (Fk (k + 2)) 15 [drw, n.d, .int 2] (IsMk n) := by
  have hM := mlen ok
  refine gf_run b15 rfl (gs_asg (P := IsMk n) ?_ fun d ⟨mk, e, hmk⟩ => ?_)
  · refine gv_bf (gl_one (gv_lcE (e := PyData.int) (S := fun x => 0 ≤ x ∧ x ≤ 9) (gi (pi_seq' (pv_places (pv_var rfl)) rfl)) fun ds e d hd => ⟨_, rfl, (g_take (pv_var rfl) (pv_bin (pv_var rfl) pv_con rfl) (by omega) (by omega)).imp fun d ⟨i, h, _⟩ => ⟨i, h, by omega⟩⟩)) fun ds ⟨d, e, ds2, xs, e2, hd, hlen, hS⟩ => ?_
    subst e hd e2
    exact ⟨_, rfl, xs, rfl, by rw [hlen, List.length_map], hS⟩
  · subst e
    refine ⟨_, rfl, gs_if (Pk := fun b => b = true ∨ n.M ≠ []) ?_ (fun _ => gs_ret (gv (pv_var rfl)) fun d e => ⟨mk, e, hmk⟩) fun hne => gs_nil ?_⟩
    · refine GT.imp (gt_or (Pl := fun _ => True) (gt (pt_cmp' (o := .eq) (pv_moves (pv_var rfl)) (pv_tup pl_nil rfl) (moves_nil n))) fun _ => gt_cmp (g_take (m := 5) (pv_var rfl) pv_con (by omega) (by omega)) (gv pv_con) fun x y ⟨i, hx, _⟩ hy => by
        subst hx hy
        exact ⟨_, eq_ints _ _, trivial⟩) fun b h3 => ?_
      rcases h3 with ⟨h, _⟩ | ⟨h, _⟩
      · exact .inl h
      · refine .inr fun e => ?_
        rw [e] at h
        cases h
    · have hne : n.M ≠ [] := hne.resolve_left (by intro h; cases h)
      have hpos : 0 < n.M.length := List.length_pos_iff.mpr hne
      refine gs_ret (P := IsMk n) (gv_bf (gl_one (gv_lcE (e := PyData.int) (S := fun x => 0 ≤ x ∧ x ≤ 9) (gi_zip (Pl := fun ds => ∃ pre, Rw n.L pre ∧ ds = (mk.zip pre).map fun x => .tuple [.int x.1, .int x.2]) (gl_cons (gv (pv_var rfl)) (gl_cons (gv_idx (P := fun d => ∃ pre, Rw n.L pre ∧ d = intsT pre) (gv_idx (P := fun d => ∃ m ∈ n.M, d = m.d) (gv (pv_moves (pv_var rfl))) (g_take (pv_var rfl) (pv_bf (pl_cons (pv_moves (pv_var rfl)) pl_nil) blen) (by omega) (by omega)) ?A) (gv pv_con) ?B) gl_nil)) ?C) ?E)) ?G) fun d h => h
      case A =>
        intro x y hx ⟨j, hy, hj⟩
        subst hx hy
        obtain ⟨m, hm, e⟩ := at_all (e := Mv.d) (l := n.M) (i := j) (by omega)
        exact ⟨_, e, m, hm, rfl⟩
      case B =>
        intro x y ⟨m, hm, hx⟩ hy
        subst hx hy
        exact ⟨_, rfl, m.pre, ok.pre m hm, rfl⟩
      case C =>
        intro ds ⟨d, r, e1, e2, d2, r2, e3, ⟨pre, hp, e4⟩, e5⟩
        subst e5 e4 e3 e2 e1
        exact ⟨_, rfl, pre, hp, zip_enc _ _⟩
      case E =>
        intro ds ⟨pre, hp, e⟩ d hd
        subst e
        obtain ⟨⟨a, b⟩, hab, rfl⟩ := List.mem_map.mp hd
        refine ⟨_, rfl, (gv (pv_bf (pl_cons (pv_var rfl) (pl_cons (pv_var rfl) pl_nil)) rfl)).imp fun d e => ⟨_, e, ?_⟩⟩
        have h1 := hmk.2 a (List.of_mem_zip hab).1
        have h2 := hp.2 b (List.of_mem_zip hab).2
        show 0 ≤ (if b > a then b else a) ∧ (if b > a then b else a) ≤ 9
        split <;> assumption
      case G =>
        intro ds ⟨d, e, ds2, xs, ⟨pre, hp, e2⟩, hd, hlen, hS⟩
        subst e hd e2
        refine ⟨_, rfl, xs, rfl, ?_, hS⟩
        rw [hlen, List.length_map, List.length_zip, hmk.1, hp.1, Nat.min_self]
end
end K01

set_option Elab.async false
set_option linter.all false
set_option maxRecDepth 100000
set_option maxHeartbeats 2000000
namespace K01
open PySem PySem.Spec PyProof.Rows L2 Ly
theorem cans_len {n : Nt} (ok : n.Ok) {m : Mk} : (cans n m).length ≤ 5 := by
  unfold cans
  refine Nat.le_trans (List.length_filter_le _ _) ?_
  rw [List.length_range]
  exact mlen ok
abbrev body11 : Sts := .cons (.asg (.nm 8) (.call 1 (.cons (.idx (.var 3) (.var 6)) (.cons (.call 3 (.cons (.var 0) (.cons (.var 7) .nil))) .nil)))) (.cons (.ifs (.cmp .notin (.var 8) (.var 4)) (.cons (.ifs (.cmp .eq (.bf .len (.cons (.var 3) .nil)) (.var 2)) (.cons (.rai 0) .nil) .nil) (.cons (.setI 4 (.var 8) (.bf .len (.cons (.var 3) .nil))) (.cons (.app 3 (.var 8)) .nil))) .nil) (.cons (.app 5 (.tup (.cons (.var 6) (.cons (.var 7) (.cons (.idx (.var 4) (.var 8)) .nil))))) .nil))
abbrev while11 : Sts := .cons (.for (.nm 7) (.seq (.call 5 (.cons (.var 0) (.cons (.idx (.var 3) (.var 6)) .nil)))) body11) (.cons (.aug .add 6 (.con (.int 1))) .nil)
abbrev E11 (nd md : D) (most k : Nat) (f : List Mk) (a : List Arc) (x7 x8 : Sl) : List Sl := [.fz nd, .fz md, .fz (natD most), .ow (.list (f.map intsT)), .ow (pdct f), .ow (.list (a.map arcD)), .fz (natD k), x7, x8]
section
variable {c : Nat} {n : Nt} (ok : n.Ok) {most : Nat} (hmost : most ≤ 900) {md : D}
include ok hmost
theorem for11 {k : Nat} {m : Mk} (hm : m.length = n.L) : ∀ (ts : List Nat) (f : List Mk) (a : List Arc) (x7 x8 : Sl), (∀ t ∈ ts, t < n.M.length) → f[k]? = some m → f.length ≤ most → a.length + ts.length ≤ 1000000 → match addAll n most k m ts f a with
    | some (f', a') => ∃ x7' x8', FN (Fk (c + 2)) Wf (.nm 7) body11 (ts.map natD) (E11 n.d md most k f a x7 x8) (E11 n.d md most k f' a' x7' x8')
    | none => FX (Fk (c + 2)) Wf (.nm 7) body11 (ts.map natD) (E11 n.d md most k f a x7 x8) 0
  | [], f, a, x7, x8, _, _, _, _ => ⟨x7, x8, fn_nil⟩
  | t :: ts, f, a, x7, x8, ht, hk, hf, ha => by
    have ht0 := ht t List.mem_cons_self
    have hts : ∀ u ∈ ts, u < n.M.length := fun u hu => ht u (List.mem_cons_of_mem _ hu)
    rw [List.length_cons] at ha
    have hother : PV (Fk (c + 2)) (.call 1 (.cons (.idx (.var 3) (.var 6)) (.cons (.call 3 (.cons (.var 0) (.cons (.var 7) .nil))) .nil))) (E11 n.d md most k f a (.fz (natD t)) x8) (intsT (movedL n m t)) := by
      rw [← moved_eq]
      exact pv_call (pl_cons (pvb_idx (pvb_own rfl) (pvb (pv_var rfl)) (at_map (e := intsT) hk)) (pl_cons (pv_call (pl_cons (pv_var rfl) (pl_cons (pv_var rfl) pl_nil)) (r3 ok ht0)) pl_nil)) (r1 hm rw_len)
    have happ : ∀ (f : List Mk) (j : Nat), movedL n m t ∈ f → f.idxOf (movedL n m t) = j → STm (Fk (c + 2)) Wf (.app 5 (.tup (.cons (.var 6) (.cons (.var 7) (.cons (.idx (.var 4) (.var 8)) .nil))))) (E11 n.d md most k f a (.fz (natD t)) (.fz (intsT (movedL n m t)))) (E11 n.d md most k f (a ++ [(k, t, j)]) (.fz (natD t)) (.fz (intsT (movedL n m t)))) := fun f j hin hj => by
      have := st_app (F := Fk (c + 2)) (W := Wf) (env := E11 n.d md most k f a (.fz (natD t)) (.fz (intsT (movedL n m t)))) (i := 5) (ds := a.map arcD) (x := .tup (.cons (.var 6) (.cons (.var 7) (.cons (.idx (.var 4) (.var 8)) .nil)))) (d := arcD (k, t, j)) rfl (by rw [List.length_map]; omega) (pv_tup (pl_cons (pv_var rfl) (pl_cons (pv_var rfl) (pl_cons (pvb_idx (pvb_own rfl) (pvb (pv_var rfl)) (hj ▸ idx_p hin)) pl_nil))) rfl)
      show STm _ _ _ _ [.fz n.d, .fz md, .fz (natD most), .ow (.list (f.map intsT)), .ow (pdct f), .ow (.list ((a ++ [(k, t, j)]).map arcD)), .fz (natD k), .fz (natD t), .fz (intsT (movedL n m t))]
      rw [map_snoc]
      exact this
    have htest : PT' (Fk (c + 2)) (.cmp .notin (.var 8) (.var 4)) (E11 n.d md most k f a (.fz (natD t)) (.fz (intsT (movedL n m t)))) (!decide (movedL n m t ∈ f)) := ptb_cmp (pvb (pv_var rfl)) (pvb_own rfl) (in_p f _)
    unfold addAll
    by_cases hin : movedL n m t ∈ f
    · rw [if_pos hin]
      rw [decide_eq_true hin] at htest
      have ih := for11 hm ts f (a ++ [(k, t, f.idxOf (movedL n m t))]) (.fz (natD t)) (.fz (intsT (movedL n m t))) hts hk hf (by rw [List.length_append, List.length_singleton]; omega)
      have hbody : PN (Fk (c + 2)) Wf body11 (E11 n.d md most k f a (.fz (natD t)) x8) (E11 n.d md most k f (a ++ [(k, t, f.idxOf (movedL n m t))]) (.fz (natD t)) (.fz (intsT (movedL n m t)))) := pn_st (env1 := E11 n.d md most k f a (.fz (natD t)) (.fz (intsT (movedL n m t)))) (st_asg hother rfl) (pn_st (st_if0 htest) (pn_one (happ f _ hin rfl)))
      revert ih
      split
      · rintro ⟨x7', x8', h⟩
        exact ⟨x7', x8', fn_cons rfl hbody h⟩
      · exact fun h => fx_cons rfl hbody h
    · rw [if_neg hin]
      rw [decide_eq_false hin] at htest
      have hlen : ∀ x8', PV (Fk (c + 2)) (.bf .len (.cons (.var 3) .nil)) (E11 n.d md most k f a (.fz (natD t)) x8') (natD f.length) := fun x8' => pv_bfo rfl blenL
      have hfull : PT' (Fk (c + 2)) (.cmp .eq (.bf .len (.cons (.var 3) .nil)) (.var 2)) (E11 n.d md most k f a (.fz (natD t)) (.fz (intsT (movedL n m t)))) (decide (f.length = most)) := pt_as (pt_cmp' (hlen _) (pv_var rfl) (eq_ints _ _)) (decide_eq_decide.mpr (by omega))
      by_cases hfm : f.length = most
      · rw [if_pos hfm]
        rw [decide_eq_true hfm] at hfull
        exact fx_here (env1 := E11 n.d md most k f a (.fz (natD t)) x8) rfl (pbx_st (env1 := E11 n.d md most k f a (.fz (natD t)) (.fz (intsT (movedL n m t)))) (st_asg hother rfl) (pbx_ifT htest (pbx_ifT hfull pbx_rai)))
      · rw [if_neg hfm]
        rw [decide_eq_false hfm] at hfull
        have ih := for11 hm ts (f ++ [movedL n m t]) (a ++ [(k, t, f.length)]) (.fz (natD t)) (.fz (intsT (movedL n m t))) hts (get_app hk) (by rw [List.length_append, List.length_singleton]; omega) (by rw [List.length_append, List.length_singleton]; omega)
        have hidx : (f ++ [movedL n m t]).idxOf (movedL n m t) = f.length := by rw [List.idxOf_append, if_neg hin]; simp
        have happ3 : STm (Fk (c + 2)) Wf (.app 3 (.var 8)) [.fz n.d, .fz md, .fz (natD most), .ow (.list (f.map intsT)), .ow (pdct (f ++ [movedL n m t])), .ow (.list (a.map arcD)), .fz (natD k), .fz (natD t), .fz (intsT (movedL n m t))] (E11 n.d md most k (f ++ [movedL n m t]) a (.fz (natD t)) (.fz (intsT (movedL n m t)))) := by
          have := st_app (F := Fk (c + 2)) (W := Wf) (env := [.fz n.d, .fz md, .fz (natD most), .ow (.list (f.map intsT)), .ow (pdct (f ++ [movedL n m t])), .ow (.list (a.map arcD)), .fz (natD k), .fz (natD t), .fz (intsT (movedL n m t))]) (i := 3) (ds := f.map intsT) (x := .var 8) (d := intsT (movedL n m t)) rfl (by rw [List.length_map]; omega) (pv_var rfl)
          show STm _ _ _ _ [.fz n.d, .fz md, .fz (natD most), .ow (.list ((f ++ [movedL n m t]).map intsT)), .ow (pdct (f ++ [movedL n m t])), .ow (.list (a.map arcD)), .fz (natD k), .fz (natD t), .fz (intsT (movedL n m t))]
          rw [map_snoc]
          exact this
        have hbody : PN (Fk (c + 2)) Wf body11 (E11 n.d md most k f a (.fz (natD t)) x8) (E11 n.d md most k (f ++ [movedL n m t]) (a ++ [(k, t, f.length)]) (.fz (natD t)) (.fz (intsT (movedL n m t)))) := pn_st (env1 := E11 n.d md most k f a (.fz (natD t)) (.fz (intsT (movedL n m t)))) (st_asg hother rfl) (pn_st (st_ifT htest (pn_st (st_if0 hfull) (pn_st (st_setI (i := 4) rfl (hlen _) (pv_var rfl) (set_p hin (by omega))) (pn_one happ3)))) (pn_one (happ _ _ (by simp) hidx)))
        revert ih
        split
        · rintro ⟨x7', x8', h⟩
          exact ⟨x7', x8', fn_cons rfl hbody h⟩
        · exact fun h => fx_cons rfl hbody h
end
section
variable {c : Nat} {n : Nt} (ok : n.Ok) {most : Nat} (h1 : 1 ≤ most) (hmost : most ≤ 900) {m0 : Mk} (hm0 : m0.length = n.L)
include ok h1 hmost hm0
theorem whl11 : ∀ (N k : Nat) (f : List Mk) (a : List Arc) (x7 x8 : Sl), walk n (cans n) most m0 k = some (f, a) → k ≤ f.length → a.length ≤ 5 * k → most - k < N → match walk n (cans n) most m0 most with
    | some (f', a') => ∃ x7' x8', WN (Fk (c + 5)) Wf (.cmp .lt (.var 6) (.bf .len (.cons (.var 3) .nil))) while11 N (E11 n.d (intsT m0) most k f a x7 x8) (E11 n.d (intsT m0) most f'.length f' a' x7' x8')
    | none => WXx (Fk (c + 5)) Wf (.cmp .lt (.var 6) (.bf .len (.cons (.var 3) .nil))) while11 N (E11 n.d (intsT m0) most k f a x7 x8) 0
  | 0, k, f, a, x7, x8, _, _, _, h => absurd h (Nat.not_lt_zero _)
  | N + 1, k, f, a, x7, x8, hw, hk, ha, hN => by
    have w := walk_spec h1 hw
    have htest : PT' (Fk (c + 5)) (.cmp .lt (.var 6) (.bf .len (.cons (.var 3) .nil))) (E11 n.d (intsT m0) most k f a x7 x8) (decide (k < f.length)) := by
      refine pt_cmp' (o := .lt) (d1 := natD k) (d2 := natD f.length) (pv_var rfl) (pv_bfo rfl blenL) ?_
      show some (decide ((k : Int) < (f.length : Int))) = _
      congr 1
      exact decide_eq_decide.mpr (by omega)
    by_cases hkl : k < f.length
    · rw [decide_eq_true hkl] at htest
      have hm : f[k]? = some f[k] := List.getElem?_eq_getElem hkl
      generalize hmm : f[k] = m at hm
      have hml : m.length = n.L := by
        obtain ⟨s, hs⟩ := w.rc m (List.mem_of_getElem? hm)
        exact hs.len hm0
      have hwk := walk_at hw hm
      have hfl := cans_len ok (m := m)
      have hle := w.le
      have hit : PIt (Fk (c + 5)) (.seq (.call 5 (.cons (.var 0) (.cons (.idx (.var 3) (.var 6)) .nil)))) (E11 n.d (intsT m0) most k f a x7 x8) ((cans n m).map natD) := pi_seq' (pv_call (pl_cons (pv_var rfl) (pl_cons (pvb_idx (pvb_own rfl) (pvb (pv_var rfl)) (at_map (e := intsT) hm)) pl_nil)) (r5 ok hml)) rfl
      have hin := for11 (c := c + 3) (md := intsT m0) ok hmost (k := k) hml (cans n m) f a x7 x8 (fun t ht => (mem_cans.mp ht).1) hm hle (by omega)
      cases ew : addAll n most k m (cans n m) f a with
      | none =>
        rw [ew] at hin hwk
        have : walk n (cans n) most m0 most = none := by
          have := walk_none (j := most - (k + 1)) hwk
          rwa [show k + 1 + (most - (k + 1)) = most by omega] at this
        rw [this]
        exact wx_here htest (pbx_forX hit hin)
      | some fa =>
        obtain ⟨f', a'⟩ := fa
        rw [ew] at hin hwk
        obtain ⟨x7', x8', hfn⟩ := hin
        obtain ⟨new, e1, _, _, _, _, _⟩ := addAll_spec (cans n m) w.nd w.le ew
        have hk' : k + 1 ≤ f'.length := by rw [e1, List.length_append]; omega
        have ha' := addAll_len ew
        have ih := whl11 N (k + 1) f' a' x7' x8' hwk hk' (by omega) (by omega)
        have hbody : PN (Fk (c + 5)) Wf while11 (E11 n.d (intsT m0) most k f a x7 x8) (E11 n.d (intsT m0) most (k + 1) f' a' x7' x8') := pn_st (st_for hit hfn) (pn_one (st_aug (i := 6) (p := (k : Int)) (q := 1) rfl pv_con))
        revert ih
        split
        · rintro ⟨y7, y8, h⟩
          exact ⟨y7, y8, wn_nx htest hbody h⟩
        · exact fun h => wx_nx htest hbody h
    · rw [decide_eq_false hkl] at htest
      have hke : k = f.length := by omega
      rw [walk_end h1 hw hke]
      exact ⟨x7, x8, by rw [← hke]; exact wn_end htest⟩
theorem r6 : match walk n (cans n) most m0 most with
    | some (f, a) => PF (Fk (c + 6)) 6 [n.d, intsT m0, natD most] (spaceD f a)
    | none => PX (Fk (c + 6)) 6 [n.d, intsT m0, natD most] 0 := by
  have h := whl11 (c := c) ok h1 hmost hm0 Wf 0 [m0] [] .un .un rfl (Nat.zero_le _) (by simp) (by show most - 0 < 1000; omega)
  have hstart : STm (Fk (c + 5)) Wf (.par [(3, true), (4, true), (5, true), (6, false)] (.cons (.lst (.cons (.var 1) .nil)) (.cons (.dct1 true (.var 1) (.con (.int 0))) (.cons (.lst .nil) (.cons (.con (.int 0)) .nil))))) [.fz n.d, .fz (intsT m0), .fz (natD most), .un, .un, .un, .un, .un, .un] (E11 n.d (intsT m0) most 0 [m0] [] .un .un) :=
    st_par (ds := [.list [intsT m0], pdct [m0], .list [], .int 0]) (pl_cons (pv_lst (pl_cons (pv_var rfl) pl_nil) rfl) (pl_cons (pv_dct1 (pv_var rfl) pv_con (kenc_ints.ok m0)) (pl_cons pv_nilL (pl_cons pv_con pl_nil)))) rfl
  revert h
  cases hw : walk n (cans n) most m0 most with
  | none => exact fun h => px_run b6 rfl (pbx_st hstart (pbx_whl h))
  | some fa =>
    obtain ⟨f, a⟩ := fa
    rintro ⟨x7, x8, h⟩
    exact pf_run b6 rfl (pb_st hstart (pb_st (st_whl h) (pb_ret (pv_tup (pl_cons (pv_bfo rfl rfl) (pl_cons (pv_bfo rfl rfl) pl_nil)) rfl))))
end
abbrev body18t : Sts := .cons (.asg (.nm 7) (.call 17 (.cons (.var 0) (.cons (.idx (.var 5) (.var 3)) (.cons (.var 6) .nil))))) (.cons (.ifs (.and (.cmp .notin (.var 7) (.var 4)) (.cmp .eq (.bf .len (.cons (.var 5) .nil)) (.var 2))) (.cons (.ret (.con .none)) .nil) .nil) (.cons (.ifs (.cmp .notin (.var 7) (.var 4)) (.cons (.setI 4 (.var 7) (.bin .add (.idx (.var 4) (.idx (.var 5) (.var 3))) (.tup (.cons (.var 6) .nil)))) (.cons (.asg (.nm 5) (.bin .add (.var 5) (.lst (.cons (.var 7) .nil)))) .nil)) .nil) .nil))
abbrev body18i : Sts := .cons (.ifs (.call 16 (.cons (.var 0) (.cons (.idx (.var 5) (.var 3)) (.cons (.var 6) .nil)))) body18t .nil) .nil
abbrev body18 : Sts := .cons (.ifs (.cmp .lt (.var 3) (.bf .len (.cons (.var 5) .nil))) (.cons (.for (.nm 6) (.rlen (.idx (.var 0) (.con (.int 1)))) body18i) .nil) .nil) .nil
abbrev E18 (nd md : D) (most : Nat) (x3 : Sl) (rl : List (Mk × D)) (f : List Mk) (x6 x7 : Sl) : List Sl := [.fz nd, .fz md, .fz (natD most), x3, .ow (rdct rl), .fz (.list (f.map intsT)), x6, x7]
section
variable {c : Nat} {n : Nt} (ok : n.Ok) {most : Nat} (hmost : most ≤ 900) {md : D}
include ok hmost
theorem for18 {k : Nat} {m : Mk} (hm : m.length = n.L) : ∀ (ts : List Nat) (f : List Mk) (a : List Arc) (rl : List (Mk × D)) (x6 x7 : Sl), (∀ t ∈ ts, t < n.M.length) → f[k]? = some m → f.length ≤ most → RlOk f rl → match addAll n most k m (ts.filter (canB n m)) f a with
    | some (f', a') => ∃ rl' x6' x7', FN (Fk (c + 1)) Wf (.nm 6) body18i (ts.map natD) (E18 n.d md most (.fz (natD k)) rl f x6 x7) (E18 n.d md most (.fz (natD k)) rl' f' x6' x7') ∧ RlOk f' rl'
    | none => FR (Fk (c + 1)) Wf (.nm 6) body18i (ts.map natD) (E18 n.d md most (.fz (natD k)) rl f x6 x7) .none
  | [], f, a, rl, x6, x7, _, _, _, hr => ⟨rl, x6, x7, fn_nil, hr⟩
  | t :: ts, f, a, rl, x6, x7, ht, hk, hf, hr => by
    have ht0 := ht t List.mem_cons_self
    have hts : ∀ u ∈ ts, u < n.M.length := fun u hu => ht u (List.mem_cons_of_mem _ hu)
    have hrow : ∀ x7, PV (Fk (c + 1)) (.idx (.var 5) (.var 3)) (E18 n.d md most (.fz (natD k)) rl f (.fz (natD t)) x7) (intsT m) := fun x7 => pv_idx (pv_var rfl) (pv_var rfl) (at_map (e := intsT) hk)
    have hcan : PT' (Fk (c + 1)) (.call 16 (.cons (.var 0) (.cons (.idx (.var 5) (.var 3)) (.cons (.var 6) .nil)))) (E18 n.d md most (.fz (natD k)) rl f (.fz (natD t)) x7) (canB n m t) := pt_call (pl_cons (pv_var rfl) (pl_cons (hrow x7) (pl_cons (pv_var rfl) pl_nil))) (r16 ok hm ht0) rfl
    rw [List.filter_cons]
    cases hc : canB n m t with
    | false =>
      rw [hc] at hcan
      rw [if_neg Bool.false_ne_true]
      have ih := for18 hm ts f a rl (.fz (natD t)) x7 hts hk hf hr
      have hbody : PN (Fk (c + 1)) Wf body18i (E18 n.d md most (.fz (natD k)) rl f (.fz (natD t)) x7) (E18 n.d md most (.fz (natD k)) rl f (.fz (natD t)) x7) := pn_one (st_if0 hcan)
      revert ih
      split
      · rintro ⟨rl', y6, y7, h, h'⟩
        exact ⟨rl', y6, y7, fn_cons rfl hbody h, h'⟩
      · exact fun h => fr_cons rfl hbody h
    | true =>
      rw [hc] at hcan
      rw [if_pos rfl]
      have hother : STm (Fk (c + 1)) Wf (.asg (.nm 7) (.call 17 (.cons (.var 0) (.cons (.idx (.var 5) (.var 3)) (.cons (.var 6) .nil))))) (E18 n.d md most (.fz (natD k)) rl f (.fz (natD t)) x7) (E18 n.d md most (.fz (natD k)) rl f (.fz (natD t)) (.fz (intsT (movedL n m t)))) :=
        st_asg (pv_call (pl_cons (pv_var rfl) (pl_cons (hrow x7) (pl_cons (pv_var rfl) pl_nil))) (r17 ok hm ht0)) rfl
      have hni : PT' (Fk (c + 1)) (.cmp .notin (.var 7) (.var 4)) (E18 n.d md most (.fz (natD k)) rl f (.fz (natD t)) (.fz (intsT (movedL n m t)))) (!decide (movedL n m t ∈ f)) := ptb_cmp (pvb (pv_var rfl)) (pvb_own rfl) (nin_r hr _)
      have htest : PT' (Fk (c + 1)) (.and (.cmp .notin (.var 7) (.var 4)) (.cmp .eq (.bf .len (.cons (.var 5) .nil)) (.var 2))) (E18 n.d md most (.fz (natD k)) rl f (.fz (natD t)) (.fz (intsT (movedL n m t)))) (!decide (movedL n m t ∈ f) && decide (f.length = most)) :=
        pt_and hni fun _ => pt_as (pt_cmp' (pv_bf (pl_cons (pv_var rfl) pl_nil) blenL) (pv_var rfl) (eq_ints _ _)) (decide_eq_decide.mpr (by omega))
      unfold addAll
      by_cases hin : movedL n m t ∈ f
      · rw [if_pos hin]
        rw [decide_eq_true hin] at htest hni
        have ih := for18 hm ts f (a ++ [(k, t, f.idxOf (movedL n m t))]) rl (.fz (natD t)) (.fz (intsT (movedL n m t))) hts hk hf hr
        have hbody : PN (Fk (c + 1)) Wf body18i (E18 n.d md most (.fz (natD k)) rl f (.fz (natD t)) x7) (E18 n.d md most (.fz (natD k)) rl f (.fz (natD t)) (.fz (intsT (movedL n m t)))) := pn_one (st_ifT hcan (pn_st hother (pn_st (st_if0 htest) (pn_one (st_if0 hni)))))
        revert ih
        split
        · rintro ⟨rl', y6, y7, h, h'⟩
          exact ⟨rl', y6, y7, fn_cons rfl hbody h, h'⟩
        · exact fun h => fr_cons rfl hbody h
      · rw [if_neg hin]
        rw [decide_eq_false hin] at htest hni
        by_cases hfm : f.length = most
        · rw [if_pos hfm]
          rw [decide_eq_true hfm] at htest
          exact fr_here (env1 := E18 n.d md most (.fz (natD k)) rl f (.fz (natD t)) x7) rfl (pb_ifT hcan (pb_st hother (pb_ifT htest (pb_ret pv_con))))
        · rw [if_neg hfm]
          rw [decide_eq_false hfm] at htest
          have hmk : m ∈ rl.map (·.1) := by rw [hr.ks]; exact List.mem_of_getElem? hk
          obtain ⟨d, hd⟩ : ∃ d, lookL rl m = some d := by
            cases e : lookL rl m with
            | none => exact absurd hmk (lookL_none.mp e)
            | some d => exact ⟨d, rfl⟩
          obtain ⟨p, hp, hp2⟩ := look_mem hd
          obtain ⟨r, hr1, hr2⟩ := hr.rs p hp
          have hd' : lookL rl m = some (natsT r) := by rw [hd, ← hp2, hr1]
          have hlen : rl.length = f.length := by rw [← hr.ks, List.length_map]
          have hr' : RlOk (f ++ [movedL n m t]) (rl ++ [(movedL n m t, natsT (r ++ [t]))]) := by
            refine ⟨by rw [List.map_append, hr.ks]; rfl, fun q hq => ?_⟩
            rcases List.mem_append.mp hq with hq | hq
            · obtain ⟨s, e1, e2⟩ := hr.rs q hq
              exact ⟨s, e1, by rw [List.length_append]; omega⟩
            · rw [List.mem_singleton.mp hq]
              exact ⟨_, rfl, by rw [List.length_append, List.length_append]; simp; omega⟩
          have ih := for18 hm ts (f ++ [movedL n m t]) (a ++ [(k, t, f.length)]) (rl ++ [(movedL n m t, natsT (r ++ [t]))]) (.fz (natD t)) (.fz (intsT (movedL n m t))) hts (get_app hk) (by rw [List.length_append, List.length_singleton]; omega) hr'
          have hset : setD (rdct rl) (intsT (movedL n m t)) (natsT (r ++ [t])) = some (rdct (rl ++ [(movedL n m t, natsT (r ++ [t]))])) := by
            show dputD (dmk true (tabP intsT rl)) _ _ = _
            exact dput_new kenc_ints (by rw [hr.ks]; exact hin) (by omega)
          have hval : PV (Fk (c + 1)) (.bin .add (.idx (.var 4) (.idx (.var 5) (.var 3))) (.tup (.cons (.var 6) .nil))) (E18 n.d md most (.fz (natD k)) rl f (.fz (natD t)) (.fz (intsT (movedL n m t)))) (natsT (r ++ [t])) := by
            refine pv_bin (d2 := .tuple [natD t]) (pvb_idx (pvb_own rfl) (pvb (hrow _)) (idx_tab kenc_ints hd')) (pv_tup (pl_cons (pv_var rfl) pl_nil) rfl) ?_
            show (if okLen ((r.map natD).length + 1) then some (PyData.tuple (r.map natD ++ [natD t])) else none) = _
            rw [List.length_map, if_pos (okL (by omega)), ← map_snoc]
          have hbody : PN (Fk (c + 1)) Wf body18i (E18 n.d md most (.fz (natD k)) rl f (.fz (natD t)) x7) (E18 n.d md most (.fz (natD k)) (rl ++ [(movedL n m t, natsT (r ++ [t]))]) (f ++ [movedL n m t]) (.fz (natD t)) (.fz (intsT (movedL n m t)))) :=
            pn_one (st_ifT hcan (pn_st hother (pn_st (st_if0 htest) (pn_one (st_ifT hni (pn_st (st_setI (i := 4) rfl hval (pv_var rfl) hset) (pn_one (st_asg (pv_bin (d2 := .list ([movedL n m t].map intsT)) (pv_var rfl) (pv_lst (pl_cons (pv_var rfl) pl_nil) rfl) (add_rows (by simp; omega))) rfl))))))))
          revert ih
          split
          · rintro ⟨rl', y6, y7, h, h'⟩
            exact ⟨rl', y6, y7, fn_cons rfl hbody h, h'⟩
          · exact fun h => fr_cons rfl hbody h
end
section
variable {c : Nat} {n : Nt} (ok : n.Ok) {most : Nat} (h1 : 1 ≤ most) (hmost : most ≤ 900) {m0 : Mk} (hm0 : m0.length = n.L)
include ok h1 hmost hm0
theorem turn18 : ∀ (j k : Nat) (f : List Mk) (a : List Arc) (rl : List (Mk × D)) (x3 x6 x7 : Sl), walk n (cans n) most m0 k = some (f, a) → RlOk f rl → k + j ≤ most → match walk n (cans n) most m0 (k + j) with
    | some (f', a') => ∃ rl' x3' x6' x7', FN (Fk (c + 1)) Wf (.nm 3) body18 ((List.range' k j).map natD) (E18 n.d (intsT m0) most x3 rl f x6 x7) (E18 n.d (intsT m0) most x3' rl' f' x6' x7')
    | none => FR (Fk (c + 1)) Wf (.nm 3) body18 ((List.range' k j).map natD) (E18 n.d (intsT m0) most x3 rl f x6 x7) .none
  | 0, k, f, a, rl, x3, x6, x7, hw, hr, hj => by
    rw [Nat.add_zero, hw]
    exact ⟨rl, x3, x6, x7, fn_nil⟩
  | j + 1, k, f, a, rl, x3, x6, x7, hw, hr, hj => by
    have w := walk_spec h1 hw
    have hle := w.le
    rw [List.range'_succ, List.map_cons, show k + (j + 1) = (k + 1) + j by omega]
    have htest : PT' (Fk (c + 1)) (.cmp .lt (.var 3) (.bf .len (.cons (.var 5) .nil))) (E18 n.d (intsT m0) most (.fz (natD k)) rl f x6 x7) (decide (k < f.length)) := by
      refine pt_cmp' (o := .lt) (d1 := natD k) (d2 := natD f.length) (pv_var rfl) (pv_bf (pl_cons (pv_var rfl) pl_nil) blenL) ?_
      show some (decide ((k : Int) < (f.length : Int))) = _
      congr 1
      exact decide_eq_decide.mpr (by omega)
    by_cases hkl : k < f.length
    · rw [decide_eq_true hkl] at htest
      have hm : f[k]? = some f[k] := List.getElem?_eq_getElem hkl
      generalize hmm : f[k] = m at hm
      have hml : m.length = n.L := by
        obtain ⟨s, hs⟩ := w.rc m (List.mem_of_getElem? hm)
        exact hs.len hm0
      have hwk := walk_at hw hm
      have hit : PIt (Fk (c + 1)) (.rlen (.idx (.var 0) (.con (.int 1)))) (E18 n.d (intsT m0) most (.fz (natD k)) rl f x6 x7) ((List.range n.M.length).map natD) := pi_rlen (pv_moves (pv_var rfl)) len_map
      have hin := for18 (c := c) (md := intsT m0) ok hmost (k := k) hml (List.range n.M.length) f a rl x6 x7 (fun t ht => List.mem_range.mp ht) hm hle hr
      rw [show (List.range n.M.length).filter (canB n m) = cans n m from rfl] at hin
      cases ew : addAll n most k m (cans n m) f a with
      | none =>
        rw [ew] at hin hwk
        rw [walk_none (j := j) hwk]
        exact fr_here (env1 := E18 n.d (intsT m0) most (.fz (natD k)) rl f x6 x7) rfl (pb_ifT htest (pb_forR hit hin))
      | some fa =>
        obtain ⟨f', a'⟩ := fa
        rw [ew] at hin hwk
        obtain ⟨rl', y6, y7, hfn, hr'⟩ := hin
        have ih := turn18 j (k + 1) f' a' rl' (.fz (natD k)) y6 y7 hwk hr' (by omega)
        have hbody : PN (Fk (c + 1)) Wf body18 (E18 n.d (intsT m0) most (.fz (natD k)) rl f x6 x7) (E18 n.d (intsT m0) most (.fz (natD k)) rl' f' y6 y7) := pn_one (st_ifT htest (pn_one (st_for hit hfn)))
        revert ih
        split
        · rintro ⟨rl2, z3, z6, z7, h⟩
          exact ⟨rl2, z3, z6, z7, fn_cons rfl hbody h⟩
        · exact fun h => fr_cons rfl hbody h
    · rw [decide_eq_false hkl] at htest
      have hwk : walk n (cans n) most m0 (k + 1) = some (f, a) := walk_stay hw (by omega) 1
      have ih := turn18 j (k + 1) f a rl (.fz (natD k)) x6 x7 hwk hr (by omega)
      have hbody : PN (Fk (c + 1)) Wf body18 (E18 n.d (intsT m0) most (.fz (natD k)) rl f x6 x7) (E18 n.d (intsT m0) most (.fz (natD k)) rl f x6 x7) := pn_one (st_if0 htest)
      revert ih
      split
      · rintro ⟨rl2, z3, z6, z7, h⟩
        exact ⟨rl2, z3, z6, z7, fn_cons rfl hbody h⟩
      · exact fun h => fr_cons rfl hbody h
theorem r18 : match walk n (cans n) most m0 most with
    | some (f, a) => ∃ d, PF (Fk (c + 2)) 18 [n.d, intsT m0, natD most] (.tuple [.list (f.map intsT), d])
    | none => PF (Fk (c + 2)) 18 [n.d, intsT m0, natD most] .none := by
  have h := turn18 (c := c) ok h1 hmost hm0 most 0 [m0] [] [(m0, natsT [])] .un .un .un rfl ⟨rfl, fun p hp => ⟨[], by rw [List.mem_singleton.mp hp], by simp⟩⟩ (by omega)
  rw [Nat.zero_add] at h
  have hstart : STm (Fk (c + 1)) Wf (.par [(4, true), (5, false)] (.cons (.dct1 true (.var 1) (.tup .nil)) (.cons (.lst (.cons (.var 1) .nil)) .nil))) [.fz n.d, .fz (intsT m0), .fz (natD most), .un, .un, .un, .un, .un] (E18 n.d (intsT m0) most .un [(m0, natsT [])] [m0] .un .un) :=
    st_par (ds := [rdct [(m0, natsT [])], .list [intsT m0]]) (pl_cons (pv_dct1 (pv_var rfl) (pv_tup pl_nil rfl) (kenc_ints.ok m0)) (pl_cons (pv_lst (pl_cons (pv_var rfl) pl_nil) rfl) pl_nil)) rfl
  have hit : PIt (Fk (c + 1)) (.rng (.cons (.var 2) .nil)) (E18 n.d (intsT m0) most .un [(m0, natsT [])] [m0] .un .un) ((List.range' 0 most).map natD) := by
    rw [← List.range_eq_range']
    exact pi_rng (pl_cons (pv_var rfl) pl_nil) (rngA most (by omega))
  revert h
  cases hw : walk n (cans n) most m0 most with
  | none => exact fun h => pf_run b18 rfl (pb_st hstart (pb_forR hit h))
  | some fa =>
    obtain ⟨f, a⟩ := fa
    rintro ⟨rl, y3, y6, y7, h⟩
    exact ⟨rdct rl, pf_run b18 rfl (pb_st hstart (pb_st (st_for hit h) (pb_st (st_frz (i := 4) (d := rdct rl) rfl) (pb_ret (pv_tup (pl_cons (pv_var rfl) (pl_cons (pv_var rfl) pl_nil)) rfl)))))⟩
end
/-! ### arcs of the law -/
theorem add_arcs {f w : List Arc} (h : f.length + w.length ≤ 1000000) : binD .add (.list (f.map arcD)) (.list (w.map arcD)) = some (.list ((f ++ w).map arcD)) := by
  show (if okLen ((f.map arcD).length + (w.map arcD).length) then some (PyData.list (f.map arcD ++ w.map arcD)) else none) = _
  rw [List.length_map, List.length_map, if_pos (okL h), List.map_append]
abbrev body19 : Sts := .cons (.asg (.nm 2) (.bin .add (.var 2) (.lc [4] (.nm 4) (.rlen (.idx (.var 0) (.con (.int 1)))) (.cons (.call 16 (.cons (.var 0) (.cons (.idx (.var 1) (.var 3)) (.cons (.var 4) .nil)))) .nil) (.tup (.cons (.var 3) (.cons (.var 4) (.cons (.ixo (.var 1) (.call 17 (.cons (.var 0) (.cons (.idx (.var 1) (.var 3)) (.cons (.var 4) .nil))))) .nil))))))) .nil
section
variable {c : Nat} {n : Nt} (ok : n.Ok) {m0 : Mk} {f : List Mk} {a : List Arc} (x : Expl n (cans n) m0 f a) (hl : ∀ m ∈ f, m.length = n.L) (hf : f.length ≤ 900)
include ok x hl hf
def arcsAt (n : Nt) (f : List Mk) (i : Nat) : List Arc := (cans n (f[i]?.getD [])).map fun t => (i, t, f.idxOf (movedL n (f[i]?.getD []) t))
theorem for19 : ∀ (j i : Nat) (acc : List Arc) (x3 : Sl), i + j ≤ f.length → acc.length ≤ 5 * i → ∃ x3', FN (Fk (c + 1)) Wf (.nm 3) body19 ((List.range' i j).map natD) [.fz n.d, .fz (.list (f.map intsT)), .fz (.list (acc.map arcD)), x3, .un] [.fz n.d, .fz (.list (f.map intsT)), .fz (.list ((acc ++ (List.range' i j).flatMap (arcsAt n f)).map arcD)), x3', .un]
  | 0, i, acc, x3, _, _ => ⟨x3, by simpa using fn_nil⟩
  | j + 1, i, acc, x3, hj, ha => by
    have hi : i < f.length := by omega
    have hm : f[i]? = some f[i] := List.getElem?_eq_getElem hi
    generalize hmm : f[i] = m at hm
    have hmf := List.mem_of_getElem? hm
    have hml := hl m hmf
    have hlen : (arcsAt n f i).length ≤ 5 := by
      unfold arcsAt cans
      rw [List.length_map]
      refine Nat.le_trans (List.length_filter_le _ _) ?_
      rw [List.length_range]
      exact mlen ok
    obtain ⟨x3', h⟩ := for19 j (i + 1) (acc ++ arcsAt n f i) (.fz (natD i)) (by omega) (by rw [List.length_append]; omega)
    rw [List.range'_succ, List.map_cons, List.flatMap_cons, ← List.append_assoc]
    refine ⟨x3', fn_cons (env1 := [.fz n.d, .fz (.list (f.map intsT)), .fz (.list (acc.map arcD)), .fz (natD i), .un]) rfl (pn_one (st_asg (pv_bin (pv_var rfl) (d2 := .list ((arcsAt n f i).map arcD)) ?_ (add_arcs (by omega))) rfl)) h⟩
    have e : arcsAt n f i = (cans n m).map fun t => (i, t, f.idxOf (movedL n m t)) := by unfold arcsAt; rw [hm]; rfl
    rw [e]
    refine pv_as (pv_lc (as := List.range n.M.length) (enc := natD) (g := fun t => arcD (i, t, f.idxOf (movedL n m t))) (p := canB n m) (pi_rlen (pv_moves (pv_var rfl)) len_map) fun t ht => ⟨_, rfl, pc_one (pt_call (pl_cons (pv_var rfl) (pl_cons (pv_idx (pv_var rfl) (pv_var rfl) (at_map (e := intsT) hm)) (pl_cons (pv_var rfl) pl_nil))) (r16 ok hml (List.mem_range.mp ht)) rfl), fun hc => ?_⟩) ?_
    · have ht := List.mem_range.mp ht
      exact pv_tup (pl_cons (pv_var rfl) (pl_cons (pv_var rfl) (pl_cons (pv_ixo (j := 0) (pvb (pv_var rfl)) (pvb (pv_call (pl_cons (pv_var rfl) (pl_cons (pv_idx (pv_var rfl) (pv_var rfl) (at_map (e := intsT) hm)) (pl_cons (pv_var rfl) pl_nil))) (r17 ok hml ht))) (index_rows x.nd (x.cl m hmf t (mem_cans.mpr ⟨ht, hc⟩)))) pl_nil))) rfl
    · rw [List.map_map]; rfl
theorem r19 : PF (Fk (c + 2)) 19 [n.d, .list (f.map intsT)] (.list ((arcsOf n (cans n) f).map arcD)) := by
  obtain ⟨x3', h⟩ := for19 (c := c) ok x hl hf f.length 0 [] .un (by omega) (by simp)
  rw [List.nil_append, ← List.range_eq_range'] at h
  have e : (List.range f.length).flatMap (arcsAt n f) = arcsOf n (cans n) f := rfl
  rw [e] at h
  exact pf_run b19 rfl (pb_st (env1 := [.fz n.d, .fz (.list (f.map intsT)), .fz (.list (([] : List Arc).map arcD)), .un, .un]) (st_asg pv_nilL rfl) (pb_st (st_for (pi_rlen (pv_var rfl) (by show some (f.map intsT).length = _; rw [List.length_map])) h) (pb_ret (pv_var rfl))))
end
theorem expl_len {n : Nt} (ok : n.Ok) {ch : Mk → List Nat} {m0 : Mk} (hm0 : m0.length = n.L) {f : List Mk} {a : List Arc} (x : Expl n ch m0 f a) : ∀ m ∈ f, m.length = n.L := fun m hm => by
  obtain ⟨s, hs⟩ := x.rc m hm
  exact hs.len hm0
end K01

set_option Elab.async false
set_option linter.all false
set_option maxRecDepth 100000
set_option maxHeartbeats 2000000
/-! Ly: the arcs of all markings are those that the law tells; least runs by arcs; other bounds. -/
namespace Ly
open PySem PySem.Spec PyProof.Rows L2
/-- runs told by arcs, in their order -/
def runs1 (R : List (List Nat)) (z : Arc) : List (List Nat) := if z.2.2 = R.length then R ++ [R[z.1]?.getD [] ++ [z.2.1]] else R
def runsA (a : List Arc) : List (List Nat) := a.foldl runs1 [[]]
theorem runsA_snoc (a : List Arc) (z : Arc) : runsA (a ++ [z]) = runs1 (runsA a) z := by unfold runsA; rw [List.foldl_append]; rfl
/-- arcs whose markings come in order -/
inductive InOrd : List Arc → Prop
  | nil : InOrd []
  | snoc {a : List Arc} {z : Arc} (h : InOrd a) (h1 : z.1 < (runsA a).length) (h2 : z.2.2 ≤ (runsA a).length) : InOrd (a ++ [z])
theorem runs_le : ∀ {a : List Arc}, InOrd a → ∀ r ∈ runsA a, r.length < (runsA a).length
  | _, .nil, r, h => by
    rw [List.mem_singleton.mp (show r ∈ [[]] from h)]; exact Nat.one_pos
  | _, @InOrd.snoc a z ha h1 h2, r, h => by
    rw [runsA_snoc] at h ⊢
    unfold runs1 at h ⊢
    split at h
    · rename_i e
      rw [if_pos e, List.length_append, List.length_singleton]
      rcases List.mem_append.mp h with h | h
      · exact Nat.lt_succ_of_lt (runs_le ha r h)
      · rw [List.mem_singleton.mp h, List.length_append, List.length_singleton, List.getElem?_eq_getElem h1]
        have := runs_le ha _ (List.getElem_mem h1)
        exact Nat.succ_lt_succ this
    · rename_i e
      rw [if_neg e]
      exact runs_le ha r h
theorem idx_left {f g : List Mk} {x : Mk} (h : x ∈ f) : (f ++ g).idxOf x = f.idxOf x := by rw [List.idxOf_append, if_pos h]
theorem flat_congr {α β : Type} {l : List α} {f g : α → List β} (h : ∀ x ∈ l, f x = g x) : l.flatMap f = l.flatMap g := by
  rw [List.flatMap_def, List.flatMap_def, List.map_congr_left h]
section
variable {n : Nt} {ch : Mk → List Nat} {most k : Nat} {m0 m : Mk}
theorem addAll_runs : ∀ (ts : List Nat) {f f' : List Mk} {a a' : List Arc}, InOrd a → (runsA a).length = f.length → k < f.length → addAll n most k m ts f a = some (f', a') → InOrd a' ∧ (runsA a').length = f'.length
  | [], f, f', a, a', ho, hl, hk, h => by cases h; exact ⟨ho, hl⟩
  | t :: ts, f, f', a, a', ho, hl, hk, h => by
    unfold addAll at h
    split at h
    · rename_i hin
      have hi : f.idxOf (movedL n m t) < f.length := List.idxOf_lt_length_of_mem hin
      refine addAll_runs ts (.snoc ho (by rw [hl]; exact hk) (by rw [hl]; exact Nat.le_of_lt hi)) ?_ hk h
      rw [runsA_snoc]
      unfold runs1
      rw [if_neg (by rw [hl]; exact Nat.ne_of_lt hi), hl]
    · split at h
      · cases h
      · refine addAll_runs ts (.snoc ho (by rw [hl]; exact hk) (by rw [hl]; exact Nat.le_refl _)) ?_ (by rw [List.length_append]; omega) h
        rw [runsA_snoc]
        unfold runs1
        rw [if_pos hl.symm, List.length_append, List.length_append, hl]; rfl
theorem walk_runs : ∀ {k : Nat} {f : List Mk} {a : List Arc}, walk n ch most m0 k = some (f, a) → InOrd a ∧ (runsA a).length = f.length
  | 0, f, a, h => by cases h; exact ⟨.nil, rfl⟩
  | k + 1, f', a', h => by
    unfold walk at h
    split at h
    · cases h
    · rename_i f a e
      obtain ⟨h1, h2⟩ := walk_runs e
      split at h
      · rename_i m hm
        exact addAll_runs (ch m) h1 h2 (List.getElem?_eq_some_iff.mp hm).1 h
      · cases h; exact ⟨h1, h2⟩
theorem addAll_arcs : ∀ (ts : List Nat) {f f' : List Mk} {a a' : List Arc}, addAll n most k m ts f a = some (f', a') → ∃ g, f' = f ++ g ∧ a' = a ++ ts.map fun t => (k, t, f'.idxOf (movedL n m t))
  | [], f, f', a, a', h => by cases h; exact ⟨[], by simp, by simp⟩
  | t :: ts, f, f', a, a', h => by
    unfold addAll at h
    split at h
    · rename_i hin
      obtain ⟨g, e1, e2⟩ := addAll_arcs ts h
      refine ⟨g, e1, ?_⟩
      rw [e2, List.map_cons, List.append_assoc, e1, idx_left hin]; rfl
    · rename_i hin
      split at h
      · cases h
      · obtain ⟨g, e1, e2⟩ := addAll_arcs ts h
        refine ⟨movedL n m t :: g, by rw [e1, List.append_assoc]; rfl, ?_⟩
        rw [e2, List.map_cons, List.append_assoc]
        have : f'.idxOf (movedL n m t) = f.length := by
          rw [e1, List.append_assoc, List.idxOf_append, if_neg hin]
          simp
        rw [this]; rfl
/-- arcs of the first k markings -/
def arcsTo (n : Nt) (ch : Mk → List Nat) (f : List Mk) (k : Nat) : List Arc := (List.range k).flatMap fun i => (ch (f[i]?.getD [])).map fun t => (i, t, f.idxOf (movedL n (f[i]?.getD []) t))
theorem walk_arcsTo (h1 : 1 ≤ most) : ∀ {k : Nat} {f : List Mk} {a : List Arc}, walk n ch most m0 k = some (f, a) → a = arcsTo n ch f (min k f.length)
  | 0, f, a, h => by cases h; rfl
  | k + 1, f', a', h => by
    unfold walk at h
    split at h
    · cases h
    · rename_i f a e
      have ih := walk_arcsTo h1 e
      have w := walk_spec h1 e
      split at h
      · rename_i m hm
        obtain ⟨g, e1, e2⟩ := addAll_arcs (ch m) h
        have hk := (List.getElem?_eq_some_iff.mp hm).1
        have hk' : k < f'.length := by rw [e1, List.length_append]; omega
        rw [Nat.min_eq_left (Nat.le_of_lt hk)] at ih
        rw [Nat.min_eq_left hk', e2, ih]
        unfold arcsTo
        rw [List.range_succ, List.flatMap_append]
        congr 1
        · refine flat_congr fun i hi => ?_
          have hi := List.mem_range.mp hi
          have hif : i < f.length := by omega
          have e3 : f'[i]? = some f[i] := by rw [e1]; exact get_app (List.getElem?_eq_getElem hif)
          rw [e3, List.getElem?_eq_getElem hif]
          refine List.map_congr_left fun t ht => ?_
          have := w.cl i f[i] hi (List.getElem?_eq_getElem hif) t ht
          show (i, t, f.idxOf _) = (i, t, f'.idxOf _)
          rw [e1]
          exact congrArg (fun z => (i, t, z)) (idx_left this).symm
        · have : f'[k]? = some m := by rw [e1]; exact get_app hm
          simp [this]
      · rename_i hm
        cases h
        have hl : f'.length ≤ k := List.getElem?_eq_none_iff.mp hm
        rw [Nat.min_eq_right hl] at ih
        rw [Nat.min_eq_right (Nat.le_succ_of_le hl)]
        exact ih
theorem walk_arcs (h1 : 1 ≤ most) {f : List Mk} {a : List Arc} (h : walk n ch most m0 most = some (f, a)) : a = arcsOf n ch f := by
  have := walk_arcsTo h1 h
  rw [Nat.min_eq_right (walk_spec h1 h).le] at this
  exact this
end
end Ly
namespace Ly
open PySem PySem.Spec PyProof.Rows L2
/-- the law's dict of runs -/
def RlA (f : List Mk) (a : List Arc) : List (Mk × D) := (f.zip (runsA a)).map fun p => (p.1, natsT p.2)
structure RlG (f : List Mk) (a : List Arc) (rl : List (Mk × D)) : Prop where
  eq : rl = RlA f a
  od : InOrd a
  ln : (runsA a).length = f.length
  nd : f.Nodup
theorem RlG.ks {f : List Mk} {a : List Arc} {rl : List (Mk × D)} (h : RlG f a rl) : rl.map (·.1) = f := by
  rw [h.eq]
  unfold RlA
  rw [List.map_map]
  exact List.map_fst_zip (by rw [h.ln]; exact Nat.le_refl _)
theorem nin_g {f : List Mk} {a : List Arc} {rl : List (Mk × D)} (h : RlG f a rl) (o : Mk) : cmpD .notin (intsT o) (rdct rl) = some (!decide (o ∈ f)) := by
  have := nin_tab kenc_ints rl o
  rw [h.ks] at this
  exact this.trans (congrArg (fun b => some (!b)) (by rw [Bool.eq_iff_iff]; simp only [decide_eq_true_eq]))
theorem lookL_zip {α β : Type} [DecidableEq α] {e : β → D} : ∀ {f : List α} {R : List β} {k : Nat} {m : α} {r : β}, f.Nodup → f[k]? = some m → R[k]? = some r → lookL ((f.zip R).map fun p => (p.1, e p.2)) m = some (e r)
  | [], _, _, _, _, _, h, _ => by simp at h
  | _ :: _, [], _, _, _, _, _, h => by simp at h
  | x :: f, y :: R, 0, m, r, hn, h1, h2 => by
    simp at h1 h2
    subst h1 h2
    simp [lookL]
  | x :: f, y :: R, k + 1, m, r, hn, h1, h2 => by
    rw [List.getElem?_cons_succ] at h1 h2
    have ne : x ≠ m := fun e => by
      subst e
      exact (List.nodup_cons.mp hn).1 (List.mem_of_getElem? h1)
    have ih := lookL_zip (e := e) (List.nodup_cons.mp hn).2 h1 h2
    unfold lookL at ih ⊢
    rw [List.zip_cons_cons, List.map_cons, List.find?_cons, decide_eq_false ne]
    exact ih
theorem RlG.look {f : List Mk} {a : List Arc} {rl : List (Mk × D)} (h : RlG f a rl) {k : Nat} {m : Mk} (hk : f[k]? = some m) : ∃ r, lookL rl m = some (natsT r) ∧ r.length ≤ f.length := by
  have hk2 : k < (runsA a).length := by rw [h.ln]; exact (List.getElem?_eq_some_iff.mp hk).1
  refine ⟨(runsA a)[k], ?_, ?_⟩
  · rw [h.eq]; exact lookL_zip h.nd hk (List.getElem?_eq_getElem hk2)
  · have := runs_le h.od _ (List.getElem_mem hk2)
    rw [h.ln] at this
    exact Nat.le_of_lt this
theorem RlG.old {f : List Mk} {a : List Arc} {rl : List (Mk × D)} (h : RlG f a rl) {k t : Nat} {m o : Mk} (hk : f[k]? = some m) (hin : o ∈ f) : RlG f (a ++ [(k, t, f.idxOf o)]) rl := by
  have hi : f.idxOf o < f.length := List.idxOf_lt_length_of_mem hin
  have e : runsA (a ++ [(k, t, f.idxOf o)]) = runsA a := by
    rw [runsA_snoc]
    unfold runs1
    rw [if_neg (by rw [h.ln]; exact Nat.ne_of_lt hi)]
  exact ⟨by unfold RlA; rw [e]; exact h.eq, .snoc h.od (by rw [h.ln]; exact (List.getElem?_eq_some_iff.mp hk).1) (by rw [h.ln]; exact Nat.le_of_lt hi), by rw [e]; exact h.ln, h.nd⟩
theorem RlG.new {f : List Mk} {a : List Arc} {rl : List (Mk × D)} (h : RlG f a rl) {k t : Nat} {m o : Mk} {r : List Nat} (hk : f[k]? = some m) (hr : lookL rl m = some (natsT r)) (hin : o ∉ f) : RlG (f ++ [o]) (a ++ [(k, t, f.length)]) (rl ++ [(o, natsT (r ++ [t]))]) := by
  have hk2 : k < (runsA a).length := by rw [h.ln]; exact (List.getElem?_eq_some_iff.mp hk).1
  have hr2 : (runsA a)[k]? = some r := by
    have e : lookL rl m = some (natsT (runsA a)[k]) := by rw [h.eq]; exact lookL_zip h.nd hk (List.getElem?_eq_getElem hk2)
    rw [hr] at e
    rw [List.getElem?_eq_getElem hk2]
    injection e with e
    injection e with e
    congr 1
    exact ((List.map_inj_right (fun x y h => by injection h with h; exact Int.ofNat.inj h)).mp e).symm
  have e : runsA (a ++ [(k, t, f.length)]) = runsA a ++ [r ++ [t]] := by
    rw [runsA_snoc]
    unfold runs1
    rw [if_pos h.ln.symm]
    dsimp only
    rw [hr2]; rfl
  refine ⟨?_, .snoc h.od hk2 (by rw [h.ln]; exact Nat.le_refl _), by rw [e, List.length_append, List.length_append, h.ln]; rfl, ?_⟩
  · unfold RlA
    rw [e, List.zip_append h.ln.symm, List.map_append, h.eq]; rfl
  · rw [List.nodup_append]
    refine ⟨h.nd, by simp, fun x hx y hy => ?_⟩
    rw [List.mem_singleton.mp hy]
    exact fun e => hin (e ▸ hx)
/-! ### other bounds -/
section
variable {n : Nt} {ch : Mk → List Nat} {most most' k : Nat} {m0 m : Mk}
theorem addAll_most : ∀ (ts : List Nat) {f f' : List Mk} {a a' : List Arc}, addAll n most k m ts f a = some (f', a') → f'.length ≤ most' → addAll n most' k m ts f a = some (f', a')
  | [], f, f', a, a', h, hl => h
  | t :: ts, f, f', a, a', h, hl => by
    unfold addAll at h ⊢
    split at h
    · rename_i hin
      rw [if_pos hin]
      exact addAll_most ts h hl
    · rename_i hin
      split at h
      · cases h
      · obtain ⟨g, e1, _⟩ := addAll_arcs ts h
        have : f.length < f'.length := by rw [e1, List.length_append, List.length_append, List.length_singleton]; omega
        rw [if_neg hin, if_neg (by omega)]
        exact addAll_most ts h hl
theorem walk_most : ∀ {k : Nat} {f : List Mk} {a : List Arc}, walk n ch most m0 k = some (f, a) → f.length ≤ most' → walk n ch most' m0 k = some (f, a)
  | 0, f, a, h, _ => h
  | k + 1, f', a', h, hl => by
    unfold walk at h ⊢
    split at h
    · cases h
    · rename_i f a e
      split at h
      · rename_i m hm
        obtain ⟨g, e1, _⟩ := addAll_arcs (ch m) h
        rw [walk_most e (by rw [e1, List.length_append] at hl; omega)]
        dsimp only
        rw [hm]
        exact addAll_most (ch m) h hl
      · rename_i hm
        cases h
        rw [walk_most e hl]
        dsimp only
        rw [hm]
theorem walk_some_le : ∀ {k j : Nat} {f : List Mk} {a : List Arc}, walk n ch most m0 (k + j) = some (f, a) → ∃ f' a', walk n ch most m0 k = some (f', a') ∧ f'.length ≤ f.length := fun {k j f a} h => by
  induction j generalizing f a with
  | zero => exact ⟨f, a, h, Nat.le_refl _⟩
  | succ j ih =>
    have h : walk n ch most m0 ((k + j) + 1) = some (f, a) := h
    unfold walk at h
    split at h
    · cases h
    · rename_i f2 a2 e
      obtain ⟨f', a', e1, e2⟩ := ih e
      split at h
      · rename_i m hm
        obtain ⟨g, e3, _⟩ := addAll_arcs (ch m) h
        exact ⟨f', a', e1, by rw [e3, List.length_append]; omega⟩
      · cases h; exact ⟨f', a', e1, e2⟩
theorem walk_at_len (h1 : 1 ≤ most) {f : List Mk} {a : List Arc} (h : walk n ch most m0 most = some (f, a)) : walk n ch most m0 f.length = some (f, a) := by
  have hl := (walk_spec h1 h).le
  have e : most = f.length + (most - f.length) := by omega
  obtain ⟨f', a', e1, e2⟩ := walk_some_le (k := f.length) (j := most - f.length) (by rw [← e]; exact h)
  have := walk_stay e1 e2 (most - f.length)
  rw [← e, h] at this
  rw [e1, this]
theorem walk_just (h1 : 1 ≤ most) {f : List Mk} {a : List Arc} (h : walk n ch most m0 most = some (f, a)) : walk n ch f.length m0 f.length = some (f, a) := walk_most (walk_at_len h1 h) (Nat.le_refl _)
theorem walk_less (h1 : 1 ≤ most) {f : List Mk} {a : List Arc} (h : walk n ch most m0 most = some (f, a)) (h2 : 1 ≤ most') (hl : most' < f.length) : walk n ch most' m0 most' = none := by
  cases e : walk n ch most' m0 most' with
  | none => rfl
  | some p =>
    obtain ⟨f', a'⟩ := p
    have hl' := (walk_spec h2 e).le
    have hm := (walk_spec h1 h).le
    have := walk_stay (walk_most (most' := most) e (by omega)) hl' (most - most')
    rw [show most' + (most - most') = most by omega, h] at this
    injection this with this
    injection this with this _
    subst this
    omega
end
end Ly

set_option Elab.async false
set_option linter.all false
set_option maxRecDepth 100000
set_option maxHeartbeats 2000000
namespace K01
open PySem PySem.Spec PyProof.Rows L2 Ly
section
variable {c : Nat} {n : Nt} (ok : n.Ok) {most : Nat} (hmost : most ≤ 900) {md : D}
include ok hmost
theorem gor18 {k : Nat} {m : Mk} (hm : m.length = n.L) : ∀ (ts : List Nat) (f : List Mk) (a : List Arc) (rl : List (Mk × D)) (x6 x7 : Sl), (∀ t ∈ ts, t < n.M.length) → f[k]? = some m → f.length ≤ most → RlG f a rl → match addAll n most k m (ts.filter (canB n m)) f a with
    | some (f', a') => ∃ rl' x6' x7', FN (Fk (c + 1)) Wf (.nm 6) body18i (ts.map natD) (E18 n.d md most (.fz (natD k)) rl f x6 x7) (E18 n.d md most (.fz (natD k)) rl' f' x6' x7') ∧ RlG f' a' rl'
    | none => FR (Fk (c + 1)) Wf (.nm 6) body18i (ts.map natD) (E18 n.d md most (.fz (natD k)) rl f x6 x7) .none
  | [], f, a, rl, x6, x7, _, _, _, hr => ⟨rl, x6, x7, fn_nil, hr⟩
  | t :: ts, f, a, rl, x6, x7, ht, hk, hf, hr => by
    have ht0 := ht t List.mem_cons_self
    have hts : ∀ u ∈ ts, u < n.M.length := fun u hu => ht u (List.mem_cons_of_mem _ hu)
    have hrow : ∀ x7, PV (Fk (c + 1)) (.idx (.var 5) (.var 3)) (E18 n.d md most (.fz (natD k)) rl f (.fz (natD t)) x7) (intsT m) := fun x7 => pv_idx (pv_var rfl) (pv_var rfl) (at_map (e := intsT) hk)
    have hcan : PT' (Fk (c + 1)) (.call 16 (.cons (.var 0) (.cons (.idx (.var 5) (.var 3)) (.cons (.var 6) .nil)))) (E18 n.d md most (.fz (natD k)) rl f (.fz (natD t)) x7) (canB n m t) := pt_call (pl_cons (pv_var rfl) (pl_cons (hrow x7) (pl_cons (pv_var rfl) pl_nil))) (r16 ok hm ht0) rfl
    rw [List.filter_cons]
    cases hc : canB n m t with
    | false =>
      rw [hc] at hcan
      rw [if_neg Bool.false_ne_true]
      have ih := gor18 hm ts f a rl (.fz (natD t)) x7 hts hk hf hr
      have hbody : PN (Fk (c + 1)) Wf body18i (E18 n.d md most (.fz (natD k)) rl f (.fz (natD t)) x7) (E18 n.d md most (.fz (natD k)) rl f (.fz (natD t)) x7) := pn_one (st_if0 hcan)
      revert ih
      split
      · rintro ⟨rl', y6, y7, h, h'⟩
        exact ⟨rl', y6, y7, fn_cons rfl hbody h, h'⟩
      · exact fun h => fr_cons rfl hbody h
    | true =>
      rw [hc] at hcan
      rw [if_pos rfl]
      have hother : STm (Fk (c + 1)) Wf (.asg (.nm 7) (.call 17 (.cons (.var 0) (.cons (.idx (.var 5) (.var 3)) (.cons (.var 6) .nil))))) (E18 n.d md most (.fz (natD k)) rl f (.fz (natD t)) x7) (E18 n.d md most (.fz (natD k)) rl f (.fz (natD t)) (.fz (intsT (movedL n m t)))) :=
        st_asg (pv_call (pl_cons (pv_var rfl) (pl_cons (hrow x7) (pl_cons (pv_var rfl) pl_nil))) (r17 ok hm ht0)) rfl
      have hni : PT' (Fk (c + 1)) (.cmp .notin (.var 7) (.var 4)) (E18 n.d md most (.fz (natD k)) rl f (.fz (natD t)) (.fz (intsT (movedL n m t)))) (!decide (movedL n m t ∈ f)) := ptb_cmp (pvb (pv_var rfl)) (pvb_own rfl) (nin_g hr _)
      have htest : PT' (Fk (c + 1)) (.and (.cmp .notin (.var 7) (.var 4)) (.cmp .eq (.bf .len (.cons (.var 5) .nil)) (.var 2))) (E18 n.d md most (.fz (natD k)) rl f (.fz (natD t)) (.fz (intsT (movedL n m t)))) (!decide (movedL n m t ∈ f) && decide (f.length = most)) :=
        pt_and hni fun _ => pt_as (pt_cmp' (pv_bf (pl_cons (pv_var rfl) pl_nil) blenL) (pv_var rfl) (eq_ints _ _)) (decide_eq_decide.mpr (by omega))
      unfold addAll
      by_cases hin : movedL n m t ∈ f
      · rw [if_pos hin]
        rw [decide_eq_true hin] at htest hni
        have ih := gor18 hm ts f (a ++ [(k, t, f.idxOf (movedL n m t))]) rl (.fz (natD t)) (.fz (intsT (movedL n m t))) hts hk hf (hr.old (t := t) hk hin)
        have hbody : PN (Fk (c + 1)) Wf body18i (E18 n.d md most (.fz (natD k)) rl f (.fz (natD t)) x7) (E18 n.d md most (.fz (natD k)) rl f (.fz (natD t)) (.fz (intsT (movedL n m t)))) := pn_one (st_ifT hcan (pn_st hother (pn_st (st_if0 htest) (pn_one (st_if0 hni)))))
        revert ih
        split
        · rintro ⟨rl', y6, y7, h, h'⟩
          exact ⟨rl', y6, y7, fn_cons rfl hbody h, h'⟩
        · exact fun h => fr_cons rfl hbody h
      · rw [if_neg hin]
        rw [decide_eq_false hin] at htest hni
        by_cases hfm : f.length = most
        · rw [if_pos hfm]
          rw [decide_eq_true hfm] at htest
          exact fr_here (env1 := E18 n.d md most (.fz (natD k)) rl f (.fz (natD t)) x7) rfl (pb_ifT hcan (pb_st hother (pb_ifT htest (pb_ret pv_con))))
        · rw [if_neg hfm]
          rw [decide_eq_false hfm] at htest
          obtain ⟨r, hd', hrl⟩ := hr.look hk
          have hlen : rl.length = f.length := by rw [← hr.ks, List.length_map]
          have hr' : RlG (f ++ [movedL n m t]) (a ++ [(k, t, f.length)]) (rl ++ [(movedL n m t, natsT (r ++ [t]))]) := hr.new hk hd' hin
          have ih := gor18 hm ts (f ++ [movedL n m t]) (a ++ [(k, t, f.length)]) (rl ++ [(movedL n m t, natsT (r ++ [t]))]) (.fz (natD t)) (.fz (intsT (movedL n m t))) hts (get_app hk) (by rw [List.length_append, List.length_singleton]; omega) hr'
          have hset : setD (rdct rl) (intsT (movedL n m t)) (natsT (r ++ [t])) = some (rdct (rl ++ [(movedL n m t, natsT (r ++ [t]))])) := by
            show dputD (dmk true (tabP intsT rl)) _ _ = _
            exact dput_new kenc_ints (by rw [hr.ks]; exact hin) (by omega)
          have hval : PV (Fk (c + 1)) (.bin .add (.idx (.var 4) (.idx (.var 5) (.var 3))) (.tup (.cons (.var 6) .nil))) (E18 n.d md most (.fz (natD k)) rl f (.fz (natD t)) (.fz (intsT (movedL n m t)))) (natsT (r ++ [t])) := by
            refine pv_bin (d2 := .tuple [natD t]) (pvb_idx (pvb_own rfl) (pvb (hrow _)) (idx_tab kenc_ints hd')) (pv_tup (pl_cons (pv_var rfl) pl_nil) rfl) ?_
            show (if okLen ((r.map natD).length + 1) then some (PyData.tuple (r.map natD ++ [natD t])) else none) = _
            rw [List.length_map, if_pos (okL (by omega)), ← map_snoc]
          have hbody : PN (Fk (c + 1)) Wf body18i (E18 n.d md most (.fz (natD k)) rl f (.fz (natD t)) x7) (E18 n.d md most (.fz (natD k)) (rl ++ [(movedL n m t, natsT (r ++ [t]))]) (f ++ [movedL n m t]) (.fz (natD t)) (.fz (intsT (movedL n m t)))) :=
            pn_one (st_ifT hcan (pn_st hother (pn_st (st_if0 htest) (pn_one (st_ifT hni (pn_st (st_setI (i := 4) rfl hval (pv_var rfl) hset) (pn_one (st_asg (pv_bin (d2 := .list ([movedL n m t].map intsT)) (pv_var rfl) (pv_lst (pl_cons (pv_var rfl) pl_nil) rfl) (add_rows (by simp; omega))) rfl))))))))
          revert ih
          split
          · rintro ⟨rl', y6, y7, h, h'⟩
            exact ⟨rl', y6, y7, fn_cons rfl hbody h, h'⟩
          · exact fun h => fr_cons rfl hbody h
end
section
variable {c : Nat} {n : Nt} (ok : n.Ok) {most : Nat} (h1 : 1 ≤ most) (hmost : most ≤ 900) {m0 : Mk} (hm0 : m0.length = n.L)
include ok h1 hmost hm0
theorem gurn18 : ∀ (j k : Nat) (f : List Mk) (a : List Arc) (rl : List (Mk × D)) (x3 x6 x7 : Sl), walk n (cans n) most m0 k = some (f, a) → RlG f a rl → k + j ≤ most → match walk n (cans n) most m0 (k + j) with
    | some (f', a') => ∃ rl' x3' x6' x7', FN (Fk (c + 1)) Wf (.nm 3) body18 ((List.range' k j).map natD) (E18 n.d (intsT m0) most x3 rl f x6 x7) (E18 n.d (intsT m0) most x3' rl' f' x6' x7') ∧ RlG f' a' rl'
    | none => FR (Fk (c + 1)) Wf (.nm 3) body18 ((List.range' k j).map natD) (E18 n.d (intsT m0) most x3 rl f x6 x7) .none
  | 0, k, f, a, rl, x3, x6, x7, hw, hr, hj => by
    rw [Nat.add_zero, hw]
    exact ⟨rl, x3, x6, x7, fn_nil, hr⟩
  | j + 1, k, f, a, rl, x3, x6, x7, hw, hr, hj => by
    have w := walk_spec h1 hw
    have hle := w.le
    rw [List.range'_succ, List.map_cons, show k + (j + 1) = (k + 1) + j by omega]
    have htest : PT' (Fk (c + 1)) (.cmp .lt (.var 3) (.bf .len (.cons (.var 5) .nil))) (E18 n.d (intsT m0) most (.fz (natD k)) rl f x6 x7) (decide (k < f.length)) := by
      refine pt_cmp' (o := .lt) (d1 := natD k) (d2 := natD f.length) (pv_var rfl) (pv_bf (pl_cons (pv_var rfl) pl_nil) blenL) ?_
      show some (decide ((k : Int) < (f.length : Int))) = _
      congr 1
      exact decide_eq_decide.mpr (by omega)
    by_cases hkl : k < f.length
    · rw [decide_eq_true hkl] at htest
      have hm : f[k]? = some f[k] := List.getElem?_eq_getElem hkl
      generalize hmm : f[k] = m at hm
      have hml : m.length = n.L := by
        obtain ⟨s, hs⟩ := w.rc m (List.mem_of_getElem? hm)
        exact hs.len hm0
      have hwk := walk_at hw hm
      have hit : PIt (Fk (c + 1)) (.rlen (.idx (.var 0) (.con (.int 1)))) (E18 n.d (intsT m0) most (.fz (natD k)) rl f x6 x7) ((List.range n.M.length).map natD) := pi_rlen (pv_moves (pv_var rfl)) len_map
      have hin := gor18 (c := c) (md := intsT m0) ok hmost (k := k) hml (List.range n.M.length) f a rl x6 x7 (fun t ht => List.mem_range.mp ht) hm hle hr
      rw [show (List.range n.M.length).filter (canB n m) = cans n m from rfl] at hin
      cases ew : addAll n most k m (cans n m) f a with
      | none =>
        rw [ew] at hin hwk
        rw [walk_none (j := j) hwk]
        exact fr_here (env1 := E18 n.d (intsT m0) most (.fz (natD k)) rl f x6 x7) rfl (pb_ifT htest (pb_forR hit hin))
      | some fa =>
        obtain ⟨f', a'⟩ := fa
        rw [ew] at hin hwk
        obtain ⟨rl', y6, y7, hfn, hr'⟩ := hin
        have ih := gurn18 j (k + 1) f' a' rl' (.fz (natD k)) y6 y7 hwk hr' (by omega)
        have hbody : PN (Fk (c + 1)) Wf body18 (E18 n.d (intsT m0) most (.fz (natD k)) rl f x6 x7) (E18 n.d (intsT m0) most (.fz (natD k)) rl' f' y6 y7) := pn_one (st_ifT htest (pn_one (st_for hit hfn)))
        revert ih
        split
        · rintro ⟨rl2, z3, z6, z7, h, hg⟩
          exact ⟨rl2, z3, z6, z7, fn_cons rfl hbody h, hg⟩
        · exact fun h => fr_cons rfl hbody h
    · rw [decide_eq_false hkl] at htest
      have hwk : walk n (cans n) most m0 (k + 1) = some (f, a) := walk_stay hw (by omega) 1
      have ih := gurn18 j (k + 1) f a rl (.fz (natD k)) x6 x7 hwk hr (by omega)
      have hbody : PN (Fk (c + 1)) Wf body18 (E18 n.d (intsT m0) most (.fz (natD k)) rl f x6 x7) (E18 n.d (intsT m0) most (.fz (natD k)) rl f x6 x7) := pn_one (st_if0 htest)
      revert ih
      split
      · rintro ⟨rl2, z3, z6, z7, h, hg⟩
        exact ⟨rl2, z3, z6, z7, fn_cons rfl hbody h, hg⟩
      · exact fun h => fr_cons rfl hbody h
theorem r18' : match walk n (cans n) most m0 most with
    | some (f, a) => PF (Fk (c + 2)) 18 [n.d, intsT m0, natD most] (.tuple [.list (f.map intsT), rdct (RlA f a)])
    | none => PF (Fk (c + 2)) 18 [n.d, intsT m0, natD most] .none := by
  have h := gurn18 (c := c) ok h1 hmost hm0 most 0 [m0] [] [(m0, natsT [])] .un .un .un rfl ⟨rfl, .nil, rfl, by simp⟩ (by omega)
  rw [Nat.zero_add] at h
  have hstart : STm (Fk (c + 1)) Wf (.par [(4, true), (5, false)] (.cons (.dct1 true (.var 1) (.tup .nil)) (.cons (.lst (.cons (.var 1) .nil)) .nil))) [.fz n.d, .fz (intsT m0), .fz (natD most), .un, .un, .un, .un, .un] (E18 n.d (intsT m0) most .un [(m0, natsT [])] [m0] .un .un) :=
    st_par (ds := [rdct [(m0, natsT [])], .list [intsT m0]]) (pl_cons (pv_dct1 (pv_var rfl) (pv_tup pl_nil rfl) (kenc_ints.ok m0)) (pl_cons (pv_lst (pl_cons (pv_var rfl) pl_nil) rfl) pl_nil)) rfl
  have hit : PIt (Fk (c + 1)) (.rng (.cons (.var 2) .nil)) (E18 n.d (intsT m0) most .un [(m0, natsT [])] [m0] .un .un) ((List.range' 0 most).map natD) := by
    rw [← List.range_eq_range']
    exact pi_rng (pl_cons (pv_var rfl) pl_nil) (rngA most (by omega))
  revert h
  cases hw : walk n (cans n) most m0 most with
  | none => exact fun h => pf_run b18 rfl (pb_st hstart (pb_forR hit h))
  | some fa =>
    obtain ⟨f, a⟩ := fa
    rintro ⟨rl, y3, y6, y7, h, hg⟩
    obtain rfl := hg.eq
    exact pf_run b18 rfl (pb_st hstart (pb_st (st_for hit h) (pb_st (st_frz (i := 4) (d := rdct (RlA f a)) rfl) (pb_ret (pv_tup (pl_cons (pv_var rfl) (pl_cons (pv_var rfl) pl_nil)) rfl)))))
end
end K01

set_option Elab.async false
set_option linter.all false
set_option maxRecDepth 100000
set_option maxHeartbeats 2000000
/-! Ly: what is come to along arcs: the program's walk by a stack, over lists by first number. -/
namespace Ly
open PySem PySem.Spec PyProof.Rows L2
/-! ### a dict of numbers, all True -/
def vtab (f : List Nat) : List (Nat × D) := f.map fun v => (v, PyData.bool true)
theorem vtab_keys (f : List Nat) : (vtab f).map (·.1) = f := by
  unfold vtab
  rw [List.map_map]
  exact (List.map_congr_left (g := id) (fun a _ => rfl)).trans (List.map_id f)
abbrev vdct (f : List Nat) : D := dmk false (tabP natD (vtab f))
theorem setD_v {f : List Nat} {v : Nat} (h : v ∉ f) (hl : f.length < 16777216) : setD (vdct f) (natD v) (.bool true) = some (vdct (f ++ [v])) := by
  show dputD (dmk false (tabP natD (vtab f))) (natD v) (.bool true) = _
  rw [dput_new kenc_nat (by rw [vtab_keys]; exact h) (by unfold vtab; rw [List.length_map]; exact hl)]
  show some (dmk false (tabP natD (vtab f ++ [(v, .bool true)]))) = some (dmk false (tabP natD (vtab (f ++ [v]))))
  unfold vtab
  rw [List.map_append]; rfl
theorem sort_v {f C : List Nat} (hp : f.Perm C) (hC : C.Pairwise (· < ·)) (hl : f.length < 64) : bfD .sorted [vdct f] = some (.list (C.map natD)) := by
  have hd := dsD_mk kenc_nat (vtab f)
  show (match dsD (tabP natD (vtab f)) with
    | some (false, ps) => match intsD (ps.map (fun p : D × D => p.1)) with
      | some is => if decide (is.length < 64) then some (PyData.list ((is.mergeSort (fun a b => decide (a ≤ b))).map .int)) else none
      | none => none
    | _ => none) = _
  rw [show dsD (tabP natD (vtab f)) = some (false, tabP natD (vtab f)) from hd]
  dsimp only
  have hk : (tabP natD (vtab f)).map (·.1) = (f.map Int.ofNat).map .int := by
    unfold tabP vtab
    rw [List.map_map, List.map_map, List.map_map]; rfl
  rw [hk, intsD_ints]
  dsimp only
  rw [List.length_map, decide_eq_true hl, if_pos rfl, nat_sorted hp hC]
theorem nin_v (f : List Nat) (v : Nat) : cmpD .notin (natD v) (vdct f) = some (!decide (v ∈ f)) := by
  have := nin_tab kenc_nat (vtab f) v
  rw [vtab_keys] at this
  exact this
/-! ### lists by first number -/
def js (a : List Arc) (k : Nat) : List Nat := (a.filter fun z => decide (z.1 = k)).map (·.2.2)
theorem mem_js {a : List Arc} {u v : Nat} : arcE a u v ↔ v ∈ js a u := by
  unfold js
  rw [List.mem_map]
  constructor
  · rintro ⟨t, h⟩
    exact ⟨(u, t, v), List.mem_filter.mpr ⟨h, by simp⟩, rfl⟩
  · rintro ⟨z, h, rfl⟩
    obtain ⟨h1, h2⟩ := List.mem_filter.mp h
    rw [decide_eq_true_eq] at h2
    subst h2
    exact ⟨z.2.1, h1⟩
theorem js_snoc (a : List Arc) (z : Arc) (k : Nat) : js (a ++ [z]) k = if z.1 = k then js a k ++ [z.2.2] else js a k := by
  unfold js
  rw [List.filter_append]
  by_cases h : z.1 = k
  · rw [if_pos h, List.map_append, List.filter_cons, decide_eq_true h, if_pos rfl]; rfl
  · rw [if_neg h, List.filter_cons, decide_eq_false h, if_neg Bool.false_ne_true, List.filter_nil, List.append_nil]
def lookG (acc : List (Int × List D)) (k : Int) : Option (List D) := (acc.find? fun p => decide (p.1 = k)).map (·.2)
theorem lookG_put (v : D) (k' : Int) : ∀ (acc : List (Int × List D)) (k : Int), lookG (grpPut acc k v) k' = if k = k' then some ((lookG acc k').getD [] ++ [v]) else lookG acc k'
  | [], k => by
    unfold grpPut lookG
    rw [List.find?_cons]
    by_cases h : k = k'
    · rw [decide_eq_true h, if_pos h]; rfl
    · rw [decide_eq_false h, if_neg h]
  | p :: r, k => by
    unfold grpPut
    by_cases hp : p.1 = k
    · rw [if_pos hp]
      unfold lookG
      rw [List.find?_cons, List.find?_cons]
      by_cases h : k = k'
      · rw [decide_eq_true (hp.trans h), if_pos h]; rfl
      · rw [decide_eq_false (fun e => h (hp.symm.trans e)), if_neg h]
    · rw [if_neg hp]
      have ih := lookG_put v k' r k
      unfold lookG at ih ⊢
      rw [List.find?_cons, List.find?_cons]
      by_cases h : p.1 = k'
      · rw [decide_eq_true h]
        by_cases h2 : k = k'
        · exact absurd (h.trans h2.symm) hp
        · rw [if_neg h2]
      · rw [decide_eq_false h]
        exact ih
def GrpOk (a : List Arc) (acc : List (Int × List D)) : Prop := ∀ k : Nat, (lookG acc (k : Int)).getD [] = (js a k).map natD
theorem grpGo_arcs : ∀ (b a : List Arc) (acc : List (Int × List D)) (env : List Sl), GrpOk a acc → ∃ acc' env', grpGo 3 4 5 (b.map arcD) acc env = some (acc', env') ∧ GrpOk (a ++ b) acc' ∧ env'.length = env.length ∧ (∀ i, i ≠ 3 → i ≠ 4 → i ≠ 5 → env'[i]? = env[i]?)
  | [], a, acc, env, h => ⟨acc, env, rfl, by rw [List.append_nil]; exact h, rfl, fun i _ _ _ => rfl⟩
  | z :: b, a, acc, env, h => by
    obtain ⟨acc', env', e1, e2, e3, e4⟩ := grpGo_arcs b (a ++ [z]) (grpPut acc (z.1 : Nat) (natD z.2.2)) (((env.set 3 (.fz (natD z.1))).set 4 (.fz (natD z.2.1))).set 5 (.fz (natD z.2.2))) fun k => by
      rw [lookG_put, js_snoc]
      by_cases hk : z.1 = k
      · rw [if_pos hk, if_pos (by rw [hk])]
        show (lookG acc k).getD [] ++ [natD z.2.2] = _
        rw [h k, List.map_append]; rfl
      · rw [if_neg hk, if_neg (by omega)]
        exact h k
    refine ⟨acc', env', e1, by rw [List.append_assoc] at e2; exact e2, by rw [e3]; simp, fun i h3 h4 h5 => ?_⟩
    rw [e4 i h3 h4 h5, List.getElem?_set_ne (Ne.symm h5), List.getElem?_set_ne (Ne.symm h4), List.getElem?_set_ne (Ne.symm h3)]
theorem dsD_grp (acc : List (Int × List D)) : dsD (acc.map fun p => (PyData.int p.1, PyData.list p.2)) = some (false, acc.map fun p => (PyData.int p.1, PyData.list p.2)) := by
  cases acc with
  | nil => rfl
  | cons p r => rfl
theorem look_grp (k : Nat) : ∀ acc : List (Int × List D), lookD (acc.map fun p => (PyData.int p.1, PyData.list p.2)) (natD k) = (lookG acc k).map .list
  | [] => rfl
  | p :: r => by
    have ih := look_grp k r
    rw [List.map_cons, lookD_cons]
    have e : keq (PyData.int p.1) (natD k) = decide (p.1 = (k : Int)) := rfl
    rw [e]
    unfold lookG at ih ⊢
    rw [List.find?_cons]
    by_cases h : p.1 = (k : Int)
    · rw [decide_eq_true h]; rfl
    · rw [decide_eq_false h, if_neg Bool.false_ne_true]; exact ih
theorem getL_grp {a : List Arc} {acc : List (Int × List D)} (h : GrpOk a acc) (k : Nat) : getL (grpT acc) (natD k) = some ((js a k).map natD) := by
  have hk := h k
  unfold getL grpT dgetD
  dsimp only
  rw [dsD_grp]
  dsimp only
  rw [show keyOk false (natD k) = true from rfl, if_pos rfl, look_grp]
  cases e : lookG acc (k : Int) with
  | none => rw [e] at hk; exact congrArg some hk
  | some ds => rw [e] at hk; exact congrArg some hk
section
variable {F : Nat → List D → Dr → Oc} {W : Nat}
theorem st_grp {x a b c : Nat} {e : Ex} {env env' : List Sl} {d : D} (hx : env[x]? = some (.ow (.dict []))) (h : PV F e env d) (hg : grpE x a b c d env = some env') : STm F W (.grp x a b c e) env env' := fun dr => by
  show (match env[x]? with
    | some (.ow (.dict [])) => (ev F .frz e env dr).toO env fun d s => match grpE x a b c d s.env with
      | some env => Out.ok Fl.nx { s with env := env }
      | none => .stk
    | _ => .stk : Out Fl) = _
  rw [hx]
  dsimp only
  rw [h .frz dr frz_ne]
  show (match grpE x a b c d env with
      | some env => Out.ok Fl.nx (⟨env, dr⟩ : S)
      | none => .stk) = _
  rw [hg]
theorem st_fpg {tg : Tg} {i j : Nat} {b : Sts} {env env' : List Sl} {ds xs : List D} {k d : D} {y : Sl} (hij : i ≠ j) (hj : env[j]? = some (.ow (.list (ds ++ [k])))) (hi : env[i]? = some y) (hd : slD y = some d) (hg : getL d k = some xs) (h : FN F W tg b xs (env.set j (.ow (.list ds))) env') : STm F W (.fpg tg i j b) env env' := fun dr => by
  show (match env[j]?, env[i]? with
    | some (.ow (.list ds)), some y => if i = j then .stk else match popD ds none with
      | some (k, r) => match (slD y).bind fun d => getL d k with
        | some xs => forGo (tnF (exs F W b) tg) xs (setE ⟨env, dr⟩ j (.ow (.list r)))
        | none => .stk
      | none => .stk
    | _, _ => .stk : Out Fl) = _
  rw [hj, hi]
  dsimp only
  rw [if_neg hij, show popD (ds ++ [k]) none = some (k, ds) by unfold popD; simp]
  dsimp only
  rw [hd]
  show (match getL d k with
        | some xs => forGo (tnF (exs F W b) tg) xs (setE ⟨env, dr⟩ j (.ow (.list ds)))
        | none => .stk : Out Fl) = _
  rw [hg]
  exact h dr
abbrev rbody : Sts := .cons (.ifs (.cmp .notin (.var 5) (.var 6)) (.cons (.setI 6 (.var 5) (.con (.bool true))) (.cons (.app 7 (.var 5)) .nil)) .nil) .nil
abbrev rwhl : Sts := .cons (.fpg (.nm 5) 2 7 rbody) .nil
abbrev rall : Sts := .cons (.own 2 (.dct0 false)) (.cons (.grp 2 3 4 5 (.idx (.var 0) (.con (.int 1)))) (.cons (.par [(6, true), (7, true)] (.cons (.dct1 false (.var 1) (.con (.bool true))) (.cons (.lst (.cons (.var 1) .nil)) .nil))) (.cons (.whl (.var 7) rwhl) (.cons (.ret (.bf .tuple (.cons (.bf .sorted (.cons (.var 6) .nil)) .nil))) .nil))))
abbrev ER (sp : D) (r : Nat) (g : Sl) (x3 x4 x5 : Sl) (f w : List Nat) : List Sl := [.fz sp, .fz (natD r), g, x3, x4, x5, .ow (vdct f), .ow (.list (w.map natD))]
theorem rfor {sp : D} {r : Nat} {g x3 x4 : Sl} : ∀ (vs f w : List Nat) (x5 : Sl), f.length + vs.length ≤ 1000000 → w.length + vs.length ≤ 1000000 → ∃ x5', FN F W (.nm 5) rbody (vs.map natD) (ER sp r g x3 x4 x5 f w) (ER sp r g x3 x4 x5' (dfsAdd vs f w).1 (dfsAdd vs f w).2)
  | [], f, w, x5, _, _ => ⟨x5, fn_nil⟩
  | v :: vs, f, w, x5, h1, h2 => by
    rw [List.length_cons] at h1 h2
    have test : PT' F (.cmp .notin (.var 5) (.var 6)) (ER sp r g x3 x4 (.fz (natD v)) f w) (!decide (v ∈ f)) := ptb_cmp (pvb (pv_var rfl)) (pvb_own rfl) (nin_v f v)
    unfold dfsAdd
    by_cases hv : v ∈ f
    · rw [if_pos hv]
      obtain ⟨x5', hr⟩ := rfor (sp := sp) (r := r) (g := g) (x3 := x3) (x4 := x4) vs f w (.fz (natD v)) (by omega) (by omega)
      refine ⟨x5', fn_cons (env1 := ER sp r g x3 x4 (.fz (natD v)) f w) rfl (pn_one (st_if0 ?_)) hr⟩
      rw [decide_eq_true hv] at test
      exact test
    · rw [if_neg hv]
      obtain ⟨x5', hr⟩ := rfor (sp := sp) (r := r) (g := g) (x3 := x3) (x4 := x4) vs (f ++ [v]) (w ++ [v]) (.fz (natD v)) (by rw [List.length_append, List.length_singleton]; omega) (by rw [List.length_append, List.length_singleton]; omega)
      refine ⟨x5', fn_cons (env1 := ER sp r g x3 x4 (.fz (natD v)) f w) rfl (pn_one (st_ifT ?_ (pn_st (st_setI (i := 6) rfl pv_con (pv_var rfl) (setD_v hv (by omega))) (pn_one ?_)))) hr⟩
      · rw [decide_eq_false hv] at test
        exact test
      · have := st_app (F := F) (W := W) (env := ER sp r g x3 x4 (.fz (natD v)) (f ++ [v]) w) (i := 7) (ds := w.map natD) (x := .var 5) (d := natD v) rfl (by rw [List.length_map]; omega) (pv_var rfl)
        have e : (w ++ [v]).map natD = w.map natD ++ [natD v] := by rw [List.map_append]; rfl
        show STm F W _ _ [.fz sp, .fz (natD r), g, x3, x4, .fz (natD v), .ow (vdct (f ++ [v])), .ow (.list ((w ++ [v]).map natD))]
        rw [e]
        exact this
section
variable {a : List Arc} {N : Nat} (hN : N ≤ 60) (hl : a.length ≤ 4000) (ha : ∀ i t j, (i, t, j) ∈ a → j < N) {r : Nat} (hr : r < N) {acc : List (Int × List D)} (hg : GrpOk a acc)
include ha hr
theorem arc_lt {v : Nat} (p : Path (arcE a) r v) : v < N := Path.closed (S := fun v => v < N) hr (fun u v _ e => by obtain ⟨t, h⟩ := e; exact ha _ _ _ h) p
theorem df_le {f w : List Nat} (hd : Df' (arcE a) r f w) : f.length ≤ N := by
  have := nodup_len (U := List.range N) hd.nd fun u hu => List.mem_range.mpr (arc_lt ha hr (hd.pt u hu))
  rwa [List.length_range] at this
include hN hl hg
theorem rwhl_ok {sp : D} {x3 x4 : Sl} : ∀ (M : Nat) (f w : List Nat) (x5 : Sl), M ≤ 1000 → Df' (arcE a) r f w → 2 * (N - f.length) + w.length < M → ∃ f' x5', WN F W (.var 7) rwhl M (ER sp r (.ow (grpT acc)) x3 x4 x5 f w) (ER sp r (.ow (grpT acc)) x3 x4 x5' f' []) ∧ Df' (arcE a) r f' []
  | 0, f, w, x5, _, _, h => absurd h (Nat.not_lt_zero _)
  | M + 1, f, w, x5, hM0, hd, h => by
    rcases List.eq_nil_or_concat w with rfl | ⟨w0, u, rfl⟩
    · exact ⟨f, x5, wn_end (pt_own rfl rfl), hd⟩
    · simp only [List.concat_eq_append] at hd h ⊢
      have hd2 := Df'.step (vs := js a u) hd fun v => mem_js
      obtain ⟨new, e1, _, _, _⟩ := dfsAdd_spec (js a u) f w0
      have hl2 := df_le ha hr hd2
      have hl0 := df_le ha hr hd
      have hvs : (js a u).length ≤ 4000 := by
        unfold js
        rw [List.length_map]
        exact Nat.le_trans (List.length_filter_le _ _) hl
      rw [List.length_append, List.length_singleton] at h
      obtain ⟨x5', hfor⟩ := rfor (F := F) (W := W) (sp := sp) (r := r) (g := .ow (grpT acc)) (x3 := x3) (x4 := x4) (js a u) f w0 x5 (by omega) (by omega)
      have hM : 2 * (N - (dfsAdd (js a u) f w0).1.length) + (dfsAdd (js a u) f w0).2.length < M := by
        rw [e1] at hl2 ⊢
        simp only [List.length_append] at hl2 ⊢
        omega
      obtain ⟨f', x5'', hw, hd'⟩ := rwhl_ok (sp := sp) (x3 := x3) (x4 := x4) M _ _ x5' (by omega) hd2 hM
      refine ⟨f', x5'', wn_nx (pt_own rfl ?_) (pn_one (st_fpg (ds := w0.map natD) (k := natD u) (by decide) ?_ (y := .ow (grpT acc)) rfl rfl (getL_grp hg u) hfor)) hw, hd'⟩
      · rw [List.map_append]
        show some (!(w0.map natD ++ [natD u]).isEmpty) = some true
        cases w0 <;> rfl
      · show some (Sl.ow (.list ((w0 ++ [u]).map natD))) = _
        rw [List.map_append]; rfl
end
open Classical in
/-- what is come to from a number, ascending -/
noncomputable def rch (a : List Arc) (N r : Nat) : List Nat := fl N fun v => decide (Path (arcE a) r v)
theorem mem_rch {a : List Arc} {N r v : Nat} : v ∈ rch a N r ↔ v < N ∧ Path (arcE a) r v := by
  unfold rch
  rw [mem_fl]
  exact and_congr_right fun _ => @decide_eq_true_iff _ (Classical.propDecidable _)
theorem pb_reached {a : List Arc} {N : Nat} (hN : N ≤ 60) (hl : a.length ≤ 4000) (ha : ∀ i t j, (i, t, j) ∈ a → j < N) {r : Nat} (hr : r < N) {f0 : List D} {hW : W = 1000} : PB F W rall [.fz (.tuple [.tuple f0, .tuple (a.map arcD)]), .fz (natD r), .un, .un, .un, .un, .un, .un] (natsT (rch a N r)) := by
  obtain ⟨acc, env', e1, e2, e3, e4⟩ := grpGo_arcs a [] [] [.fz (.tuple [.tuple f0, .tuple (a.map arcD)]), .fz (natD r), .ow (.dict []), .un, .un, .un, .un, .un] fun k => rfl
  have el : env'.length = 8 := e3
  have g0 := e4 0 (by decide) (by decide) (by decide)
  have g1 := e4 1 (by decide) (by decide) (by decide)
  have g2 := e4 2 (by decide) (by decide) (by decide)
  have g6 := e4 6 (by decide) (by decide) (by decide)
  have g7 := e4 7 (by decide) (by decide) (by decide)
  obtain ⟨y3, y4, y5, rfl⟩ : ∃ y3 y4 y5, env' = [.fz (.tuple [.tuple f0, .tuple (a.map arcD)]), .fz (natD r), .ow (.dict []), y3, y4, y5, .un, .un] := by
    match env', el, g0, g1, g2, g6, g7 with
    | [z0, z1, z2, z3, z4, z5, z6, z7], _, g0, g1, g2, g6, g7 =>
      cases g0; cases g1; cases g2; cases g6; cases g7
      exact ⟨z3, z4, z5, rfl⟩
  subst hW
  obtain ⟨f', x5', hw, hd⟩ := rwhl_ok (F := F) (W := 1000) hN hl ha hr e2 (sp := .tuple [.tuple f0, .tuple (a.map arcD)]) (x3 := y3) (x4 := y4) 1000 [r] [r] y5 (Nat.le_refl _) Df'.start (by simp; omega)
  have hle := df_le ha hr hd
  have hp : f'.Perm (rch a N r) := perm_of hd.nd (fl_nodup _ _) fun v => by
    rw [mem_rch, hd.fin v]
    exact ⟨fun p => ⟨arc_lt ha hr p, p⟩, fun h => h.2⟩
  refine pb_st (env1 := [.fz (.tuple [.tuple f0, .tuple (a.map arcD)]), .fz (natD r), .ow (.dict []), .un, .un, .un, .un, .un]) ?_ (pb_st (env1 := [.fz (.tuple [.tuple f0, .tuple (a.map arcD)]), .fz (natD r), .ow (grpT acc), y3, y4, y5, .un, .un]) (st_grp rfl (pv_idx (pv_var rfl) pv_con rfl) ?_) (pb_st (env1 := ER (.tuple [.tuple f0, .tuple (a.map arcD)]) r (.ow (grpT acc)) y3 y4 y5 [r] [r]) (st_par (ds := [vdct [r], .list [natD r]]) (pl_cons (pv_dct1 (pv_var rfl) pv_con rfl) (pl_cons (pv_lst (pl_cons (pv_var rfl) pl_nil) rfl) pl_nil)) rfl) (pb_st (st_whl hw) (pb_ret (pv_bf (pl_cons (pvb_bf (plb_cons (pvb_own rfl) plb_nil) (sort_v hp (fl_asc _ _) (by omega))) pl_nil) rfl)))))
  · exact fun dr => rfl
  · unfold grpE
    dsimp only
    rw [if_pos (by simp; omega), e1]
    rfl
end
end Ly

set_option Elab.async false
set_option linter.all false
set_option maxRecDepth 100000
set_option maxHeartbeats 2000000
namespace K01
open PySem PySem.Spec PyProof.Rows L2 Ly
/-! ### reached, by the law -/
abbrev body20 : Sts := .cons (.asg (.nm 4) (.bf .sset (.cons (.lc [5, 6, 7] (.tup (.cons (.nm 5) (.cons (.nm 6) (.cons (.nm 7) .nil)))) (.seq (.var 0)) (.cons (.and (.cmp .isin (.var 5) (.var 4)) (.cmp .notin (.var 7) (.var 3))) .nil) (.var 7)) .nil))) (.cons (.asg (.nm 3) (.bin .add (.var 3) (.var 4))) .nil)
abbrev E20 (a : List Arc) (r : Nat) (x2 : Sl) (f w : List Nat) : List Sl := [.fz (.list (a.map arcD)), .fz (natD r), x2, .fz (.list (f.map natD)), .fz (.list (w.map natD)), .un, .un, .un]
section
variable {F : Nat → List D → Dr → Oc} {W : Nat} {a : List Arc} {r : Nat} (hl : a.length ≤ 4000) (ha : ∀ i t j, (i, t, j) ∈ a → j < 60) (hr : r < 60)
include hl ha hr
theorem reach_lt {v : Nat} (p : Path (arcE a) r v) : v < 60 := by
  cases p with
  | refl => exact hr
  | tail _ e => obtain ⟨t, h⟩ := e; exact ha _ _ _ h
theorem for20 : ∀ (ds : List D) (f w : List Nat) (x2 : Sl) (c : Nat), Bf' (arcE a) r f w → Bn f w c → ∃ f' w' x2', FN F W (.nm 2) body20 ds (E20 a r x2 f w) (E20 a r x2' f' w') ∧ Bf' (arcE a) r f' w' ∧ Bn f' w' (c + ds.length)
  | [], f, w, x2, c, hb, hn => ⟨f, w, x2, fn_nil, hb, hn⟩
  | d :: ds, f, w, x2, c, hb, hn => by
    let l := (a.filter fun z => decide (z.1 ∈ w) && !decide (z.2.2 ∈ f)).map (·.2.2)
    obtain ⟨fr, e1, e2, e3⟩ := sset_nat l (by
      show (((a.filter fun z => decide (z.1 ∈ w) && !decide (z.2.2 ∈ f)).map (·.2.2)).length) ≤ 4000
      rw [List.length_map]
      exact Nat.le_trans (List.length_filter_le _ _) hl) fun v hv => by
        obtain ⟨z, hz, rfl⟩ := List.mem_map.mp hv
        exact ha z.1 z.2.1 z.2.2 (List.mem_filter.mp hz).1
    have hm : ∀ v, v ∈ fr ↔ (v ∉ f ∧ ∃ u ∈ w, arcE a u v) := fun v => by
      rw [e3]
      constructor
      · intro hv
        obtain ⟨z, hz, rfl⟩ := List.mem_map.mp hv
        obtain ⟨h1, h2⟩ := List.mem_filter.mp hz
        simp only [Bool.and_eq_true, decide_eq_true_eq, Bool.not_eq_true', decide_eq_false_iff_not] at h2
        exact ⟨h2.2, z.1, h2.1, z.2.1, h1⟩
      · rintro ⟨hv, u, hu, t, ht⟩
        refine List.mem_map.mpr ⟨(u, t, v), List.mem_filter.mpr ⟨ht, ?_⟩, rfl⟩
        simp only [Bool.and_eq_true, decide_eq_true_eq, Bool.not_eq_true', decide_eq_false_iff_not]
        exact ⟨hu, hv⟩
    have hb2 := hb.step e2 hm
    have hlen : (f ++ fr).length ≤ 60 := by
      have := nodup_len (U := List.range 60) hb2.nd fun v hv => List.mem_range.mpr (reach_lt hl ha hr (hb2.pt v hv))
      rwa [List.length_range] at this
    obtain ⟨f', w', x2', h1, h2, h3⟩ := for20 ds (f ++ fr) fr (.fz d) (c + 1) hb2 (hn.step hm)
    refine ⟨f', w', x2', fn_cons (env1 := E20 a r (.fz d) f w) rfl (pn_st (env1 := E20 a r (.fz d) f fr) (st_asg (pv_bf (pl_cons (d := .list (l.map natD)) (pv_as (pv_lc (as := a) (enc := arcD) (g := fun z => natD z.2.2) (p := fun z => decide (z.1 ∈ w) && !decide (z.2.2 ∈ f)) (pi_seq' (pv_var rfl) rfl) fun z hz => ⟨_, rfl, pc_one (pt_and (pt_cmp' (pv_var rfl) (pv_var rfl) (isin_nat _ _)) fun _ => pt_cmp' (pv_var rfl) (pv_var rfl) (nin_nat _ _)), fun _ => pv_var rfl⟩) ?_) pl_nil) e1) rfl) (pn_one (st_asg (pv_bin (pv_var rfl) (pv_var rfl) (add_nats (by rw [List.length_append] at hlen; omega))) rfl))) h1, h2, ?_⟩
    · show PyData.list _ = PyData.list (List.map natD (List.map _ _))
      rw [List.map_map]; rfl
    · rw [List.length_cons, show c + (ds.length + 1) = c + 1 + ds.length by omega]
      exact h3

theorem r20 {k N : Nat} (hN : N ≤ 60) (haN : ∀ i t j, (i, t, j) ∈ a → j < N) (hrN : r < N) : PF (Fk (k + 1)) 20 [.list (a.map arcD), natD r] (lsD (rch a N r)) := by
  obtain ⟨f', w', x2', h1, h2, h3⟩ := for20 (F := Fk k) (W := Wf) hl ha hr ((List.range (a.length + 1)).map natD) [r] [r] .un 0 Bf'.start (.inr (by simp))
  rw [List.length_map, List.length_range, Nat.zero_add] at h3
  have hw : w' = [] := h3.fin (U := r :: a.map (·.2.2)) h2.nd (fun x hx => by
    cases h2.pt x hx with
    | refl => exact List.mem_cons_self
    | tail _ e => obtain ⟨t, h⟩ := e; exact List.mem_cons_of_mem _ (List.mem_map.mpr ⟨_, h, rfl⟩)) (by rw [List.length_cons, List.length_map]; exact Nat.le_refl _)
  subst hw
  have hp : f'.Perm (rch a N r) := perm_of h2.nd (fl_nodup _ _) fun v => by
    rw [mem_rch, h2.fin v]
    exact ⟨fun p => ⟨arc_lt haN hrN p, p⟩, fun h => h.2⟩
  refine pf_run b20 rfl (pb_st (env1 := E20 a r .un [r] [r]) (st_par (ds := [.list [natD r], .list [natD r]]) (pl_cons (pv_lst (pl_cons (pv_var rfl) pl_nil) rfl) (pl_cons (pv_lst (pl_cons (pv_var rfl) pl_nil) rfl) pl_nil)) rfl) (pb_st (st_for (pi_rng (pl_cons (pv_bin (o := .add) (pv_bf (pl_cons (pv_var rfl) pl_nil) blenL) pv_con rfl) pl_nil) ?_) h1) (pb_ret (pv_bf (d := lsD (rch a N r)) (pl_cons (pv_var rfl) pl_nil) ?_))))
  · have := rngA (a.length + 1) (by omega)
    exact this
  · show (sortD (f'.map natD)).map PyData.list = _
    rw [sortD_natD hp (fl_asc _ _)]; rfl
end
/-! ### steps, reached, by the program -/
theorem r9 {c : Nat} (f : List Mk) (a : List Arc) (k : Nat) : PF (Fk (c + 1)) 9 [spaceD f a, natD k] (.tuple ((a.filter fun z => decide (z.1 = k)).map fun z => .tuple [natD z.2.1, natD z.2.2])) :=
  pf_run b9 rfl (pb_ret (pv_bf (pl_cons (pv_lc (as := a) (enc := arcD) (g := fun z => .tuple [natD z.2.1, natD z.2.2]) (p := fun z => decide (z.1 = k)) (pi_seq' (pv_idx (pv_var rfl) pv_con rfl) rfl) fun z hz => ⟨_, rfl, pc_one (pt_cmp' (d1 := natD z.1) (d2 := natD k) (pv_var rfl) (pv_var rfl) (eqD_enc eqEnc_nat sh0 (k := 0) (by omega) z.1 k)), fun _ => pv_tup (pl_cons (pv_var rfl) (pl_cons (pv_var rfl) pl_nil)) rfl⟩) pl_nil) rfl))
section
variable {f : List Mk} {a : List Arc} {N : Nat} (hf : f.length = N) (hN : N ≤ 60) (hl : a.length ≤ 4000) (ha : ∀ i t j, (i, t, j) ∈ a → j < N)
include hf hN hl ha
theorem r10 {c r : Nat} (hr : r < N) : PF (Fk (c + 1)) 10 [spaceD f a, natD r] (natsT (rch a N r)) := pf_run b10 rfl (pb_reached hN hl ha hr (hW := rfl))
end
/-! ### knots -/
noncomputable def knt (a : List Arc) (N k : Nat) : List Nat := (rch a N k).filter fun j => decide (k ∈ rch a N j)
theorem mem_knt {a : List Arc} {N k j : Nat} (hk : k < N) : j ∈ knt a N k ↔ j < N ∧ Path (arcE a) k j ∧ Path (arcE a) j k := by
  unfold knt
  rw [List.mem_filter, mem_rch, decide_eq_true_eq, mem_rch]
  exact ⟨fun ⟨⟨h1, h2⟩, _, h3⟩ => ⟨h1, h2, h3⟩, fun ⟨h1, h2, h3⟩ => ⟨⟨h1, h2⟩, hk, h3⟩⟩
theorem knt_asc (a : List Arc) (N k : Nat) : (knt a N k).Pairwise (· < ·) := List.Pairwise.filter _ (fl_asc _ _)
theorem knt_self {a : List Arc} {N k : Nat} (hk : k < N) : k ∈ knt a N k := (mem_knt hk).mpr ⟨hk, .refl _, .refl _⟩
noncomputable def isHd (a : List Arc) (N k : Nat) : Bool := decide ((knt a N k).headD 0 = k)
theorem hd_least {l : List Nat} (h : l.Pairwise (· < ·)) {x : Nat} (hx : x ∈ l) : l.headD 0 ∈ l ∧ l.headD 0 ≤ x := by
  cases l with
  | nil => cases hx
  | cons y r =>
    refine ⟨List.mem_cons_self, ?_⟩
    rcases List.mem_cons.mp hx with e | hx
    · exact Nat.le_of_eq e.symm
    · exact Nat.le_of_lt ((List.pairwise_cons.mp h).1 x hx)
theorem isHd_iff {a : List Arc} {N k : Nat} (hk : k < N) : isHd a N k = true ↔ ∀ k', k' < k → k ∉ knt a N k' := by
  unfold isHd
  rw [decide_eq_true_eq]
  obtain ⟨h1, h2⟩ := hd_least (knt_asc a N k) (knt_self hk)
  constructor
  · intro e k' hlt hm
    have hk' : k' < N := Nat.lt_trans hlt hk
    obtain ⟨_, p1, p2⟩ := (mem_knt hk').mp hm
    have := (hd_least (knt_asc a N k) ((mem_knt hk).mpr ⟨hk', p2, p1⟩)).2
    omega
  · intro h
    apply Decidable.byContradiction
    intro ne
    have hlt : (knt a N k).headD 0 < k := by omega
    obtain ⟨q0, q1, q2⟩ := (mem_knt hk).mp h1
    exact h _ hlt ((mem_knt q0).mpr ⟨hk, q2, q1⟩)
noncomputable def firsts (a : List Arc) (N : Nat) : List (List Nat) := (fl N (isHd a N)).map (knt a N)
section
variable {f : List Mk} {a : List Arc} {N : Nat} (hf : f.length = N) (hN : N ≤ 60) (hl : a.length ≤ 4000) (ha : ∀ i t j, (i, t, j) ∈ a → j < N)
abbrev kbody : Sts := .cons (.ifs (.cmp .notin (.var 2) (.var 4)) (.cons (.asg (.nm 5) (.bf .tuple (.cons (.lc [6] (.nm 6) (.seq (.idx (.var 1) (.var 2))) (.cons (.cmp .isin (.var 2) (.idx (.var 1) (.var 6))) .nil) (.var 6)) .nil))) (.cons (.for (.nm 6) (.seq (.var 5)) (.cons (.setI 4 (.var 6) (.con (.bool true))) .nil)) (.cons (.app 3 (.var 5)) .nil))) .nil) .nil
noncomputable abbrev EK (sp : D) (a : List Arc) (N : Nat) (x2 : Sl) (ks : List (List Nat)) (d : List Nat) (x5 x6 : Sl) : List Sl := [.fz sp, .fz (.list (((List.range N).map (rch a N)).map natsT)), x2, .ow (.list (ks.map natsT)), .ow (vdct d), x5, x6]
theorem idx_rows' {k : Nat} (hk : k < N) : idxD (.list (((List.range N).map (rch a N)).map natsT)) (natD k) = some (natsT (rch a N k)) := at_map (e := natsT) (by rw [List.getElem?_map, List.getElem?_range hk]; rfl)
theorem pv_knt {F : Nat → List D → Dr → Oc} {env : List Sl} {R : D} {xk xr y : Nat} {k : Nat} (hR : ∀ j, j < N → idxD R (natD j) = some (natsT (rch a N j)) ∨ idxD R (natD j) = some (lsD (rch a N j))) (hk : k < N) (h1 : env[xr]? = some (.fz R)) (h2 : env[xk]? = some (.fz (natD k))) (hy : y < env.length) (y1 : y ≠ xr) (y2 : y ≠ xk) :
    PV F (.bf .tuple (.cons (.lc [y] (.nm y) (.seq (.idx (.var xr) (.var xk))) (.cons (.cmp .isin (.var xk) (.idx (.var xr) (.var y))) .nil) (.var y)) .nil)) env (natsT (knt a N k)) := by
  have g : ∀ v, (∀ i, i ≠ y → ((env.set y .un).set y (.fz v))[i]? = env[i]?) := fun v i hi => by rw [List.getElem?_set_ne (Ne.symm hi), List.getElem?_set_ne (Ne.symm hi)]
  have gy : ∀ v, ((env.set y .un).set y (.fz v))[y]? = some (.fz v) := fun v => by rw [List.getElem?_set_self (by simpa using hy)]
  have it : PIt F (.seq (.idx (.var xr) (.var xk))) env ((rch a N k).map natD) := by
    rcases hR k hk with h | h
    · exact pi_seq' (pv_idx (pv_var h1) (pv_var h2) h) rfl
    · exact pi_seq' (pv_idx (pv_var h1) (pv_var h2) h) rfl
  refine pv_bf (pl_cons (pv_lc (as := rch a N k) (enc := natD) (g := natD) (p := fun j => decide (k ∈ rch a N j)) it fun j hj => ⟨_, rfl, pc_one ?_, fun _ => pv_var (gy _)⟩) pl_nil) rfl
  have hj := (mem_rch.mp hj).1
  have v1 : PV F (.var xk) ((env.set y .un).set y (.fz (natD j))) (natD k) := pv_var (by rw [g _ _ y2.symm]; exact h2)
  have v2 : PV F (.var xr) ((env.set y .un).set y (.fz (natD j))) R := pv_var (by rw [g _ _ y1.symm]; exact h1)
  rcases hR j hj with h | h
  · exact pt_cmp' v1 (pv_idx v2 (pv_var (gy _)) h) (inD_tup eqEnc_nat sh0 (by omega) k _)
  · exact pt_cmp' v1 (pv_idx v2 (pv_var (gy _)) h) (isin_nat k _)
theorem kfor6 {F : Nat → List D → Dr → Oc} {sp : D} {x2 x5 : Sl} {ks : List (List Nat)} : ∀ (vs d : List Nat) (x6 : Sl), d.length + vs.length ≤ 1000000 → vs.Nodup → (∀ v ∈ vs, v ∉ d) → ∃ x6', FN F Wf (.nm 6) (.cons (.setI 4 (.var 6) (.con (.bool true))) .nil) (vs.map natD) (EK sp a N x2 ks d x5 x6) (EK sp a N x2 ks (d ++ vs) x5 x6')
  | [], d, x6, _, _, _ => ⟨x6, by rw [List.append_nil]; exact fn_nil⟩
  | v :: vs, d, x6, h, hn, hd => by
    rw [List.length_cons] at h
    obtain ⟨x6', ih⟩ := kfor6 (sp := sp) (x2 := x2) (x5 := x5) (ks := ks) vs (d ++ [v]) (.fz (natD v)) (by rw [List.length_append, List.length_singleton]; omega) (List.nodup_cons.mp hn).2 fun u hu hm => by
      rcases List.mem_append.mp hm with hm | hm
      · exact hd u (List.mem_cons_of_mem _ hu) hm
      · rw [List.mem_singleton.mp hm] at hu
        exact (List.nodup_cons.mp hn).1 hu
    rw [List.append_assoc] at ih
    exact ⟨x6', fn_cons (env1 := EK sp a N x2 ks d x5 (.fz (natD v))) rfl (pn_one (st_setI (i := 4) rfl pv_con (pv_var rfl) (setD_v (hd v List.mem_cons_self) (by omega)))) ih⟩
theorem kfor {F : Nat → List D → Dr → Oc} {sp : D} (hN : N ≤ 60) : ∀ (m k : Nat) (d : List Nat) (x2 x5 x6 : Sl), k + m = N → d.Nodup → (∀ v, v ∈ d ↔ v < N ∧ ∃ k', k' < k ∧ v ∈ knt a N k') → ∃ x2' x5' x6' d', FN F Wf (.nm 2) kbody ((List.range' k m).map natD) (EK sp a N x2 ((fl k (isHd a N)).map (knt a N)) d x5 x6) (EK sp a N x2' (firsts a N) d' x5' x6')
  | 0, k, d, x2, x5, x6, h, _, _ => by
    obtain rfl : k = N := by omega
    exact ⟨x2, x5, x6, d, fn_nil⟩
  | m + 1, k, d, x2, x5, x6, h, hn, hd => by
    have hk : k < N := by omega
    rw [List.range'_succ, List.map_cons]
    have hdl : d.length ≤ 60 := by
      have := nodup_len (U := List.range N) hn fun v hv => List.mem_range.mpr ((hd v).mp hv).1
      rw [List.length_range] at this
      omega
    have test : PT' F (.cmp .notin (.var 2) (.var 4)) (EK sp a N (.fz (natD k)) ((fl k (isHd a N)).map (knt a N)) d x5 x6) (!decide (k ∈ d)) := ptb_cmp (pvb (pv_var rfl)) (pvb_own rfl) (nin_v d k)
    have hin : k ∈ d ↔ isHd a N k = false := by
      rw [hd, ← Bool.not_eq_true, isHd_iff hk]
      constructor
      · rintro ⟨_, k', h1, h2⟩ hh
        exact hh k' h1 h2
      · intro hh
        refine ⟨hk, ?_⟩
        apply Classical.byContradiction
        intro hne
        exact hh fun k' h1 h2 => hne ⟨k', h1, h2⟩
    by_cases hkd : k ∈ d
    · have hh := hin.mp hkd
      rw [decide_eq_true hkd] at test
      obtain ⟨x2', x5', x6', d', ih⟩ := kfor (sp := sp) hN m (k + 1) d (.fz (natD k)) x5 x6 (by omega) hn fun v => by
        rw [hd]
        refine and_congr_right fun hv => ⟨fun ⟨k', h1, h2⟩ => ⟨k', by omega, h2⟩, fun ⟨k', h1, h2⟩ => ?_⟩
        by_cases e : k' = k
        · subst e
          obtain ⟨_, k'', g1, g2⟩ := (hd k').mp hkd
          obtain ⟨_, p1, p2⟩ := (mem_knt hk).mp h2
          have hk'' : k'' < N := Nat.lt_trans g1 hk
          obtain ⟨_, q1, q2⟩ := (mem_knt hk'').mp g2
          exact ⟨k'', g1, (mem_knt hk'').mpr ⟨hv, q1.trans p1, p2.trans q2⟩⟩
        · exact ⟨k', by omega, h2⟩
      have efl : fl (k + 1) (isHd a N) = fl k (isHd a N) := by
        unfold fl
        rw [List.range_succ, List.filter_append, List.filter_cons, hh, if_neg Bool.false_ne_true, List.filter_nil, List.append_nil]
      rw [efl] at ih
      exact ⟨x2', x5', x6', d', fn_cons (env1 := EK sp a N (.fz (natD k)) ((fl k (isHd a N)).map (knt a N)) d x5 x6) rfl (pn_one (st_if0 test)) ih⟩
    · have hh : isHd a N k = true := by
        rw [← Bool.not_eq_false]
        exact fun e => hkd (hin.mpr e)
      rw [decide_eq_false hkd] at test
      have hnk : (knt a N k).Nodup := asc_nodup (knt_asc a N k)
      have hkl : (knt a N k).length ≤ 60 := by
        have := nodup_len (U := List.range N) hnk fun v hv => List.mem_range.mpr ((mem_knt hk).mp hv).1
        rw [List.length_range] at this
        omega
      have hdis : ∀ v ∈ knt a N k, v ∉ d := fun v hv hvd => by
        obtain ⟨hvN, k', h1, h2⟩ := (hd v).mp hvd
        have hk' : k' < N := Nat.lt_trans h1 hk
        obtain ⟨_, p1, p2⟩ := (mem_knt hk).mp hv
        obtain ⟨_, q1, q2⟩ := (mem_knt hk').mp h2
        exact hkd ((hd k).mpr ⟨hk, k', h1, (mem_knt hk').mpr ⟨hk, q1.trans p2, p1.trans q2⟩⟩)
      obtain ⟨x6', hf6⟩ := kfor6 (a := a) (N := N) (F := F) (sp := sp) (x2 := .fz (natD k)) (x5 := .fz (natsT (knt a N k))) (ks := (fl k (isHd a N)).map (knt a N)) (knt a N k) d x6 (by omega) hnk hdis
      obtain ⟨x2', x5', x6'', d', ih⟩ := kfor (sp := sp) hN m (k + 1) (d ++ knt a N k) (.fz (natD k)) (.fz (natsT (knt a N k))) x6' (by omega) (List.nodup_append.mpr ⟨hn, hnk, fun u hu w hw e => hdis w hw (e ▸ hu)⟩) fun v => by
        rw [List.mem_append, hd]
        constructor
        · rintro (⟨hv, k', h1, h2⟩ | hv)
          · exact ⟨hv, k', by omega, h2⟩
          · exact ⟨((mem_knt hk).mp hv).1, k, by omega, hv⟩
        · rintro ⟨hv, k', h1, h2⟩
          by_cases e : k' = k
          · subst e; exact .inr h2
          · exact .inl ⟨hv, k', by omega, h2⟩
      have efl : (fl (k + 1) (isHd a N)).map (knt a N) = (fl k (isHd a N)).map (knt a N) ++ [knt a N k] := by
        unfold fl
        rw [List.range_succ, List.filter_append, List.filter_cons, hh, if_pos rfl, List.filter_nil, List.map_append]; rfl
      rw [efl] at ih
      have hks : ((fl k (isHd a N)).map (knt a N)).length ≤ 60 := by
        rw [List.length_map]
        have := fl_len k (isHd a N)
        omega
      refine ⟨x2', x5', x6'', d', fn_cons (env1 := EK sp a N (.fz (natD k)) ((fl k (isHd a N)).map (knt a N)) d x5 x6) rfl (pn_one (st_ifT test (pn_st (env1 := EK sp a N (.fz (natD k)) ((fl k (isHd a N)).map (knt a N)) d (.fz (natsT (knt a N k))) x6) (st_asg (pv_knt (R := .list (((List.range N).map (rch a N)).map natsT)) (fun j hj => .inl (idx_rows' hj)) hk rfl rfl (by show 6 < 7; omega) (by decide) (by decide)) rfl) (pn_st (st_for (pi_seq' (pv_var rfl) rfl) hf6) (pn_one ?_))))) ih⟩
      have := st_app (F := F) (W := Wf) (env := EK sp a N (.fz (natD k)) ((fl k (isHd a N)).map (knt a N)) (d ++ knt a N k) (.fz (natsT (knt a N k))) x6') (i := 3) (ds := ((fl k (isHd a N)).map (knt a N)).map natsT) (x := .var 5) (d := natsT (knt a N k)) rfl (by rw [List.length_map]; omega) (pv_var rfl)
      rw [← map_snoc] at this
      exact this
include hf hN hl ha
theorem r11 {c : Nat} : PF (Fk (c + 2)) 11 [spaceD f a] (.tuple ((firsts a N).map natsT)) := by
  obtain ⟨x2', x5', x6', d', h⟩ := kfor (a := a) (F := Fk (c + 1)) (sp := spaceD f a) hN N 0 [] .un .un .un (by omega) List.nodup_nil fun v => by simp
  have hreach : PV (Fk (c + 1)) (.lc [2] (.nm 2) (.rlen (.idx (.var 0) (.con (.int 0)))) .nil (.call 10 (.cons (.var 0) (.cons (.var 2) .nil)))) [.fz (spaceD f a), .un, .un, .un, .un, .un, .un] (.list (((List.range N).map (rch a N)).map natsT)) := by
    refine pv_as (pv_lcA (as := List.range N) (enc := natD) (g := fun k => natsT (rch a N k)) (pi_rlen (n := N) (pv_idx (pv_var rfl) pv_con rfl) (by rw [← hf]; exact len_map)) fun k hk => ⟨_, rfl, pv_call (pl_cons (pv_var rfl) (pl_cons (pv_var rfl) pl_nil)) (r10 hf hN hl ha (List.mem_range.mp hk))⟩) ?_
    rw [List.map_map]; rfl
  refine pf_run b11 rfl (pb_st (env1 := [.fz (spaceD f a), .fz (.list (((List.range N).map (rch a N)).map natsT)), .un, .un, .un, .un, .un]) (st_asg hreach rfl) (pb_st (env1 := EK (spaceD f a) a N .un ((fl 0 (isHd a N)).map (knt a N)) [] .un .un) (st_par (ds := [.list [], .dict []]) (pl_cons pv_nilL (pl_cons (pv_dct0 false) pl_nil)) rfl) (pb_st (env1 := EK (spaceD f a) a N x2' (firsts a N) d' x5' x6') (st_for (pi_rlen (n := N) (pv_var rfl) (by show some _ = _; rw [List.length_map, List.length_map, List.length_range])) ?_) (pb_ret (pv_bfo (i := 3) (d1 := .list ((firsts a N).map natsT)) rfl rfl)))))
  rw [List.range_eq_range']
  exact h
theorem r12 {c : Nat} : PF (Fk (c + 3)) 12 [spaceD f a] (.tuple (((firsts a N).filter fun K => decide (rch a N (K.headD 0) = K)).map natsT)) := by
  have hall : ∀ K ∈ firsts a N, ∃ k, k < N ∧ K = knt a N k := fun K hK => by
    obtain ⟨k, hk, rfl⟩ := List.mem_map.mp hK
    exact ⟨k, (mem_fl.mp hk).1, rfl⟩
  have hfor : ∀ (Ks acc : List (List Nat)) (x2 : Sl), (∀ K ∈ Ks, ∃ k, k < N ∧ K = knt a N k) → acc.length + Ks.length ≤ 1000000 → ∃ x2', FN (Fk (c + 2)) Wf (.nm 2) (.cons (.ifs (.cmp .eq (.call 10 (.cons (.var 0) (.cons (.idx (.var 2) (.con (.int 0))) .nil))) (.var 2)) (.cons (.app 1 (.var 2)) .nil) .nil) .nil) (Ks.map natsT) [.fz (spaceD f a), .ow (.list (acc.map natsT)), x2] [.fz (spaceD f a), .ow (.list ((acc ++ Ks.filter fun K => decide (rch a N (K.headD 0) = K)).map natsT)), x2'] := by
    intro Ks
    induction Ks with
    | nil => exact fun acc x2 _ _ => ⟨x2, by rw [List.filter_nil, List.append_nil]; exact fn_nil⟩
    | cons K Ks ih =>
      intro acc x2 hK hlen
      rw [List.length_cons] at hlen
      obtain ⟨k, hk, eK⟩ := hK K List.mem_cons_self
      obtain ⟨h1, _⟩ := hd_least (knt_asc a N k) (knt_self hk)
      rw [← eK] at h1
      have hlt : K.headD 0 < N := by rw [eK] at h1; rw [eK]; exact ((mem_knt hk).mp h1).1
      have hidx : idxD (natsT K) (.int 0) = some (natD (K.headD 0)) := by
        cases K with
        | nil => cases h1
        | cons y r => exact at0
      have test : PT' (Fk (c + 2)) (.cmp .eq (.call 10 (.cons (.var 0) (.cons (.idx (.var 2) (.con (.int 0))) .nil))) (.var 2)) [.fz (spaceD f a), .ow (.list (acc.map natsT)), .fz (natsT K)] (decide (rch a N (K.headD 0) = K)) :=
        pt_cmp' (pv_call (pl_cons (pv_var rfl) (pl_cons (pv_idx (pv_var rfl) pv_con hidx) pl_nil)) (r10 hf hN hl ha hlt)) (pv_var rfl) (eqD_enc eqEnc_nats shal_nats (by omega) _ _)
      rw [List.filter_cons]
      by_cases hc : rch a N (K.headD 0) = K
      · rw [decide_eq_true hc] at test
        rw [if_pos (decide_eq_true hc)]
        obtain ⟨x2', h⟩ := ih (acc ++ [K]) (.fz (natsT K)) (fun K' m => hK K' (List.mem_cons_of_mem _ m)) (by rw [List.length_append, List.length_singleton]; omega)
        rw [List.append_assoc] at h
        refine ⟨x2', fn_cons (env1 := [.fz (spaceD f a), .ow (.list (acc.map natsT)), .fz (natsT K)]) rfl (pn_one (st_ifT test (pn_one ?_))) h⟩
        have := st_app (F := Fk (c + 2)) (W := Wf) (env := [.fz (spaceD f a), .ow (.list (acc.map natsT)), .fz (natsT K)]) (i := 1) (ds := acc.map natsT) (x := .var 2) (d := natsT K) rfl (by rw [List.length_map]; omega) (pv_var rfl)
        rw [← map_snoc] at this
        exact this
      · rw [decide_eq_false hc] at test
        rw [if_neg (by rw [decide_eq_false hc]; exact Bool.false_ne_true)]
        obtain ⟨x2', h⟩ := ih acc (.fz (natsT K)) (fun K' m => hK K' (List.mem_cons_of_mem _ m)) (by omega)
        exact ⟨x2', fn_cons (env1 := [.fz (spaceD f a), .ow (.list (acc.map natsT)), .fz (natsT K)]) rfl (pn_one (st_if0 test)) h⟩
  have hfl : (firsts a N).length ≤ 60 := by
    unfold firsts
    rw [List.length_map]
    have := fl_len N (isHd a N)
    omega
  obtain ⟨x2', h⟩ := hfor (firsts a N) [] .un hall (by rw [List.length_nil]; omega)
  exact pf_run b12 rfl (pb_st (env1 := [.fz (spaceD f a), .ow (.list []), .un]) (st_own (i := 1) pv_nilL) (pb_st (st_for (pi_seq' (pv_call (pl_cons (pv_var rfl) pl_nil) (r11 hf hN hl ha)) rfl) h) (pb_ret (pv_bfo rfl rfl))))
end
end K01

set_option Elab.async false
set_option linter.all false
set_option maxRecDepth 100000
set_option maxHeartbeats 2000000
/-! Ly: expressions that raise; zip of a row of rows; least runs by arcs. -/
namespace Ly
open PySem PySem.Spec PyProof.Rows L2
section
variable {F : Nat → List D → Dr → Oc} {W : Nat} {env : List Sl} {x y z : Ex} {xs : Exs} {ds : List D} {f e : Nat} {r : Sts} {d : D}
/-- an expression that raises -/
def PVX (F : Nat → List D → Dr → Oc) (x : Ex) (env : List Sl) (e : Nat) : Prop := ∀ dr, ev F .frz x env dr = .err e dr
theorem pvx_call (hl : PLs F xs env ds) (hx : PX F f ds e) : PVX F (.call f xs) env e := fun dr => ev_px frz_ne hl hx dr
theorem pvx_iteT (h : PT' F x env true) (h2 : PVX F y env e) : PVX F (.ite x y z) env e := fun dr => by
  show (ev F .tst x env dr).bind _ = _
  rw [h dr]; exact h2 dr
theorem pvx_iteF (h : PT' F x env false) (h2 : PVX F z env e) : PVX F (.ite x y z) env e := fun dr => by
  show (ev F .tst x env dr).bind _ = _
  rw [h dr]; exact h2 dr
theorem pbx_retX (h : PVX F x env e) : PBX F W (.cons (.ret x) r) env e := fun dr => ⟨⟨env, dr⟩, by
  show ((ev F .frz x env dr).toO env fun d s => Out.ok (Fl.rt d) s).bind _ = _
  rw [h dr]; rfl, rfl⟩
theorem pi_zst' (h : PV F x env d) (hs : zstD d = some ds) : PIt F (.zst x) env ds := fun m dr hm => by
  show (ev F m x env dr).bind _ = _
  rw [h m dr hm]
  show (match zstD d with
    | some ds => R.ok ds dr
    | none => .stk) = _
  rw [hs]
end
theorem tupsD_ints : ∀ f : List Mk, tupsD (f.map intsT) = some (f.map fun m => m.map .int)
  | [] => rfl
  | m :: f => by
    show (tupsD (f.map intsT)).map (m.map PyData.int :: ·) = _
    rw [tupsD_ints f]; rfl
theorem zst_ints {f : List Mk} {L : Nat} (hne : f ≠ []) (hL : ∀ m ∈ f, m.length = L) : zstD (.tuple (f.map intsT)) = some ((List.range L).map fun p => intsT (f.map fun m => at' m p)) := by
  unfold zstD
  show (match tupsD (f.map intsT) with
    | some (c :: cs) => if (c :: cs).all fun d => decide (d.length = c.length) then some (colsD c.length (c :: cs)) else none
    | _ => none) = _
  rw [tupsD_ints]
  cases f with
  | nil => exact absurd rfl hne
  | cons m f =>
    rw [List.map_cons]
    dsimp only
    have hm := hL m List.mem_cons_self
    rw [if_pos (by
      rw [List.all_eq_true]
      intro d hd
      rw [← List.map_cons (f := fun m : Mk => m.map PyData.int)] at hd
      obtain ⟨m', h', rfl⟩ := List.mem_map.mp hd
      rw [decide_eq_true_eq, List.length_map, List.length_map, hL m' h', hm]), List.length_map, hm]
    congr 1
    unfold colsD
    refine List.map_congr_left fun p hp => ?_
    have hp := List.mem_range.mp hp
    rw [← List.map_cons (f := fun m : Mk => m.map PyData.int), List.map_map]
    show PyData.tuple _ = PyData.tuple _
    congr 1
    rw [List.map_map]
    refine List.map_congr_left fun m' h' => ?_
    show (m'.map PyData.int).getD p .none = PyData.int (at' m' p)
    rw [List.getD_eq_getElem?_getD, List.getElem?_map, at_ok (by rw [hL m' h']; exact hp)]; rfl
/-! ### a dict of runs by number -/
def etab (R : List (List Nat)) : List (Nat × D) := ((List.range R.length).zip R).map fun p => (p.1, natsT p.2)
abbrev edct (R : List (List Nat)) : D := dmk false (tabP natD (etab R))
theorem etab_keys (R : List (List Nat)) : (etab R).map (·.1) = List.range R.length := by
  unfold etab
  rw [List.map_map]
  exact List.map_fst_zip (by rw [List.length_range]; exact Nat.le_refl _)
theorem etab_len (R : List (List Nat)) : (etab R).length = R.length := by
  have := congrArg List.length (etab_keys R)
  simpa using this
theorem etab_snoc (R : List (List Nat)) (r : List Nat) : etab (R ++ [r]) = etab R ++ [(R.length, natsT r)] := by
  unfold etab
  rw [List.length_append, List.length_singleton, List.range_succ, List.zip_append (by rw [List.length_range]), List.map_append]; rfl
theorem nin_e (R : List (List Nat)) (j : Nat) : cmpD .notin (natD j) (edct R) = some (!decide (j < R.length)) := by
  have := nin_tab kenc_nat (etab R) j
  rw [etab_keys] at this
  exact this.trans (congrArg (fun b => some (!b)) (decide_eq_decide.mpr List.mem_range))
theorem look_e {R : List (List Nat)} {i : Nat} (h : i < R.length) : lookL (etab R) i = some (natsT R[i]) := lookL_zip List.nodup_range (List.getElem?_range h) (List.getElem?_eq_getElem h)
theorem InOrd.mid : ∀ {l : List Arc}, InOrd l → ∀ {a b : List Arc} {z : Arc}, l = a ++ z :: b → z.1 < (runsA a).length ∧ z.2.2 ≤ (runsA a).length
  | _, .nil, a, b, z, e => by cases a <;> cases e
  | _, @InOrd.snoc l z' h h1 h2, a, b, z, e => by
    rcases List.eq_nil_or_concat b with rfl | ⟨b', y, rfl⟩
    · obtain ⟨e1, e2⟩ := List.append_inj' e rfl
      cases e2
      subst e1
      exact ⟨h1, h2⟩
    · simp only [List.concat_eq_append] at e
      rw [← List.cons_append, ← List.append_assoc] at e
      obtain ⟨e1, _⟩ := List.append_inj' e rfl
      exact h.mid e1
theorem runs_len : ∀ (a : List Arc), (runsA a).length ≤ a.length + 1 := by
  have : ∀ (a : List Arc) (R : List (List Nat)), (a.foldl runs1 R).length ≤ a.length + R.length := by
    intro a
    induction a with
    | nil => exact fun R => by rw [List.foldl_nil, List.length_nil]; omega
    | cons z a ih =>
      intro R
      rw [List.foldl_cons]
      refine Nat.le_trans (ih _) ?_
      rw [List.length_cons]
      unfold runs1
      split
      · rw [List.length_append, List.length_singleton]; omega
      · omega
  exact fun a => this a [[]]
theorem InOrd.pre : ∀ {l : List Arc}, InOrd l → ∀ {a b : List Arc}, l = a ++ b → InOrd a
  | _, .nil, a, b, e => by
    have : a = [] := by cases a <;> first | rfl | cases e
    subst this
    exact .nil
  | _, @InOrd.snoc l z' h h1 h2, a, b, e => by
    rcases List.eq_nil_or_concat b with rfl | ⟨b', y, rfl⟩
    · rw [List.append_nil] at e
      subst e
      exact .snoc h h1 h2
    · simp only [List.concat_eq_append] at e
      rw [← List.append_assoc] at e
      obtain ⟨e1, _⟩ := List.append_inj' e rfl
      exact h.pre e1
section
variable {F : Nat → List D → Dr → Oc} {W : Nat}
abbrev lbody : Sts := .cons (.ifs (.cmp .notin (.var 6) (.var 1)) (.cons (.setI 1 (.var 6) (.bin .add (.idx (.var 1) (.var 4)) (.tup (.cons (.var 5) .nil)))) .nil) .nil) .nil
abbrev lall : Sts := .cons (.asg (.tup (.cons (.nm 2) (.cons (.nm 3) .nil))) (.var 0)) (.cons (.own 1 (.dct1 false (.con (.int 0)) (.tup .nil))) (.cons (.for (.tup (.cons (.nm 4) (.cons (.nm 5) (.cons (.nm 6) .nil)))) (.seq (.var 3)) lbody) (.cons (.ret (.bf .tuple (.cons (.lc [7] (.nm 7) (.rlen (.var 2)) .nil (.idx (.var 1) (.var 7))) .nil))) .nil)))
abbrev EL (sp fd ad : D) (R : List (List Nat)) (x4 x5 x6 x7 : Sl) : List Sl := [.fz sp, .ow (edct R), .fz fd, .fz ad, x4, x5, x6, x7]
theorem lfor {sp fd ad : D} {x7 : Sl} : ∀ (b a : List Arc) (x4 x5 x6 : Sl), InOrd (a ++ b) → (a ++ b).length ≤ 1000000 → ∃ x4' x5' x6', FN F W (.tup (.cons (.nm 4) (.cons (.nm 5) (.cons (.nm 6) .nil)))) lbody (b.map arcD) (EL sp fd ad (runsA a) x4 x5 x6 x7) (EL sp fd ad (runsA (a ++ b)) x4' x5' x6' x7)
  | [], a, x4, x5, x6, _, _ => ⟨x4, x5, x6, by rw [List.append_nil]; exact fn_nil⟩
  | z :: b, a, x4, x5, x6, ho, hlen => by
    obtain ⟨h1, h2⟩ := ho.mid rfl
    have hra := runs_len a
    have hal : a.length ≤ 1000000 := by rw [List.length_append] at hlen; omega
    have ho' : InOrd ((a ++ [z]) ++ b) := by rw [List.append_assoc]; exact ho
    obtain ⟨x4', x5', x6', ih⟩ := lfor (sp := sp) (fd := fd) (ad := ad) (x7 := x7) b (a ++ [z]) (.fz (natD z.1)) (.fz (natD z.2.1)) (.fz (natD z.2.2)) ho' (by rw [List.append_assoc]; exact hlen)
    rw [List.append_assoc] at ih
    have test : PT' F (.cmp .notin (.var 6) (.var 1)) (EL sp fd ad (runsA a) (.fz (natD z.1)) (.fz (natD z.2.1)) (.fz (natD z.2.2)) x7) (!decide (z.2.2 < (runsA a).length)) := ptb_cmp (pvb (pv_var rfl)) (pvb_own rfl) (nin_e _ _)
    refine ⟨x4', x5', x6', fn_cons (env1 := EL sp fd ad (runsA a) (.fz (natD z.1)) (.fz (natD z.2.1)) (.fz (natD z.2.2)) x7) (env2 := EL sp fd ad (runsA (a ++ [z])) (.fz (natD z.1)) (.fz (natD z.2.1)) (.fz (natD z.2.2)) x7) rfl ?_ ih⟩
    by_cases hj : z.2.2 < (runsA a).length
    · rw [decide_eq_true hj] at test
      have e : runsA (a ++ [z]) = runsA a := by
        rw [runsA_snoc]
        unfold runs1
        rw [if_neg (by omega)]
      rw [e]
      exact pn_one (st_if0 test)
    · rw [decide_eq_false hj] at test
      have hj2 : z.2.2 = (runsA a).length := by omega
      have e : runsA (a ++ [z]) = runsA a ++ [(runsA a)[z.1] ++ [z.2.1]] := by
        rw [runsA_snoc]
        unfold runs1
        rw [if_pos hj2, List.getElem?_eq_getElem h1]; rfl
      have hrl : ((runsA a)[z.1]).length ≤ 1000001 := by
        have := runs_le (ho.pre (a := a) rfl) _ (List.getElem_mem h1)
        omega
      refine pn_one (st_ifT test (pn_one ?_))
      have hval : PV F (.bin .add (.idx (.var 1) (.var 4)) (.tup (.cons (.var 5) .nil))) (EL sp fd ad (runsA a) (.fz (natD z.1)) (.fz (natD z.2.1)) (.fz (natD z.2.2)) x7) (natsT ((runsA a)[z.1] ++ [z.2.1])) := by
        refine pv_bin (d2 := .tuple [natD z.2.1]) (pvb_idx (pvb_own rfl) (pvb (pv_var rfl)) (idx_tab kenc_nat (look_e h1))) (pv_tup (pl_cons (pv_var rfl) pl_nil) rfl) ?_
        show (if okLen ((((runsA a)[z.1]).map natD).length + 1) then some (PyData.tuple (((runsA a)[z.1]).map natD ++ [natD z.2.1])) else none) = _
        rw [List.length_map, if_pos (by unfold okLen; rw [decide_eq_true_eq]; omega), ← map_snoc]
      have hset : setD (edct (runsA a)) (natD z.2.2) (natsT ((runsA a)[z.1] ++ [z.2.1])) = some (edct (runsA (a ++ [z]))) := by
        show dputD (dmk false (tabP natD (etab (runsA a)))) (natD z.2.2) _ = _
        rw [dput_new kenc_nat (by rw [etab_keys, List.mem_range]; exact hj) (by rw [etab_len]; omega), e]
        show _ = some (dmk false (tabP natD (etab (runsA a ++ [(runsA a)[z.1] ++ [z.2.1]]))))
        rw [etab_snoc, hj2]
      exact st_setI (i := 1) rfl hval (pv_var rfl) hset
theorem pb_runs {f : List Mk} {a : List Arc} (ho : InOrd a) (hl : (runsA a).length = f.length) (ha : a.length ≤ 1000000) : PB F W lall [.fz (spaceD f a), .un, .un, .un, .un, .un, .un, .un] (.tuple ((runsA a).map natsT)) := by
  obtain ⟨x4, x5, x6, h⟩ := lfor (F := F) (W := W) (sp := spaceD f a) (fd := .tuple (f.map intsT)) (ad := .tuple (a.map arcD)) (x7 := .un) a [] .un .un .un ho ha
  rw [List.nil_append] at h
  refine pb_st (env1 := [.fz (spaceD f a), .un, .fz (.tuple (f.map intsT)), .fz (.tuple (a.map arcD)), .un, .un, .un, .un]) (st_asg (pv_var rfl) rfl) (pb_st (env1 := EL (spaceD f a) (.tuple (f.map intsT)) (.tuple (a.map arcD)) (runsA []) .un .un .un .un) (st_own (i := 1) (pv_dct1 (t := false) pv_con (pv_tup pl_nil rfl) rfl)) (pb_st (st_for (pi_seq' (pv_var rfl) rfl) h) (pb_ret (pv_bf (pl_cons (pv_lcA (as := List.range (runsA a).length) (enc := natD) (g := fun k => natsT ((runsA a)[k]?.getD [])) (pi_rlen (pv_var rfl) (by rw [hl]; exact len_map)) fun k hk => ⟨_, rfl, ?_⟩) pl_nil) ?_))))
  · have hk := List.mem_range.mp hk
    refine pvb_idx (pvb_own rfl) (pvb (pv_var rfl)) (idx_tab kenc_nat ?_)
    rw [look_e hk, List.getElem?_eq_getElem hk]; rfl
  · show some (PyData.tuple _) = some (PyData.tuple _)
    congr 2
    refine List.ext_getElem? fun i => ?_
    rw [List.getElem?_map, List.getElem?_map]
    by_cases hi : i < (runsA a).length
    · rw [List.getElem?_range hi, List.getElem?_eq_getElem hi]
      show some (natsT ((runsA a)[i]?.getD [])) = _
      rw [List.getElem?_eq_getElem hi]; rfl
    · rw [List.getElem?_eq_none (by simpa using hi), List.getElem?_eq_none (by simpa using hi)]; rfl
end
/-- found by its first -/
def fnd (l : List (Mk × List Nat)) (g : Mk) : Option (List Nat) := (l.find? fun p => decide (p.1 = g)).map (·.2)
def optN : Option (List Nat) → D
  | none => .none
  | some r => natsT r
theorem look_fnd (g : Mk) : ∀ l : List (Mk × List Nat), lookL (l.map fun p => (p.1, natsT p.2)) g = (fnd l g).map natsT
  | [] => rfl
  | p :: l => by
    have ih := look_fnd g l
    unfold lookL fnd at ih ⊢
    rw [List.map_cons, List.find?_cons, List.find?_cons]
    by_cases h : p.1 = g
    · rw [decide_eq_true h]; rfl
    · rw [decide_eq_false h]; exact ih
theorem shal_optN (o : Option (List Nat)) : Shal 1 (optN o) := by
  cases o with
  | none => exact shal_none.mono (by omega)
  | some r => exact shal_nats r
theorem zip2_enc {α β : Type} (e1 : α → D) (e2 : β → D) : ∀ (f : List α) (R : List β), zip2 (f.map e1) (R.map e2) = (f.zip R).map fun p => .tuple [e1 p.1, e2 p.2]
  | [], _ => rfl
  | _ :: _, [] => rfl
  | x :: f, y :: R => by
    have ih := zip2_enc e1 e2 f R
    unfold zip2 at ih ⊢
    rw [List.map_cons, List.map_cons, List.zipWith_cons_cons, ih, List.zip_cons_cons, List.map_cons]
end Ly

set_option Elab.async false
set_option linter.all false
set_option maxRecDepth 100000
set_option maxHeartbeats 2000000
namespace K01
open PySem PySem.Spec PyProof.Rows L2 Ly
theorem r7 {c : Nat} {f : List Mk} {a : List Arc} (ho : InOrd a) (hl : (runsA a).length = f.length) (ha : a.length ≤ 1000000) : PF (Fk (c + 1)) 7 [spaceD f a] (.tuple ((runsA a).map natsT)) := pf_run b7 rfl (pb_runs ho hl ha)
section
variable {c : Nat} {n : Nt} (ok : n.Ok) {most : Nat} (h1 : 1 ≤ most) (hmost : most ≤ 900) {m0 : Mk} (hm0 : m0.length = n.L) (g : Mk)
abbrev gbody : Sts := .cons (.ifs (.cmp .eq (.var 5) (.var 2)) (.cons (.ret (.var 6)) .nil) .nil) .nil
theorem gfor {F : Nat → List D → Dr → Oc} {e0 e1 e3 e4 : D} : ∀ (l : List (Mk × List Nat)) (x5 x6 : Sl), match fnd l g with
    | some r => FR F Wf (.tup (.cons (.nm 5) (.cons (.nm 6) .nil))) gbody (l.map fun p => .tuple [intsT p.1, natsT p.2]) [.fz e0, .fz e1, .fz (intsT g), .fz e3, .fz e4, x5, x6] (natsT r)
    | none => ∃ x5' x6', FN F Wf (.tup (.cons (.nm 5) (.cons (.nm 6) .nil))) gbody (l.map fun p => .tuple [intsT p.1, natsT p.2]) [.fz e0, .fz e1, .fz (intsT g), .fz e3, .fz e4, x5, x6] [.fz e0, .fz e1, .fz (intsT g), .fz e3, .fz e4, x5', x6']
  | [], x5, x6 => ⟨x5, x6, fn_nil⟩
  | p :: l, x5, x6 => by
    have ih := gfor (F := F) (e0 := e0) (e1 := e1) (e3 := e3) (e4 := e4) l (.fz (intsT p.1)) (.fz (natsT p.2))
    have test : PT' F (.cmp .eq (.var 5) (.var 2)) [.fz e0, .fz e1, .fz (intsT g), .fz e3, .fz e4, .fz (intsT p.1), .fz (natsT p.2)] (decide (p.1 = g)) := pt_cmp' (pv_var rfl) (pv_var rfl) (eq_intsT _ _)
    unfold fnd at ih ⊢
    rw [List.find?_cons]
    by_cases h : p.1 = g
    · rw [decide_eq_true h] at test ⊢
      exact fr_here (env1 := [.fz e0, .fz e1, .fz (intsT g), .fz e3, .fz e4, .fz (intsT p.1), .fz (natsT p.2)]) rfl (pb_ifT test (pb_ret (pv_var rfl)))
    · rw [decide_eq_false h] at test ⊢
      dsimp only
      have hb : PN F Wf gbody [.fz e0, .fz e1, .fz (intsT g), .fz e3, .fz e4, .fz (intsT p.1), .fz (natsT p.2)] [.fz e0, .fz e1, .fz (intsT g), .fz e3, .fz e4, .fz (intsT p.1), .fz (natsT p.2)] := pn_one (st_if0 test)
      generalize Option.map (fun x : Mk × List Nat => x.2) (l.find? fun p => decide (p.1 = g)) = o at ih ⊢
      cases o with
      | some r => exact fr_cons rfl hb ih
      | none =>
        obtain ⟨y5, y6, ih⟩ := ih
        exact ⟨y5, y6, fn_cons rfl hb ih⟩
include ok h1 hmost hm0
theorem r8 : match (walk n (cans n) most m0 most).bind fun p => fnd (p.1.zip (runsA p.2)) g with
    | some r => PF (Fk (c + 7)) 8 [n.d, intsT m0, intsT g, natD most] (natsT r)
    | none => PX (Fk (c + 7)) 8 [n.d, intsT m0, intsT g, natD most] 0 := by
  have h := r6 (c := c) ok h1 hmost hm0
  have hl : PLs (Fk (c + 6)) (.cons (.var 0) (.cons (.var 1) (.cons (.var 3) .nil))) [.fz n.d, .fz (intsT m0), .fz (intsT g), .fz (natD most), .un, .un, .un] [n.d, intsT m0, natD most] := pl_cons (pv_var rfl) (pl_cons (pv_var rfl) (pl_cons (pv_var rfl) pl_nil))
  cases hw : walk n (cans n) most m0 most with
  | none =>
    rw [hw] at h
    exact px_run b8 rfl (pbx_asg hl h)
  | some fa =>
    obtain ⟨f, a⟩ := fa
    rw [hw] at h
    obtain ⟨ho, hrl⟩ := walk_runs hw
    have hal := walk_alen h1 hm0 (fun m' hm' => cans_len ok (m := m')) hw
    have hle := (walk_spec h1 hw).le
    have hz : PIt (Fk (c + 6)) (.zip (.cons (.idx (.var 4) (.con (.int 0))) (.cons (.call 7 (.cons (.var 4) .nil)) .nil))) [.fz n.d, .fz (intsT m0), .fz (intsT g), .fz (natD most), .fz (spaceD f a), .un, .un] ((f.zip (runsA a)).map fun p => .tuple [intsT p.1, natsT p.2]) := by
      refine pi_zip' (pl_cons (pv_idx (pv_var rfl) pv_con rfl) (pl_cons (pv_call (pl_cons (pv_var rfl) pl_nil) (r7 (c := c + 5) ho hrl (by omega))) pl_nil)) ?_
      show some (zip2 (f.map intsT) ((runsA a).map natsT)) = _
      rw [zip2_enc]
    have hg := gfor (g := g) (F := Fk (c + 6)) (e0 := n.d) (e1 := intsT m0) (e3 := natD most) (e4 := spaceD f a) (f.zip (runsA a)) .un .un
    show match fnd (f.zip (runsA a)) g with
      | some r => PF (Fk (c + 7)) 8 [n.d, intsT m0, intsT g, natD most] (natsT r)
      | none => PX (Fk (c + 7)) 8 [n.d, intsT m0, intsT g, natD most] 0
    have hst : STm (Fk (c + 6)) Wf (.asg (.nm 4) (.call 6 (.cons (.var 0) (.cons (.var 1) (.cons (.var 3) .nil))))) [.fz n.d, .fz (intsT m0), .fz (intsT g), .fz (natD most), .un, .un, .un] [.fz n.d, .fz (intsT m0), .fz (intsT g), .fz (natD most), .fz (spaceD f a), .un, .un] := st_asg (pv_call hl h) rfl
    generalize fnd (f.zip (runsA a)) g = o at hg ⊢
    cases o with
    | some r => exact pf_run b8 rfl (pb_st hst (pb_forR hz hg))
    | none =>
      obtain ⟨y5, y6, hg⟩ := hg
      exact px_run b8 rfl (pbx_st hst (pbx_forN hz hg pbx_rai))
def spO : Option (List Mk × List Arc) → D
  | some (f, a) => spaceD f a
  | none => .none
theorem r21a : PF (Fk (c + 8)) 21 [.int 0, n.d, intsT m0, intsT g, natD most] (spO (walk n (cans n) most m0 most)) := by
  have h := r6 (c := c + 1) ok h1 hmost hm0
  have hl : PLs (Fk (c + 7)) (.cons (.var 1) (.cons (.var 2) (.cons (.var 4) .nil))) [.fz (.int 0), .fz n.d, .fz (intsT m0), .fz (intsT g), .fz (natD most)] [n.d, intsT m0, natD most] := pl_cons (pv_var rfl) (pl_cons (pv_var rfl) (pl_cons (pv_var rfl) pl_nil))
  have ht : PT' (Fk (c + 7)) (.cmp .eq (.var 0) (.con (.int 0))) [.fz (.int 0), .fz n.d, .fz (intsT m0), .fz (intsT g), .fz (natD most)] true := pt_cmp' (pv_var rfl) pv_con rfl
  refine pf_run b21 rfl ?_
  revert h
  cases hw : walk n (cans n) most m0 most with
  | none => exact fun h => pb_try_err (pbx_retX (pvx_iteT ht (pvx_call hl h)))
  | some fa =>
    obtain ⟨f, a⟩ := fa
    exact fun h => pb_try_rt (pb_ret (pv_ite (k := true) ht (fun _ => pv_call hl h) (fun h => by cases h)))
theorem r21b : PF (Fk (c + 8)) 21 [.int 1, n.d, intsT m0, intsT g, natD most] (optN ((walk n (cans n) most m0 most).bind fun p => fnd (p.1.zip (runsA p.2)) g)) := by
  have h := r8 (c := c) ok h1 hmost hm0 g
  have hl : PLs (Fk (c + 7)) (.cons (.var 1) (.cons (.var 2) (.cons (.var 3) (.cons (.var 4) .nil)))) [.fz (.int 1), .fz n.d, .fz (intsT m0), .fz (intsT g), .fz (natD most)] [n.d, intsT m0, intsT g, natD most] := pl_cons (pv_var rfl) (pl_cons (pv_var rfl) (pl_cons (pv_var rfl) (pl_cons (pv_var rfl) pl_nil)))
  have ht : PT' (Fk (c + 7)) (.cmp .eq (.var 0) (.con (.int 0))) [.fz (.int 1), .fz n.d, .fz (intsT m0), .fz (intsT g), .fz (natD most)] false := pt_cmp' (pv_var rfl) pv_con rfl
  refine pf_run b21 rfl ?_
  revert h
  cases (walk n (cans n) most m0 most).bind fun p => fnd (p.1.zip (runsA p.2)) g with
  | none => exact fun h => pb_try_err (pbx_retX (pvx_iteF ht (pvx_call hl h)))
  | some r => exact fun h => pb_try_rt (pb_ret (pv_ite (k := false) ht (fun h => by cases h) (fun _ => pv_call hl h)))
end
/-! ### greatest -/
def mxI (l : List Int) : Int := l.tail.foldl max (l.headD 0)
def mxAt (f : List Mk) (p : Nat) : Int := mxI (f.map fun m => at' m p)
theorem maxD_ints {l : List Int} (h : l ≠ []) (c : List D → D) (hc : ∀ ds, seqD (c ds) = some ds) (hc2 : ∀ ds, bfD .max [c ds] = (seqD (c ds)).bind maxD) : bfD .max [c (l.map .int)] = some (.int (mxI l)) := by
  rw [hc2, hc]
  show maxD (l.map .int) = _
  cases l with
  | nil => exact absurd rfl h
  | cons x l =>
    have := intsD_ints (x :: l)
    rw [List.map_cons] at this
    rw [List.map_cons]
    unfold maxD
    dsimp only
    rw [this]
    rfl
theorem r13 {c : Nat} {f : List Mk} {a : List Arc} {L : Nat} (hne : f ≠ []) (hL : ∀ m ∈ f, m.length = L) : PF (Fk (c + 1)) 13 [spaceD f a] (intsT (rw' L (mxAt f))) := by
  have hit : PIt (Fk c) (.zst (.var 1)) [.fz (spaceD f a), .fz (.tuple (f.map intsT)), .un] ((List.range L).map fun p => intsT (f.map fun m => at' m p)) := pi_zst' (pv_var rfl) (zst_ints hne hL)
  refine pf_run b13 rfl (pb_st (env1 := [.fz (spaceD f a), .fz (.tuple (f.map intsT)), .un]) (st_asg (pv_idx (pv_var rfl) pv_con rfl) rfl) (pb_ret (pv_bf (pl_cons (pv_lcA (as := List.range L) (enc := fun p => intsT (f.map fun m => at' m p)) (g := fun p => .int (mxAt f p)) hit fun p hp => ⟨_, rfl, pv_bf (pl_cons (pv_var rfl) pl_nil) (maxD_ints (by simpa using hne) .tuple (fun _ => rfl) (fun _ => rfl))⟩) pl_nil) rwT)))
end K01

set_option Elab.async false
set_option linter.all false
set_option maxRecDepth 100000
set_option maxHeartbeats 4000000
namespace K01
open PySem PySem.Spec PyProof.Rows L2 Ly
abbrev qT : Sts := (.cons (.ret (.cmp .eq (.con (.int 300)) (.con (.int 300)))) .nil)
abbrev q17 : Sts := .nil
abbrev q16 : Sts := .cons (.ifs (.or (.cmp .ne (.call 13 (.cons (.var 13) .nil)) (.bf .tuple (.cons (.lc [19] (.nm 19) (.rlen (.idx (.var 3) (.con (.int 0)))) .nil (.bf .max (.cons (.lc [17] (.nm 17) (.seq (.var 11)) .nil (.idx (.var 17) (.var 19))) .nil))) .nil))) (.not (.bf (.isi .tuple) (.cons (.call 11 (.cons (.var 13) .nil)) .nil)))) (.cons (.ret (.con (.bool false))) .nil) .nil) q17
abbrev q15 : Sts := .cons (.ifs (.or (.cmp .ne (.call 11 (.cons (.var 13) .nil)) (.bf .tuple (.cons (.var 8) .nil))) (.cmp .ne (.call 12 (.cons (.var 13) .nil)) (.bf .tuple (.cons (.lc [18] (.nm 18) (.seq (.var 8)) (.cons (.cmp .eq (.idx (.var 6) (.idx (.var 18) (.con (.int 0)))) (.bf .list (.cons (.var 18) .nil))) .nil) (.var 18)) .nil)))) (.cons (.ret (.con (.bool false))) .nil) .nil) q16
abbrev q14 : Sts := .cons (.asg (.nm 8) (.lc [15] (.nm 15) (.rng (.cons (.var 14) .nil)) (.cons (.cmp .eq (.idx (.idx (.var 7) (.var 15)) (.con (.int 0))) (.var 15)) .nil) (.idx (.var 7) (.var 15)))) q15
abbrev q13 : Sts := .cons (.asg (.nm 7) (.lc [15] (.nm 15) (.rng (.cons (.var 14) .nil)) .nil (.bf .tuple (.cons (.lc [16] (.nm 16) (.seq (.idx (.var 6) (.var 15))) (.cons (.cmp .isin (.var 15) (.idx (.var 6) (.var 16))) .nil) (.var 16)) .nil)))) q14
abbrev q12 : Sts := .cons (.ifs (.cmp .ne (.lc [15] (.nm 15) (.rng (.cons (.var 14) .nil)) (.cons (.or (.cmp .ne (.call 10 (.cons (.var 13) (.cons (.var 15) .nil))) (.bf .tuple (.cons (.idx (.var 6) (.var 15)) .nil))) (.cmp .ne (.call 9 (.cons (.var 13) (.cons (.var 15) .nil))) (.bf .tuple (.cons (.lc [20, 21, 16] (.tup (.cons (.nm 20) (.cons (.nm 21) (.cons (.nm 16) .nil)))) (.seq (.var 5)) (.cons (.cmp .eq (.var 20) (.var 15)) .nil) (.tup (.cons (.var 21) (.cons (.var 16) .nil)))) .nil)))) .nil) (.var 15)) (.lst .nil)) (.cons (.ret (.con (.bool false))) .nil) .nil) q13
abbrev q11 : Sts := .cons (.asg (.nm 6) (.lc [15] (.nm 15) (.rng (.cons (.var 14) .nil)) .nil (.call 20 (.cons (.var 5) (.cons (.var 15) .nil))))) q12
abbrev q10 : Sts := .cons (.ifs (.cmp .ne (.call 21 (.cons (.con (.int 1)) (.cons (.var 3) (.cons (.var 9) (.cons (.var 10) (.cons (.con (.int 40)) .nil)))))) (.dg1 (.var 12) (.var 10))) (.cons (.ret (.con (.bool false))) .nil) .nil) q11
abbrev q9 : Sts := .cons (.ifs (.and (.cmp .gt (.var 14) (.con (.int 1))) (.cmp .isnot (.call 21 (.cons (.con (.int 0)) (.cons (.var 3) (.cons (.var 9) (.cons (.var 10) (.cons (.bin .sub (.var 14) (.con (.int 1))) .nil)))))) (.con .none))) (.cons (.ret (.con (.bool false))) .nil) .nil) q10
abbrev q8 : Sts := .cons (.ifs (.or (.cmp .ne (.var 13) (.tup (.cons (.bf .tuple (.cons (.var 11) .nil)) (.cons (.bf .tuple (.cons (.var 5) .nil)) .nil)))) (.or (.cmp .ne (.call 7 (.cons (.var 13) .nil)) (.bf .tuple (.cons (.lc [17] (.nm 17) (.seq (.var 11)) .nil (.idx (.var 12) (.var 17))) .nil))) (.cmp .ne (.call 21 (.cons (.con (.int 0)) (.cons (.var 3) (.cons (.var 9) (.cons (.var 10) (.cons (.var 14) .nil)))))) (.var 13)))) (.cons (.ret (.con (.bool false))) .nil) .nil) q9
abbrev q7 : Sts := .cons (.asg (.nm 5) (.call 19 (.cons (.var 3) (.cons (.var 11) .nil)))) q8
abbrev q6 : Sts := .cons (.par [(13, false), (14, false)] (.cons (.call 6 (.cons (.var 3) (.cons (.var 9) (.cons (.con (.int 40)) .nil)))) (.cons (.bf .len (.cons (.var 11) .nil)) .nil))) q7
abbrev q5 : Sts := .cons (.asg (.tup (.cons (.nm 11) (.cons (.nm 12) .nil))) (.var 4)) q6
abbrev q4 : Sts := .cons (.ifs (.cmp .is (.var 4) (.con .none)) (.cons .cnt .nil) .nil) q5
abbrev q3 : Sts := .cons (.ifs (.cmp .ne (.cmp .is (.call 21 (.cons (.con (.int 0)) (.cons (.var 3) (.cons (.var 9) (.cons (.var 10) (.cons (.con (.int 40)) .nil)))))) (.con .none)) (.cmp .is (.var 4) (.con .none))) (.cons (.ret (.con (.bool false))) .nil) .nil) q4
abbrev q2 : Sts := .cons (.asg (.nm 4) (.call 18 (.cons (.var 3) (.cons (.var 9) (.cons (.con (.int 40)) .nil))))) q3
abbrev q1 : Sts := .cons (.par [(9, false), (10, false)] (.cons (.call 15 (.cons (.var 1) (.cons (.var 3) (.cons (.con (.int 2)) .nil)))) (.cons (.call 15 (.cons (.var 1) (.cons (.var 3) (.cons (.con (.int 2)) .nil)))) .nil))) q2
abbrev q0 : Sts := .cons (.asg (.nm 3) (.call 14 (.cons (.var 1) (.cons (.con (.int 4)) .nil)))) q1
theorem bL2 : lawB = .cons (.for (.nm 2) (.rng (.cons (.con (.int 3)) .nil)) q0) qT := bL
abbrev E (x2 x3 x4 x5 x6 x7 x8 x9 x10 x11 x12 x13 x14 x15 x16 x17 x18 x19 x20 x21 : Sl) : List Sl := [.un, .fz drw, x2, x3, x4, x5, x6, x7, x8, x9, x10, x11, x12, x13, x14, x15, x16, x17, x18, x19, x20, x21]
def AnyE (e : List Sl) : Prop := ∃ x2 x3 x4 x5 x6 x7 x8 x9 x10 x11 x12 x13 x14 x15 x16 x17 x18 x19 x20 x21, e = E x2 x3 x4 x5 x6 x7 x8 x9 x10 x11 x12 x13 x14 x15 x16 x17 x18 x19 x20 x21
/-- the law's rows of what is come to -/
noncomputable def RD (a : List Arc) (N : Nat) : D := .list (((List.range N).map (rch a N)).map lsD)
theorem idx_RD {a : List Arc} {N k : Nat} (hk : k < N) : idxD (RD a N) (natD k) = some (lsD (rch a N k)) := at_map (e := lsD) (by rw [List.getElem?_map, List.getElem?_range hk]; rfl)
section
variable {n : Nt} (ok : n.Ok) {m g : Mk} (hm : m.length = n.L) (hg : g.length = n.L) {Q : Fl → List Sl → Prop} (hq : ∀ e, AnyE e → Q .nx e ∧ Q .ct e)
include ok hm hg hq
theorem L11 (x2 x3 x4 x5 x6 x7 x8 x9 x10 x11 x12 x13 x14 x15 x16 x17 x18 x19 x20 x21 : Sl) {f : List Mk} {a : List Arc} (hw : walk n (cans n) 40 m 40 = some (f, a)) : GS (Fk 13) Wf q11 (E x2 (.fz n.d) (.fz (.tuple [.list (f.map intsT), rdct (RlA f a)])) (.fz (.list (a.map arcD))) x6 x7 x8 (.fz (intsT m)) (.fz (intsT g)) (.fz (.list (f.map intsT))) (.fz (rdct (RlA f a))) (.fz (spaceD f a)) (.fz (natD f.length)) x15 x16 x17 x18 x19 x20 x21) Q := by
  obtain ⟨ex, hN⟩ := walk_expl (by omega) hw
  have hl := expl_len ok hm ex
  have hal := walk_alen (by omega) hm (fun m' hm' => cans_len ok (m := m')) hw
  have ha : ∀ i t j, (i, t, j) ∈ a → j < f.length := fun i t j h => by
    obtain ⟨_, _, _, h⟩ := (ex.ar i t j).mp h
    exact (List.getElem?_eq_some_iff.mp h).1
  have ha60 : ∀ i t j, (i, t, j) ∈ a → j < 60 := fun i t j h => by
    have := ha i t j h
    omega
  have hne : f ≠ [] := fun e => by
    have := ex.h0
    rw [e] at this
    cases this
  have hrg : ∀ {env : List Sl}, env[14]? = some (.fz (natD f.length)) → PIt (Fk 13) (.rng (.cons (.var 14) .nil)) env ((List.range f.length).map natD) := fun h => pi_rng (pl_cons (pv_var h) pl_nil) (rng1 _ (by omega))
  refine gs_st (env1 := E x2 (.fz n.d) (.fz (.tuple [.list (f.map intsT), rdct (RlA f a)])) (.fz (.list (a.map arcD))) (.fz (RD a f.length)) x7 x8 (.fz (intsT m)) (.fz (intsT g)) (.fz (.list (f.map intsT))) (.fz (rdct (RlA f a))) (.fz (spaceD f a)) (.fz (natD f.length)) x15 x16 x17 x18 x19 x20 x21) (st_asg (pv_as (pv_lcA (as := List.range f.length) (enc := natD) (g := fun k => lsD (rch a f.length k)) (hrg rfl) fun k hk => ⟨_, rfl, pv_call (pl_cons (pv_var rfl) (pl_cons (pv_var rfl) pl_nil)) (r20 (k := 12) (N := f.length) (by omega) ha60 (by have := List.mem_range.mp hk; omega) (by omega) ha (List.mem_range.mp hk))⟩) (by unfold RD; rw [List.map_map]; rfl)) rfl) ?_
  refine gs_if0 (pt_cmp' (o := .ne) (pv_lcN (as := List.range f.length) (enc := natD) (hrg rfl) fun k hk => ⟨_, rfl, pc_one (pt_orF (pt_neS (pv_call (pl_cons (pv_var rfl) (pl_cons (pv_var rfl) pl_nil)) (r10 (c := 12) (f := f) rfl (by omega) (by omega) ha (List.mem_range.mp hk))) (pv_bf (pl_cons (pv_idx (pv_var rfl) (pv_var rfl) (idx_RD (List.mem_range.mp hk))) pl_nil) rfl) (shal_nats _) (by omega)) (pt_neS (pv_call (pl_cons (pv_var rfl) (pl_cons (pv_var rfl) pl_nil)) (r9 (c := 12) f a k)) (pv_bf (pl_cons (pv_lc (as := a) (enc := arcD) (g := fun z => .tuple [natD z.2.1, natD z.2.2]) (p := fun z => decide (z.1 = k)) (pi_seq' (pv_var rfl) rfl) fun z hz => ⟨_, rfl, pc_one (pt_cmp' (d1 := natD z.1) (d2 := natD k) (pv_var rfl) (pv_var rfl) (eqD_enc eqEnc_nat sh0 (k := 0) (by omega) z.1 k)), fun _ => pv_tup (pl_cons (pv_var rfl) (pl_cons (pv_var rfl) pl_nil)) rfl⟩) pl_nil) rfl) (k := 2) ?_ (by omega)))⟩) pv_nilL nil_ne) ?_
  · refine shal_tup fun d hd => ?_
    obtain ⟨z, _, rfl⟩ := List.mem_map.mp hd
    refine shal_tup fun d hd => ?_
    simp only [List.mem_cons, List.not_mem_nil, or_false] at hd
    rcases hd with rfl | rfl <;> exact shal_int
  refine gs_st (env1 := E x2 (.fz n.d) (.fz (.tuple [.list (f.map intsT), rdct (RlA f a)])) (.fz (.list (a.map arcD))) (.fz (RD a f.length)) (.fz (.list (((List.range f.length).map (knt a f.length)).map natsT))) x8 (.fz (intsT m)) (.fz (intsT g)) (.fz (.list (f.map intsT))) (.fz (rdct (RlA f a))) (.fz (spaceD f a)) (.fz (natD f.length)) x15 x16 x17 x18 x19 x20 x21) (st_asg (pv_as (pv_lcA (as := List.range f.length) (enc := natD) (g := fun k => natsT (knt a f.length k)) (hrg rfl) fun k hk => ⟨_, rfl, pv_knt (R := RD a f.length) (fun j hj => .inr (idx_RD hj)) (List.mem_range.mp hk) rfl rfl (by show 16 < 22; omega) (by decide) (by decide)⟩) (by rw [List.map_map]; rfl)) rfl) ?_
  have hidx0 : ∀ k, k < f.length → idxD (natsT (knt a f.length k)) (.int 0) = some (natD ((knt a f.length k).headD 0)) := fun k hk => by
    have := knt_self (a := a) hk
    cases e : knt a f.length k with
    | nil => rw [e] at this; cases this
    | cons y r => exact at0
  have hidxK : ∀ k, k < f.length → idxD (.list (((List.range f.length).map (knt a f.length)).map natsT)) (natD k) = some (natsT (knt a f.length k)) := fun k hk => at_map (e := natsT) (by rw [List.getElem?_map, List.getElem?_range hk]; rfl)
  refine gs_st (env1 := E x2 (.fz n.d) (.fz (.tuple [.list (f.map intsT), rdct (RlA f a)])) (.fz (.list (a.map arcD))) (.fz (RD a f.length)) (.fz (.list (((List.range f.length).map (knt a f.length)).map natsT))) (.fz (.list ((firsts a f.length).map natsT))) (.fz (intsT m)) (.fz (intsT g)) (.fz (.list (f.map intsT))) (.fz (rdct (RlA f a))) (.fz (spaceD f a)) (.fz (natD f.length)) x15 x16 x17 x18 x19 x20 x21) (st_asg (pv_as (pv_lc (as := List.range f.length) (enc := natD) (g := fun k => natsT (knt a f.length k)) (p := isHd a f.length) (hrg rfl) fun k hk => ⟨_, rfl, pc_one (pt_cmp' (d1 := natD ((knt a f.length k).headD 0)) (d2 := natD k) (pv_idx (pv_idx (pv_var rfl) (pv_var rfl) (hidxK k (List.mem_range.mp hk))) pv_con (hidx0 k (List.mem_range.mp hk))) (pv_var rfl) (eqD_enc eqEnc_nat sh0 (k := 0) (by omega) _ k)), fun _ => pv_idx (pv_var rfl) (pv_var rfl) (hidxK k (List.mem_range.mp hk))⟩) (by unfold firsts fl; rw [List.map_map]; rfl)) rfl) ?_
  have hall : ∀ K ∈ firsts a f.length, ∃ k, k < f.length ∧ K = knt a f.length k := fun K hK => by
    obtain ⟨k, hk, rfl⟩ := List.mem_map.mp hK
    exact ⟨k, (mem_fl.mp hk).1, rfl⟩
  have r11' := r11 (c := 11) (f := f) rfl (by omega) (by omega) ha
  refine gs_if0 (pt_orF (pt_neS (k := 2) (pv_call (pl_cons (pv_var rfl) pl_nil) r11') (pv_bf (pl_cons (pv_var rfl) pl_nil) rfl) (shal_tup (shal_map shal_nats _)) (by omega)) (pt_neS (k := 2) (pv_call (pl_cons (pv_var rfl) pl_nil) (r12 (c := 10) (f := f) rfl (by omega) (by omega) ha)) (pv_bf (pl_cons (pv_lc (as := firsts a f.length) (enc := natsT) (g := natsT) (p := fun K => decide (rch a f.length (K.headD 0) = K)) (pi_seq' (pv_var rfl) rfl) fun K hK => ⟨_, rfl, pc_one ?_, fun _ => pv_var rfl⟩) pl_nil) rfl) (shal_tup (shal_map shal_nats _)) (by omega))) ?_
  · obtain ⟨k, hk, rfl⟩ := hall K hK
    obtain ⟨h1, _⟩ := hd_least (knt_asc a f.length k) (knt_self hk)
    exact pt_cmp' (pv_idx (pv_var rfl) (pv_idx (pv_var rfl) pv_con (hidx0 k hk)) (idx_RD ((mem_knt hk).mp h1).1)) (pv_bf (d := lsD (knt a f.length k)) (pl_cons (pv_var rfl) pl_nil) rfl) (eq_ls _ _)
  refine gs_if0 (pt_orF (pt_neI (pv_call (pl_cons (pv_var rfl) pl_nil) (r13 (c := 12) hne hl)) (pv_bf (pl_cons (pv_lcA (as := List.range n.L) (enc := natD) (g := fun p => .int (mxAt f p)) (pi_rlen (pv_places (pv_var rfl)) len_map) fun p hp => ⟨_, rfl, pv_bf (pl_cons (pv_as (pv_lcA (as := f) (enc := intsT) (g := fun o => .int (at' o p)) (pi_seq' (pv_var rfl) rfl) fun o ho => ⟨_, rfl, pv_ent (pv_var rfl) (pv_var rfl) (by rw [hl o ho]; exact List.mem_range.mp hp)⟩) ?_) pl_nil) (maxD_ints (l := f.map fun o => at' o p) (by simpa using hne) .list (fun _ => rfl) (fun _ => rfl))⟩) pl_nil) rwT)) (pt_not' (k := true) (pt_bf (pl_cons (pv_call (pl_cons (pv_var rfl) pl_nil) r11') pl_nil) rfl rfl))) (gs_nil (hq _ ⟨_, _, _, _, _, _, _, _, _, _, _, _, _, _, _, _, _, _, _, _, rfl⟩).1)
  rw [List.map_map]; rfl
theorem L5 (x2 x3 x4 x5 x6 x7 x8 x9 x10 x11 x12 x13 x14 x15 x16 x17 x18 x19 x20 x21 : Sl) {f : List Mk} {a : List Arc} (hw : walk n (cans n) 40 m 40 = some (f, a)) : GS (Fk 13) Wf q5 (E x2 (.fz n.d) (.fz (.tuple [.list (f.map intsT), rdct (RlA f a)])) x5 x6 x7 x8 (.fz (intsT m)) (.fz (intsT g)) x11 x12 x13 x14 x15 x16 x17 x18 x19 x20 x21) Q := by
  obtain ⟨ex, hN⟩ := walk_expl (by omega) hw
  have hl := expl_len ok hm ex
  have hal := walk_alen (by omega) hm (fun m' hm' => cans_len ok (m := m')) hw
  have ea := walk_arcs (by omega) hw
  obtain ⟨ho, hrl⟩ := walk_runs hw
  have hpos : 1 ≤ f.length := by
    have := (List.getElem?_eq_some_iff.mp ex.h0).1
    omega
  have h6 := r6 (c := 7) ok (most := 40) (by omega) (by omega) hm
  rw [hw] at h6
  have hr19 : PF (Fk 13) 19 [n.d, .list (f.map intsT)] (.list (a.map arcD)) := by
    have := r19 (c := 11) ok ex hl (by omega)
    rwa [← ea] at this
  refine gs_st (env1 := E x2 (.fz n.d) (.fz (.tuple [.list (f.map intsT), rdct (RlA f a)])) x5 x6 x7 x8 (.fz (intsT m)) (.fz (intsT g)) (.fz (.list (f.map intsT))) (.fz (rdct (RlA f a))) x13 x14 x15 x16 x17 x18 x19 x20 x21) (st_asg (pv_var rfl) rfl) (gs_st (env1 := E x2 (.fz n.d) (.fz (.tuple [.list (f.map intsT), rdct (RlA f a)])) x5 x6 x7 x8 (.fz (intsT m)) (.fz (intsT g)) (.fz (.list (f.map intsT))) (.fz (rdct (RlA f a))) (.fz (spaceD f a)) (.fz (natD f.length)) x15 x16 x17 x18 x19 x20 x21) (st_par (ds := [spaceD f a, natD f.length]) (pl_cons (pv_call (pl_cons (pv_var rfl) (pl_cons (pv_var rfl) (pl_cons (d := natD 40) pv_con pl_nil))) h6) (pl_cons (pv_bf (pl_cons (pv_var rfl) pl_nil) blenL) pl_nil)) rfl) (gs_st (env1 := E x2 (.fz n.d) (.fz (.tuple [.list (f.map intsT), rdct (RlA f a)])) (.fz (.list (a.map arcD))) x6 x7 x8 (.fz (intsT m)) (.fz (intsT g)) (.fz (.list (f.map intsT))) (.fz (rdct (RlA f a))) (.fz (spaceD f a)) (.fz (natD f.length)) x15 x16 x17 x18 x19 x20 x21) (st_asg (pv_call (pl_cons (pv_var rfl) (pl_cons (pv_var rfl) pl_nil)) hr19) rfl) ?_))
  have hjust : ∀ c, PF (Fk (c + 8)) 21 [.int 0, n.d, intsT m, intsT g, natD f.length] (spaceD f a) := fun c => by
    have := r21a (c := c) ok (most := f.length) hpos (by omega) hm g
    rwa [walk_just (by omega) hw] at this
  have hruns : PV (Fk 13) (.bf .tuple (.cons (.lc [17] (.nm 17) (.seq (.var 11)) .nil (.idx (.var 12) (.var 17))) .nil)) (E x2 (.fz n.d) (.fz (.tuple [.list (f.map intsT), rdct (RlA f a)])) (.fz (.list (a.map arcD))) x6 x7 x8 (.fz (intsT m)) (.fz (intsT g)) (.fz (.list (f.map intsT))) (.fz (rdct (RlA f a))) (.fz (spaceD f a)) (.fz (natD f.length)) x15 x16 x17 x18 x19 x20 x21) (.tuple ((runsA a).map natsT)) := by
    refine pv_bf (pl_cons (pv_as (pv_lcA (as := f.zip (runsA a)) (enc := fun p => intsT p.1) (g := fun p => natsT p.2) (pi_seq' (d := .list (f.map intsT)) (pv_var rfl) ?_) fun p hp => ⟨_, rfl, pv_idx (pv_var rfl) (pv_var rfl) (idx_tab kenc_ints ?_)⟩) (d' := .list ((runsA a).map natsT)) ?_) pl_nil) rfl
    · show some (f.map intsT) = _
      rw [show (fun p : Mk × List Nat => intsT p.1) = intsT ∘ Prod.fst from rfl, ← List.map_map, List.map_fst_zip (by rw [hrl]; exact Nat.le_refl _)]
    · obtain ⟨k, hk⟩ := List.mem_iff_getElem?.mp hp
      rw [List.getElem?_zip_eq_some] at hk
      exact lookL_zip ex.nd hk.1 hk.2
    · rw [show (fun p : Mk × List Nat => natsT p.2) = natsT ∘ Prod.snd from rfl, ← List.map_map, List.map_snd_zip (by rw [hrl]; exact Nat.le_refl _)]
  refine gs_if0 (pt_orF (pt_neS (k := 3) (pv_var rfl) (pv_tup (ds := [.tuple (f.map intsT), .tuple (a.map arcD)]) (pl_cons (pv_bf (pl_cons (pv_var rfl) pl_nil) rfl) (pl_cons (pv_bf (pl_cons (pv_var rfl) pl_nil) rfl) pl_nil)) rfl) (shal_space f a) (by omega)) (pt_orF (pt_neS (k := 2) (pv_call (pl_cons (pv_var rfl) pl_nil) (r7 (c := 12) ho hrl (by omega))) hruns (shal_tup (shal_map shal_nats _)) (by omega)) (pt_neS (k := 3) (pv_call (pl_cons pv_con (pl_cons (pv_var rfl) (pl_cons (pv_var rfl) (pl_cons (pv_var rfl) (pl_cons (pv_var rfl) pl_nil))))) (hjust 5)) (pv_var rfl) (shal_space f a) (by omega)))) ?_
  refine gs_if0 (pt_as (pt_and (p := decide (1 < f.length)) (q := false) (pt_cmp' (o := .gt) (d1 := natD f.length) (d2 := .int 1) (pv_var rfl) pv_con ?_) fun h1 => ?_) (Bool.and_false _)) ?_
  · show some (decide ((1 : Int) < (f.length : Int))) = _
    congr 1
    exact decide_eq_decide.mpr (by omega)
  · have h1 := of_decide_eq_true h1
    have hless := r21a (c := 5) ok (most := f.length - 1) (by omega) (by omega) hm g
    rw [walk_less (by omega) hw (by omega) (by omega)] at hless
    refine pt_cmp' (o := .isnot) (d1 := .none) (pv_call (pl_cons pv_con (pl_cons (pv_var rfl) (pl_cons (pv_var rfl) (pl_cons (pv_var rfl) (pl_cons (pv_bin (o := .sub) (d := natD (f.length - 1)) (pv_var rfl) pv_con ?_) pl_nil))))) hless) pv_con rfl
    show some (PyData.int ((f.length : Int) - 1)) = some (natD (f.length - 1))
    congr 2
    omega
  have hrun := r21b (c := 5) ok (most := 40) (by omega) (by omega) hm g
  rw [hw] at hrun
  refine gs_if0 (pt_neS (k := 1) (pv_call (pl_cons pv_con (pl_cons (pv_var rfl) (pl_cons (pv_var rfl) (pl_cons (pv_var rfl) (pl_cons (d := natD 40) pv_con pl_nil))))) hrun) (pv_as (pv_dg1 (pvb (pv_var rfl)) (pvb (pv_var rfl)) (isDct_tab kenc_ints _) (dget_tab kenc_ints (RlA f a) g)) ?_) (shal_optN _) (by omega)) (L11 ok hm hg hq x2 x3 x4 x5 x6 x7 x8 x9 x10 x11 x12 x13 x14 x15 x16 x17 x18 x19 x20 x21 hw)
  show (lookL (RlA f a) g).getD .none = optN (fnd (f.zip (runsA a)) g)
  unfold RlA
  rw [look_fnd]
  cases fnd (f.zip (runsA a)) g <;> rfl
theorem L2 (x2 x3 x4 x5 x6 x7 x8 x9 x10 x11 x12 x13 x14 x15 x16 x17 x18 x19 x20 x21 : Sl) : GS (Fk 13) Wf q2 (E x2 (.fz n.d) x4 x5 x6 x7 x8 (.fz (intsT m)) (.fz (intsT g)) x11 x12 x13 x14 x15 x16 x17 x18 x19 x20 x21) Q := by
  have h18 := r18' (c := 11) ok (most := 40) (by omega) (by omega) hm
  have h21 := r21a (c := 5) ok (most := 40) (by omega) (by omega) hm g
  have c40 : ∀ {env : List Sl}, PV (Fk 13) (.con (.int 40)) env (natD 40) := fun {env} => pv_con
  cases hw : walk n (cans n) 40 m 40 with
  | none =>
    rw [hw] at h18 h21
    exact gs_st (env1 := E x2 (.fz n.d) (.fz .none) x5 x6 x7 x8 (.fz (intsT m)) (.fz (intsT g)) x11 x12 x13 x14 x15 x16 x17 x18 x19 x20 x21) (st_asg (pv_call (pl_cons (pv_var rfl) (pl_cons (pv_var rfl) (pl_cons c40 pl_nil))) h18) rfl) (gs_if0 (pt_neB (k := true) (pv_cmp (o := .is) (pv_call (pl_cons pv_con (pl_cons (pv_var rfl) (pl_cons (pv_var rfl) (pl_cons (pv_var rfl) (pl_cons c40 pl_nil))))) h21) pv_con rfl) (pv_cmp (o := .is) (pv_var rfl) pv_con rfl)) (gs_if (gt (pt_cmp' (k := true) (o := .is) (pv_var rfl) pv_con rfl)) (fun _ => gs_cnt (hq _ ⟨_, _, _, _, _, _, _, _, _, _, _, _, _, _, _, _, _, _, _, _, rfl⟩).2) (fun h => by cases h)))
  | some fa =>
    obtain ⟨f, a⟩ := fa
    rw [hw] at h18 h21
    exact gs_st (env1 := E x2 (.fz n.d) (.fz (.tuple [.list (f.map intsT), rdct (RlA f a)])) x5 x6 x7 x8 (.fz (intsT m)) (.fz (intsT g)) x11 x12 x13 x14 x15 x16 x17 x18 x19 x20 x21) (st_asg (pv_call (pl_cons (pv_var rfl) (pl_cons (pv_var rfl) (pl_cons c40 pl_nil))) h18) rfl) (gs_if0 (pt_neB (k := false) (pv_cmp (o := .is) (pv_call (pl_cons pv_con (pl_cons (pv_var rfl) (pl_cons (pv_var rfl) (pl_cons (pv_var rfl) (pl_cons c40 pl_nil))))) h21) pv_con rfl) (pv_cmp (o := .is) (pv_var rfl) pv_con rfl)) (gs_if0 (pt_cmp' (o := .is) (pv_var rfl) pv_con rfl) (L5 ok hm hg hq x2 x3 x4 x5 x6 x7 x8 x9 x10 x11 x12 x13 x14 x15 x16 x17 x18 x19 x20 x21 hw)))
end
theorem L0 (x2 x3 x4 x5 x6 x7 x8 x9 x10 x11 x12 x13 x14 x15 x16 x17 x18 x19 x20 x21 : Sl) {Q : Fl → List Sl → Prop} (hq : ∀ e, AnyE e → Q .nx e ∧ Q .ct e) : GS (Fk 13) Wf q0 (E x2 x3 x4 x5 x6 x7 x8 x9 x10 x11 x12 x13 x14 x15 x16 x17 x18 x19 x20 x21) Q := by
  refine gs_asg (P := IsNet) (gv_call (gl (pl_cons (pv_var rfl) (pl_cons pv_con pl_nil))) fun ds e => by subst e; exact r14) fun d ⟨n, e, ok⟩ => ?_
  subst e
  refine ⟨_, rfl, gs_par (Pl := fun ds => ∃ d r, ds = d :: r ∧ IsMk n d ∧ ∃ d2, r = [d2] ∧ IsMk n d2) (gl_cons (gv_call (gl (pl_cons (pv_var rfl) (pl_cons (pv_var rfl) (pl_cons pv_con pl_nil)))) fun ds e => by subst e; exact r15 ok) (gl_one (gv_call (gl (pl_cons (pv_var rfl) (pl_cons (pv_var rfl) (pl_cons pv_con pl_nil)))) fun ds e => by subst e; exact r15 ok))) fun ds ⟨d, r, e, ⟨mk, e1, hmk⟩, d2, e2, ⟨g, e3, hg⟩⟩ => ?_⟩
  subst e e2 e1 e3
  exact ⟨_, rfl, L2 ok hmk.1 hg.1 hq x2 x3 x4 x5 x6 x7 x8 x9 x10 x11 x12 x13 x14 x15 x16 x17 x18 x19 x20 x21⟩
theorem gs_tail (x2 x3 x4 x5 x6 x7 x8 x9 x10 x11 x12 x13 x14 x15 x16 x17 x18 x19 x20 x21 : Sl) : GS (Fk 13) Wf qT (E x2 x3 x4 x5 x6 x7 x8 x9 x10 x11 x12 x13 x14 x15 x16 x17 x18 x19 x20 x21) (fun f _ => f = .rt (.bool true)) := by
  refine gs_ret (gv (d := .bool true) (pv_cmp (o := .eq) pv_con pv_con rfl)) fun d e => by rw [e]
theorem law_gs : GS (Fk 13) Wf lawB (E .un .un .un .un .un .un .un .un .un .un .un .un .un .un .un .un .un .un .un .un) (fun f _ => f = .rt (.bool true)) := by
  rw [bL2]
  refine gs_for (gi (ds := (List.range 3).map natD) (pi_rng (pl_cons pv_con pl_nil) (rng1 3 (by omega)))) fun ds _ => ⟨fun _ e => AnyE e, ⟨_, _, _, _, _, _, _, _, _, _, _, _, _, _, _, _, _, _, _, _, rfl⟩, fun i d e hd hi => ?_, fun e hi => ?_⟩
  · obtain ⟨x2, x3, x4, x5, x6, x7, x8, x9, x10, x11, x12, x13, x14, x15, x16, x17, x18, x19, x20, x21, rfl⟩ := hi
    exact ⟨_, rfl, L0 _ _ _ _ _ _ _ _ _ _ _ _ _ _ _ _ _ _ _ _ fun e he => ⟨he, he⟩⟩
  · obtain ⟨x2, x3, x4, x5, x6, x7, x8, x9, x10, x11, x12, x13, x14, x15, x16, x17, x18, x19, x20, x21, rfl⟩ := hi
    exact gs_tail _ _ _ _ _ _ _ _ _ _ _ _ _ _ _ _ _ _ _ _
theorem lawN_len : lawN.length = 22 := by decide +kernel
theorem math : ∀ ns : List Int, ns.length ≤ 63 → ∃ s', exs (run (tabOf T) spT Wf (lvl + 1)) Wf lawB ⟨lawE (lawN.length - 2), drawD ns⟩ = .ok (.rt (.bool true)) s' := fun ns _ => by
  obtain ⟨f, e, dr, h1, _, h2⟩ := law_gs (drawD ns) (show (-1 : Int) ≤ -1 by omega)
  rw [lawN_len]
  subst h2
  exact ⟨⟨e, dr⟩, h1⟩
end K01

open PySem PySem.W PyProof.Rows
set_option maxHeartbeats 0 in
theorem PySem.Challenge.cw_tokensmove_k01_all_markings_where_they_a_holds : PySem.Challenge.rw_tokensmove_k01_all_markings_where_they_a.Holds := by
  w_on; o_law; k_head; (case hw => w_witness2)
  k_fill
  refine L2.walk_of (l := PySem.Challenge.rw_tokensmove_k01_all_markings_where_they_a) (n := 63) (k := K01.lvl + 2) (x := "script") (CX := fun w => L2.CX PySem.Challenge.rw_tokensmove_k01_all_markings_where_they_a.prog w) (sp := fun w => Ly.spLaw _) rfl (by decide) rfl ⟨rfl, by decide +kernel, by decide +kernel⟩ (fun w h Y => PySem.W.kIn_of Y) ?F (fun _ _ a ns hl _ hS => ⟨a, ns, rfl, hS, hl, fun _ => rfl⟩) (fun _ _ _ _ _ h => Ly.cx_end h)
  case F =>
    intro w mg fa h KX G hmg
    refine' K01.all_mk KX G hmg K01.math ?a0 ?l0 ?c0 ?k0 ?a1 ?l1 ?c1 ?k1 ?a2 ?l2 ?c2 ?k2 ?a3 ?l3 ?c3 ?k3 ?a4 ?l4 ?c4 ?k4 ?a5 ?l5 ?c5 ?k5 ?a6 ?l6 ?c6 ?k6 ?a7 ?l7 ?c7 ?k7 ?a8 ?l8 ?c8 ?k8 ?a9 ?l9 ?c9 ?k9 ?a10 ?l10 ?c10 ?k10 ?a11 ?l11 ?c11 ?k11 ?a12 ?l12 ?c12 ?k12 ?a13 ?l13 ?c13 ?k13 ?a14 ?l14 ?c14 ?k14 ?a15 ?l15 ?c15 ?k15 ?a16 ?l16 ?c16 ?k16 ?a17 ?l17 ?c17 ?k17 ?a18 ?l18 ?c18 ?k18 ?a19 ?l19 ?c19 ?k19 ?a20 ?l20 ?c20 ?k20 ?a21 ?l21 ?c21 ?k21 ?aT ?lT ?cT ?kT ?aD ?lD ?cD ?kD ?aL ?lL ?cL ?kL ?xg0 ?xi0 ?xk0 ?xs0 ?xt0 ?q0 ?z_len ?z_tuple ?z_list ?z_max ?z_all ?z_sorted ?z_abs ?z_int ?z_isinstance ?z_set ?z_range ?z_zip ?xc0 ?xm0_0
    (case a0 => k_is); (case l0 => k_is); (case c0 => k_is); (case k0 => k_is); (case a1 => k_is); (case l1 => k_is); (case c1 => k_is); (case k1 => k_is); (case a2 => k_is); (case l2 => k_is); (case c2 => k_is); (case k2 => k_is); (case a3 => k_is); (case l3 => k_is); (case c3 => k_is); (case k3 => k_is); (case a4 => k_is); (case l4 => k_is); (case c4 => k_is); (case k4 => k_is); (case a5 => k_is); (case l5 => k_is); (case c5 => k_is); (case k5 => k_is); (case a6 => k_is); (case l6 => k_is); (case c6 => k_is); (case k6 => k_is); (case a7 => k_is); (case l7 => k_is); (case c7 => k_is); (case k7 => k_is); (case a8 => k_is); (case l8 => k_is); (case c8 => k_is); (case k8 => k_is); (case a9 => k_is); (case l9 => k_is); (case c9 => k_is); (case k9 => k_is); (case a10 => k_is); (case l10 => k_is); (case c10 => k_is); (case k10 => k_is); (case a11 => k_is); (case l11 => k_is); (case c11 => k_is); (case k11 => k_is); (case a12 => k_is); (case l12 => k_is); (case c12 => k_is); (case k12 => k_is); (case a13 => k_is); (case l13 => k_is); (case c13 => k_is); (case k13 => k_is); (case a14 => k_is); (case l14 => k_is); (case c14 => k_is); (case k14 => k_is); (case a15 => k_is); (case l15 => k_is); (case c15 => k_is); (case k15 => k_is); (case a16 => k_is); (case l16 => k_is); (case c16 => k_is); (case k16 => k_is); (case a17 => k_is); (case l17 => k_is); (case c17 => k_is); (case k17 => k_is); (case a18 => k_is); (case l18 => k_is); (case c18 => k_is); (case k18 => k_is); (case a19 => k_is); (case l19 => k_is); (case c19 => k_is); (case k19 => k_is); (case a20 => k_is); (case l20 => k_is); (case c20 => k_is); (case k20 => k_is); (case a21 => k_is); (case l21 => k_is); (case c21 => k_is); (case k21 => k_is); (case aT => k_is); (case lT => k_is); (case cT => k_is); (case kT => k_is); (case aD => k_is); (case lD => k_is); (case cD => k_is); (case kD => k_is); (case aL => k_is); (case lL => k_is); (case cL => k_is); (case kL => k_is); (case xg0 => k_is); (case xi0 => k_exc); (case xk0 => k_is); (case xs0 => k_is); (case xt0 => k_is); (case q0 => k_is); (case z_len => k_is); (case z_tuple => k_is); (case z_list => k_is); (case z_max => k_is); (case z_all => k_is); (case z_sorted => k_is); (case z_abs => k_is); (case z_int => k_is); (case z_isinstance => k_is); (case z_set => k_is); (case z_range => k_is); (case z_zip => k_is); (case xc0 => k_is); (case xm0_0 => k_is)
