import PyProof.Rows.All
import Wide.All
import OpenK.AllK
import Wide.FinOn
import HandS.ForMost
import HandS.Sort
import HandS.SortInts
import HandS.Rev
import HandS.Strs
import HandS.IsInst
import HandS.Deep
import HandS.TupAny
import HandS.Dict
import HandS.Conv
import HandS.Exc
import HandS.ExcOwn
import HandS.WordsExc
import HandS.TryOnly
import HandS.ExcIs
import HandS.Replace
import PySem.Challenge.RW_headroad_k12_lines_refused
set_option Elab.async false
set_option linter.all false
set_option maxRecDepth 100000
set_option maxHeartbeats 4000000

/-! Lay: a def's body read over plain data. D is data; Dq says how a heap bears it; E, T, EA: what an expression, a test, arguments come to; CS, C: statements. -/
namespace Lay
open PySem PySem.Spec L2

abbrev D := PyData
/-- the script as an argument: a list that is read only -/
abbrev scr (ns : List Int) : D := .dict [(.none, .list (ns.map .int))]
/-- an instance of the class at C as an argument: its fields -/
abbrev insD (C : Addr) (fs : List (Str × D)) : D := .dict ((.int (C : Int), .none) :: fs.map fun f => (.str f.1, f.2))

mutual
inductive Dq (K : PySem.W.Frag) (H : Hp) : V → D → Prop
  | non : Dq K H .non .none
  | bl (b : Bool) : Dq K H (.bl b) (.bool b)
  | int (i : Int) : Dq K H (.int i) (.int i)
  | str (x : Str) : Dq K H (.str x) (.str x)
  | lst {a : Addr} {xs : List V} {ds : List D} : H a = some (.lst xs) → DqAll K H xs ds → Dq K H (.ref a) (.list ds)
  | tup {a : Addr} {xs : List V} {ds : List D} : H a = some (.tup xs) → DqAll K H xs ds → Dq K H (.ref a) (.tuple ds)
  | scri {a : Addr} {ns : List Int} : SqL K H a (ns.map V.int) → Dq K H (.ref a) (scr ns)
  | ins {a C dx : Addr} {vfs : List (Str × V)} {fs : List (Str × D)} : H a = some (.ins C dx vfs) → vfs.map (·.1) = fs.map (·.1) → DqAll K H (vfs.map (·.2)) (fs.map (·.2)) → Dq K H (.ref a) (insD C fs)
inductive DqAll (K : PySem.W.Frag) (H : Hp) : List V → List D → Prop
  | nil : DqAll K H [] []
  | cons {v : V} {vs : List V} {d : D} {ds : List D} : Dq K H v d → DqAll K H vs ds → DqAll K H (v :: vs) (d :: ds)
end

section
variable {K : PySem.W.Frag} {H H' : Hp}
mutual
theorem Dq.mono (s : Same H H') : ∀ {v : V} {d : D}, Dq K H v d → Dq K H' v d
  | _, _, .non => .non
  | _, _, .bl b => .bl b
  | _, _, .int i => .int i
  | _, _, .str x => .str x
  | _, _, .lst h r => .lst (s _ _ h) (DqAll.mono s r)
  | _, _, .tup h r => .tup (s _ _ h) (DqAll.mono s r)
  | _, _, .scri h => .scri (s.seq h)
  | _, _, .ins h e r => .ins (s _ _ h) e (DqAll.mono s r)
theorem DqAll.mono (s : Same H H') : ∀ {vs : List V} {ds : List D}, DqAll K H vs ds → DqAll K H' vs ds
  | _, _, .nil => .nil
  | _, _, .cons h r => .cons (Dq.mono s h) (DqAll.mono s r)
end
theorem DqAll.length : ∀ {vs : List V} {ds : List D}, DqAll K H vs ds → vs.length = ds.length
  | _, _, .nil => rfl
  | _, _, .cons _ r => congrArg (· + 1) r.length
theorem DqAll.get : ∀ {vs : List V} {ds : List D} {i : Nat} {d : D}, DqAll K H vs ds → ds[i]? = some d → ∃ v, vs[i]? = some v ∧ Dq K H v d
  | _, _, _, _, .nil, e => by simp at e
  | _, _, 0, _, .cons h _, e => by
    simp at e
    subst e
    exact ⟨_, rfl, h⟩
  | _, _, i + 1, _, .cons _ r, e => by
    obtain ⟨v, h1, h2⟩ := DqAll.get (i := i) r (by simpa using e)
    exact ⟨v, by simpa using h1, h2⟩
theorem DqAll.get' : ∀ {vs : List V} {ds : List D} {i : Nat} {v : V}, DqAll K H vs ds → vs[i]? = some v → ∃ d, ds[i]? = some d ∧ Dq K H v d
  | _, _, _, _, .nil, e => by simp at e
  | _, _, 0, _, .cons h _, e => by
    simp at e
    subst e
    exact ⟨_, rfl, h⟩
  | _, _, i + 1, _, .cons _ r, e => by
    obtain ⟨v, h1, h2⟩ := DqAll.get' (i := i) r (by simpa using e)
    exact ⟨v, by simpa using h1, h2⟩
theorem DqAll.append : ∀ {vs ws : List V} {ds es : List D}, DqAll K H vs ds → DqAll K H ws es → DqAll K H (vs ++ ws) (ds ++ es)
  | _, _, _, _, .nil, s => s
  | _, _, _, _, .cons h r, s => .cons h (DqAll.append r s)
theorem DqAll.one {v : V} {d : D} (h : Dq K H v d) : DqAll K H [v] [d] := .cons h .nil
theorem DqAll.drop : ∀ {vs : List V} {ds : List D} (n : Nat), DqAll K H vs ds → DqAll K H (vs.drop n) (ds.drop n)
  | _, _, 0, r => r
  | _, _, _ + 1, .nil => .nil
  | _, _, n + 1, .cons _ r => DqAll.drop n r
theorem DqAll.take : ∀ {vs : List V} {ds : List D} (n : Nat), DqAll K H vs ds → DqAll K H (vs.take n) (ds.take n)
  | _, _, 0, _ => .nil
  | _, _, _ + 1, .nil => .nil
  | _, _, n + 1, .cons h r => .cons h (DqAll.take n r)
theorem DqAll.set : ∀ {vs : List V} {ds : List D} {v : V} {d : D} (i : Nat), DqAll K H vs ds → Dq K H v d → DqAll K H (vs.set i v) (ds.set i d)
  | _, _, _, _, _, .nil, _ => .nil
  | _, _, _, _, 0, .cons _ r, h => .cons h r
  | _, _, _, _, i + 1, .cons q r, h => .cons q (DqAll.set i r h)
theorem DqAll.reverse : ∀ {vs : List V} {ds : List D}, DqAll K H vs ds → DqAll K H vs.reverse ds.reverse
  | _, _, .nil => .nil
  | _, _, .cons h r => by
    rw [List.reverse_cons, List.reverse_cons]
    exact (DqAll.reverse r).append (.one h)
theorem DqAll.eraseIdx : ∀ {vs : List V} {ds : List D} (i : Nat), DqAll K H vs ds → DqAll K H (vs.eraseIdx i) (ds.eraseIdx i)
  | _, _, _, .nil => .nil
  | _, _, 0, .cons _ r => r
  | _, _, i + 1, .cons h r => .cons h (DqAll.eraseIdx i r)

theorem Dq.inv_non {v : V} (h : Dq K H v .none) : v = .non := by cases h; rfl
theorem Dq.inv_bl {v : V} {b : Bool} (h : Dq K H v (.bool b)) : v = .bl b := by cases h; rfl
theorem Dq.inv_int {v : V} {i : Int} (h : Dq K H v (.int i)) : v = .int i := by cases h; rfl
theorem Dq.inv_str {v : V} {x : Str} (h : Dq K H v (.str x)) : v = .str x := by cases h; rfl
theorem Dq.inv_lst {v : V} {ds : List D} (h : Dq K H v (.list ds)) : ∃ a xs, v = .ref a ∧ H a = some (.lst xs) ∧ DqAll K H xs ds := by
  cases h with
  | lst h r => exact ⟨_, _, rfl, h, r⟩
theorem Dq.inv_tup {v : V} {ds : List D} (h : Dq K H v (.tuple ds)) : ∃ a xs, v = .ref a ∧ H a = some (.tup xs) ∧ DqAll K H xs ds := by
  cases h with
  | tup h r => exact ⟨_, _, rfl, h, r⟩
theorem Dq.inv_scr {v : V} {ns : List Int} (h : Dq K H v (scr ns)) : ∃ a, v = .ref a ∧ SqL K H a (ns.map V.int) := by
  generalize e : scr ns = d at h
  cases h with
  | @scri a ms h =>
    have e2 : ns.map PyData.int = ms.map PyData.int := by
      injection e with e
      injection e with e _
      injection e with _ e
      injection e with e
    have e3 : ns = ms := List.map_inj_right (fun x y h => PyData.int.inj h) |>.mp e2
    exact ⟨a, rfl, e3 ▸ h⟩
  | _ => cases e

mutual
theorem Dq.dp : ∀ {v : V} {d : D}, Dq K H v d → d.canLay0 = true → Dp K H v d
  | _, _, .non, _ => .non
  | _, _, .bl b, _ => .bl b
  | _, _, .int i, _ => .int i
  | _, _, .str x, _ => .str x
  | _, _, .lst h r, c => .lst (.of h) (DqAll.dp r (by simpa only [PyData.canLay0] using c))
  | _, _, .tup h r, c => .tup (.of h) (DqAll.dp r (by simpa only [PyData.canLay0] using c))
  | _, _, .scri h, c => absurd c (by simp [PyData.canLay0])
  | _, _, .ins _ _ _, c => absurd c (by simp [PyData.canLay0])
theorem DqAll.dp : ∀ {vs : List V} {ds : List D}, DqAll K H vs ds → PyData.canLayAll0 ds = true → DpAll K H vs ds
  | _, _, .nil, _ => .nil
  | _, _, .cons h r, c => by
    simp only [PyData.canLayAll0, Bool.and_eq_true] at c
    exact .cons (Dq.dp h c.1) (DqAll.dp r c.2)
end
end

/-- the data that one value without an object stands for -/
def scalD : D → Bool
  | .none | .bool _ | .int _ | .str _ => true
  | _ => false
theorem Dq.scal {K : PySem.W.Frag} {H H' : Hp} {v : V} {d : D} (h : Dq K H v d) (s : scalD d = true) : Dq K H' v d := by
  cases h with
  | non => exact .non
  | bl b => exact .bl b
  | int i => exact .int i
  | str x => exact .str x
  | lst _ _ => cases s
  | tup _ _ => cases s
  | scri _ => cases s
  | ins _ _ _ => cases s

/-! ### heaps: F, the part that stays; H, the whole -/
structure Step (F H F' H' : Hp) : Prop where
  ff : Same F F'
  fh : Same F' H'
  hh : Same H H'
  nw : ∀ a, F a = none → H a ≠ none → F' a = none
section
variable {F F1 F2 F3 H H1 H2 H3 : Hp}
theorem Step.refl (h : Same F H) : Step F H F H := ⟨Same.refl F, h, Same.refl H, fun _ e _ => e⟩
theorem Step.trans (a : Step F H F1 H1) (b : Step F1 H1 F2 H2) : Step F H F2 H2 where
  ff := a.ff.trans b.ff
  fh := b.fh
  hh := a.hh.trans b.hh
  nw := fun c e n => b.nw c (a.nw c e n) (by
    cases q : H c with
    | none => exact absurd q n
    | some o => rw [a.hh c o q]; exact fun z => nomatch z)
theorem same_upd {H : Hp} {p : Addr} {o : HO} (h : H p = none) : Same H (upd H p o) := fun b x e => by
  rw [upd_ne (ne_of_none e h)]
  exact e
/-- a new object that stays -/
theorem Step.new {p : Addr} {o : HO} (h : Same F H) (hp : H p = none) : Step F H (upd F p o) (upd H p o) where
  ff := same_upd (h.free hp)
  fh := fun b x e => by
    by_cases hb : b = p
    · subst hb; rw [upd_same] at e ⊢; exact e
    · rw [upd_ne hb] at e ⊢; exact h b x e
  hh := same_upd hp
  nw := fun a e n => by
    by_cases hb : a = p
    · subst hb; exact absurd hp n
    · rw [upd_ne hb]; exact e
/-- a new object of one's own -/
theorem Step.mine {p : Addr} {o : HO} (h : Same F H) (hp : H p = none) : Step F H F (upd H p o) where
  ff := Same.refl F
  fh := fun b x e => by rw [upd_ne (ne_of_none (h b x e) hp)]; exact h b x e
  hh := same_upd hp
  nw := fun _ e _ => e
/-- an object of one's own comes to stay -/
theorem Step.keep {p : Addr} {o : HO} (a : Step F H F1 H1) (hp : H p = none) (h1 : H1 p = some o) (hf : F1 p = none) : Step F H (upd F1 p o) H1 where
  ff := a.ff.trans (same_upd hf)
  fh := fun b x e => by
    by_cases hb : b = p
    · subst hb; rw [upd_same] at e; rw [h1]; exact e
    · rw [upd_ne hb] at e; exact a.fh b x e
  hh := a.hh
  nw := fun c e n => by
    by_cases hb : c = p
    · subst hb; exact absurd hp n
    · rw [upd_ne hb]; exact a.nw c e n
/-- an object of one's own that the entry did not know is changed -/
theorem Step.write {p : Addr} {o : HO} (a : Step F H F1 H1) (hp : H p = none) (hf : F1 p = none) : Step F H F1 (upd H1 p o) where
  ff := a.ff
  fh := fun b x e => by rw [upd_ne (ne_of_none e hf)]; exact a.fh b x e
  hh := fun b x e => by rw [upd_ne (ne_of_none e hp)]; exact a.hh b x e
  nw := a.nw
/-- what was read over a greater part G stays good over F: all that is new over G is kept -/
theorem Step.less (a : Step F1 H F2 H2) (h : Same F F1) : Step F H F H2 := ⟨Same.refl F, (h.trans a.ff).trans a.fh, a.hh, fun _ e _ => e⟩
end

/-! ### weakest readings -/
def WE (X : Cx) (e : Expr) : TE := fun σ H Q => ∃ t, PE X e t ∧ t σ H Q
def WT (X : Cx) (e : Expr) : TT := fun σ H Q => ∃ t, PT X e t ∧ t σ H Q
def WA (X : Cx) (es : List Expr) : TA := fun σ H Q => ∃ t, PA X es t ∧ t σ H Q
def WS (X : Cx) (st : Stmt) : TS := fun D σ H => ∃ t, PS X st t ∧ t D σ H
def WSs (X : Cx) (sts : List Stmt) : TS := fun D σ H => ∃ t, PSs X sts t ∧ t D σ H
section
variable {X : Cx}
theorem pe_we {e : Expr} : PE X e (WE X e) := ⟨fun pins s σ H Q I ⟨_, h, q⟩ => h.run pins s σ H Q I q⟩
theorem pt_wt {e : Expr} : PT X e (WT X e) := ⟨fun pins s σ H Q I ⟨_, h, q⟩ => h.run pins s σ H Q I q⟩
theorem pa_wa {es : List Expr} : PA X es (WA X es) := ⟨fun pos pins s σ H Q I ⟨_, h, q⟩ => h.run pos pins s σ H Q I q⟩
theorem ps_ws {st : Stmt} : PS X st (WS X st) := ⟨fun pins s σ H D I ⟨_, h, q⟩ => h.run pins s σ H D I q⟩
theorem pss_wss {sts : List Stmt} : PSs X sts (WSs X sts) := ⟨fun pins s σ H D I ⟨_, h, q⟩ => h.run pins s σ H D I q⟩
end

/-! ### slots -/
/-- what stands in a slot: not known; data; a list, a dict of one's own -/
inductive OD where
  | lst (ds : List D)
  | ins (C : Addr) (fs : List (Str × D))
inductive Sl where
  | no
  | dat (d : D)
  | own (ds : List D)
  | dct (kvs : List (Key × D))
  | pin (a : Addr) (o : OD)
inductive ODq (K : PySem.W.Frag) (F : Hp) : HO → OD → Prop
  | lst {vs : List V} {ds : List D} : DqAll K F vs ds → ODq K F (.lst vs) (.lst ds)
  | ins {C dx : Addr} {vfs : List (Str × V)} {fs : List (Str × D)} : vfs.map (·.1) = fs.map (·.1) → DqAll K F (vfs.map (·.2)) (fs.map (·.2)) → ODq K F (.ins C dx vfs) (.ins C fs)
theorem ODq.mono {K : PySem.W.Frag} {F F' : Hp} (s : Same F F') {ho : HO} {o : OD} (h : ODq K F ho o) : ODq K F' ho o := by
  cases h with
  | lst h => exact .lst (h.mono s)
  | ins e h => exact .ins e (h.mono s)
def OD.d : OD → D
  | .lst ds => .list ds
  | .ins C fs => insD C fs
theorem ODq.dq {K : PySem.W.Frag} {F : Hp} {ho : HO} {o : OD} {a : Addr} (h : ODq K F ho o) (e : F a = some ho) : Dq K F (.ref a) o.d := by
  cases h with
  | lst h => exact .lst e h
  | ins e' h => exact .ins e e' h

/-- the slots σ hold the data sds, borne by F -/
structure SD (K : PySem.W.Frag) (F : Hp) (σ : St) (sds : List (Option D)) : Prop where
  len : σ.length = sds.length
  get : ∀ (i : Nat) (d : D), sds[i]? = some (some d) → ∃ v, σ[i]? = some (some v) ∧ Dq K F v d
theorem SD.mono {K : PySem.W.Frag} {F F' : Hp} {σ : St} {sds : List (Option D)} (s : Same F F') (h : SD K F σ sds) : SD K F' σ sds :=
  ⟨h.len, fun i d e => by
    obtain ⟨v, h1, h2⟩ := h.get i d e
    exact ⟨v, h1, h2.mono s⟩⟩
theorem SD.set {K : PySem.W.Frag} {F : Hp} {σ : St} {sds : List (Option D)} {v : V} {d : D} (h : SD K F σ sds) (i : Nat) (hv : Dq K F v d) : SD K F (σ.set i (some v)) (sds.set i (some d)) :=
  ⟨by rw [List.length_set, List.length_set]; exact h.len, fun j e he => by
    by_cases hj : i = j
    · subst hj
      by_cases hl : i < sds.length
      · rw [List.getElem?_set_self hl] at he
        cases he
        exact ⟨v, List.getElem?_set_self (by rw [h.len]; exact hl), hv⟩
      · rw [List.getElem?_eq_none (by rw [List.length_set]; omega)] at he
        cases he
    · rw [List.getElem?_set_ne hj] at he
      obtain ⟨w, h1, h2⟩ := h.get j e he
      exact ⟨w, by rw [List.getElem?_set_ne hj]; exact h1, h2⟩⟩
theorem SD.none {K : PySem.W.Frag} {F : Hp} {σ : St} {sds : List (Option D)} {y : Option V} (h : SD K F σ sds) (i : Nat) : SD K F (σ.set i y) (sds.set i Option.none) :=
  ⟨by rw [List.length_set, List.length_set]; exact h.len, fun j e he => by
    by_cases hj : i = j
    · subst hj
      by_cases hl : i < sds.length
      · rw [List.getElem?_set_self hl] at he
        cases he
      · rw [List.getElem?_eq_none (by rw [List.length_set]; omega)] at he
        cases he
    · rw [List.getElem?_set_ne hj] at he
      obtain ⟨w, h1, h2⟩ := h.get j e he
      exact ⟨w, by rw [List.getElem?_set_ne hj]; exact h1, h2⟩⟩

/-! ### expressions -/
section
variable (X : Cx) (sds : List (Option D))
/-- e comes to the data d, whatever the heap -/
def E (e : Expr) (d : D) : Prop := ∀ (F : Hp) (σ : St) (H : Hp), SD X.K F σ sds → Same F H → ∀ Q : VK, (∀ v F2 H2, Step F H F2 H2 → Dq X.K F2 v d → Q v H2) → WE X e σ H Q
/-- e comes to a new list -/
def EL (e : Expr) (ds : List D) : Prop := ∀ (F : Hp) (σ : St) (H : Hp), SD X.K F σ sds → Same F H → ∀ Q : VK,
  (∀ p vs F2 H2, Step F H F2 H2 → H p = none → F2 p = none → H2 p = some (.lst vs) → DqAll X.K F2 vs ds → Q (.ref p) H2) → WE X e σ H Q
def T (e : Expr) (b : Bool) : Prop := ∀ (F : Hp) (σ : St) (H : Hp), SD X.K F σ sds → Same F H → ∀ Q : Bool → Hp → Prop, (∀ F2 H2, Step F H F2 H2 → Q b H2) → WT X e σ H Q
def EA (es : List Expr) (ds : List D) : Prop := ∀ (F : Hp) (σ : St) (H : Hp), SD X.K F σ sds → Same F H → ∀ Q : List V → Hp → Prop, (∀ vs F2 H2, Step F H F2 H2 → DqAll X.K F2 vs ds → Q vs H2) → WA X es σ H Q
end

section
variable {X : Cx} {sds : List (Option D)} {e a b : Expr} {d da db : D} {pos : Pos}
theorem E.of_L {ds : List D} (h : EL X sds e ds) : E X sds e (.list ds) := fun F σ H hs hf Q q =>
  h F σ H hs hf Q fun p vs F2 H2 st h0 h1 h2 h3 => q (.ref p) (upd F2 p (.lst vs)) H2 (st.keep h0 h2 h1) (.lst upd_same (h3.mono (same_upd h1)))
theorem E.is (h : E X sds e da) (q : da = db) : E X sds e db := q ▸ h
theorem EL.is {xs ys : List D} (h : EL X sds e xs) (q : xs = ys) : EL X sds e ys := q ▸ h
theorem T.is {b c : Bool} (h : T X sds e b) (q : b = c) : T X sds e c := q ▸ h

/-- the slot i -/
theorem e_var (i : Nat) {x : Str} (hd : sds[i]? = some (some d)) (hN : X.N[i]? = some x := by rfl) (hv : Vis X.env.scope x := by first | exact Or.inl rfl | exact Or.inr (Or.inl rfl) | exact Or.inr (Or.inr rfl))
    (h1 : (x == ("__debug__" : Str)) = false := by decide) (h2 : (x == ("__classdict__" : Str)) = false := by decide) : E X sds (.Name x pos) d := fun F σ H hs hf Q q => by
  obtain ⟨v, e1, e2⟩ := hs.get i d hd
  exact ⟨_, pe_var hN hv h1 h2, v, e1, q v F H (.refl hf) e2⟩
theorem e_int {i : Int} {j} : E X sds (.Constant (.int i) j pos) (.int i) := fun F σ H hs hf Q q => ⟨_, pe_int, q _ F H (.refl hf) (.int i)⟩
theorem e_bl {i : Bool} {j} : E X sds (.Constant (.bool i) j pos) (.bool i) := fun F σ H hs hf Q q => ⟨_, pe_bl, q _ F H (.refl hf) (.bl i)⟩
theorem e_non {j} : E X sds (.Constant .none j pos) .none := fun F σ H hs hf Q q => ⟨_, pe_non, q _ F H (.refl hf) .non⟩
theorem e_str {i : Str} {j} : E X sds (.Constant (.str i) j pos) (.str i) := fun F σ H hs hf Q q => ⟨_, pe_str, q _ F H (.refl hf) (.str i)⟩
/-- a module's constant -/
theorem e_glob {x : Str} {u : Value} {v : V} (hm : X.mg x = some u) (r : RelV v u) (hd : ∀ K H, Dq K H v d) (hg : Gl X x := by rfl) (h1 : (x == ("__debug__" : Str)) = false := by decide) : E X sds (.Name x pos) d := fun F σ H hs hf Q q =>
  ⟨_, pe_glob hg hm r h1, q v F H (.refl hf) (hd _ _)⟩

/-- two in a row -/
theorem two {x y : D} (ha : E X sds a x) (hb : E X sds b y) {F : Hp} {σ : St} {H : Hp} (hs : SD X.K F σ sds) (hf : Same F H) {R : V → V → Hp → Prop}
    (h : ∀ v u F2 H2, Step F H F2 H2 → Dq X.K F2 v x → Dq X.K F2 u y → R v u H2) : WE X a σ H fun v H1 => WE X b σ H1 fun u H2 => R v u H2 :=
  ha F σ H hs hf _ fun v F1 H1 s1 d1 => hb F1 σ H1 (hs.mono s1.ff) s1.fh _ fun u F2 H2 s2 d2 => h v u F2 H2 (s1.trans s2) (d1.mono s2.ff) d2

/-- what a two-place operation on data comes to -/
def R2D (X : Cx) (r : R2) (x y d : D) : Prop := ∀ (F H : Hp) (v u : V) (Q : VK), Same F H → Dq X.K F v x → Dq X.K F u y → (∀ z F2 H2, Step F H F2 H2 → Dq X.K F2 z d → Q z H2) → r v u H Q
def R2L (X : Cx) (r : R2) (x y : D) (ds : List D) : Prop := ∀ (F H : Hp) (v u : V) (Q : VK), Same F H → Dq X.K F v x → Dq X.K F u y →
  (∀ p vs F2 H2, Step F H F2 H2 → H p = none → F2 p = none → H2 p = some (.lst vs) → DqAll X.K F2 vs ds → Q (.ref p) H2) → r v u H Q
def BinD (X : Cx) (op : Operator) (x y d : D) : Prop := ∃ r, OpR X (binaryOp op) r ∧ R2D X r x y d
def BinL (X : Cx) (op : Operator) (x y : D) (ds : List D) : Prop := ∃ r, OpR X (binaryOp op) r ∧ R2L X r x y ds
def CmpD (X : Cx) (op : CmpOp) (x y : D) (b : Bool) : Prop := ∃ r, OpR X (compareOp op) r ∧ R2D X r x y (.bool b)
theorem e_bin {op : Operator} {x y : D} (ha : E X sds a x) (hb : E X sds b y) (h : BinD X op x y d) : E X sds (.BinOp a op b pos) d := fun F σ H hs hf Q q => by
  obtain ⟨r, ho, hr⟩ := h
  refine ⟨_, pe_op ho pe_we pe_we, two ha hb hs hf fun v u F2 H2 st hv hu => ?_⟩
  exact hr F2 H2 v u Q st.fh hv hu fun z F3 H3 s3 hz => q z F3 H3 (st.trans s3) hz
theorem el_bin {op : Operator} {x y : D} {ds : List D} (ha : E X sds a x) (hb : E X sds b y) (h : BinL X op x y ds) : EL X sds (.BinOp a op b pos) ds := fun F σ H hs hf Q q => by
  obtain ⟨r, ho, hr⟩ := h
  refine ⟨_, pe_op ho pe_we pe_we, two ha hb hs hf fun v u F2 H2 st hv hu => ?_⟩
  exact hr F2 H2 v u Q st.fh hv hu fun p vs F3 H3 s3 h1 h2 h3 h4 => q p vs F3 H3 (st.trans s3) (st.hh.free h1) h2 h3 h4
theorem e_cmp {op : CmpOp} {x y : D} {c : Bool} (ha : E X sds a x) (hb : E X sds b y) (h : CmpD X op x y c) (hm : behindInMarks op b = false := by first | exact nomark _ | rfl) : E X sds (.Compare a [op] [b] pos) (.bool c) := fun F σ H hs hf Q q => by
  obtain ⟨r, ho, hr⟩ := h
  refine ⟨_, pe_cmpR ho pe_we pe_we hm, two ha hb hs hf fun v u F2 H2 st hv hu => ?_⟩
  exact hr F2 H2 v u Q st.fh hv hu fun z F3 H3 s3 hz => q z F3 H3 (st.trans s3) hz
theorem t_cmp {op : CmpOp} {x y : D} {c : Bool} (ha : E X sds a x) (hb : E X sds b y) (h : CmpD X op x y c) (hm : behindInMarks op b = false := by first | exact nomark _ | rfl) : T X sds (.Compare a [op] [b] pos) c := fun F σ H hs hf Q q => by
  obtain ⟨r, ho, hr⟩ := h
  refine ⟨_, pt_cmpR ho pe_we pe_we hm, two ha hb hs hf fun v u F2 H2 st hv hu => ?_⟩
  exact hr F2 H2 v u _ st.fh hv hu fun z F3 H3 s3 hz => ⟨c, hz.inv_bl, q F3 H3 (st.trans s3)⟩

/-! tests -/
theorem t_val {c : Bool} (h : E X sds e (.bool c)) (he : ∀ whole, isTrue e X.env whole = (do let v ← whole; standAt e.pos; holding [v] (truthy v)) := by intro _; rfl) : T X sds e c := fun F σ H hs hf Q q =>
  ⟨_, pt_val pe_we he, h F σ H hs hf _ fun v F2 H2 st hv => ⟨c, hv.inv_bl, q F2 H2 st⟩⟩
theorem t_not {c : Bool} (h : T X sds a c) : T X sds (.UnaryOp .Not a pos) (!c) := fun F σ H hs hf Q q =>
  ⟨_, pt_not pt_wt, h F σ H hs hf _ fun F2 H2 st => q F2 H2 st⟩
/-- .. whatever the whole -/
def TW (X : Cx) (sds : List (Option D)) (e : Expr) (b : Bool) : Prop := ∀ (F : Hp) (σ : St) (H : Hp), SD X.K F σ sds → Same F H → ∀ Q : Bool → Hp → Prop, (∀ F2 H2, Step F H F2 H2 → Q b H2) → ∃ t, PW X e t ∧ t σ H Q
def WW (X : Cx) (e : Expr) : TT := fun σ H Q => ∃ t, PW X e t ∧ t σ H Q
theorem pw_ww {e : Expr} : PW X e (WW X e) := ⟨fun whole pins s σ H Q I ⟨_, h, q⟩ => h.run whole pins s σ H Q I q⟩
theorem TW.t {c : Bool} (h : TW X sds e c) : T X sds e c := fun F σ H hs hf Q q => by
  obtain ⟨t, h1, h2⟩ := h F σ H hs hf Q q
  exact ⟨t, h1.pt, h2⟩
theorem tw_and1 {c : Bool} (h : T X sds a c) : TW X sds (.BoolOp .And [a] pos) c := fun F σ H hs hf Q q => ⟨_, pw_and1 pt_wt, h F σ H hs hf Q q⟩
theorem tw_or1 {c : Bool} (h : T X sds a c) : TW X sds (.BoolOp .Or [a] pos) c := fun F σ H hs hf Q q => ⟨_, pw_or1 pt_wt, h F σ H hs hf Q q⟩
theorem tw_and {c c' : Bool} {rest : List Expr} (h : T X sds a c) (h' : c = true → TW X sds (.BoolOp .And (b :: rest) pos) c') : TW X sds (.BoolOp .And (a :: b :: rest) pos) (c && c') := fun F σ H hs hf Q q => by
  refine ⟨_, pw_and pt_wt pw_ww, h F σ H hs hf _ fun F2 H2 st => ?_⟩
  cases c with
  | true =>
    rw [if_pos rfl]
    exact h' rfl F2 σ H2 (hs.mono st.ff) st.fh Q fun F3 H3 s3 => q F3 H3 (st.trans s3)
  | false =>
    rw [if_neg Bool.false_ne_true]
    exact q F2 H2 st
theorem tw_or {c c' : Bool} {rest : List Expr} (h : T X sds a c) (h' : c = false → TW X sds (.BoolOp .Or (b :: rest) pos) c') : TW X sds (.BoolOp .Or (a :: b :: rest) pos) (c || c') := fun F σ H hs hf Q q => by
  refine ⟨_, pw_or pt_wt pw_ww, h F σ H hs hf _ fun F2 H2 st => ?_⟩
  cases c with
  | true =>
    rw [if_pos rfl]
    exact q F2 H2 st
  | false =>
    rw [if_neg Bool.false_ne_true]
    exact h' rfl F2 σ H2 (hs.mono st.ff) st.fh Q fun F3 H3 s3 => q F3 H3 (st.trans s3)
/-- and, or, not as values of truth values -/
theorem e_one {op} (h : E X sds a d) : E X sds (.BoolOp op [a] pos) d := fun F σ H hs hf Q q => ⟨_, pe_one pe_we, h F σ H hs hf Q q⟩
theorem e_and {c c' : Bool} {rest : List Expr} (h : E X sds a (.bool c)) (h' : c = true → E X sds (.BoolOp .And (b :: rest) pos) (.bool c')) : E X sds (.BoolOp .And (a :: b :: rest) pos) (.bool (c && c')) := fun F σ H hs hf Q q => by
  refine ⟨_, pe_and pe_we pe_we, h F σ H hs hf _ fun v F2 H2 st hv => ⟨c, hv.inv_bl, ?_⟩⟩
  cases c with
  | true =>
    rw [if_pos rfl]
    exact h' rfl F2 σ H2 (hs.mono st.ff) st.fh Q fun z F3 H3 s3 => q z F3 H3 (st.trans s3)
  | false =>
    rw [if_neg Bool.false_ne_true]
    exact q (.bl false) F2 H2 st (.bl false)
theorem e_or {c c' : Bool} {rest : List Expr} (h : E X sds a (.bool c)) (h' : c = false → E X sds (.BoolOp .Or (b :: rest) pos) (.bool c')) : E X sds (.BoolOp .Or (a :: b :: rest) pos) (.bool (c || c')) := fun F σ H hs hf Q q => by
  refine ⟨_, pe_or pe_we pe_we, h F σ H hs hf _ fun v F2 H2 st hv => ⟨c, hv.inv_bl, ?_⟩⟩
  cases c with
  | true =>
    rw [if_pos rfl]
    exact q (.bl true) F2 H2 st (.bl true)
  | false =>
    rw [if_neg Bool.false_ne_true]
    exact h' rfl F2 σ H2 (hs.mono st.ff) st.fh Q fun z F3 H3 s3 => q z F3 H3 (st.trans s3)
theorem e_not {c : Bool} (h : E X sds a (.bool c)) : E X sds (.UnaryOp .Not a pos) (.bool (!c)) := fun F σ H hs hf Q q =>
  ⟨_, pe_not pe_we, h F σ H hs hf _ fun v F2 H2 st hv => ⟨c, hv.inv_bl, q _ F2 H2 st (.bl _)⟩⟩
theorem e_ifexp {t : Expr} {c : Bool} (h : T X sds t c) (h1 : c = true → E X sds a d) (h2 : c = false → E X sds b d) : E X sds (.IfExp t a b pos) d := fun F σ H hs hf Q q => by
  refine ⟨_, pe_ifExp pt_wt pe_we pe_we, h F σ H hs hf _ fun F2 H2 st => ?_⟩
  cases c with
  | true =>
    rw [if_pos rfl]
    exact h1 rfl F2 σ H2 (hs.mono st.ff) st.fh Q fun z F3 H3 s3 => q z F3 H3 (st.trans s3)
  | false =>
    rw [if_neg Bool.false_ne_true]
    exact h2 rfl F2 σ H2 (hs.mono st.ff) st.fh Q fun z F3 H3 s3 => q z F3 H3 (st.trans s3)
theorem e_neg {i : Int} (h : E X sds a (.int i)) : E X sds (.UnaryOp .USub a pos) (.int (-i)) := fun F σ H hs hf Q q =>
  ⟨_, pe_un un_neg pe_we, h F σ H hs hf _ fun v F2 H2 st hv => ⟨i, hv.inv_int, q _ F2 H2 st (.int _)⟩⟩

/-! arguments, displays -/
theorem ea_nil : EA X sds [] [] := fun F σ H hs hf Q q => ⟨_, pa_nil, q [] F H (.refl hf) .nil⟩
theorem ea_cons {es : List Expr} {ds : List D} (h : E X sds e d) (h' : EA X sds es ds) (hs : starEach (e :: es) X.env = (false, eval e X.env) :: starEach es X.env := by rfl) : EA X sds (e :: es) (d :: ds) := fun F σ H hsd hf Q q =>
  ⟨_, pa_cons pe_we pa_wa hs, h F σ H hsd hf _ fun v F2 H2 st hv => h' F2 σ H2 (hsd.mono st.ff) st.fh _ fun vs F3 H3 s3 hvs => q _ F3 H3 (st.trans s3) (.cons (hv.mono s3.ff) hvs)⟩
theorem e_tup {es : List Expr} {ds : List D} {x1} (h : EA X sds es ds) (hz : ds.length ≤ sizeLine := by (first | decide | (show _ ≤ 16777216; simp only [List.length_cons, List.length_nil]; omega))) : E X sds (.Tuple es x1 pos) (.tuple ds) := fun F σ H hs hf Q q =>
  ⟨_, pe_tup pa_wa, h F σ H hs hf _ fun vs F2 H2 st hv => ⟨by rw [hv.length]; exact hz, fun p hp => q _ (upd F2 p (.tup vs)) _ (st.trans (.new st.fh hp)) (.tup upd_same (hv.mono (same_upd (st.fh.free hp))))⟩⟩
theorem el_lst {es : List Expr} {ds : List D} (h : EA X sds es ds) (hz : ds.length ≤ sizeLine := by (first | decide | (show _ ≤ 16777216; simp only [List.length_cons, List.length_nil]; omega))) : EL X sds (.List es pos) ds := fun F σ H hs hf Q q =>
  ⟨_, pe_lst pa_wa, h F σ H hs hf _ fun vs F2 H2 st hv => ⟨by rw [hv.length]; exact hz, fun p hp => q p vs F2 _ (st.trans (.mine st.fh hp)) (st.hh.free hp) (st.fh.free hp) upd_same hv⟩⟩
end
end Lay

namespace Lay
open PySem PySem.Spec L2

/-- a text by its codes -/
abbrev tx (l : List Nat) : Str := ⟨l.toArray⟩
theorem tx_len (l : List Nat) : (tx l).length = l.length := by show l.toArray.size = _; simp
theorem tx_add (a b : List Nat) : tx a ++ tx b = tx (a ++ b) := by
  show (⟨a.toArray ++ b.toArray⟩ : Str) = _
  simp [tx]
theorem tx_inj {a b : List Nat} : tx a = tx b ↔ a = b := ⟨fun h => by
  injection h with h
  simpa using h, fun h => by rw [h]⟩
theorem tx_codes (x : Str) : x = tx x.cps.toList := by simp [tx]
/-- a text's data -/
abbrev S (l : List Nat) : D := .str (tx l)
theorem line_ok {n : Nat} (h : n ≤ 100000) : n ≤ sizeLine := Nat.le_trans h (by decide)
theorem line_lt {n : Nat} (h : n ≤ 100000) : n < sizeLine := Nat.lt_of_le_of_lt h (by decide)

section
variable {X : Cx} {sds : List (Option D)} {e a b : Expr} {d da db : D} {pos : Pos}

theorem e_strC {i : Str} {j} (l : List Nat) (h : i = tx l := by decide +kernel) : E X sds (.Constant (.str i) j pos) (S l) := h ▸ e_str

/-! ### two-place operations -/
/-- the answer is no object -/
theorem r2_sc {r : R2} {x y d : D} (hs : scalD d = true) (h : ∀ (H : Hp) (v u : V) (Q : VK), Dq X.K H v x → Dq X.K H u y → (∀ z, Dq X.K H z d → Q z H) → r v u H Q) : R2D X r x y d :=
  fun F H v u Q hf hv hu q => h H v u Q (hv.mono hf) (hu.mono hf) fun z hz => q z F H (.refl hf) (hz.scal hs)
theorem bin_I {op : Operator} {Cc : Int → Int → Prop} {g : Int → Int → Int} {i j : Int} (ho : OpR X (binaryOp op) (rI Cc fun i j => .int (g i j))) (hc : Cc i j) : BinD X op (.int i) (.int j) (.int (g i j)) :=
  ⟨_, ho, r2_sc rfl fun H v u Q hv hu q => ⟨i, j, hv.inv_int, hu.inv_int, hc, q _ (.int _)⟩⟩
theorem bin_I0 {op : Operator} {g : Int → Int → Int} {i j : Int} (ho : OpR X (binaryOp op) (rI0 fun i j => .int (g i j))) : BinD X op (.int i) (.int j) (.int (g i j)) :=
  ⟨_, ho, r2_sc rfl fun H v u Q hv hu q => ⟨i, j, hv.inv_int, hu.inv_int, q _ (.int _)⟩⟩
theorem bin_add {i j : Int} : BinD X .Add (.int i) (.int j) (.int (i + j)) := bin_I0 op_add
theorem bin_sub {i j : Int} : BinD X .Sub (.int i) (.int j) (.int (i - j)) := bin_I0 op_sub
theorem bin_mul {i j : Int} (h : CMul i j) : BinD X .Mult (.int i) (.int j) (.int (i * j)) := bin_I op_mul h
theorem bin_div {i j : Int} (h : CDiv i j) : BinD X .FloorDiv (.int i) (.int j) (.int (i / j)) := bin_I op_fdiv h
theorem bin_mod {i j : Int} (h : 0 < j) : BinD X .Mod (.int i) (.int j) (.int (i % j)) := bin_I op_mod h
theorem bin_pow {i j : Int} (h : CPow i j) : BinD X .Pow (.int i) (.int j) (.int (i ^ j.toNat)) := bin_I op_pow h
theorem bin_str {x y : Str} (h : x.length + y.length ≤ sizeLine) : BinD X .Add (.str x) (.str y) (.str (x ++ y)) :=
  ⟨_, op_add_str, r2_sc rfl fun H v u Q hv hu q => ⟨x, y, hv.inv_str, hu.inv_str, h, q _ (.str _)⟩⟩
theorem bin_S {x y : List Nat} (h : x.length + y.length ≤ 100000) : BinD X .Add (S x) (S y) (S (x ++ y)) := by
  have q := bin_str (X := X) (x := tx x) (y := tx y) (line_ok (by rw [tx_len, tx_len]; exact h))
  rw [tx_add] at q
  exact q
theorem binL_cat {xs ys : List D} (h : xs.length + ys.length ≤ 100000) : BinL X .Add (.list xs) (.list ys) (xs ++ ys) :=
  ⟨_, op_cat, fun F H v u Q hf hv hu q => by
    obtain ⟨p, vs, rfl, hp, h1⟩ := hv.inv_lst
    obtain ⟨p', ws, rfl, hp', h2⟩ := hu.inv_lst
    exact ⟨p, p', vs, ws, rfl, rfl, hf _ _ hp, hf _ _ hp', by rw [h1.length, h2.length]; exact line_ok h, fun l hl => q l _ F _ (.mine hf hl) hl (hf.free hl) upd_same (h1.append h2)⟩⟩
theorem dq_rep {K : PySem.W.Frag} {F : Hp} {vs : List V} {xs : List D} (h : DqAll K F vs xs) : ∀ n : Nat, DqAll K F (List.replicate n vs).flatten (List.replicate n xs).flatten
  | 0 => .nil
  | n + 1 => by
    rw [List.replicate_succ, List.replicate_succ, List.flatten_cons, List.flatten_cons]
    exact h.append (dq_rep h n)

/-! ### comparisons -/
theorem cmp_I {op : CmpOp} {g : Int → Int → Bool} {i j : Int} (ho : OpR X (compareOp op) (rI0 fun i j => .bl (g i j))) : CmpD X op (.int i) (.int j) (g i j) :=
  ⟨_, ho, r2_sc rfl fun H v u Q hv hu q => ⟨i, j, hv.inv_int, hu.inv_int, q _ (.bl _)⟩⟩
theorem cmp_lt {i j : Int} : CmpD X .Lt (.int i) (.int j) (decide (i < j)) := cmp_I op_lt
theorem cmp_le {i j : Int} : CmpD X .LtE (.int i) (.int j) (decide (i ≤ j)) := cmp_I op_le
theorem cmp_gt {i j : Int} : CmpD X .Gt (.int i) (.int j) (decide (j < i)) := cmp_I op_gt
theorem cmp_ge {i j : Int} : CmpD X .GtE (.int i) (.int j) (decide (j ≤ i)) := cmp_I op_ge
/-- a value without an object as V -/
def vOf : D → V
  | .none => .non
  | .bool b => .bl b
  | .int i => .int i
  | .str x => .str x
  | _ => .non
theorem Dq.vOf {K : PySem.W.Frag} {H : Hp} {v : V} {d : D} (h : Dq K H v d) (s : scalD d = true) : v = vOf d := by
  cases h with
  | lst _ _ => cases s
  | tup _ _ => cases s
  | scri _ => cases s
  | ins _ _ _ => cases s
  | _ => rfl
/-- two such that == tells apart as data -/
def scal2 (x y : D) : Bool := scalD x && scalD y && scal (vOf x) (vOf y)
theorem eqv_vOf : ∀ {x y : D}, scal2 x y = true → decide (vOf x = vOf y) = PyData.eqv x y := by
  intro x y h
  cases x <;> cases y <;> first
    | (exfalso; revert h; simp [scal2, scalD, scal, vOf]; done)
    | (simp [vOf, PyData.eqv]; done)
    | (rw [Bool.eq_iff_iff]; simp [vOf, PyData.eqv]; done)
theorem scal2_1 {x y : D} (h : scal2 x y = true) : scalD x = true := by simp only [scal2, Bool.and_eq_true] at h; exact h.1.1
theorem scal2_2 {x y : D} (h : scal2 x y = true) : scalD y = true := by simp only [scal2, Bool.and_eq_true] at h; exact h.1.2
theorem scal2_3 {x y : D} (h : scal2 x y = true) : scal (vOf x) (vOf y) = true := by simp only [scal2, Bool.and_eq_true] at h; exact h.2
theorem cmp_eq {x y : D} (h : scal2 x y = true := by rfl) : CmpD X .Eq x y (PyData.eqv x y) :=
  ⟨_, op_eq, r2_sc rfl fun H v u Q hv hu q => by
    rw [hv.vOf (scal2_1 h), hu.vOf (scal2_2 h)]
    exact ⟨scal2_3 h, q _ (by rw [eqv_vOf h]; exact .bl _)⟩⟩
theorem cmp_ne {x y : D} (h : scal2 x y = true := by rfl) : CmpD X .NotEq x y (!PyData.eqv x y) :=
  ⟨_, op_ne, r2_sc rfl fun H v u Q hv hu q => by
    rw [hv.vOf (scal2_1 h), hu.vOf (scal2_2 h)]
    exact ⟨scal2_3 h, q _ (by rw [eqv_vOf h]; exact .bl _)⟩⟩
theorem CmpD.is {op : CmpOp} {x y : D} {p q : Bool} (h : CmpD X op x y p) (e : p = q) : CmpD X op x y q := e ▸ h
theorem cmp_eqI {i j : Int} : CmpD X .Eq (.int i) (.int j) (decide (i = j)) := CmpD.is cmp_eq (by rw [Bool.eq_iff_iff]; simp [PyData.eqv])
theorem cmp_neI {i j : Int} : CmpD X .NotEq (.int i) (.int j) (!decide (i = j)) := CmpD.is cmp_ne (by rw [Bool.eq_iff_iff]; simp [PyData.eqv])
theorem cmp_eqS {i j : List Nat} : CmpD X .Eq (S i) (S j) (decide (i = j)) := CmpD.is cmp_eq (by rw [Bool.eq_iff_iff]; simp [PyData.eqv])
theorem cmp_neS {i j : List Nat} : CmpD X .NotEq (S i) (S j) (!decide (i = j)) := CmpD.is cmp_ne (by rw [Bool.eq_iff_iff]; simp [PyData.eqv])
/-- of data at any depth -/
theorem cmp_eqD {x y : D} (hu : X.A.units + 64 < cLine) (hx : SeqAt.shaped x = true) (hy : SeqAt.shaped y = true) : CmpD X .Eq x y (PyData.eqv x y) :=
  ⟨_, op_eqD hu, r2_sc rfl fun H v u Q hv hu q => ⟨x, y, hv.dp (SeqAt.canLay_of_shaped hx), hu.dp (SeqAt.canLay_of_shaped hy), hx, hy, q _ (.bl _)⟩⟩
theorem cmp_neD {x y : D} (hu : X.A.units + 64 < cLine) (hx : SeqAt.shaped x = true) (hy : SeqAt.shaped y = true) : CmpD X .NotEq x y (!PyData.eqv x y) :=
  ⟨_, op_neD hu, r2_sc rfl fun H v u Q hv hu q => ⟨x, y, hv.dp (SeqAt.canLay_of_shaped hx), hu.dp (SeqAt.canLay_of_shaped hy), hx, hy, q _ (.bl _)⟩⟩
/-- is None -/
def isN : D → Bool
  | .none => true
  | _ => false
theorem Dq.isN {K : PySem.W.Frag} {H : Hp} {v : V} {d : D} (h : Dq K H v d) : decide (v = .non) = isN d := by
  cases h <;> simp [Lay.isN]
theorem cmp_isN {x : D} : CmpD X .Is x .none (isN x) :=
  ⟨_, op_isN, r2_sc rfl fun H v u Q hv hu q => ⟨hu.inv_non, q _ (by rw [hv.isN]; exact .bl _)⟩⟩
theorem cmp_notN {x : D} : CmpD X .IsNot x .none (!isN x) :=
  ⟨_, op_notN, r2_sc rfl fun H v u Q hv hu q => ⟨hu.inv_non, q _ (by rw [hv.isN]; exact .bl _)⟩⟩
/-- a text among texts -/
theorem dq_strs {K : PySem.W.Frag} {H : Hp} : ∀ {vs : List V} {ls : List (List Nat)}, DqAll K H vs (ls.map S) → vs = ls.map fun l => V.str (tx l)
  | _, [], h => by cases h; rfl
  | _, l :: ls, h => by
    cases h with
    | cons h r => rw [h.inv_str, dq_strs r]; rfl
theorem inV_strs (l : List Nat) : ∀ ls : List (List Nat), inV (.str (tx l)) (ls.map fun l => V.str (tx l)) = decide (l ∈ ls)
  | [] => rfl
  | m :: ls => by
    have ih := inV_strs l ls
    unfold inV at ih ⊢
    rw [List.map_cons, List.any_cons, ih]
    rw [Bool.eq_iff_iff]
    simp only [Bool.or_eq_true, decide_eq_true_eq, List.mem_cons]
    constructor
    · rintro (h | h)
      · left
        have : tx m = tx l := by simpa [eqV] using h
        exact (tx_inj.mp this).symm
      · exact .inr h
    · rintro (h | h)
      · left
        subst h
        simp [eqV]
      · exact .inr h
theorem flat_strs (ls : List (List Nat)) : (ls.map fun l => V.str (tx l)).all flatV = true := by
  rw [List.all_eq_true]
  intro x hx
  obtain ⟨l, _, rfl⟩ := List.mem_map.mp hx
  rfl
theorem cmp_inSs {l : List Nat} {ls : List (List Nat)} : CmpD X .In (S l) (.list (ls.map S)) (decide (l ∈ ls)) :=
  ⟨_, op_in_seq, r2_sc rfl fun H v u Q hv hu q => by
    obtain ⟨p, vs, rfl, hp, h1⟩ := hu.inv_lst
    rw [hv.inv_str]
    rw [dq_strs h1] at hp
    exact ⟨p, _, rfl, .inl (.of hp), rfl, flat_strs ls, q _ (by show Dq X.K H (.bl (if false = true then _ else _)) _; rw [if_neg Bool.false_ne_true, inV_strs]; exact .bl _)⟩⟩
theorem cmp_niSs {l : List Nat} {ls : List (List Nat)} : CmpD X .NotIn (S l) (.list (ls.map S)) (!decide (l ∈ ls)) :=
  ⟨_, op_notIn_seq, r2_sc rfl fun H v u Q hv hu q => by
    obtain ⟨p, vs, rfl, hp, h1⟩ := hu.inv_lst
    rw [hv.inv_str]
    rw [dq_strs h1] at hp
    exact ⟨p, _, rfl, .inl (.of hp), rfl, flat_strs ls, q _ (by show Dq X.K H (.bl (if true = true then _ else _)) _; rw [if_pos rfl, inV_strs]; exact .bl _)⟩⟩
/-- a sign in a text -/
theorem cmp_inS {c : Nat} {l : List Nat} : CmpD X .In (S [c]) (S l) (decide (c ∈ l)) :=
  ⟨_, op_in_sign, r2_sc rfl fun H v u Q hv hu q => ⟨c, tx l, hv.inv_str, hu.inv_str, q _ (.bl _)⟩⟩
theorem cmp_niS {c : Nat} {l : List Nat} : CmpD X .NotIn (S [c]) (S l) (!decide (c ∈ l)) :=
  ⟨_, op_notIn_sign, r2_sc rfl fun H v u Q hv hu q => ⟨c, tx l, hv.inv_str, hu.inv_str, q _ (.bl _)⟩⟩

/-! ### x[i], x[a:b] -/
def IxD (X : Cx) (x y d : D) : Prop := ∃ r, IxR X r ∧ R2D X r x y d
theorem e_ix {x y : D} (ha : E X sds a x) (hb : E X sds b y) (h : IxD X x y d) (hp : PlainIx b := by exact fun _ _ => rfl) : E X sds (.Subscript a b pos) d := fun F σ H hs hf Q q => by
  obtain ⟨r, ho, hr⟩ := h
  refine ⟨_, pe_ix ho pe_we pe_we hp, two ha hb hs hf fun v u F2 H2 st hv hu => ?_⟩
  exact hr F2 H2 v u Q st.fh hv hu fun z F3 H3 s3 hz => q z F3 H3 (st.trans s3) hz
theorem atI_dq {K : PySem.W.Frag} {F : Hp} {vs : List V} {ds : List D} {i : Int} (h : DqAll K F vs ds) (hi : atI ds i = some d) : ∃ v, atI vs i = some v ∧ Dq K F v d := by
  unfold atI at hi ⊢
  rw [h.length]
  cases q : ixN ds.length i with
  | none => rw [q] at hi; cases hi
  | some j =>
    rw [q] at hi
    obtain ⟨v, h1, h2⟩ := h.get (i := j) hi
    exact ⟨v, h1, h2⟩
theorem ix_L {xs : List D} {i : Int} (h : atI xs i = some d) : IxD X (.list xs) (.int i) d := ⟨_, ix_list, fun F H v u Q hf hv hu q => by
  obtain ⟨p, vs, rfl, hp, h1⟩ := hv.inv_lst
  obtain ⟨w, e, hw⟩ := atI_dq h1 h
  exact ⟨p, vs, i, w, rfl, hu.inv_int, .of (hf _ _ hp), e, q w F H (.refl hf) hw⟩⟩
theorem ix_T {xs : List D} {i : Int} (h : atI xs i = some d) : IxD X (.tuple xs) (.int i) d := ⟨_, ix_tup, fun F H v u Q hf hv hu q => by
  obtain ⟨p, vs, rfl, hp, h1⟩ := hv.inv_tup
  obtain ⟨w, e, hw⟩ := atI_dq h1 h
  exact ⟨p, vs, i, w, rfl, hu.inv_int, .of (hf _ _ hp), e, q w F H (.refl hf) hw⟩⟩
theorem ix_S {l : List Nat} {i : Int} {c : Nat} (h : atI l i = some c) (hz : l.length ≤ 100000) : IxD X (S l) (.int i) (S [c]) :=
  ⟨_, ix_str, r2_sc rfl fun H v u Q hv hu q => ⟨tx l, i, c, hv.inv_str, hu.inv_int, by rw [tx_len]; exact line_ok hz, h, q _ (.str _)⟩⟩
theorem ix_scr {ns : List Int} {i n : Int} (h : atI ns i = some n) : IxD X (scr ns) (.int i) (.int n) := ⟨_, ix_list, r2_sc rfl fun H v u Q hv hu q => by
  obtain ⟨p, rfl, hp⟩ := hv.inv_scr
  refine ⟨p, _, i, .int n, rfl, hu.inv_int, hp, ?_, q _ (.int _)⟩
  unfold atI at h ⊢
  rw [List.length_map]
  cases z : ixN ns.length i with
  | none => rw [z] at h; cases h
  | some j =>
    rw [z] at h
    show (ns.map V.int)[j]? = _
    have h' : ns[j]? = some n := h
    rw [List.getElem?_map, h']
    rfl⟩
/-- parts of a slice -/
def EO (X : Cx) (sds : List (Option D)) (e : Option Expr) (o : Option Int) : Prop := (e = none ∧ o = none) ∨ ∃ e' i, e = some e' ∧ o = some i ∧ E X sds e' (.int i)
theorem eo_none : EO X sds none none := .inl ⟨rfl, rfl⟩
theorem eo_some {i : Int} (h : E X sds e (.int i)) : EO X sds (some e) (some i) := .inr ⟨e, i, rfl, rfl, h⟩
def WO (X : Cx) (e : Option Expr) : TO := fun σ H Q => ∃ t, PO X e t ∧ t σ H Q
theorem po_wo {e : Option Expr} : PO X e (WO X e) := ⟨fun pins s σ H Q I ⟨_, h, q⟩ => h.run pins s σ H Q I q⟩
theorem EO.run {eo : Option Expr} {o : Option Int} (h : EO X sds eo o) {F : Hp} {σ : St} {H : Hp} (hs : SD X.K F σ sds) (hf : Same F H) {Q : Option Int → Hp → Prop} (q : ∀ F2 H2, Step F H F2 H2 → Q o H2) : WO X eo σ H Q := by
  rcases h with ⟨rfl, rfl⟩ | ⟨e', i, rfl, rfl, h⟩
  · exact ⟨_, po_none, q F H (.refl hf)⟩
  · exact ⟨_, po_some pe_we, h F σ H hs hf _ fun v F2 H2 st hv => ⟨i, hv.inv_int, q F2 H2 st⟩⟩
variable {lo hi : Option Expr} {ol oh : Option Int} {p2 : Pos}
def cutD (xs : List D) (lo hi : Option Int) : List D := (xs.drop (HT.sIx xs.length 0 lo)).take (HT.sIx xs.length xs.length hi - HT.sIx xs.length 0 lo)
def cutN (xs : List Nat) (lo hi : Option Int) : List Nat := (xs.drop (HT.sIx xs.length 0 lo)).take (HT.sIx xs.length xs.length hi - HT.sIx xs.length 0 lo)
theorem el_slL {xs : List D} (ha : E X sds a (.list xs)) (hl : EO X sds lo ol) (hh : EO X sds hi oh) : EL X sds (.Subscript a (.Slice lo hi none p2) pos) (cutD xs ol oh) := fun F σ H hs hf Q q =>
  ⟨_, pe_slice sl_list pe_we po_wo po_wo, ha F σ H hs hf _ fun v F1 H1 s1 hv => hl.run (hs.mono s1.ff) s1.fh fun F2 H2 s2 => hh.run ((hs.mono s1.ff).mono s2.ff) s2.fh fun F3 H3 s3 => by
    obtain ⟨p, vs, rfl, hp, h1⟩ := hv.inv_lst
    have h1' := (h1.mono s2.ff).mono s3.ff
    refine ⟨p, vs, rfl, .of (s3.fh _ _ (s3.ff _ _ (s2.ff _ _ hp))), fun l hl => ?_⟩
    have st := (s1.trans s2).trans s3
    refine q l _ F3 _ (st.trans (.mine s3.fh hl)) (st.hh.free hl) (s3.fh.free hl) upd_same ?_
    unfold cutV cutD
    rw [h1'.length]
    exact (h1'.drop _).take _⟩
theorem e_slS {l : List Nat} (ha : E X sds a (S l)) (hl : EO X sds lo ol) (hh : EO X sds hi oh) (hz : l.length ≤ 100000) : E X sds (.Subscript a (.Slice lo hi none p2) pos) (S (cutN l ol oh)) := fun F σ H hs hf Q q =>
  ⟨_, pe_slice sl_str pe_we po_wo po_wo, ha F σ H hs hf _ fun v F1 H1 s1 hv => hl.run (hs.mono s1.ff) s1.fh fun F2 H2 s2 => hh.run ((hs.mono s1.ff).mono s2.ff) s2.fh fun F3 H3 s3 => by
    refine ⟨tx l, hv.inv_str, by rw [tx_len]; exact line_ok hz, q _ F3 H3 ((s1.trans s2).trans s3) ?_⟩
    have e : cutS (tx l) ol oh = tx (cutN l ol oh) := by
      unfold cutS cutN
      rw [tx_len]
    rw [e]
    exact .str _⟩
/-- t[a:b], not the whole of it -/
theorem e_slT {xs : List D} (ha : E X sds a (.tuple xs)) (hl : EO X sds lo ol) (hh : EO X sds hi oh) (hw : ¬ (HT.sIx xs.length 0 ol = 0 ∧ HT.sIx xs.length xs.length oh = xs.length)) : E X sds (.Subscript a (.Slice lo hi none p2) pos) (.tuple (cutD xs ol oh)) := fun F σ H hs hf Q q =>
  ⟨_, pe_slice sl_tup pe_we po_wo po_wo, ha F σ H hs hf _ fun v F1 H1 s1 hv => hl.run (hs.mono s1.ff) s1.fh fun F2 H2 s2 => hh.run ((hs.mono s1.ff).mono s2.ff) s2.fh fun F3 H3 s3 => by
    obtain ⟨p, vs, rfl, hp, h1⟩ := hv.inv_tup
    have h1' := (h1.mono s2.ff).mono s3.ff
    have st := (s1.trans s2).trans s3
    refine ⟨p, vs, rfl, .of (s3.fh _ _ (s3.ff _ _ (s2.ff _ _ hp))), by rw [h1'.length]; exact hw, fun l hl => q _ (upd F3 l (.tup (cutV vs ol oh))) _ (st.trans (.new s3.fh hl)) (.tup upd_same ?_)⟩
    refine DqAll.mono (same_upd (s3.fh.free hl)) ?_
    unfold cutV cutD
    rw [h1'.length]
    exact (h1'.drop _).take _⟩
theorem sIx_n (n k : Nat) (hk : k ≤ n) (d : Nat) : HT.sIx n d (some (k : Int)) = k := by rw [HT.sIx_nat]; omega
theorem cutN_to (l : List Nat) (k : Nat) : cutN l none (some (k : Int)) = l.take k := by
  unfold cutN
  rw [HT.sIx_none, HT.sIx_nat, Nat.sub_zero, List.drop_zero]
  by_cases h : k ≤ l.length
  · rw [Nat.min_eq_left h]
  · rw [Nat.min_eq_right (by omega), List.take_of_length_le (Nat.le_refl _), List.take_of_length_le (by omega)]
theorem cutN_from (l : List Nat) (k : Nat) : cutN l (some (k : Int)) none = l.drop k := by
  unfold cutN
  rw [HT.sIx_none, HT.sIx_nat]
  by_cases h : k ≤ l.length
  · rw [Nat.min_eq_left h, List.take_of_length_le (by rw [List.length_drop]; omega)]
  · rw [Nat.min_eq_right (by omega), List.drop_of_length_le (Nat.le_refl _), List.drop_of_length_le (by omega), List.take_nil]
theorem cutD_to (l : List D) (k : Nat) : cutD l none (some (k : Int)) = l.take k := by
  unfold cutD
  rw [HT.sIx_none, HT.sIx_nat, Nat.sub_zero, List.drop_zero]
  by_cases h : k ≤ l.length
  · rw [Nat.min_eq_left h]
  · rw [Nat.min_eq_right (by omega), List.take_of_length_le (Nat.le_refl _), List.take_of_length_le (by omega)]

/-! ### calls of built-ins -/
def CallD (X : Cx) (f : Value) (ds : List D) (d : D) : Prop := ∃ r, CallR X f r ∧ ∀ (F H : Hp) (vs : List V) (Q : VK), Same F H → DqAll X.K F vs ds → (∀ z F2 H2, Step F H F2 H2 → Dq X.K F2 z d → Q z H2) → r vs H Q
def CallL (X : Cx) (f : Value) (ds xs : List D) : Prop := ∃ r, CallR X f r ∧ ∀ (F H : Hp) (vs : List V) (Q : VK), Same F H → DqAll X.K F vs ds →
  (∀ p ws F2 H2, Step F H F2 H2 → H p = none → F2 p = none → H2 p = some (.lst ws) → DqAll X.K F2 ws xs → Q (.ref p) H2) → r vs H Q
variable {es : List Expr} {x : Str} {p : Pos}
theorem e_callB {id : String} {ds : List D} (h : CallD X (.builtin id) ds d) (ha : EA X sds (e :: es) ds) (hm : X.mg x = none) (hv : bootBuiltins x = some (.builtin id) := by first | rfl | decide +kernel) (hg : Gl X x := by rfl)
    (hn : x ≠ "__name__" := by decide) (hdb : (x == ("__debug__" : Str)) = false := by decide)
    (he : starEach (e :: es) X.env = (false, eval e X.env) :: starEach es X.env := by rfl) (hpl : (backTo pos (starEach es X.env)).any (·.1) = false := by rfl) : E X sds (.Call (.Name x p) (e :: es) [] pos) d := fun F σ H hs hf Q q => by
  obtain ⟨r, ho, hr⟩ := h
  exact ⟨_, pe_callB ho hg hm hv pa_wa hn hdb he hpl, ha F σ H hs hf _ fun vs F2 H2 st hvs => hr F2 H2 vs Q st.fh hvs fun z F3 H3 s3 hz => q z F3 H3 (st.trans s3) hz⟩
theorem e_callTy {id : String} {ds : List D} (h : CallD X (.type id) ds d) (ha : EA X sds (e :: es) ds) (hm : X.mg x = none) (hv : bootBuiltins x = some (.type id) := by first | rfl | decide +kernel) (hg : Gl X x := by rfl)
    (hn : x ≠ "__name__" := by decide) (hdb : (x == ("__debug__" : Str)) = false := by decide)
    (he : starEach (e :: es) X.env = (false, eval e X.env) :: starEach es X.env := by rfl) (hpl : (backTo pos (starEach es X.env)).any (·.1) = false := by rfl) : E X sds (.Call (.Name x p) (e :: es) [] pos) d := fun F σ H hs hf Q q => by
  obtain ⟨r, ho, hr⟩ := h
  exact ⟨_, pe_callTy ho hg hm hv pa_wa hn hdb he hpl, ha F σ H hs hf _ fun vs F2 H2 st hvs => hr F2 H2 vs Q st.fh hvs fun z F3 H3 s3 hz => q z F3 H3 (st.trans s3) hz⟩
theorem el_callB {id : String} {ds xs : List D} (h : CallL X (.builtin id) ds xs) (ha : EA X sds (e :: es) ds) (hm : X.mg x = none) (hv : bootBuiltins x = some (.builtin id) := by first | rfl | decide +kernel) (hg : Gl X x := by rfl)
    (hn : x ≠ "__name__" := by decide) (hdb : (x == ("__debug__" : Str)) = false := by decide)
    (he : starEach (e :: es) X.env = (false, eval e X.env) :: starEach es X.env := by rfl) (hpl : (backTo pos (starEach es X.env)).any (·.1) = false := by rfl) : EL X sds (.Call (.Name x p) (e :: es) [] pos) xs := fun F σ H hs hf Q q => by
  obtain ⟨r, ho, hr⟩ := h
  exact ⟨_, pe_callB ho hg hm hv pa_wa hn hdb he hpl, ha F σ H hs hf _ fun vs F2 H2 st hvs => hr F2 H2 vs Q st.fh hvs fun z ws F3 H3 s3 h1 h2 h3 h4 => q z ws F3 H3 (st.trans s3) (st.hh.free h1) h2 h3 h4⟩
theorem el_callTy {id : String} {ds xs : List D} (h : CallL X (.type id) ds xs) (ha : EA X sds (e :: es) ds) (hm : X.mg x = none) (hv : bootBuiltins x = some (.type id) := by first | rfl | decide +kernel) (hg : Gl X x := by rfl)
    (hn : x ≠ "__name__" := by decide) (hdb : (x == ("__debug__" : Str)) = false := by decide)
    (he : starEach (e :: es) X.env = (false, eval e X.env) :: starEach es X.env := by rfl) (hpl : (backTo pos (starEach es X.env)).any (·.1) = false := by rfl) : EL X sds (.Call (.Name x p) (e :: es) [] pos) xs := fun F σ H hs hf Q q => by
  obtain ⟨r, ho, hr⟩ := h
  exact ⟨_, pe_callTy ho hg hm hv pa_wa hn hdb he hpl, ha F σ H hs hf _ fun vs F2 H2 st hvs => hr F2 H2 vs Q st.fh hvs fun z ws F3 H3 s3 h1 h2 h3 h4 => q z ws F3 H3 (st.trans s3) (st.hh.free h1) h2 h3 h4⟩
/-- the answer is no object -/
theorem call_sc {f : Value} {r : List V → Hp → VK → Prop} {ds : List D} (ho : CallR X f r) (hs : scalD d = true) (h : ∀ (H : Hp) (vs : List V) (Q : VK), DqAll X.K H vs ds → (∀ z, Dq X.K H z d → Q z H) → r vs H Q) : CallD X f ds d :=
  ⟨r, ho, fun F H vs Q hf hv q => h H vs Q (hv.mono hf) fun z hz => q z F H (.refl hf) (hz.scal hs)⟩
theorem DqAll.inv1 {K : PySem.W.Frag} {H : Hp} {vs : List V} {d : D} (h : DqAll K H vs [d]) : ∃ v, vs = [v] ∧ Dq K H v d := by
  cases h with
  | cons h r => cases r; exact ⟨_, rfl, h⟩
theorem DqAll.inv2 {K : PySem.W.Frag} {H : Hp} {vs : List V} {d d' : D} (h : DqAll K H vs [d, d']) : ∃ v v', vs = [v, v'] ∧ Dq K H v d ∧ Dq K H v' d' := by
  cases h with
  | cons h r =>
    obtain ⟨v', rfl, h'⟩ := r.inv1
    exact ⟨_, _, rfl, h, h'⟩
theorem cd_lenL {xs : List D} : CallD X (.builtin "len") [.list xs] (.int xs.length) := call_sc call_len_seq rfl fun H vs Q hv q => by
  obtain ⟨v, rfl, h⟩ := hv.inv1
  obtain ⟨p, ws, rfl, hp, h1⟩ := h.inv_lst
  exact ⟨p, ws, rfl, .inl (.of hp), q _ (by rw [h1.length]; exact .int _)⟩
theorem cd_lenT {xs : List D} : CallD X (.builtin "len") [.tuple xs] (.int xs.length) := call_sc call_len_seq rfl fun H vs Q hv q => by
  obtain ⟨v, rfl, h⟩ := hv.inv1
  obtain ⟨p, ws, rfl, hp, h1⟩ := h.inv_tup
  exact ⟨p, ws, rfl, .inr (.of hp), q _ (by rw [h1.length]; exact .int _)⟩
theorem cd_lenScr {ns : List Int} : CallD X (.builtin "len") [scr ns] (.int ns.length) := call_sc call_len_seq rfl fun H vs Q hv q => by
  obtain ⟨v, rfl, h⟩ := hv.inv1
  obtain ⟨p, rfl, hp⟩ := h.inv_scr
  exact ⟨p, _, rfl, .inl hp, q _ (by rw [List.length_map]; exact .int _)⟩
theorem cd_lenS {l : List Nat} (hz : l.length ≤ 100000) : CallD X (.builtin "len") [S l] (.int l.length) := call_sc call_len_str rfl fun H vs Q hv q => by
  obtain ⟨v, rfl, h⟩ := hv.inv1
  exact ⟨tx l, by rw [h.inv_str], by rw [tx_len]; exact line_ok hz, q _ (by rw [tx_len]; exact .int _)⟩
theorem cd_max2 {i j : Int} (hc : X.calm = true := by rfl) : CallD X (.builtin "max") [.int i, .int j] (.int (if j > i then j else i)) := call_sc (call_max2 hc) rfl fun H vs Q hv q => by
  obtain ⟨v, v', rfl, h, h'⟩ := hv.inv2
  exact ⟨i, j, by rw [h.inv_int, h'.inv_int], q _ (.int _)⟩
theorem cd_min2 {i j : Int} (hc : X.calm = true := by rfl) : CallD X (.builtin "min") [.int i, .int j] (.int (if j < i then j else i)) := call_sc (call_min2 hc) rfl fun H vs Q hv q => by
  obtain ⟨v, v', rfl, h, h'⟩ := hv.inv2
  exact ⟨i, j, by rw [h.inv_int, h'.inv_int], q _ (.int _)⟩
theorem cd_intB {c : Bool} : CallD X (.type "int") [.bool c] (.int (if c then 1 else 0)) := call_sc call_int1 rfl fun H vs Q hv q => by
  obtain ⟨v, rfl, h⟩ := hv.inv1
  exact .inr ⟨c, by rw [h.inv_bl], q _ (.int _)⟩
theorem cd_intS {l : List Nat} {n : Int} (h1 : PySem.intText? (tx l) = some n) (h2 : l.length ≤ 640) : CallD X (.type "int") [S l] (.int n) := call_sc call_int_str rfl fun H vs Q hv q => by
  obtain ⟨v, rfl, h⟩ := hv.inv1
  exact ⟨tx l, n, by rw [h.inv_str], h1, by rw [tx_len]; exact h2, q _ (.int _)⟩
theorem cd_strI {i : Int} (h : i.natAbs.log2 < 1920) : CallD X (.type "str") [.int i] (.str (Str.ofString (toString i))) := call_sc call_str_int rfl fun H vs Q hv q => by
  obtain ⟨v, rfl, h'⟩ := hv.inv1
  exact ⟨i, by rw [h'.inv_int], h, q _ (.str _)⟩
theorem cl_list {xs : List D} : CallL X (.type "list") [.list xs] xs := ⟨_, call_list_of, fun F H vs Q hf hv q => by
  obtain ⟨v, rfl, h⟩ := hv.inv1
  obtain ⟨p, ws, rfl, hp, h1⟩ := h.inv_lst
  exact ⟨p, ws, rfl, .inl (.of (hf _ _ hp)), fun l hl => q l ws F _ (.mine hf hl) hl (hf.free hl) upd_same h1⟩⟩

/-! isinstance(x, T), T a built-in class -/
def tyD : D → String
  | .none => "NoneType"
  | .bool _ => "bool"
  | .int _ => "int"
  | .str _ => "str"
  | .list _ => "list"
  | .tuple _ => "tuple"
  | .dict _ => "list"
theorem Dq.ty {K : PySem.W.Frag} {H : Hp} {v : V} {d : D} (h : Dq K H v d) (hd : ∀ kvs, d ≠ .dict kvs) : TyX K H v (.type (tyD d)) := by
  cases h with
  | non => exact .base .non
  | bl b => exact .base (.bl b)
  | int i => exact .base (.int i)
  | str x => exact .base (.str x)
  | lst h _ => exact .base (.lst h)
  | tup h _ => exact .base (.tup h)
  | scri h => exact absurd rfl (hd _)
  | ins _ _ _ => exact absurd rfl (hd _)
/-- the script's own data -/
def dictD : D → Bool
  | .dict _ => true
  | _ => false
theorem dictD_ne {d : D} (h : dictD d = false) : ∀ kvs, d ≠ .dict kvs := fun kvs e => by
  subst e
  cases h
/-- a built-in class as the second argument; ty: the datum's own, T: the asked one, r: the answer -/
theorem e_isi (ty T : String) (r : Bool) {y : D} {t : Str} {p1 p2 : Pos} (ha : E X sds a y) (hm : X.mg x = none) (hmt : X.mg t = none) (ht : tyD y = ty := by rfl) (hd : dictD y = false := by rfl) (hk : kitB ty T = some r := by decide +kernel)
    (hv : bootBuiltins x = some (.builtin "isinstance") := by decide +kernel) (hg : Gl X x := by rfl) (hvt : bootBuiltins t = some (.type T) := by decide +kernel) (hgt : Gl X t := by rfl)
    (hn : x ≠ "__name__" := by decide) (hdb : (x == ("__debug__" : Str)) = false := by decide) (hn2 : t ≠ "__name__" := by decide) (hdb2 : (t == ("__debug__" : Str)) = false := by decide)
    (h0 : starEach [.Name t p2] X.env = (false, eval (.Name t p2) X.env) :: starEach [] X.env := by rfl)
    (he : starEach [a, .Name t p2] X.env = (false, eval a X.env) :: starEach [.Name t p2] X.env := by rfl) (hpl : (backTo pos (starEach [.Name t p2] X.env)).any (·.1) = false := by rfl) :
    E X sds (.Call (.Name x p1) [a, .Name t p2] [] pos) (.bool r) := fun F σ H hs hf Q q => by
  refine ⟨_, pe_callB call_isi hg hm hv (pa_cons pe_we (pa_cons (pe_bltn hgt hmt hvt (v := .ty T) rfl hn2 hdb2) pa_nil h0) he) hn hdb he hpl, ha F σ H hs hf _ fun v F2 H2 st hv => ?_⟩
  exact ⟨v, .ty T, .type ty, .type T, r, rfl, .ty T, ht ▸ (hv.mono st.fh).ty (dictD_ne hd), kit_ty hk, q _ F2 H2 st (.bl r)⟩
end
end Lay

namespace Lay
open PySem PySem.Spec L2

/-! ### what is walked -/
structure Yields (K : PySem.W.Frag) (J : It) (F : Hp) (ds : List D) : Prop where
  go : ∀ i H, Same F H → i < ds.length → J.go i H
  stop : ∀ H, Same F H → J.stop ds.length H
  yld : ∀ i H x H', Same F H → i < ds.length → J.yld i H x H' → H' = H ∧ ∃ d, ds[i]? = some d ∧ Dq K F x d
def WI (X : Cx) (tg iter : Expr) : TI := fun σ H R => ∃ t, PI X tg iter t ∧ t σ H R
theorem pi_wi {X : Cx} {tg iter : Expr} : PI X tg iter (WI X tg iter) := ⟨fun pins s σ H R I ⟨_, h, q⟩ => h.run pins s σ H R I q⟩
/-- iter gives the data ds, one by one -/
def IT (X : Cx) (sds : List (Option D)) (tg iter : Expr) (ds : List D) : Prop := ∀ (F : Hp) (σ : St) (H : Hp), SD X.K F σ sds → Same F H → ∀ R : It → Hp → Prop, (∀ J F2 H2, Step F H F2 H2 → Yields X.K J F2 ds → R J H2) → WI X tg iter σ H R
/-- the ints 0 .. n - 1 -/
def rng (n : Nat) : List D := (List.range n).map fun i : Nat => .int (i : Int)
theorem rng_len (n : Nat) : (rng n).length = n := by simp [rng]
theorem rng_get {n i : Nat} (h : i < n) : (rng n)[i]? = some (.int (i : Int)) := by
  unfold rng
  rw [List.getElem?_map, List.getElem?_range h]
  rfl
section
variable {X : Cx} {sds : List (Option D)} {e a b tg : Expr} {d da db : D} {pos : Pos} {x : Str} {p : Pos} {es : List Expr}
theorem IT.is {xs ys : List D} (h : IT X sds tg e xs) (q : xs = ys) : IT X sds tg e ys := q ▸ h
theorem it_list {ds : List D} (h : E X sds e (.list ds)) : IT X sds tg e ds := fun F σ H hs hf R q =>
  ⟨_, pi_list pe_we, h F σ H hs hf _ fun v F2 H2 st hv => by
    obtain ⟨a, xs, rfl, ha, h1⟩ := hv.inv_lst
    refine ⟨a, rfl, ⟨xs, .of (st.fh _ _ ha)⟩, q _ F2 H2 st ⟨fun i H' hf' hi => ?_, fun H' hf' => ?_, fun i H' y H'' hf' hi hy => ?_⟩⟩
    · have hi' : i < xs.length := by rw [h1.length]; exact hi
      exact ⟨xs, xs[i], .of (hf' _ _ ha), List.getElem?_eq_getElem hi'⟩
    · exact ⟨xs, .of (hf' _ _ ha), by rw [h1.length]; exact Nat.le_refl _⟩
    · obtain ⟨e1, e2⟩ := hy
      exact ⟨e1, h1.get' (e2 xs (.of (hf' _ _ ha)))⟩⟩
theorem it_str {l : List Nat} (h : E X sds e (S l)) : IT X sds tg e (l.map fun c => S [c]) := fun F σ H hs hf R q =>
  ⟨_, pi_str pe_we, h F σ H hs hf _ fun v F2 H2 st hv => by
    refine ⟨tx l, hv.inv_str, q _ F2 H2 st ⟨fun i H' hf' hi => ?_, fun H' hf' => ?_, fun i H' y H'' hf' hi hy => ?_⟩⟩
    · show i < (tx l).cps.size
      rw [List.length_map] at hi
      simpa using hi
    · show (tx l).cps.size ≤ _
      rw [List.length_map]
      simp
    · obtain ⟨e1, c, e2, rfl⟩ := hy
      have e3 : l[i]? = some c := by simpa using e2
      exact ⟨e1, S [c], by rw [List.getElem?_map, e3]; rfl, .str _⟩⟩
theorem it_range1 {j : Int} (ha : E X sds a (.int j)) (hm : X.mg "range" = none) (h1 : -(2 ^ 62) ≤ j) (h2 : j < 2 ^ 62) (hg : Gl X "range" := by rfl)
    (hs' : starEach [a] X.env = [(false, eval a X.env)] := by rfl) : IT X sds tg (.Call (.Name "range" p) [a] [] pos) (rng j.toNat) := fun F σ H hs hf R q =>
  ⟨_, pi_range1 hg hm (pa_cons pe_we pa_nil hs') hs', ha F σ H hs hf _ fun v F2 H2 st hv => ⟨j, by rw [hv.inv_int], h1, h2, q _ F2 H2 st ⟨fun i H' hf' hi => by rw [rng_len] at hi; exact hi, fun H' hf' => by
    show j.toNat ≤ _
    rw [rng_len]
    exact Nat.le_refl _, fun i H' y H'' hf' hi hy => by
    obtain ⟨e1, e2⟩ := hy
    rw [rng_len] at hi
    refine ⟨e1, .int (i : Int), rng_get hi, ?_⟩
    rw [e2, Int.zero_add]
    exact .int _⟩⟩⟩
theorem it_rev {ds : List D} (h : E X sds e (.list ds)) (hm : X.mg "reversed" = none) (hg : Gl X "reversed" := by rfl) (hs' : starEach [e] X.env = [(false, eval e X.env)] := by rfl) :
    IT X sds tg (.Call (.Name "reversed" p) [e] [] pos) ds.reverse := fun F σ H hs hf R q =>
  ⟨_, pi_reversed hg hm (pa_cons pe_we pa_nil hs') hs', h F σ H hs hf _ fun v F2 H2 st hv => by
    obtain ⟨a, xs, rfl, ha, h1⟩ := hv.inv_lst
    refine ⟨a, xs, rfl, .of (st.fh _ _ ha), q _ F2 H2 st ⟨fun i H' hf' hi => ?_, fun H' hf' => ?_, fun i H' y H'' hf' hi hy => ?_⟩⟩
    · have hi' : i < xs.length := by rw [h1.length]; rw [List.length_reverse] at hi; exact hi
      exact ⟨hi', xs, xs[xs.length - 1 - i], .of (hf' _ _ ha), List.getElem?_eq_getElem (by omega)⟩
    · show xs.length ≤ _
      rw [List.length_reverse, h1.length]
      exact Nat.le_refl _
    · obtain ⟨e1, e2⟩ := hy
      obtain ⟨d, h2, h3⟩ := h1.get' (e2 xs (.of (hf' _ _ ha)))
      rw [List.length_reverse] at hi
      refine ⟨e1, d, ?_, h3⟩
      rw [List.getElem?_reverse hi, ← h1.length]
      exact h2⟩
end

/-! ### the state -/
def KDq (K : PySem.W.Frag) (F : Hp) : List (Key × V) → List (Key × D) → Prop := Paired fun p q => p.1 = q.1 ∧ Dq K F p.2 q.2
def isOwn : Option Sl → Bool
  | some (.own _) => true
  | some (.dct _) => true
  | some (.pin _ _) => true
  | _ => false
/-- the slots σ over the heap H, whose part F stays; F0, H0: at the def's entry -/
structure SR (K : PySem.W.Frag) (F0 H0 F : Hp) (σ : St) (H : Hp) (sls : List Sl) : Prop where
  st : Step F0 H0 F H
  len : σ.length = sls.length
  dat : ∀ (i : Nat) (d : D), sls[i]? = some (.dat d) → ∃ v, σ[i]? = some (some v) ∧ Dq K F v d
  own : ∀ (i : Nat) (ds : List D), sls[i]? = some (.own ds) → ∃ p vs, σ[i]? = some (some (.ref p)) ∧ H0 p = none ∧ F p = none ∧ H p = some (.lst vs) ∧ DqAll K F vs ds
  dct : ∀ (i : Nat) (kvs : List (Key × D)), sls[i]? = some (.dct kvs) → ∃ p vs, σ[i]? = some (some (.ref p)) ∧ H0 p = none ∧ F p = none ∧ H p = some (.dK vs) ∧ KDq K F vs kvs
  pin : ∀ (i : Nat) (a : Addr) (o : OD), sls[i]? = some (.pin a o) → σ[i]? = some (some (.ref a)) ∧ H0 a = none ∧ F a = none ∧ ∃ ho, H a = some ho ∧ ODq K F ho o
  sep : ∀ (i j : Nat) (p : Addr), i ≠ j → isOwn sls[i]? = true → isOwn sls[j]? = true → σ[i]? = some (some (.ref p)) → σ[j]? ≠ some (some (.ref p))
def hid : Sl → Option D
  | .dat d => some d
  | _ => none
def shw : Sl → Option D
  | .dat d => some d
  | .own ds => some (.list ds)
  | .pin _ o => some o.d
  | _ => none
section
variable {K : PySem.W.Frag} {F0 H0 F F2 H H2 : Hp} {σ : St} {sls : List Sl}
theorem KDq.mono {kvs : List (Key × V)} {kds : List (Key × D)} (s : Same F F2) (h : KDq K F kvs kds) : KDq K F2 kvs kds := Paired.mapP h fun _ _ r => ⟨r.1, r.2.mono s⟩
theorem SR.sd (h : SR K F0 H0 F σ H sls) : SD K F σ (sls.map hid) := ⟨by rw [List.length_map]; exact h.len, fun i d e => by
  rw [List.getElem?_map] at e
  cases q : sls[i]? with
  | none => rw [q] at e; cases e
  | some s =>
    rw [q] at e
    cases s with
    | dat d' =>
      cases (show some (some d') = some (some d) from e)
      exact h.dat i d q
    | _ => cases e⟩
open Classical in
/-- the part that stays, and all that is one's own now -/
theorem SR.shown (h : SR K F0 H0 F σ H sls) : ∃ F', Same F F' ∧ Step F0 H0 F' H ∧ SD K F' σ (sls.map shw) := by
  refine ⟨fun a : Addr => if (F a).isSome then F a else if ∃ i : Nat, isOwn sls[i]? = true ∧ σ[i]? = some (some (V.ref a)) then H a else none, ?_, ?_, ?_⟩
  · intro a o e
    show (if (F a).isSome then F a else _) = _
    rw [e]
    rfl
  · refine ⟨?_, ?_, h.st.hh, ?_⟩
    · intro a o e
      show (if (F a).isSome then F a else _) = _
      rw [h.st.ff a o e]
      rfl
    · intro a o e
      dsimp only at e
      by_cases q : (F a).isSome = true
      · rw [if_pos q] at e
        exact h.st.fh a o e
      · rw [if_neg q] at e
        split at e
        · exact e
        · cases e
    · intro a e n
      have z := h.st.nw a e n
      show (if (F a).isSome then F a else if ∃ i : Nat, isOwn sls[i]? = true ∧ σ[i]? = some (some (V.ref a)) then H a else none) = none
      rw [z]
      show (if ∃ i : Nat, isOwn sls[i]? = true ∧ σ[i]? = some (some (V.ref a)) then H a else none) = none
      rw [if_neg]
      rintro ⟨i, h1, h2⟩
      apply n
      cases q : sls[i]? with
      | none => rw [q] at h1; cases h1
      | some s =>
        cases s with
        | own ds =>
          obtain ⟨p, vs, e1, e2, _⟩ := h.own i ds q
          rw [h2] at e1
          cases e1
          exact e2
        | dct kvs =>
          obtain ⟨p, vs, e1, e2, _⟩ := h.dct i kvs q
          rw [h2] at e1
          cases e1
          exact e2
        | pin a' o =>
          obtain ⟨e1, e2, _⟩ := h.pin i a' o q
          rw [h2] at e1
          cases e1
          exact e2
        | _ => rw [q] at h1; cases h1
  · refine ⟨by rw [List.length_map]; exact h.len, fun i d e => ?_⟩
    have ss : Same F (fun a : Addr => if (F a).isSome then F a else if ∃ i : Nat, isOwn sls[i]? = true ∧ σ[i]? = some (some (V.ref a)) then H a else none) := by
      intro a o e
      show (if (F a).isSome then F a else _) = _
      rw [e]
      rfl
    rw [List.getElem?_map] at e
    cases q : sls[i]? with
    | none => rw [q] at e; cases e
    | some s =>
      rw [q] at e
      cases s with
      | dat d' =>
        cases (show some (some d') = some (some d) from e)
        obtain ⟨v, h1, h2⟩ := h.dat i d q
        exact ⟨v, h1, h2.mono ss⟩
      | own ds =>
        cases (show some (some (.list ds)) = some (some d) from e)
        obtain ⟨p, vs, e1, e2, e3, e4, e5⟩ := h.own i ds q
        refine ⟨_, e1, .lst (xs := vs) ?_ (e5.mono ss)⟩
        · show (if (F p).isSome then F p else if ∃ i : Nat, isOwn sls[i]? = true ∧ σ[i]? = some (some (V.ref p)) then H p else none) = _
          rw [e3]
          show (if ∃ i : Nat, isOwn sls[i]? = true ∧ σ[i]? = some (some (V.ref p)) then H p else none) = _
          rw [if_pos ⟨i, by rw [q]; rfl, e1⟩, e4]
      | pin p o =>
        cases (show some (some o.d) = some (some d) from e)
        obtain ⟨e1, e2, e3, ho, e4, e5⟩ := h.pin i p o q
        refine ⟨_, e1, (e5.mono ss).dq ?_⟩
        · show (if (F p).isSome then F p else if ∃ i : Nat, isOwn sls[i]? = true ∧ σ[i]? = some (some (V.ref p)) then H p else none) = _
          rw [e3]
          show (if ∃ i : Nat, isOwn sls[i]? = true ∧ σ[i]? = some (some (V.ref p)) then H p else none) = _
          rw [if_pos ⟨i, by rw [q]; rfl, e1⟩, e4]
      | _ => cases e
theorem SR.step (h : SR K F0 H0 F σ H sls) (s : Step F H F2 H2) : SR K F0 H0 F2 σ H2 sls where
  st := h.st.trans s
  len := h.len
  dat := fun i d e => by
    obtain ⟨v, h1, h2⟩ := h.dat i d e
    exact ⟨v, h1, h2.mono s.ff⟩
  own := fun i ds e => by
    obtain ⟨p, vs, e1, e2, e3, e4, e5⟩ := h.own i ds e
    exact ⟨p, vs, e1, e2, s.nw p e3 (by rw [e4]; exact fun z => nomatch z), s.hh _ _ e4, e5.mono s.ff⟩
  dct := fun i ds e => by
    obtain ⟨p, vs, e1, e2, e3, e4, e5⟩ := h.dct i ds e
    exact ⟨p, vs, e1, e2, s.nw p e3 (by rw [e4]; exact fun z => nomatch z), s.hh _ _ e4, e5.mono s.ff⟩
  pin := fun i a o e => by
    obtain ⟨e1, e2, e3, ho, e4, e5⟩ := h.pin i a o e
    exact ⟨e1, e2, s.nw a e3 (by rw [e4]; exact fun z => nomatch z), ho, s.hh _ _ e4, e5.mono s.ff⟩
  sep := h.sep
theorem get_set_cases {α : Type} {l : List α} {i j : Nat} {x y : α} (h : (l.set i x)[j]? = some y) : (i = j ∧ x = y ∧ i < l.length) ∨ (i ≠ j ∧ l[j]? = some y) := by
  by_cases hij : i = j
  · subst hij
    by_cases hl : i < l.length
    · rw [List.getElem?_set_self hl] at h
      exact .inl ⟨rfl, Option.some.inj h, hl⟩
    · rw [List.getElem?_eq_none (by rw [List.length_set]; omega)] at h
      cases h
  · rw [List.getElem?_set_ne hij] at h
    exact .inr ⟨hij, h⟩
theorem own_set_no {i j : Nat} {s : Sl} (hs : isOwn (some s) = false) (h : isOwn (sls.set i s)[j]? = true) : i ≠ j ∧ isOwn sls[j]? = true := by
  by_cases hij : i = j
  · subst hij
    by_cases hl : i < sls.length
    · rw [List.getElem?_set_self hl, hs] at h
      cases h
    · rw [List.getElem?_eq_none (by rw [List.length_set]; omega)] at h
      cases h
  · rw [List.getElem?_set_ne hij] at h
    exact ⟨hij, h⟩
theorem SR.set (h : SR K F0 H0 F σ H sls) (i : Nat) {v : V} {d : D} (hv : Dq K F v d) : SR K F0 H0 F (σ.set i (some v)) H (sls.set i (.dat d)) where
  st := h.st
  len := by rw [List.length_set, List.length_set]; exact h.len
  dat := fun j e he => by
    rcases get_set_cases he with ⟨rfl, e1, hl⟩ | ⟨hij, e1⟩
    · cases e1
      exact ⟨v, List.getElem?_set_self (by rw [h.len]; exact hl), hv⟩
    · obtain ⟨w, h1, h2⟩ := h.dat j e e1
      exact ⟨w, by rw [List.getElem?_set_ne hij]; exact h1, h2⟩
  own := fun j e he => by
    rcases get_set_cases he with ⟨rfl, e1, hl⟩ | ⟨hij, e1⟩
    · cases e1
    · obtain ⟨p, vs, e2, r⟩ := h.own j e e1
      exact ⟨p, vs, by rw [List.getElem?_set_ne hij]; exact e2, r⟩
  dct := fun j e he => by
    rcases get_set_cases he with ⟨rfl, e1, hl⟩ | ⟨hij, e1⟩
    · cases e1
    · obtain ⟨p, vs, e2, r⟩ := h.dct j e e1
      exact ⟨p, vs, by rw [List.getElem?_set_ne hij]; exact e2, r⟩
  pin := fun j a o he => by
    rcases get_set_cases he with ⟨rfl, e1, hl⟩ | ⟨hij, e1⟩
    · cases e1
    · obtain ⟨e2, r⟩ := h.pin j a o e1
      exact ⟨by rw [List.getElem?_set_ne hij]; exact e2, r⟩
  sep := fun j k p hjk h1 h2 h3 => by
    obtain ⟨n1, o1⟩ := own_set_no rfl h1
    obtain ⟨n2, o2⟩ := own_set_no rfl h2
    rw [List.getElem?_set_ne n1] at h3
    rw [List.getElem?_set_ne n2]
    exact h.sep j k p hjk o1 o2 h3
/-- an own object's address is known to H -/
theorem SR.known (h : SR K F0 H0 F σ H sls) {j : Nat} {p : Addr} (ho : isOwn sls[j]? = true) (hp : σ[j]? = some (some (.ref p))) : H p ≠ none := by
  cases q : sls[j]? with
  | none => rw [q] at ho; cases ho
  | some s =>
    cases s with
    | own ds =>
      obtain ⟨p', vs, e1, _, _, e4, _⟩ := h.own j ds q
      rw [hp] at e1
      cases e1
      rw [e4]
      exact fun z => nomatch z
    | dct ds =>
      obtain ⟨p', vs, e1, _, _, e4, _⟩ := h.dct j ds q
      rw [hp] at e1
      cases e1
      rw [e4]
      exact fun z => nomatch z
    | pin a o =>
      obtain ⟨e1, _, _, ho', e4, _⟩ := h.pin j a o q
      rw [hp] at e1
      cases e1
      rw [e4]
      exact fun z => nomatch z
    | _ => rw [q] at ho; cases ho
/-- a new object of one's own goes to slot i -/
theorem SR.setNew (h : SR K F0 H0 F σ H sls) (s : Step F H F2 H2) (i : Nat) {p : Addr} {sl : Sl} (hp : H p = none) (hf : F2 p = none)
    (h1 : ∀ ds, sl = .own ds → ∃ vs, H2 p = some (.lst vs) ∧ DqAll K F2 vs ds) (h2 : ∀ ds, sl = .dct ds → ∃ vs, H2 p = some (.dK vs) ∧ KDq K F2 vs ds) (h3 : ∀ d, sl ≠ .dat d) (h4 : ∀ a o, sl = .pin a o → a = p ∧ ∃ ho, H2 p = some ho ∧ ODq K F2 ho o := by intro _ _ z; cases z) : SR K F0 H0 F2 (σ.set i (some (.ref p))) H2 (sls.set i sl) where
  st := h.st.trans s
  len := by rw [List.length_set, List.length_set]; exact h.len
  dat := fun j e he => by
    rcases get_set_cases he with ⟨rfl, e1, hl⟩ | ⟨hij, e1⟩
    · exact absurd e1 (h3 _)
    · obtain ⟨w, h1, h2⟩ := (h.step s).dat j e e1
      exact ⟨w, by rw [List.getElem?_set_ne hij]; exact h1, h2⟩
  own := fun j e he => by
    rcases get_set_cases he with ⟨rfl, e1, hl⟩ | ⟨hij, e1⟩
    · obtain ⟨vs, g1, g2⟩ := h1 _ e1
      exact ⟨p, vs, List.getElem?_set_self (by rw [h.len]; exact hl), h.st.hh.free hp, hf, g1, g2⟩
    · obtain ⟨p, vs, e2, r⟩ := (h.step s).own j e e1
      exact ⟨p, vs, by rw [List.getElem?_set_ne hij]; exact e2, r⟩
  dct := fun j e he => by
    rcases get_set_cases he with ⟨rfl, e1, hl⟩ | ⟨hij, e1⟩
    · obtain ⟨vs, g1, g2⟩ := h2 _ e1
      exact ⟨p, vs, List.getElem?_set_self (by rw [h.len]; exact hl), h.st.hh.free hp, hf, g1, g2⟩
    · obtain ⟨p, vs, e2, r⟩ := (h.step s).dct j e e1
      exact ⟨p, vs, by rw [List.getElem?_set_ne hij]; exact e2, r⟩
  pin := fun j a o he => by
    rcases get_set_cases he with ⟨rfl, e1, hl⟩ | ⟨hij, e1⟩
    · obtain ⟨rfl, ho, g1, g2⟩ := h4 _ _ e1
      exact ⟨List.getElem?_set_self (by rw [h.len]; exact hl), h.st.hh.free hp, hf, ho, g1, g2⟩
    · obtain ⟨e2, r⟩ := (h.step s).pin j a o e1
      exact ⟨by rw [List.getElem?_set_ne hij]; exact e2, r⟩
  sep := fun j k q hjk o1 o2 g1 => by
    have key : ∀ j, j ≠ i → isOwn (sls.set i sl)[j]? = true → σ[j]? ≠ some (some (.ref p)) := fun j hj o e => by
      rw [List.getElem?_set_ne (Ne.symm hj)] at o
      exact h.known o e hp
    by_cases hj : i = j
    · subst hj
      rw [List.getElem?_set_ne hjk]
      by_cases hl : i < σ.length
      · rw [List.getElem?_set_self hl] at g1
        cases g1
        exact key k (Ne.symm hjk) o2
      · rw [List.getElem?_eq_none (by rw [List.length_set]; omega)] at g1
        cases g1
    · by_cases hk : i = k
      · subst hk
        rw [List.getElem?_set_ne hj] at g1
        intro e
        by_cases hl : i < σ.length
        · rw [List.getElem?_set_self hl] at e
          cases e
          exact key j (Ne.symm hj) o1 g1
        · rw [List.getElem?_eq_none (by rw [List.length_set]; omega)] at e
          cases e
      · rw [List.getElem?_set_ne hj] at g1 o1
        rw [List.getElem?_set_ne hk] at o2 ⊢
        exact h.sep j k q hjk o1 o2 g1
/-- what is one's own in slot i is changed -/
theorem SR.write (h : SR K F0 H0 F σ H sls) (i : Nat) {p : Addr} {sl : Sl} {o : HO} (ho : isOwn sls[i]? = true) (hp : σ[i]? = some (some (.ref p)))
    (h1 : ∀ ds, sl = .own ds → ∃ vs, o = .lst vs ∧ DqAll K F vs ds) (h2 : ∀ ds, sl = .dct ds → ∃ vs, o = .dK vs ∧ KDq K F vs ds) (h3 : ∀ d, sl ≠ .dat d) (h4 : ∀ a o', sl = .pin a o' → a = p ∧ ODq K F o o' := by intro _ _ z; cases z) : SR K F0 H0 F σ (upd H p o) (sls.set i sl) := by
  have fresh : H0 p = none ∧ F p = none := by
    cases q : sls[i]? with
    | none => rw [q] at ho; cases ho
    | some s =>
      cases s with
      | own ds =>
        obtain ⟨p', vs, e1, e2, e3, e4, _⟩ := h.own i ds q
        rw [hp] at e1
        cases e1
        exact ⟨e2, e3⟩
      | dct ds =>
        obtain ⟨p', vs, e1, e2, e3, e4, _⟩ := h.dct i ds q
        rw [hp] at e1
        cases e1
        exact ⟨e2, e3⟩
      | pin a o' =>
        obtain ⟨e1, e2, e3, _⟩ := h.pin i a o' q
        rw [hp] at e1
        cases e1
        exact ⟨e2, e3⟩
      | _ => rw [q] at ho; cases ho
  have ne : ∀ j q, j ≠ i → isOwn sls[j]? = true → σ[j]? = some (some (.ref q)) → q ≠ p := fun j q hj o1 e z => by
    subst z
    exact h.sep j i q hj o1 ho e hp
  refine ⟨h.st.write fresh.1 fresh.2, by rw [List.length_set]; exact h.len, fun j e he => ?_, fun j e he => ?_, fun j e he => ?_, fun j a' o' he => ?_, fun j k q hjk o1 o2 g1 => ?_⟩
  · rcases get_set_cases he with ⟨rfl, e1, hl⟩ | ⟨hij, e1⟩
    · exact absurd e1 (h3 _)
    · exact h.dat j e e1
  · rcases get_set_cases he with ⟨rfl, e1, hl⟩ | ⟨hij, e1⟩
    · obtain ⟨vs, rfl, g2⟩ := h1 _ e1
      exact ⟨p, vs, hp, fresh.1, fresh.2, upd_same, g2⟩
    · obtain ⟨q, vs, e2, e3, e4, e5, r⟩ := h.own j e e1
      exact ⟨q, vs, e2, e3, e4, by rw [upd_ne (ne j q (Ne.symm hij) (by rw [e1]; rfl) e2)]; exact e5, r⟩
  · rcases get_set_cases he with ⟨rfl, e1, hl⟩ | ⟨hij, e1⟩
    · obtain ⟨vs, rfl, g2⟩ := h2 _ e1
      exact ⟨p, vs, hp, fresh.1, fresh.2, upd_same, g2⟩
    · obtain ⟨q, vs, e2, e3, e4, e5, r⟩ := h.dct j e e1
      exact ⟨q, vs, e2, e3, e4, by rw [upd_ne (ne j q (Ne.symm hij) (by rw [e1]; rfl) e2)]; exact e5, r⟩
  · rcases get_set_cases he with ⟨rfl, e1, hl⟩ | ⟨hij, e1⟩
    · obtain ⟨rfl, g2⟩ := h4 _ _ e1
      exact ⟨hp, fresh.1, fresh.2, _, upd_same, g2⟩
    · obtain ⟨e2, e3, e4, ho', e5, e6⟩ := h.pin j a' o' e1
      exact ⟨e2, e3, e4, ho', by rw [upd_ne (ne j a' (Ne.symm hij) (by rw [e1]; rfl) e2)]; exact e5, e6⟩
  · have same : ∀ j, isOwn (sls.set i sl)[j]? = true → isOwn sls[j]? = true := fun j o => by
      by_cases hj : i = j
      · subst hj; exact ho
      · rw [List.getElem?_set_ne hj] at o; exact o
    exact h.sep j k q hjk (same j o1) (same k o2) g1
/-- what is one's own comes to stay -/
theorem SR.freeze (h : SR K F0 H0 F σ H sls) (i : Nat) {ds : List D} (hi : sls[i]? = some (.own ds)) : ∃ F', SR K F0 H0 F' σ H (sls.set i (.dat (.list ds))) ∧ Same F F' := by
  obtain ⟨p, vs, e1, e2, e3, e4, e5⟩ := h.own i ds hi
  have sm : Same F (upd F p (.lst vs)) := same_upd e3
  have ho : isOwn sls[i]? = true := by rw [hi]; rfl
  have ne : ∀ j q, j ≠ i → isOwn sls[j]? = true → σ[j]? = some (some (.ref q)) → q ≠ p := fun j q hj o1 e z => by
    subst z
    exact h.sep j i q hj o1 ho e e1
  refine ⟨upd F p (.lst vs), ⟨h.st.keep e2 e4 e3, by rw [List.length_set]; exact h.len, fun j e he => ?_, fun j e he => ?_, fun j e he => ?_, fun j a' o' he => ?_, fun j k q hjk o1 o2 g1 => ?_⟩, sm⟩
  · rcases get_set_cases he with ⟨rfl, z, hl⟩ | ⟨hij, z⟩
    · cases z
      exact ⟨_, e1, .lst upd_same (e5.mono sm)⟩
    · obtain ⟨v, h1, h2⟩ := h.dat j e z
      exact ⟨v, h1, h2.mono sm⟩
  · rcases get_set_cases he with ⟨rfl, z, hl⟩ | ⟨hij, z⟩
    · cases z
    · obtain ⟨q, ws, g1, g2, g3, g4, g5⟩ := h.own j e z
      exact ⟨q, ws, g1, g2, by rw [upd_ne (ne j q (Ne.symm hij) (by rw [z]; rfl) g1)]; exact g3, g4, g5.mono sm⟩
  · rcases get_set_cases he with ⟨rfl, z, hl⟩ | ⟨hij, z⟩
    · cases z
    · obtain ⟨q, ws, g1, g2, g3, g4, g5⟩ := h.dct j e z
      exact ⟨q, ws, g1, g2, by rw [upd_ne (ne j q (Ne.symm hij) (by rw [z]; rfl) g1)]; exact g3, g4, g5.mono sm⟩
  · rcases get_set_cases he with ⟨rfl, z, hl⟩ | ⟨hij, z⟩
    · cases z
    · obtain ⟨g1, g2, g3, ho', g4, g5⟩ := h.pin j a' o' z
      exact ⟨g1, g2, by rw [upd_ne (ne j a' (Ne.symm hij) (by rw [z]; rfl) g1)]; exact g3, ho', g4, g5.mono sm⟩
  · obtain ⟨n1, o1⟩ := own_set_no rfl o1
    obtain ⟨n2, o2⟩ := own_set_no rfl o2
    exact h.sep j k q hjk o1 o2 g1
/-- slots that nothing is said of -/
theorem SR.forget (h : SR K F0 H0 F σ H sls) (i : Nat) : SR K F0 H0 F σ H (sls.set i .no) where
  st := h.st
  len := by rw [List.length_set]; exact h.len
  dat := fun j e he => by
    rcases get_set_cases he with ⟨rfl, e1, hl⟩ | ⟨hij, e1⟩
    · cases e1
    · exact h.dat j e e1
  own := fun j e he => by
    rcases get_set_cases he with ⟨rfl, e1, hl⟩ | ⟨hij, e1⟩
    · cases e1
    · exact h.own j e e1
  dct := fun j e he => by
    rcases get_set_cases he with ⟨rfl, e1, hl⟩ | ⟨hij, e1⟩
    · cases e1
    · exact h.dct j e e1
  pin := fun j a o he => by
    rcases get_set_cases he with ⟨rfl, e1, hl⟩ | ⟨hij, e1⟩
    · cases e1
    · exact h.pin j a o e1
  sep := fun j k q hjk o1 o2 g1 => by
    obtain ⟨n1, o1⟩ := own_set_no rfl o1
    obtain ⟨n2, o2⟩ := own_set_no rfl o2
    exact h.sep j k q hjk o1 o2 g1
end
/-- a def's answer: data, or a new list of the asker's -/
inductive Ret where
  | dat (d : D)
  | own (ds : List D)
def RetOk (K : PySem.W.Frag) (F H F2 H2 : Hp) (v : V) : Ret → Prop
  | .dat d => Step F H F2 H2 ∧ Dq K F2 v d
  | .own ds => ∃ p vs, v = .ref p ∧ Step F H F2 H2 ∧ H p = none ∧ F2 p = none ∧ H2 p = some (.lst vs) ∧ DqAll K F2 vs ds
/-- a def's promise over data -/
def spOf (K : PySem.W.Frag) (Rel : List D → Ret → Prop) : Sp := fun vs H Q _ => ∃ (F : Hp) (ds : List D) (r : Ret), Same F H ∧ DqAll K F vs ds ∧ Rel ds r ∧ ∀ v F2 H2, RetOk K F H F2 H2 v r → Q v H2
/-- what follows a block: N of the slots, R of an answer -/
structure EndsOk (K : PySem.W.Frag) (F0 H0 : Hp) (N : List Sl → Prop) (R : Ret → Prop) (D : Ends) : Prop where
  nx : ∀ F σ H sls, N sls → SR K F0 H0 F σ H sls → D.nx σ H
  rt : ∀ v r F H, R r → RetOk K F0 H0 F H v r → D.rt v H
def C (X : Cx) (sts : List Stmt) (sls : List Sl) (N : List Sl → Prop) (R : Ret → Prop) : Prop := ∀ (F0 H0 F : Hp) (σ : St) (H : Hp) (D : Ends), SR X.K F0 H0 F σ H sls → EndsOk X.K F0 H0 N R D → WSs X sts D σ H
def CS (X : Cx) (st : Stmt) (sls : List Sl) (N : List Sl → Prop) (R : Ret → Prop) : Prop := ∀ (F0 H0 F : Hp) (σ : St) (H : Hp) (D : Ends), SR X.K F0 H0 F σ H sls → EndsOk X.K F0 H0 N R D → WS X st D σ H
/-- e in a statement: data of the part that stays, or no object at all -/
def EV (X : Cx) (sls : List Sl) (e : Expr) (d : D) : Prop := E X (sls.map hid) e d ∨ (E X (sls.map shw) e d ∧ scalD d = true)
section
variable {X : Cx} {e : Expr} {d : D} {pos : Pos} {sls : List Sl} {N : List Sl → Prop} {R : Ret → Prop} {st : Stmt} {sts : List Stmt} {F0 H0 F H : Hp} {σ : St}
theorem EV.run (h : EV X sls e d) (s : SR X.K F0 H0 F σ H sls) {Q : VK} (q : ∀ v F2 H2, Step F H F2 H2 → Dq X.K F2 v d → Q v H2) : WE X e σ H Q := by
  rcases h with h | ⟨h, hs⟩
  · exact h F σ H s.sd s.st.fh Q q
  · obtain ⟨F', h1, h2, h3⟩ := s.shown
    exact h F' σ H h3 h2.fh Q fun v F2 H2 st hv => q v F H2 (st.less h1) (hv.scal hs)
theorem ev_h (h : E X (sls.map hid) e d) : EV X sls e d := .inl h
theorem ev_s (h : E X (sls.map shw) e d) (hs : scalD d = true := by rfl) : EV X sls e d := .inr ⟨h, hs⟩

theorem c_nil (h : N sls) : C X [] sls N R := fun F0 H0 F σ H D s ok => ⟨_, pss_nil, ok.nx F σ H sls h s⟩
theorem c_cons (h : CS X st sls (fun s => C X sts s N R) R) : C X (st :: sts) sls N R := fun F0 H0 F σ H D s ok =>
  ⟨_, pss_cons ps_ws pss_wss, h F0 H0 F σ H { D with nx := WSs X sts D } s ⟨fun F' σ' H' sls' hn s' => hn F0 H0 F' σ' H' D s' ok, ok.rt⟩⟩
theorem EndsOk.mono {K : PySem.W.Frag} {N' : List Sl → Prop} {R' : Ret → Prop} {D : Ends} (h : EndsOk K F0 H0 N' R' D) (hN : ∀ s, N s → N' s) (hR : ∀ r, R r → R' r) : EndsOk K F0 H0 N R D :=
  ⟨fun F σ H sls hn s => h.nx F σ H sls (hN _ hn) s, fun v r F H hr k => h.rt v r F H (hR _ hr) k⟩
theorem CS.mono {N' : List Sl → Prop} (h : CS X st sls N R) (hN : ∀ s, N s → N' s) : CS X st sls N' R := fun F0 H0 F σ H D s ok => h F0 H0 F σ H D s (ok.mono hN fun _ z => z)
theorem C.mono {N' : List Sl → Prop} (h : C X sts sls N R) (hN : ∀ s, N s → N' s) : C X sts sls N' R := fun F0 H0 F σ H D s ok => h F0 H0 F σ H D s (ok.mono hN fun _ z => z)
theorem c_one (h : CS X st sls N R) : C X [st] sls N R := c_cons (h.mono fun _ z => c_nil z)

/-! statements -/
variable {x : Str} {p pos' : Pos}
theorem cs_set (i : Nat) (he : EV X sls e d) (h : N (sls.set i (.dat d))) (hN : X.N.Nodup) (hi : X.N[i]? = some x := by rfl) (hx : Loc X.env.scope x := by first | exact .inl rfl | exact .inr rfl) (hs : swapsWith e (some (.Name x pos')) pos.line X.env = pure false := by rfl)
    (hf : X.fn x = true ∨ X.env.scope.names.lookup x = some .local := by first | exact .inl rfl | exact .inr rfl | assumption) : CS X (.Assign [.Name x pos'] e pos) sls N R := fun F0 H0 F σ H D s ok =>
  ⟨_, ps_set hN hi hx pe_we hs hf, he.run s fun v F2 H2 st hv => ok.nx _ _ _ _ h ((s.step st).set i hv)⟩
theorem cs_setL (i : Nat) {ds : List PyData} (he : EL X (sls.map hid) e ds) (h : N (sls.set i (.own ds))) (hN : X.N.Nodup) (hi : X.N[i]? = some x := by rfl) (hx : Loc X.env.scope x := by first | exact .inl rfl | exact .inr rfl) (hs : swapsWith e (some (.Name x pos')) pos.line X.env = pure false := by rfl)
    (hf : X.fn x = true ∨ X.env.scope.names.lookup x = some .local := by first | exact .inl rfl | exact .inr rfl | assumption) : CS X (.Assign [.Name x pos'] e pos) sls N R := fun F0 H0 F σ H D s ok =>
  ⟨_, ps_set hN hi hx pe_we hs hf, he F σ H s.sd s.st.fh _ fun p vs F2 H2 st h0 h1 h2 h3 => ok.nx _ _ _ _ h (s.setNew st i h0 h1 (fun ds' z => by cases z; exact ⟨vs, h2, h3⟩) (fun _ z => nomatch z) (fun _ z => nomatch z))⟩
/-- a new dict -/
theorem cs_setD (i : Nat) (h : N (sls.set i (.dct []))) (hN : X.N.Nodup) (hi : X.N[i]? = some x := by rfl) (hx : Loc X.env.scope x := by first | exact .inl rfl | exact .inr rfl) (hs : swapsWith (.Dict [] [] p) (some (.Name x pos')) pos.line X.env = pure false := by rfl)
    (hf : X.fn x = true ∨ X.env.scope.names.lookup x = some .local := by first | exact .inl rfl | exact .inr rfl | assumption) : CS X (.Assign [.Name x pos'] (.Dict [] [] p) pos) sls N R := fun F0 H0 F σ H D s ok =>
  ⟨_, ps_set hN hi hx pe_dnewK hs hf, fun q hq => ok.nx _ _ _ _ h (s.setNew (Step.mine s.st.fh hq) i hq (s.st.fh.free hq) (fun _ z => nomatch z) (fun ds' z => by cases z; exact ⟨[], upd_same, .nil⟩) (fun _ z => nomatch z))⟩
theorem cs_if {c : Expr} {b : Bool} {yes no : List Stmt} (hc : T X (sls.map shw) c b) (h1 : b = true → C X yes sls N R) (h2 : b = false → C X no sls N R) : CS X (.If c yes no pos) sls N R := fun F0 H0 F σ H D s ok => by
  obtain ⟨F', g1, g2, g3⟩ := s.shown
  refine ⟨_, ps_if pt_wt pss_wss pss_wss, hc F' σ H g3 g2.fh _ fun F2 H2 st => ?_⟩
  have s2 := s.step (st.less g1)
  cases b with
  | true =>
    rw [if_pos rfl]
    exact h1 rfl F0 H0 F σ H2 D s2 ok
  | false =>
    rw [if_neg Bool.false_ne_true]
    exact h2 rfl F0 H0 F σ H2 D s2 ok
theorem cs_ret (he : E X (sls.map shw) e d) (h : R (.dat d)) : CS X (.Return (some e) pos) sls N R := fun F0 H0 F σ H D s ok => by
  obtain ⟨F', g1, g2, g3⟩ := s.shown
  exact ⟨_, ps_ret pe_we, he F' σ H g3 g2.fh _ fun v F2 H2 st hv => ok.rt v _ F2 H2 h ⟨g2.trans st, hv⟩⟩
theorem cs_retN (h : R (.dat .none)) : CS X (.Return none pos) sls N R := fun F0 H0 F σ H D s ok => ⟨_, ps_retN, ok.rt .non _ F H h ⟨s.st, .non⟩⟩
theorem cs_retL {ds : List PyData} (he : EL X (sls.map shw) e ds) (h : R (.own ds)) : CS X (.Return (some e) pos) sls N R := fun F0 H0 F σ H D s ok => by
  obtain ⟨F', g1, g2, g3⟩ := s.shown
  exact ⟨_, ps_ret pe_we, he F' σ H g3 g2.fh _ fun p vs F2 H2 st h0 h1 h2 h3 => ok.rt _ _ F2 H2 h ⟨p, vs, rfl, g2.trans st, g2.hh.free h0, h1, h2, h3⟩⟩
/-- return x, x a list of one's own -/
theorem cs_retO (i : Nat) {ds : List PyData} (hi : sls[i]? = some (.own ds)) (h : R (.own ds)) (hN : X.N[i]? = some x := by rfl) (hv : Vis X.env.scope x := by first | exact Or.inl rfl | exact Or.inr (Or.inl rfl) | exact Or.inr (Or.inr rfl))
    (h1 : (x == ("__debug__" : Str)) = false := by decide) (h2 : (x == ("__classdict__" : Str)) = false := by decide) : CS X (.Return (some (.Name x p)) pos) sls N R := fun F0 H0 F σ H D s ok => by
  obtain ⟨q, vs, e1, e2, e3, e4, e5⟩ := s.own i ds hi
  exact ⟨_, ps_ret (pe_var hN hv h1 h2), _, e1, ok.rt _ _ F H h ⟨q, vs, rfl, s.st, e2, e3, e4, e5⟩⟩
/-- an expression as a statement, its value let go -/
theorem cs_drop (he : E X (sls.map shw) e d) (h : N sls) (hs : swapsWith e none pos.line X.env = pure false := by rfl) : CS X (.Expr e pos) sls N R := fun F0 H0 F σ H D s ok => by
  obtain ⟨F', g1, g2, g3⟩ := s.shown
  exact ⟨_, ps_expr pe_we hs, he F' σ H g3 g2.fh _ fun v F2 H2 st hv => ok.nx _ _ _ _ h (s.step (st.less g1))⟩
/-- a list of one's own comes to stay -/
theorem c_freeze (i : Nat) {ds : List PyData} (hi : sls[i]? = some (.own ds)) (h : C X sts (sls.set i (.dat (.list ds))) N R) : C X sts sls N R := fun F0 H0 F σ H D s ok => by
  obtain ⟨F', s', _⟩ := s.freeze i hi
  exact h F0 H0 F' σ H D s' ok
theorem cs_freeze (i : Nat) {ds : List PyData} (hi : sls[i]? = some (.own ds)) (h : CS X st (sls.set i (.dat (.list ds))) N R) : CS X st sls N R := fun F0 H0 F σ H D s ok => by
  obtain ⟨F', s', _⟩ := s.freeze i hi
  exact h F0 H0 F' σ H D s' ok
theorem c_forget (i : Nat) (h : C X sts (sls.set i .no) N R) : C X sts sls N R := fun F0 H0 F σ H D s ok => h F0 H0 F σ H D (s.forget i) ok

/-! methods of a list of one's own -/
variable {ap cp : Pos} {es : List Expr}
/-- what a list's method does to the list -/
def MtL (X : Cx) (id : String) (xs : List PyData) (vs : List PyData) (ys : List PyData) : Prop := ∃ r, MtR X id r ∧ ∀ (F H : Hp) (l : Addr) (ws us : List V) (Q : VK), Same F H → F l = none → H l = some (.lst ws) → DqAll X.K F ws xs → DqAll X.K F us vs →
  (∀ v ws', DqAll X.K F ws' ys → Q v (upd H l (.lst ws'))) → r (.ref l) us H Q
theorem ml_append {xs : List PyData} {y : PyData} (h : xs.length ≤ 100000) : MtL X "list.append" xs [y] (xs ++ [y]) := ⟨_, mt_append, fun F H l ws us Q hf hl h1 h2 h3 q => by
  obtain ⟨v, rfl, h4⟩ := h3.inv1
  exact ⟨l, ws, v, rfl, rfl, h1, by rw [h2.length]; exact line_lt h, q _ _ (h2.append (.one h4))⟩⟩
theorem ml_clear {xs : List PyData} : MtL X "list.clear" xs [] [] := ⟨_, mt_clear, fun F H l ws us Q hf hl h1 h2 h3 q => by
  cases h3
  exact ⟨l, ws, rfl, rfl, h1, q _ _ .nil⟩⟩
theorem ml_extend {xs ys : List PyData} (h : xs.length + ys.length ≤ 100000) : MtL X "list.extend" xs [.list ys] (xs ++ ys) := ⟨_, mt_extend, fun F H l ws us Q hf hl h1 h2 h3 q => by
  obtain ⟨v, rfl, h4⟩ := h3.inv1
  obtain ⟨b, zs, rfl, h5, h6⟩ := h4.inv_lst
  exact ⟨l, b, ws, zs, rfl, rfl, h1, hf _ _ h5, by rw [h2.length, h6.length]; exact line_ok h, q _ _ (h2.append h6)⟩⟩
theorem seqIndex_nat {n k : Nat} (h : k < n) : seqIndex? (k : Int) n = some k := by
  have q := PySem.StrLaws.seqIndex_nonneg (i := (k : Int)) (n := n) (by omega) (by omega)
  simpa using q
theorem ml_popAt {xs : List PyData} {k : Nat} (h : k < xs.length) (hk : k ≤ 100000) : MtL X "list.pop" xs [.int (k : Int)] (xs.eraseIdx k) := ⟨_, mt_popAt, fun F H l ws us Q hf hl h1 h2 h3 q => by
  obtain ⟨v, rfl, h4⟩ := h3.inv1
  have hk' : k < ws.length := by rw [h2.length]; exact h
  exact ⟨l, ws, (k : Int), k, ws[k], rfl, by rw [h4.inv_int], h1, by omega, by omega, seqIndex_nat hk', List.getElem?_eq_getElem hk', q _ _ (h2.eraseIdx k)⟩⟩
theorem cs_mt {name : Str} {id : String} (i : Nat) {xs vs ys : List PyData} (hi : sls[i]? = some (.own xs)) (ha : EA X (sls.map hid) (e :: es) vs ∨ (EA X (sls.map shw) (e :: es) vs ∧ vs.all scalD = true)) (hm : MtL X id xs vs ys) (h : N (sls.set i (.own ys)))
    (slot : Slot "list" name id) (hty : typeOf (.builtin id) = pure (.type "method_descriptor"))
    (hN : X.N[i]? = some x := by rfl) (hv : Vis X.env.scope x := by first | exact Or.inl rfl | exact Or.inr (Or.inl rfl) | exact Or.inr (Or.inr rfl)) (h1 : (x == ("__debug__" : Str)) = false := by decide) (h2 : (x == ("__classdict__" : Str)) = false := by decide)
    (hbase : attributeBase (.Name x p) name X.env (eval (.Name x p) X.env) = eval (.Name x p) X.env := by rfl)
    (hfew : ((backTo cp (starEach (e :: es) X.env)).all (fun x => !x.1) && (backToKw cp (keywordEach [] X.env)).all (fun x => x.1.isSome)
      && decide ((e :: es).length + ([] : List Keyword).length + (if ([] : List Keyword).isEmpty then 0 else 1) < 30)) = true := by rfl)
    (hline : (ap.endLine == cp.line) = true := by rfl) (hs : starEach (e :: es) X.env = (false, eval e X.env) :: starEach es X.env := by rfl) (hplain : (backTo cp (starEach es X.env)).any (·.1) = false := by rfl)
    (hsw : swapsWith (.Call (.Attribute (.Name x p) name ap) (e :: es) [] cp) none pos.line X.env = pure false := by rfl) :
    CS X (.Expr (.Call (.Attribute (.Name x p) name ap) (e :: es) [] cp) pos) sls N R := fun F0 H0 F σ H D s ok => by
  obtain ⟨r, hr, hq⟩ := hm
  obtain ⟨l, ws, e1, e2, e3, e4, e5⟩ := s.own i xs hi
  refine ⟨_, ps_expr (pe_bm PySem.F.plainAttrs_list slot hty hr (pe_var hN hv h1 h2) pa_wa hbase hfew hline hs hplain) hsw, _, e1, .inl ⟨rfl, _, .of e4⟩, ?_⟩
  have ho : isOwn sls[i]? = true := by rw [hi]; rfl
  rcases ha with ha | ⟨ha, hsc⟩
  · refine ha F σ H s.sd s.st.fh _ fun us F2 H2 st hus => ?_
    have s2 := s.step st
    obtain ⟨l', ws', g1, g2, g3, g4, g5⟩ := s2.own i xs hi
    rw [e1] at g1
    cases g1
    exact hq F2 H2 l ws' us _ st.fh g3 g4 g5 hus fun v ws2 h6 => ok.nx _ _ _ _ h (s2.write i ho e1 (fun ds z => by cases z; exact ⟨ws2, rfl, h6⟩) (fun _ z => nomatch z) (fun _ z => nomatch z))
  · obtain ⟨F', k1, k2, k3⟩ := s.shown
    refine ha F' σ H k3 k2.fh _ fun us F2 H2 st hus => ?_
    have s2 := s.step (st.less k1)
    obtain ⟨l', ws', g1, g2, g3, g4, g5⟩ := s2.own i xs hi
    rw [e1] at g1
    cases g1
    have hus' : ∀ {us : List V} {vs : List PyData}, DqAll X.K F2 us vs → vs.all scalD = true → DqAll X.K F us vs := by
      intro us vs
      induction vs generalizing us with
      | nil => intro h _; cases h; exact .nil
      | cons d ds ih =>
        intro h hs
        rw [List.all_cons, Bool.and_eq_true] at hs
        cases h with
        | cons h r => exact .cons (h.scal hs.1) (ih r hs.2)
    exact hq F H2 l ws' us _ s2.st.fh g3 g4 g5 (hus' hus hsc) fun v ws2 h6 => ok.nx _ _ _ _ h (s2.write i ho e1 (fun ds z => by cases z; exact ⟨ws2, rfl, h6⟩) (fun _ z => nomatch z) (fun _ z => nomatch z))
end
end Lay

namespace Lay
open PySem PySem.Spec L2

section
variable {K : PySem.W.Frag} {F0 H0 F F2 H H2 : Hp} {σ : St} {sls : List Sl}
theorem SR.rebase (h : SR K F0 H0 F σ H sls) : SR K F H0 F σ H sls := ⟨⟨Same.refl F, h.st.fh, h.st.hh, fun _ e _ => e⟩, h.len, h.dat, h.own, h.dct, h.pin, h.sep⟩
theorem Step.back (a : Step F0 H0 F H) (b : Step F H0 F2 H2) : Step F0 H0 F2 H2 := ⟨a.ff.trans b.ff, b.fh, b.hh, fun c e n => b.nw c (a.nw c e n) n⟩
theorem SR.back (a : Step F0 H0 F H) (h : SR K F H0 F2 σ H2 sls) : SR K F0 H0 F2 σ H2 sls := ⟨a.back h.st, h.len, h.dat, h.own, h.dct, h.pin, h.sep⟩
theorem RetOk.back {v : V} {r : Ret} (a : Step F0 H0 F H) (h : RetOk K F H0 F2 H2 v r) : RetOk K F0 H0 F2 H2 v r := by
  cases r with
  | dat d => exact ⟨a.back h.1, h.2⟩
  | own ds =>
    obtain ⟨p, vs, e1, e2, r⟩ := h
    exact ⟨p, vs, e1, a.back e2, r⟩
end

/-! ### a def of the text -/
/-- the slots at a def's entry -/
def initS (N : List Str) (ds : List D) : List Sl := ds.map .dat ++ List.replicate (N.length - ds.length) .no
theorem initS_sr {K : PySem.W.Frag} {F H : Hp} {N : List Str} {vs : List V} {ds : List D} (hf : Same F H) (h : DqAll K F vs ds) : SR K F H F (L2.start N vs) H (initS N ds) := by
  have nd : ∀ (i : Nat) (s : Sl), (initS N ds)[i]? = some s → (∀ d, s ≠ .dat d) → s = .no := fun i s e hs => by
    unfold initS at e
    by_cases hi : i < (ds.map Sl.dat).length
    · rw [List.getElem?_append_left hi, List.getElem?_map] at e
      cases q : ds[i]? with
      | none => rw [q] at e; cases e
      | some d => rw [q] at e; exact absurd (Option.some.inj e).symm (hs d)
    · rw [List.getElem?_append_right (by omega), List.getElem?_replicate] at e
      split at e
      · exact (Option.some.inj e).symm
      · cases e
  refine ⟨.refl hf, ?_, fun i d e => ?_, fun i d e => ?_, fun i d e => ?_, fun i a o e => ?_, fun i j p _ o => ?_⟩
  · unfold L2.start initS
    simp only [List.length_append, List.length_map, List.length_replicate, h.length]
  · unfold initS at e
    by_cases hi : i < (ds.map Sl.dat).length
    · rw [List.getElem?_append_left hi, List.getElem?_map] at e
      cases q : ds[i]? with
      | none => rw [q] at e; cases e
      | some d' =>
        rw [q] at e
        cases (show some (Sl.dat d') = some (.dat d) from e)
        obtain ⟨v, h1, h2⟩ := h.get q
        refine ⟨v, ?_, h2⟩
        unfold L2.start
        rw [List.length_map] at hi
        rw [List.getElem?_append_left (by rw [List.length_map, h.length]; exact hi), List.getElem?_map, h1]
        rfl
    · rw [List.getElem?_append_right (by omega), List.getElem?_replicate] at e
      split at e
      · cases e
      · cases e
  · cases nd i _ e (fun _ z => nomatch z)
  · cases nd i _ e (fun _ z => nomatch z)
  · cases nd i _ e (fun _ z => nomatch z)
  · exfalso
    cases q : (initS N ds)[i]? with
    | none => rw [q] at o; cases o
    | some s =>
      rw [q] at o
      cases s with
      | own ds' => cases nd i _ q (fun _ z => nomatch z)
      | dct ds' => cases nd i _ q (fun _ z => nomatch z)
      | pin a' o' => cases nd i _ q (fun _ z => nomatch z)
      | _ => cases o
section
variable {P : Program} {w : World} {K : PySem.W.Frag} {mg : Str → Option Value} {base : Heap}
/-- THE RULE for a def -/
theorem def_ok {x qual : Str} {st : Stmt} {f : Addr} {fd : FuncData} {N ps : List Str} {k : Nat} {Rel : List D → Ret → Prop} (F : Fun K x qual st f fd) (S : FnScope N ps (defScope st)) (len : ∀ ds r, Rel ds r → ds.length = ps.length)
    (hbody : ∀ (cdv : Value) (A : Around) (outer : List Env) (s : Shared) (H : Hp) (E : XK) (ds : List D) (r : Ret), Room k (A.deeper (PyProof.Rows.envOfC qual (defScope st) s.heap.objs.size f cdv)) → Rel ds r →
      C (cxOf CX0 P w K mg base N qual (defScope st) f cdv A outer s H E).nox (defBody st) (initS N ds) (fun _ => r = .dat .none) (fun r' => r' = r)) : FnOk P w K mg base CX0 (k + 1) f fd ps (spOf K Rel) := by
  refine F.ok S (fun vs H Q E h => ?_) (fun cdv A outer s H vs Q E hr h => ?_)
  · obtain ⟨F, ds, r, _, h1, h2, _⟩ := h
    rw [h1.length]
    exact len ds r h2
  · obtain ⟨F, ds, r, hf, h1, h2, q⟩ := h
    refine hbody cdv A outer s H E ds r hr h2 F H F (L2.start N vs) H _ (initS_sr hf h1) ⟨fun F' σ' H' sls' hn s' => ?_, fun v r' F' H' hr' k => ?_⟩
    · subst hn
      exact q .non F' H' ⟨s'.st, .non⟩
    · subst hr'
      exact q v F' H' k
/-- the def that the module's name holds, its level, its promise -/
structure Dfn (P : Program) (w : World) (K : PySem.W.Frag) (mg : Str → Option Value) (base : Heap) (k : Nat) (x : Str) (Rel : List D → Ret → Prop) : Prop where
  ex : ∃ f fd ps, FnOk P w K mg base CX0 k f fd ps (spOf K Rel) ∧ mg x = some (.ref f) ∧ PySem.W.keepIn K (.ref f) = true ∧ Binds K fd ps []
theorem Dfn.imp {k : Nat} {x : Str} {Rel Rel' : List D → Ret → Prop} (G : Dfn P w K mg base k x Rel) (h : ∀ ds r, Rel' ds r → Rel ds r) : Dfn P w K mg base k x Rel' := by
  obtain ⟨f, fd, ps, g1, g2⟩ := G.ex
  refine ⟨f, fd, ps, g1.imp fun vs H Q E q => ?_, g2⟩
  obtain ⟨F, ds, r, a, b, c, d⟩ := q
  exact ⟨F, ds, r, a, b, h ds r c, d⟩
theorem Dfn.up {j k : Nat} {x : Str} {Rel : List D → Ret → Prop} (G : Dfn P w K mg base j x Rel) (h : j ≤ k) : Dfn P w K mg base k x Rel := by
  obtain ⟨f, fd, ps, g1, g2⟩ := G.ex
  exact ⟨f, fd, ps, g1.mono h, g2⟩
end
section
variable {X : Cx} {sds : List (Option D)} {e : Expr} {d : D} {pos : Pos} {sls : List Sl} {N : List Sl → Prop} {R : Ret → Prop} {st : Stmt} {sts : List Stmt} {x : Str} {p : Pos} {es : List Expr} {j k : Nat} {Rel : List D → Ret → Prop}
theorem e_call {ds : List PyData} (G : Dfn X.prog X.w X.K X.mg X.base k x Rel) (hr : Room j X.A) (ha : EA X sds (e :: es) ds) (h : Rel ds (.dat d)) (hk : k ≤ j := by first | omega | decide) (hg : Gl X x := by rfl)
    (hdb : (x == ("__debug__" : Str)) = false := by decide) (he : starEach (e :: es) X.env = (false, eval e X.env) :: starEach es X.env := by rfl) (hpl : (backTo pos (starEach es X.env)).any (·.1) = false := by rfl) :
    E X sds (.Call (.Name x p) (e :: es) [] pos) d := fun F σ H hs hf Q q => by
  obtain ⟨f, fd, ps, G1, hm, hkp, hb⟩ := G.ex
  refine ⟨_, pe_call (E := E0) G1 (hr.mono hk) hg hm hkp hb .nil pass0 pa_wa hdb he hpl, ha F σ H hs hf _ fun vs F2 H2 st hvs => ?_⟩
  rw [List.append_nil]
  exact ⟨F2, ds, .dat d, st.fh, hvs, h, fun v F3 H3 ⟨s3, hv⟩ => q v F3 H3 (st.trans s3) hv⟩
theorem el_call {ds xs : List PyData} (G : Dfn X.prog X.w X.K X.mg X.base k x Rel) (hr : Room j X.A) (ha : EA X sds (e :: es) ds) (h : Rel ds (.own xs)) (hk : k ≤ j := by first | omega | decide) (hg : Gl X x := by rfl)
    (hdb : (x == ("__debug__" : Str)) = false := by decide) (he : starEach (e :: es) X.env = (false, eval e X.env) :: starEach es X.env := by rfl) (hpl : (backTo pos (starEach es X.env)).any (·.1) = false := by rfl) :
    EL X sds (.Call (.Name x p) (e :: es) [] pos) xs := fun F σ H hs hf Q q => by
  obtain ⟨f, fd, ps, G1, hm, hkp, hb⟩ := G.ex
  refine ⟨_, pe_call (E := E0) G1 (hr.mono hk) hg hm hkp hb .nil pass0 pa_wa hdb he hpl, ha F σ H hs hf _ fun vs F2 H2 st hvs => ?_⟩
  rw [List.append_nil]
  refine ⟨F2, ds, .own xs, st.fh, hvs, h, fun v F3 H3 hv => ?_⟩
  obtain ⟨l, ws, rfl, s3, h1, h2, h3, h4⟩ := hv
  exact q l ws F3 H3 (st.trans s3) (st.hh.free h1) h2 h3 h4

/-! ### loops -/
variable {tp : Pos} {iter : Expr} {body : List Stmt}
theorem cs_for (j : Nat) {ds : List PyData} (I : Nat → List Sl → Prop) (hi : IT X (sls.map hid) (.Name x tp) iter ds) (h0 : I 0 sls)
    (hs : ∀ i d s, ds[i]? = some d → I i s → C X body (s.set j (.dat d)) (I (i + 1)) R) (hd : ∀ s, I ds.length s → N s) (hN : X.N.Nodup) (hj : X.N[j]? = some x := by rfl) (hx : Loc X.env.scope x := by first | exact .inl rfl | exact .inr rfl)
    (hf : X.fn x = true ∨ X.env.scope.names.lookup x = some .local := by first | exact .inl rfl | exact .inr rfl | assumption) (hc : X.calm = true := by rfl) (hp : PassesOwn (model X.prog X.w) X.A X.env X.xe := by exact PassesOwn.never)
    (hfs : ∀ x, foldedSetIterable iter X.env x = pure x := by intro _; rfl) : CS X (.For (.Name x tp) iter body [] pos) sls N R := fun F0 H0 F σ H D s ok => by
  refine ⟨_, ps_for hp hc pi_wi (pg_name hN hj hx hf) pss_wss hfs, hi F σ H s.sd s.st.fh _ fun J F1 H1 st hy => ?_⟩
  refine ⟨fun i m σ' H' => m = ds.length - i ∧ i ≤ ds.length ∧ ∃ F' sls', I i sls' ∧ SR X.K F0 H0 F' σ' H' sls' ∧ Same F1 F', ⟨ds.length, by omega, Nat.zero_le _, F1, sls, h0, s.step st, Same.refl _⟩, ?_⟩
  rintro i m σ' H' ⟨rfl, hle, F', sls', hI, s', hsm⟩
  by_cases hlt : i < ds.length
  · refine .inr ⟨hy.go i H' (hsm.trans s'.st.fh) hlt, fun σ'' H'' => ∃ F'' sls'', I (i + 1) sls'' ∧ SR X.K F0 H0 F'' σ'' H'' sls'' ∧ Same F1 F'', fun σ'' H'' ⟨F'', sls'', a, b, c⟩ => ⟨ds.length - (i + 1), by omega, rfl, hlt, F'', sls'', a, b, c⟩, fun y H'' hyl => ?_⟩
    obtain ⟨rfl, d, hd1, hd2⟩ := hy.yld i H' y H'' (hsm.trans s'.st.fh) hlt hyl
    have s2 := (s'.set j (hd2.mono hsm)).rebase
    refine hs i d sls' hd1 hI F' H0 F' _ H'' _ s2 ⟨fun F3 σ3 H3 sls3 n3 s3 => ⟨F3, sls3, n3, s3.back s'.st, hsm.trans s3.st.ff⟩, fun v r F3 H3 hr k => ok.rt v r F3 H3 hr (k.back s'.st)⟩
  · have e : i = ds.length := by omega
    subst e
    exact .inl ⟨hy.stop H' (hsm.trans s'.st.fh), ok.nx _ _ _ _ (hd _ hI) s'⟩
theorem cs_while {c : Expr} (I : List Sl → Prop) (μ : List Sl → Nat) (h0 : I sls) (ht : ∀ s, I s → ∃ b, T X (s.map shw) c b ∧ (b = true → C X body s (fun s' => I s' ∧ μ s' < μ s) R) ∧ (b = false → N s))
    (hp : PassesOwn (model X.prog X.w) X.A X.env X.xe := by exact PassesOwn.never) : CS X (.While c body [] pos) sls N R := fun F0 H0 F σ H D s ok => by
  refine ⟨_, ps_while hp pt_wt pss_wss, fun m σ' H' => ∃ F' sls', m = μ sls' ∧ I sls' ∧ SR X.K F0 H0 F' σ' H' sls', ⟨_, F, sls, rfl, h0, s⟩, ?_⟩
  rintro m σ' H' ⟨F', sls', rfl, hI, s'⟩
  obtain ⟨b, h1, h2, h3⟩ := ht sls' hI
  obtain ⟨G, g1, g2, g3⟩ := s'.shown
  refine h1 G σ' H' g3 g2.fh _ fun F2 H2 st => ?_
  have s2 := s'.step (st.less g1)
  cases b with
  | true =>
    rw [if_pos rfl]
    refine ⟨fun σ3 H3 => ∃ F3 sls3, I sls3 ∧ μ sls3 < μ sls' ∧ SR X.K F0 H0 F3 σ3 H3 sls3, fun σ3 H3 ⟨F3, sls3, a, b, c⟩ => ⟨μ sls3, b, F3, sls3, rfl, a, c⟩, ?_⟩
    exact h2 rfl F0 H0 F' σ' H2 _ s2 ⟨fun F3 σ3 H3 sls3 n3 s3 => ⟨F3, sls3, n3.1, n3.2, s3⟩, ok.rt⟩
  | false =>
    rw [if_neg Bool.false_ne_true]
    exact ok.nx _ _ _ _ (h3 rfl) s2

/-! ### comprehensions -/
/-- an expression, tests in a comprehension's block -/
def EB (X : Cx) (scope : Scope) (sds : List (Option D)) (e : Expr) (d : D) : Prop := ∀ (s : Shared) (H : Hp) (C : Addr) (cl : List (Str × Addr)) (fp : List Addr), E (X.blk s H scope (compEnvC scope cl C X.env) fp) sds e d
def TSs (X : Cx) (sds : List (Option D)) (ifs : List Expr) (b : Bool) : Prop := ∀ (F : Hp) (σ : St) (H : Hp), SD X.K F σ sds → Same F H → ∀ Q : Bool → Hp → Prop, (∀ F2 H2, Step F H F2 H2 → Q b H2) → ∃ t, PTs X ifs t ∧ t σ H Q
def TB (X : Cx) (scope : Scope) (sds : List (Option D)) (ifs : List Expr) (b : Bool) : Prop := ∀ (s : Shared) (H : Hp) (C : Addr) (cl : List (Str × Addr)) (fp : List Addr), TSs (X.blk s H scope (compEnvC scope cl C X.env) fp) sds ifs b
theorem ts_nil : TSs X sds [] true := fun F σ H hs hf Q q => ⟨_, pts_nil, q F H (.refl hf)⟩
theorem ts_one {c : Expr} {b : Bool} (h : T X sds c b) : TSs X sds [c] b := fun F σ H hs hf Q q => ⟨_, pts_one pt_wt, h F σ H hs hf Q q⟩
def WEb (X : Cx) (scope : Scope) (e : Expr) : TE := fun σ H Q => ∀ (s : Shared) (H' : Hp) (C : Addr) (cl : List (Str × Addr)) (fp : List Addr), WE (X.blk s H' scope (compEnvC scope cl C X.env) fp) e σ H Q
def WTb (X : Cx) (scope : Scope) (ifs : List Expr) : TT := fun σ H Q => ∀ (s : Shared) (H' : Hp) (C : Addr) (cl : List (Str × Addr)) (fp : List Addr), ∃ t, PTs (X.blk s H' scope (compEnvC scope cl C X.env) fp) ifs t ∧ t σ H Q
variable {scope : Scope} {elt : Expr} {ifs : List Expr}
theorem pe_web (s : Shared) (H : Hp) (C : Addr) (cl : List (Str × Addr)) (fp : List Addr) : PE (X.blk s H scope (compEnvC scope cl C X.env) fp) elt (WEb X scope elt) :=
  ⟨fun pins s' σ H' Q I h => by
    obtain ⟨t, h1, h2⟩ := h s H C cl fp
    exact h1.run pins s' σ H' Q I h2⟩
theorem pts_wtb (s : Shared) (H : Hp) (C : Addr) (cl : List (Str × Addr)) (fp : List Addr) : PTs (X.blk s H scope (compEnvC scope cl C X.env) fp) ifs (WTb X scope ifs) :=
  ⟨fun pins s' σ H' Q I h => by
    obtain ⟨t, h1, h2⟩ := h s H C cl fp
    exact h1.run pins s' σ H' Q I h2⟩
theorem lc_run {α : Type} (j : Nat) (as : List α) (enc : α → PyData) (f : α → Bool) (g : α → PyData) {F : Hp} {σ : St} {H : Hp} (hsd : SD X.K F σ sds) (hf : Same F H) (hi : IT X sds (.Name x tp) iter (as.map enc)) (hz : as.length ≤ 100000)
    (ht : ∀ a, a ∈ as → TB X scope (sds.set j (some (enc a))) ifs (f a)) (he : ∀ a, a ∈ as → f a = true → EB X scope (sds.set j (some (enc a))) elt (g a)) (Q : VK)
    (q : ∀ p vs F2 H2, Step F H F2 H2 → H p = none → F2 p = none → H2 p = some (.lst vs) → DqAll X.K F2 vs ((as.filter f).map g) → Q (.ref p) H2) : tLc (WI X (.Name x tp) iter) (gName j) (WTb X scope ifs) (WEb X scope elt) [j] σ H Q := by
  refine hi F σ H hsd hf _ fun J F1 H1 st hy => fun Dl hD => ?_
  refine ⟨fun i m H' => m = as.length - i ∧ i ≤ as.length ∧ ∃ F' acc, Step F1 H1 F' H' ∧ F' Dl = none ∧ H' Dl = some (.lst acc) ∧ DqAll X.K F' acc (((as.take i).filter f).map g),
    ⟨as.length, by omega, Nat.zero_le _, F1, [], .mine st.fh hD, st.fh.free hD, upd_same, .nil⟩, ?_⟩
  rintro i m H' ⟨rfl, hle, F', acc, s1, hn, hl, hacc⟩
  have hll : (as.map enc).length = as.length := List.length_map _
  by_cases hlt : i < as.length
  · refine .inr ⟨hy.go i H' (s1.ff.trans s1.fh) (by rw [hll]; exact hlt), fun H'' => ∃ F'' acc', Step F1 H1 F'' H'' ∧ F'' Dl = none ∧ H'' Dl = some (.lst acc') ∧ DqAll X.K F'' acc' (((as.take (i + 1)).filter f).map g),
      fun H'' ⟨F'', acc', a, b, c, d⟩ => ⟨as.length - (i + 1), by omega, rfl, hlt, F'', acc', a, b, c, d⟩, fun y H'' hyl => ?_⟩
    obtain ⟨rfl, d, hd1, hd2⟩ := hy.yld i H' y H'' (s1.ff.trans s1.fh) (by rw [hll]; exact hlt) hyl
    rw [List.getElem?_map, List.getElem?_eq_getElem hlt] at hd1
    cases hd1
    have hmem : as[i] ∈ as := List.getElem_mem hlt
    have hs2 : SD X.K F' ((wipe σ [j]).set j (some y)) (sds.set j (some (enc as[i]))) := by
      have z : SD X.K F' ((σ.set j none).set j (some y)) ((sds.set j none).set j (some (enc as[i]))) := ((((hsd.mono st.ff).mono s1.ff).none (y := none) j)).set j (hd2.mono s1.ff)
      rw [show (sds.set j none).set j (some (enc as[i])) = sds.set j (some (enc as[i])) from List.set_set ..] at z
      exact z
    refine ⟨by show ((σ.set j none).set j (some y)).set j none = σ.set j none; rw [List.set_set, List.set_set], fun s0 Hb C cl fp => ?_⟩
    refine ht as[i] hmem s0 Hb C cl fp F' _ H'' hs2 s1.fh _ fun F3 H3 s3 => ?_
    have e1 : as.take (i + 1) = as.take i ++ [as[i]] := by rw [List.take_add_one, List.getElem?_eq_getElem hlt]; rfl
    have hl3 : H3 Dl = some (.lst acc) := s3.hh _ _ hl
    have hn3 : F3 Dl = none := s3.nw Dl hn (by rw [hl]; exact fun z => nomatch z)
    have hlen : acc.length ≤ 100000 := by
      rw [hacc.length, List.length_map]
      exact Nat.le_trans (List.length_filter_le _ _) (by rw [List.length_take]; omega)
    cases hfa : f as[i] with
    | true =>
      rw [if_pos rfl]
      intro s0 Hb C cl fp
      refine he as[i] hmem hfa s0 Hb C cl fp F3 _ H3 (hs2.mono s3.ff) s3.fh _ fun v F4 H4 s4 hv => ?_
      have hn4 : F4 Dl = none := s4.nw Dl hn3 (by rw [hl3]; exact fun z => nomatch z)
      refine ⟨acc, s4.hh _ _ hl3, line_lt hlen, F4, acc ++ [v], ((s1.trans s3).trans s4).write hD hn4, hn4, upd_same, ?_⟩
      rw [e1, List.filter_append, List.filter_cons, if_pos hfa, List.map_append]
      exact ((hacc.mono s3.ff).mono s4.ff).append (.one hv)
    | false =>
      rw [if_neg Bool.false_ne_true]
      refine ⟨F3, acc, s1.trans s3, hn3, hl3, ?_⟩
      rw [e1, List.filter_append, List.filter_cons, if_neg (by rw [hfa]; exact Bool.false_ne_true), List.filter_nil, List.append_nil]
      exact hacc.mono s3.ff
  · have e : i = as.length := by omega
    subst e
    rw [List.take_length] at hacc
    refine .inl ⟨?_, q Dl acc F' H' (st.trans s1) (st.hh.free hD) hn hl hacc⟩
    have z := hy.stop H' (s1.ff.trans s1.fh)
    rw [hll] at z
    exact z
theorem el_lc {α : Type} {N0 ps0 : List Str} {sc0 : Scope} (j : Nat) (as : List α) (enc : α → PyData) (f : α → Bool) (g : α → PyData) (hi : IT X sds (.Name x tp) iter (as.map enc)) (hz : as.length ≤ 100000)
    (ht : ∀ a, a ∈ as → TB X scope (sds.set j (some (enc a))) ifs (f a)) (he : ∀ a, a ∈ as → f a = true → EB X scope (sds.set j (some (enc a))) elt (g a))
    (Sc : FnScope N0 ps0 sc0) (hb : blkC N0 sc0 scope [(x, j)] = true := by decide +kernel) (eN : X.N = N0 := by rfl) (eS : X.env.scope = sc0 := by rfl) (hj : X.N[j]? = some x := by rfl) (hx : ∀ C cl, Loc (compEnvC scope cl C X.env).scope x := by intro _ _; first | exact .inl rfl | exact .inr rfl)
    (hf : ∀ s H C cl fp, (X.blk s H scope (compEnvC scope cl C X.env) fp).fn x = true ∨ (compEnvC scope cl C X.env).scope.names.lookup x = some .local := by intro _ _ _ _ _; first | exact .inr rfl | exact .inl rfl) (hc : X.calm = true := by rfl)
    (hs : ∀ x, foldedSetIterable iter X.env x = pure x := by intro _; rfl) : EL X sds (.ListComp elt [⟨.Name x tp, iter, ifs, 0⟩] scope pos) ((as.filter f).map g) := fun F σ H hsd hsf Q q =>
  ⟨_, pe_lc (own := [(x, j)]) (g := gName j) hc (eN ▸ Sc.nd) pi_wi (blkOk_by (by rw [eN, eS]; exact hb)) (fun s H C cl fp => pg_name (show X.N.Nodup from eN ▸ Sc.nd) hj (hx C cl) (hf s H C cl fp)) pts_wtb pe_web hs, lc_run j as enc f g hsd hsf hi hz ht he Q q⟩
/-- y = [..] -/
theorem cs_setLc {α : Type} {N0 ps0 : List Str} {sc0 : Scope} {y : Str} {py : Pos} (i j : Nat) (as : List α) (enc : α → PyData) (f : α → Bool) (g : α → PyData) (hi : IT X (sls.map hid) (.Name x tp) iter (as.map enc)) (hz : as.length ≤ 100000)
    (ht : ∀ a, a ∈ as → TB X scope ((sls.map hid).set j (some (enc a))) ifs (f a)) (he : ∀ a, a ∈ as → f a = true → EB X scope ((sls.map hid).set j (some (enc a))) elt (g a)) (h : N (sls.set i (.own ((as.filter f).map g))))
    (Sc : FnScope N0 ps0 sc0) (hb : blkC N0 sc0 scope [(x, j)] = true := by decide +kernel) (eN : X.N = N0 := by rfl) (eS : X.env.scope = sc0 := by rfl) (hiN : X.N[i]? = some y := by rfl) (hyl : X.env.scope.names.lookup y = some .local := by rfl) (hj : X.N[j]? = some x := by rfl) (hx : ∀ C cl, Loc (compEnvC scope cl C X.env).scope x := by intro _ _; first | exact .inl rfl | exact .inr rfl)
    (hf : ∀ s H C cl fp, (X.blk s H scope (compEnvC scope cl C X.env) fp).fn x = true ∨ (compEnvC scope cl C X.env).scope.names.lookup x = some .local := by intro _ _ _ _ _; first | exact .inr rfl | exact .inl rfl) (hc : X.calm = true := by rfl)
    (hsw : swapsWith (.ListComp elt [⟨.Name x tp, iter, ifs, 0⟩] scope p) (some (.Name y py)) pos.line X.env = pure true := by exact sw_true rfl rfl rfl (by decide +kernel)) (hs : ∀ x, foldedSetIterable iter X.env x = pure x := by intro _; rfl) :
    CS X (.Assign [.Name y py] (.ListComp elt [⟨.Name x tp, iter, ifs, 0⟩] scope p) pos) sls N R := fun F0 H0 F σ H D s ok =>
  ⟨_, ps_setLc (own := [(x, j)]) (g := gName j) hc (eN ▸ Sc.nd) hiN hyl hsw pi_wi (blkOk_by (by rw [eN, eS]; exact hb)) (fun s H C cl fp => pg_name (show X.N.Nodup from eN ▸ Sc.nd) hj (hx C cl) (hf s H C cl fp)) pts_wtb pe_web hs, lc_run j as enc f g s.sd s.st.fh hi hz ht he _ fun p vs F2 H2 st h0 h1 h2 h3 =>
    ok.nx _ _ _ _ h (s.setNew st i h0 h1 (fun ds' z => by cases z; exact ⟨vs, h2, h3⟩) (fun _ z => nomatch z) (fun _ z => nomatch z))⟩
end
end Lay

namespace Lay
open PySem PySem.Spec L2

/-- the built-in names are not bound by the module -/
structure Bt (mg : Str → Option Value) : Prop where
  len : mg "len" = none
  range : mg "range" = none
  int : mg "int" = none
  str : mg "str" = none
  bool : mg "bool" = none
  list : mg "list" = none
  tuple : mg "tuple" = none
  set : mg "set" = none
  sorted : mg "sorted" = none
  reversed : mg "reversed" = none
  isinstance : mg "isinstance" = none
  max : mg "max" = none
  min : mg "min" = none
section
variable {P : Program} {w : World} {K : PySem.W.Frag} {mg : Str → Option Value} {base : Heap}
/-- the def st stands at the module's name x -/
def FnAt (K : PySem.W.Frag) (mg : Str → Option Value) (x : Str) (st : Stmt) (ps : List Str) : Prop := ∃ f fd, Fun K x x st f fd ∧ mg x = some (.ref f) ∧ Binds K fd ps []
theorem dfn_ok {x : Str} {st : Stmt} {N ps : List Str} {k : Nat} {Rel : List D → Ret → Prop} (A : FnAt K mg x st ps) (S : FnScope N ps (defScope st)) (len : ∀ ds r, Rel ds r → ds.length = ps.length)
    (hbody : ∀ (f : Addr) (cdv : Value) (A : Around) (outer : List Env) (s : Shared) (H : Hp) (E : XK) (ds : List D) (r : Ret), Room k (A.deeper (PyProof.Rows.envOfC x (defScope st) s.heap.objs.size f cdv)) → Rel ds r →
      C (cxOf CX0 P w K mg base N x (defScope st) f cdv A outer s H E).nox (defBody st) (initS N ds) (fun _ => r = .dat .none) (fun r' => r' = r)) : Dfn P w K mg base (k + 1) x Rel := by
  obtain ⟨f, fd, F, hm, hb⟩ := A
  exact ⟨f, fd, ps, def_ok F S len (fun cdv A outer s H E ds r hr h => hbody f cdv A outer s H E ds r hr h), hm, F.kp, hb⟩
theorem fnAt_mk {h : Heap} {x : Str} {st : Stmt} {ps : List Str} {f : Addr} {od an : Option Addr} {sl : Array (Option Value)} {oc kV dc pm cd ct : Value} (X : K.In h) (G : h.Ns mainGlobals mg)
    (a : PySem.W.nsIn K mainGlobals x = some (some (.ref f))) (lk : K.lookup f = some ⟨oc, od, .func (PySem.W.fnOf x x (defArgs st) (defBody st) (defScope st) .none kV dc pm an cd ct), sl⟩) (c : PySem.W.codeIn K cd x = true) (k : PySem.W.keepIn K (.ref f) = true)
    (hb : ∀ (kV doc pm : Value) (an : Option Addr) (cdv ct : Value) (us : List Value), us.length = ps.length → bindArgs (PySem.W.fnOf x x (defArgs st) (defBody st) (defScope st) .none kV doc pm an cdv ct) ⟨us, []⟩ = pure (ps.zip us)) : FnAt K mg x st ps := by
  have F := fun_mk (st := st) lk c k
  exact ⟨f, _, F, PySem.W.mg_of X G a, F.binds hb⟩
end
theorem map_get {α β : Type} {l : List α} {g : α → β} {i : Nat} {y : β} (h : (l.map g)[i]? = some y) : ∃ x, l[i]? = some x ∧ y = g x := by
  rw [List.getElem?_map] at h
  cases q : l[i]? with
  | none => rw [q] at h; cases h
  | some x => rw [q] at h; exact ⟨x, rfl, (Option.some.inj h).symm⟩
theorem rng_get' {n i : Nat} {d : D} (h : (rng n)[i]? = some d) : i < n ∧ d = .int (i : Int) := by
  unfold rng at h
  obtain ⟨x, h1, h2⟩ := map_get h
  have hi : i < n := by
    have := (List.getElem?_eq_some_iff.mp h1).1
    simpa using this
  rw [List.getElem?_range hi] at h1
  cases h1
  exact ⟨hi, h2⟩
theorem atI_of {α : Type} {l : List α} {i : Int} {j : Nat} {x : α} (e : i = (j : Int)) (h : l[j]? = some x) : atI l i = some x := by
  subst e
  exact atI_nat h
section
variable {X : Cx} {sds : List (Option D)} {e a b : Expr} {d : D} {pos p2 tp : Pos} {x : Str} {scope : Scope} {elt iter : Expr}
theorem e_slTo {l : List Nat} {n : Nat} (ha : E X sds a (S l)) (hn : E X sds b (.int (n : Int))) (hz : l.length ≤ 100000) : E X sds (.Subscript a (.Slice none (some b) none p2) pos) (S (l.take n)) := by
  have h := e_slS (pos := pos) (p2 := p2) ha eo_none (eo_some hn) hz
  rw [cutN_to] at h
  exact h
theorem e_slFrom {l : List Nat} {n : Nat} (ha : E X sds a (S l)) (hn : E X sds b (.int (n : Int))) (hz : l.length ≤ 100000) : E X sds (.Subscript a (.Slice (some b) none none p2) pos) (S (l.drop n)) := by
  have h := e_slS (pos := pos) (p2 := p2) ha (eo_some hn) eo_none hz
  rw [cutN_from] at h
  exact h
/-- [elt for x in iter], no test -/
theorem el_lc0 {α : Type} {N0 ps0 : List Str} {sc0 : Scope} (j : Nat) (as : List α) (enc : α → PyData) (g : α → PyData) (hi : IT X sds (.Name x tp) iter (as.map enc)) (hz : as.length ≤ 100000) (he : ∀ a, a ∈ as → EB X scope (sds.set j (some (enc a))) elt (g a))
    (Sc : FnScope N0 ps0 sc0) (hb : blkC N0 sc0 scope [(x, j)] = true := by decide +kernel) (eN : X.N = N0 := by rfl) (eS : X.env.scope = sc0 := by rfl) (hj : X.N[j]? = some x := by rfl) (hx : ∀ C cl, Loc (compEnvC scope cl C X.env).scope x := by intro _ _; first | exact .inl rfl | exact .inr rfl)
    (hf : ∀ s H C cl fp, (X.blk s H scope (compEnvC scope cl C X.env) fp).fn x = true ∨ (compEnvC scope cl C X.env).scope.names.lookup x = some .local := by intro _ _ _ _ _; first | exact .inr rfl | exact .inl rfl) (hc : X.calm = true := by rfl)
    (hs : ∀ x, foldedSetIterable iter X.env x = pure x := by intro _; rfl) : EL X sds (.ListComp elt [⟨.Name x tp, iter, [], 0⟩] scope pos) (as.map g) :=
  EL.is (el_lc j as enc (fun _ => true) g hi hz (fun _ _ _ _ _ _ _ => ts_nil) (fun a ha _ => he a ha) Sc hb eN eS hj hx hf hc hs) (by rw [List.filter_eq_self.mpr (fun _ _ => rfl)])
end
theorem canLayAll_map {α : Type} {f : α → D} : ∀ {l : List α}, (∀ a ∈ l, (f a).canLay0 = true) → PyData.canLayAll0 (l.map f) = true
  | [], _ => by simp [PyData.canLayAll0]
  | a :: l, h => by
    rw [List.map_cons]
    simp only [PyData.canLayAll0, Bool.and_eq_true]
    exact ⟨h a List.mem_cons_self, canLayAll_map fun b hb => h b (List.mem_cons_of_mem _ hb)⟩
theorem depthAll_map {α : Type} {f : α → D} {k : Nat} : ∀ {l : List α}, (∀ a ∈ l, (f a).depth ≤ k) → PyData.depthAll (l.map f) ≤ k
  | [], _ => by simp [PyData.depthAll]
  | a :: l, h => by
    rw [List.map_cons]
    simp only [PyData.depthAll]
    have h1 := h a List.mem_cons_self
    have h2 := depthAll_map (k := k) fun b hb => h b (List.mem_cons_of_mem _ hb)
    omega
theorem shaped_list {α : Type} {f : α → D} {l : List α} (h1 : ∀ a ∈ l, (f a).canLay0 = true) (h2 : ∀ a ∈ l, (f a).depth ≤ 60) : SeqAt.shaped (.list (l.map f)) = true := by
  have e1 := canLayAll_map h1
  have e2 := depthAll_map h2
  unfold SeqAt.shaped
  rw [Bool.and_eq_true]
  refine ⟨by rw [PyData.canLay0]; exact e1, ?_⟩
  rw [decide_eq_true_eq, PyData.depth]
  omega
theorem dat_inj {c d : Bool} (h : c = d) : Ret.dat (.bool c) = Ret.dat (.bool d) := by rw [h]
/-- a word between a statement and the rest -/
theorem cs_cut {X : Cx} {st : Stmt} {sls : List Sl} {N : List Sl → Prop} {R : Ret → Prop} (Q : List Sl → Prop) (h : CS X st sls Q R) (k : ∀ s, Q s → N s) : CS X st sls N R := h.mono k
/-- the promise of law -/
def spLaw (K : PySem.W.Frag) : Sp := fun vs H Q _ => ∃ (a : Addr) (ns : List Int), vs = [.ref a] ∧ SqL K H a (ns.map V.int) ∧ ns.length ≤ 63 ∧ ∀ H', Q (.bl true) H'
def R_law (ds : List D) (r : Ret) : Prop := ∃ ns : List Int, ns.length ≤ 63 ∧ ds = [scr ns] ∧ r = .dat (.bool true)
theorem law_imp {K : PySem.W.Frag} {vs : List V} {H : Hp} {Q : VK} {E : XK} (h : spLaw K vs H Q E) : spOf K R_law vs H Q E := by
  obtain ⟨a, ns, rfl, hS, hl, q⟩ := h
  refine ⟨H, [scr ns], .dat (.bool true), Same.refl H, .one (.scri hS), ⟨ns, hl, rfl, rfl⟩, fun v F2 H2 ⟨_, hv⟩ => ?_⟩
  rw [hv.inv_bl]
  exact q H2
end Lay

/-! Lay: texts: split, str(n), int(text). -/
namespace Lay
open PySem PySem.Spec L2

section
variable {X : Cx} {sds : List (Option D)} {e a b : Expr} {d : D} {pos ap : Pos}
theorem map_str {K : PySem.W.Frag} {F : Hp} : ∀ ls : List (List Nat), DqAll K F ((ls.map fun l => V.str (tx l))) (ls.map S)
  | [] => .nil
  | l :: ls => .cons (.str _) (map_str ls)
theorem split_eq {l s : List Nat} (hs : s ≠ []) (hk : s.all (· < 256) = true) : Txt.split (tx l) (tx s) = (TL.spl s 0 [] l).map fun p => tx p := by
  have h := TL.split_spl (tx l) (tx s) hs (TL.kind_ok (by
    show (s.toArray).all (· < 256) = true
    rw [← Array.all_toList]
    exact hk))
  have h2 : (Txt.split (tx l) (tx s)).map TL.tl = ((TL.spl s 0 [] l).map fun p => tx p).map TL.tl := by
    rw [h, List.map_map]
    show TL.spl s 0 [] l = (TL.spl s 0 [] l).map fun p => p
    rw [List.map_id']
  exact TL.map_tl_inj h2
/-- x.split(sep) -/
theorem el_split {l s : List Nat} (ho : E X sds a (S l)) (he : E X sds e (S s)) (hz : l.length ≤ 90000) (hs : s ≠ [] := by decide) (hk : s.all (· < 256) = true := by decide)
    (hst : starEach [e] X.env = [(false, eval e X.env)] := by rfl) (hbase : attributeBase a "split" X.env (eval a X.env) = eval a X.env := by rfl) (hline : (ap.endLine == pos.line) = true := by rfl) :
    EL X sds (.Call (.Attribute a "split" ap) [e] [] pos) ((TL.spl s 0 [] l).map S) := fun F σ H hsd hf Q q =>
  ⟨_, pe_split pe_we pe_we hst hbase hline, ho F σ H hsd hf _ fun v F1 H1 s1 hv => ⟨⟨tx l, hv.inv_str⟩, he F1 σ H1 (hsd.mono s1.ff) s1.fh _ fun u F2 H2 s2 hu => by
    refine ⟨tx l, tx s, hv.inv_str, by rw [hu.inv_str], ?_, ?_, ?_⟩
    · rw [tx_len, beq_eq_false_iff_ne]
      exact fun z => hs (List.length_eq_zero_iff.mp z)
    · rw [tx_len]
      exact line_ok (by omega)
    · intro p hp
      have st := s1.trans s2
      refine q p _ F2 _ (st.trans (.mine s2.fh hp)) (st.hh.free hp) (s2.fh.free hp) upd_same ?_
      rw [split_eq hs hk, List.map_map]
      exact map_str _⟩⟩
/-- str(n), n not negative -/
theorem cd_strN {n : Nat} (h : n < 10 ^ 100) : CallD X (.type "str") [.int (n : Int)] (S (TL.numL n)) := by
  have q := cd_strI (X := X) (i := (n : Int)) (by
    show (Int.natAbs (n : Int)).log2 < 1920
    rw [Int.natAbs_natCast]
    by_cases h0 : n = 0
    · subst h0; decide
    · rw [Nat.log2_lt h0]
      exact Nat.lt_trans h (by decide +kernel))
  have e : Str.ofString (toString ((n : Nat) : Int)) = tx (TL.numL n) := by
    have := TL.tl_num n
    rw [← this]
  rw [e] at q
  exact q
/-- a module's constant text, number -/
theorem e_globS (l : List Nat) {x z : Str} {t : Tok} (hm : X.mg x = some (.str z t)) (hz : z = tx l := by decide +kernel) (hg : Gl X x := by rfl) (h1 : (x == ("__debug__" : Str)) = false := by decide) : E X sds (.Name x pos) (S l) := by
  subst hz
  exact e_glob (v := .str (tx l)) hm ⟨t, rfl⟩ (fun _ _ => .str _) hg h1
theorem e_globI {x : Str} {i : Int} {t : Tok} (hm : X.mg x = some (.int i t)) (hg : Gl X x := by rfl) (h1 : (x == ("__debug__" : Str)) = false := by decide) : E X sds (.Name x pos) (.int i) :=
  e_glob (v := .int i) hm ⟨t, rfl⟩ (fun _ _ => .int _) hg h1
/-- int(x), x of figures -/
theorem cd_intD {l : List Nat} (h : NumText.AllDigits l) (hne : l ≠ []) (hl : l.length ≤ 600) : CallD X (.type "int") [S l] (.int (NumText.digitsVal l : Nat)) :=
  cd_intS (PySem.intText_digits (x := tx l) h hne (by rw [tx_len]; omega)) (by omega)
end
end Lay

/-! Lay: items of a list of one's own handed on; in over data at any depth; slices of a tuple, the whole too. -/
namespace Lay
open PySem PySem.Spec L2

section
variable {X : Cx} {sds : List (Option D)} {sls : List Sl} {e a b : Expr} {d : D} {pos p p2 : Pos} {x : Str} {es : List Expr} {N : List Sl → Prop} {R : Ret → Prop} {j k : Nat} {Rel : List D → Ret → Prop}
/-- e over the state: its value is of the part that stays -/
def EX (X : Cx) (sls : List Sl) (e : Expr) (d : D) : Prop := ∀ (F0 H0 F : Hp) (σ : St) (H : Hp), SR X.K F0 H0 F σ H sls → ∀ Q : VK, (∀ v F2 H2, Step F H F2 H2 → Dq X.K F2 v d → Q v H2) → WE X e σ H Q
def EAX (X : Cx) (sls : List Sl) (es : List Expr) (ds : List D) : Prop := ∀ (F0 H0 F : Hp) (σ : St) (H : Hp), SR X.K F0 H0 F σ H sls → ∀ Q : List V → Hp → Prop, (∀ vs F2 H2, Step F H F2 H2 → DqAll X.K F2 vs ds → Q vs H2) → WA X es σ H Q
def ELX (X : Cx) (sls : List Sl) (e : Expr) (ds : List D) : Prop := ∀ (F0 H0 F : Hp) (σ : St) (H : Hp), SR X.K F0 H0 F σ H sls → ∀ Q : VK,
  (∀ p vs F2 H2, Step F H F2 H2 → H p = none → F2 p = none → H2 p = some (.lst vs) → DqAll X.K F2 vs ds → Q (.ref p) H2) → WE X e σ H Q
theorem ex_h (h : E X (sls.map hid) e d) : EX X sls e d := fun F0 H0 F σ H s Q q => h F σ H s.sd s.st.fh Q q
theorem ex_s (h : E X (sls.map shw) e d) (hs : scalD d = true := by rfl) : EX X sls e d := fun F0 H0 F σ H s Q q => (ev_s h hs).run s q
theorem EX.is {d' : D} (h : EX X sls e d) (q : d = d') : EX X sls e d' := q ▸ h
theorem ELX.is {ds ds' : List PyData} (h : ELX X sls e ds) (q : ds = ds') : ELX X sls e ds' := q ▸ h
theorem EX.of_L {ds : List PyData} (h : ELX X sls e ds) : EX X sls e (.list ds) := fun F0 H0 F σ H s Q q =>
  h F0 H0 F σ H s Q fun p vs F2 H2 st h0 h1 h2 h3 => q (.ref p) (upd F2 p (.lst vs)) H2 (st.keep h0 h2 h1) (.lst upd_same (h3.mono (same_upd h1)))
theorem eax_nil : EAX X sls [] [] := fun F0 H0 F σ H s Q q => ⟨_, pa_nil, q [] F H (.refl s.st.fh) .nil⟩
theorem eax_cons {ds : List PyData} (h : EX X sls e d) (h' : EAX X sls es ds) (hs : starEach (e :: es) X.env = (false, eval e X.env) :: starEach es X.env := by rfl) : EAX X sls (e :: es) (d :: ds) := fun F0 H0 F σ H s Q q =>
  ⟨_, pa_cons pe_we pa_wa hs, h F0 H0 F σ H s _ fun v F2 H2 st hv => h' F0 H0 F2 σ H2 (s.step st) _ fun vs F3 H3 s3 hvs => q _ F3 H3 (st.trans s3) (.cons (hv.mono s3.ff) hvs)⟩
/-- x[i], x a list of one's own -/
theorem ex_ixO (i : Nat) {ds : List PyData} {n : Int} (hi : sls[i]? = some (.own ds)) (hb : E X (sls.map shw) b (.int n)) (hd : atI ds n = some d) (hp : PlainIx b := by exact fun _ _ => rfl) (hN : X.N[i]? = some x := by rfl)
    (hv : Vis X.env.scope x := by first | exact Or.inl rfl | exact Or.inr (Or.inl rfl) | exact Or.inr (Or.inr rfl)) (h1 : (x == ("__debug__" : Str)) = false := by decide) (h2 : (x == ("__classdict__" : Str)) = false := by decide) :
    EX X sls (.Subscript (.Name x p) b pos) d := fun F0 H0 F σ H s Q q => by
  obtain ⟨l, vs, e1, e2, e3, e4, e5⟩ := s.own i ds hi
  obtain ⟨F', g1, g2, g3⟩ := s.shown
  refine ⟨_, pe_ix ix_list (pe_var hN hv h1 h2) pe_we hp, _, e1, hb F' σ H g3 g2.fh _ fun v F2 H2 st hv => ?_⟩
  obtain ⟨w, h3, h4⟩ := atI_dq e5 hd
  exact ⟨l, vs, n, w, rfl, hv.inv_int, .of (st.hh _ _ e4), h3, q w F H2 (st.less g1) h4⟩
theorem ex_call {ds : List PyData} (G : Dfn X.prog X.w X.K X.mg X.base k x Rel) (hr : Room j X.A) (ha : EAX X sls (e :: es) ds) (h : Rel ds (.dat d)) (hk : k ≤ j := by first | omega | decide) (hg : Gl X x := by rfl)
    (hdb : (x == ("__debug__" : Str)) = false := by decide) (he : starEach (e :: es) X.env = (false, eval e X.env) :: starEach es X.env := by rfl) (hpl : (backTo pos (starEach es X.env)).any (·.1) = false := by rfl) :
    EX X sls (.Call (.Name x p) (e :: es) [] pos) d := fun F0 H0 F σ H s Q q => by
  obtain ⟨f, fd, ps, G1, hm, hkp, hb⟩ := G.ex
  refine ⟨_, pe_call (E := E0) G1 (hr.mono hk) hg hm hkp hb .nil pass0 pa_wa hdb he hpl, ha F0 H0 F σ H s _ fun vs F2 H2 st hvs => ?_⟩
  rw [List.append_nil]
  exact ⟨F2, ds, .dat d, st.fh, hvs, h, fun v F3 H3 ⟨s3, hv⟩ => q v F3 H3 (st.trans s3) hv⟩
theorem elx_call {ds xs : List PyData} (G : Dfn X.prog X.w X.K X.mg X.base k x Rel) (hr : Room j X.A) (ha : EAX X sls (e :: es) ds) (h : Rel ds (.own xs)) (hk : k ≤ j := by first | omega | decide) (hg : Gl X x := by rfl)
    (hdb : (x == ("__debug__" : Str)) = false := by decide) (he : starEach (e :: es) X.env = (false, eval e X.env) :: starEach es X.env := by rfl) (hpl : (backTo pos (starEach es X.env)).any (·.1) = false := by rfl) :
    ELX X sls (.Call (.Name x p) (e :: es) [] pos) xs := fun F0 H0 F σ H s Q q => by
  obtain ⟨f, fd, ps, G1, hm, hkp, hb⟩ := G.ex
  refine ⟨_, pe_call (E := E0) G1 (hr.mono hk) hg hm hkp hb .nil pass0 pa_wa hdb he hpl, ha F0 H0 F σ H s _ fun vs F2 H2 st hvs => ?_⟩
  rw [List.append_nil]
  refine ⟨F2, ds, .own xs, st.fh, hvs, h, fun v F3 H3 hv => ?_⟩
  obtain ⟨l, ws, rfl, s3, h1, h2, h3, h4⟩ := hv
  exact q l ws F3 H3 (st.trans s3) (st.hh.free h1) h2 h3 h4
theorem cs_setX (i : Nat) {pos' : Pos} (he : EX X sls e d) (h : N (sls.set i (.dat d))) (hN : X.N.Nodup) (hi : X.N[i]? = some x := by rfl) (hx : Loc X.env.scope x := by first | exact .inl rfl | exact .inr rfl) (hs : swapsWith e (some (.Name x pos')) pos.line X.env = pure false := by rfl)
    (hf : X.fn x = true ∨ X.env.scope.names.lookup x = some .local := by first | exact .inl rfl | exact .inr rfl | assumption) : CS X (.Assign [.Name x pos'] e pos) sls N R := fun F0 H0 F σ H D s ok =>
  ⟨_, ps_set hN hi hx pe_we hs hf, he F0 H0 F σ H s _ fun v F2 H2 st hv => ok.nx _ _ _ _ h ((s.step st).set i hv)⟩
theorem cs_setLX (i : Nat) {pos' : Pos} {ds : List PyData} (he : ELX X sls e ds) (h : N (sls.set i (.own ds))) (hN : X.N.Nodup) (hi : X.N[i]? = some x := by rfl) (hx : Loc X.env.scope x := by first | exact .inl rfl | exact .inr rfl) (hs : swapsWith e (some (.Name x pos')) pos.line X.env = pure false := by rfl)
    (hf : X.fn x = true ∨ X.env.scope.names.lookup x = some .local := by first | exact .inl rfl | exact .inr rfl | assumption) : CS X (.Assign [.Name x pos'] e pos) sls N R := fun F0 H0 F σ H D s ok =>
  ⟨_, ps_set hN hi hx pe_we hs hf, he F0 H0 F σ H s _ fun p vs F2 H2 st h0 h1 h2 h3 => ok.nx _ _ _ _ h (s.setNew st i h0 h1 (fun ds' z => by cases z; exact ⟨vs, h2, h3⟩) (fun _ z => nomatch z) (fun _ z => nomatch z))⟩
theorem units65 {k : Nat} {A : Around} (r : Room k A) : A.units + 65 < cLine := by have := r.un; omega
/-- x in xs, any data -/
theorem cmp_inD {y : D} {ds : List PyData} (hu : X.A.units + 65 < cLine) (h1 : SeqAt.shaped y = true) (h2 : SeqAt.shaped (.list ds) = true) : CmpD X .In y (.list ds) (ds.any fun z => PyData.eqv z y) :=
  ⟨_, op_inD hu, r2_sc rfl fun H v u Q hv hu q => ⟨y, ds, hv.dp (SeqAt.canLay_of_shaped h1), hu.dp (SeqAt.canLay_of_shaped h2), h1, h2, q _ (.bl _)⟩⟩
theorem cmp_niD {y : D} {ds : List PyData} (hu : X.A.units + 65 < cLine) (h1 : SeqAt.shaped y = true) (h2 : SeqAt.shaped (.list ds) = true) : CmpD X .NotIn y (.list ds) (!ds.any fun z => PyData.eqv z y) :=
  ⟨_, op_notInD hu, r2_sc rfl fun H v u Q hv hu q => ⟨y, ds, hv.dp (SeqAt.canLay_of_shaped h1), hu.dp (SeqAt.canLay_of_shaped h2), h1, h2, q _ (.bl _)⟩⟩
variable {lo hi : Option Expr} {ol oh : Option Int}
theorem e_slA {xs : List D} (ha : E X sds a (.tuple xs)) (hl : EO X sds lo ol) (hh : EO X sds hi oh) : E X sds (.Subscript a (.Slice lo hi none p2) pos) (.tuple (cutD xs ol oh)) := fun F σ H hs hf Q q =>
  ⟨_, pe_slice sl_tupA pe_we po_wo po_wo, ha F σ H hs hf _ fun v F1 H1 s1 hv => hl.run (hs.mono s1.ff) s1.fh fun F2 H2 s2 => hh.run ((hs.mono s1.ff).mono s2.ff) s2.fh fun F3 H3 s3 => by
    obtain ⟨p, vs, rfl, hp, h1⟩ := hv.inv_tup
    have h1' := (h1.mono s2.ff).mono s3.ff
    have st := (s1.trans s2).trans s3
    refine ⟨p, vs, rfl, .of (s3.fh _ _ (s3.ff _ _ (s2.ff _ _ hp))), fun hw => ?_, fun hw l hl => ?_⟩
    · refine q _ F3 _ st (.tup (s3.ff _ _ (s2.ff _ _ hp)) ?_)
      rw [h1'.length] at hw
      unfold cutD
      rw [hw.1, hw.2, Nat.sub_zero, List.drop_zero, List.take_length]
      exact h1'
    · refine q _ (upd F3 l (.tup (cutV vs ol oh))) _ (st.trans (.new s3.fh hl)) (.tup upd_same (DqAll.mono (same_upd (s3.fh.free hl)) ?_))
      unfold cutV cutD
      rw [h1'.length]
      exact (h1'.drop _).take _⟩
end
end Lay

/-! Lay: loops over what was made out of one's own lists; xs + own. -/
namespace Lay
open PySem PySem.Spec L2

section
variable {X : Cx} {sds : List (Option D)} {sls : List Sl} {e a b tg iter : Expr} {d : D} {pos p p2 tp : Pos} {x : Str} {es : List Expr} {body : List Stmt} {N : List Sl → Prop} {R : Ret → Prop} {j k : Nat} {Rel : List D → Ret → Prop}
def ITX (X : Cx) (sls : List Sl) (tg iter : Expr) (ds : List D) : Prop := ∀ (F0 H0 F : Hp) (σ : St) (H : Hp), SR X.K F0 H0 F σ H sls → ∀ R : It → Hp → Prop, (∀ J F2 H2, Step F H F2 H2 → Yields X.K J F2 ds → R J H2) → WI X tg iter σ H R
theorem itx_h {ds : List D} (h : IT X (sls.map hid) tg iter ds) : ITX X sls tg iter ds := fun F0 H0 F σ H s R q => h F σ H s.sd s.st.fh R q
theorem itx_list {ds : List D} (h : EX X sls iter (.list ds)) : ITX X sls tg iter ds := fun F0 H0 F σ H s R q =>
  ⟨_, pi_list pe_we, h F0 H0 F σ H s _ fun v F2 H2 st hv => by
    obtain ⟨a, xs, rfl, ha, h1⟩ := hv.inv_lst
    refine ⟨a, rfl, ⟨xs, .of (st.fh _ _ ha)⟩, q _ F2 H2 st ⟨fun i H' hf' hi => ?_, fun H' hf' => ?_, fun i H' y H'' hf' hi hy => ?_⟩⟩
    · have hi' : i < xs.length := by rw [h1.length]; exact hi
      exact ⟨xs, xs[i], .of (hf' _ _ ha), List.getElem?_eq_getElem hi'⟩
    · exact ⟨xs, .of (hf' _ _ ha), by rw [h1.length]; exact Nat.le_refl _⟩
    · obtain ⟨e1, e2⟩ := hy
      exact ⟨e1, h1.get' (e2 xs (.of (hf' _ _ ha)))⟩⟩
theorem cs_forX (j : Nat) {ds : List PyData} (I : Nat → List Sl → Prop) (hi : ITX X sls (.Name x tp) iter ds) (h0 : I 0 sls)
    (hs : ∀ i d s, ds[i]? = some d → I i s → C X body (s.set j (.dat d)) (I (i + 1)) R) (hd : ∀ s, I ds.length s → N s) (hN : X.N.Nodup) (hj : X.N[j]? = some x := by rfl) (hx : Loc X.env.scope x := by first | exact .inl rfl | exact .inr rfl)
    (hf : X.fn x = true ∨ X.env.scope.names.lookup x = some .local := by first | exact .inl rfl | exact .inr rfl | assumption) (hc : X.calm = true := by rfl) (hp : PassesOwn (model X.prog X.w) X.A X.env X.xe := by exact PassesOwn.never)
    (hfs : ∀ x, foldedSetIterable iter X.env x = pure x := by intro _; rfl) : CS X (.For (.Name x tp) iter body [] pos) sls N R := fun F0 H0 F σ H D s ok => by
  refine ⟨_, ps_for hp hc pi_wi (pg_name hN hj hx hf) pss_wss hfs, hi F0 H0 F σ H s _ fun J F1 H1 st hy => ?_⟩
  refine ⟨fun i m σ' H' => m = ds.length - i ∧ i ≤ ds.length ∧ ∃ F' sls', I i sls' ∧ SR X.K F0 H0 F' σ' H' sls' ∧ Same F1 F', ⟨ds.length, by omega, Nat.zero_le _, F1, sls, h0, s.step st, Same.refl _⟩, ?_⟩
  rintro i m σ' H' ⟨rfl, hle, F', sls', hI, s', hsm⟩
  by_cases hlt : i < ds.length
  · refine .inr ⟨hy.go i H' (hsm.trans s'.st.fh) hlt, fun σ'' H'' => ∃ F'' sls'', I (i + 1) sls'' ∧ SR X.K F0 H0 F'' σ'' H'' sls'' ∧ Same F1 F'', fun σ'' H'' ⟨F'', sls'', a, b, c⟩ => ⟨ds.length - (i + 1), by omega, rfl, hlt, F'', sls'', a, b, c⟩, fun y H'' hyl => ?_⟩
    obtain ⟨rfl, d, hd1, hd2⟩ := hy.yld i H' y H'' (hsm.trans s'.st.fh) hlt hyl
    have s2 := (s'.set j (hd2.mono hsm)).rebase
    refine hs i d sls' hd1 hI F' H0 F' _ H'' _ s2 ⟨fun F3 σ3 H3 sls3 n3 s3 => ⟨F3, sls3, n3, s3.back s'.st, hsm.trans s3.st.ff⟩, fun v r F3 H3 hr k => ok.rt v r F3 H3 hr (k.back s'.st)⟩
  · have e : i = ds.length := by omega
    subst e
    exact .inl ⟨hy.stop H' (hsm.trans s'.st.fh), ok.nx _ _ _ _ (hd _ hI) s'⟩
/-- xs + ys, ys a list of one's own -/
theorem elx_catO (i : Nat) {xs ys : List PyData} (ha : E X (sls.map hid) a (.list xs)) (hi : sls[i]? = some (.own ys)) (hz : xs.length + ys.length ≤ 100000) (hN : X.N[i]? = some x := by rfl)
    (hv : Vis X.env.scope x := by first | exact Or.inl rfl | exact Or.inr (Or.inl rfl) | exact Or.inr (Or.inr rfl)) (h1 : (x == ("__debug__" : Str)) = false := by decide) (h2 : (x == ("__classdict__" : Str)) = false := by decide) :
    ELX X sls (.BinOp a .Add (.Name x p) pos) (xs ++ ys) := fun F0 H0 F σ H s Q q => by
  obtain ⟨l, ws, e1, e2, e3, e4, e5⟩ := s.own i ys hi
  refine ⟨_, pe_op op_cat pe_we (pe_var hN hv h1 h2), ha F σ H s.sd s.st.fh _ fun v F2 H2 st hv => ?_⟩
  obtain ⟨p, vs, rfl, hp, h3⟩ := hv.inv_lst
  exact ⟨_, e1, p, l, vs, ws, rfl, rfl, st.fh _ _ hp, st.hh _ _ e4, by rw [h3.length, e5.length]; exact line_ok hz, fun m hm => q m _ F2 _ (st.trans (.mine st.fh hm)) (st.hh.free hm) (st.fh.free hm) upd_same (h3.append (e5.mono st.ff))⟩
end
end Lay

/-! Lay: dicts of one's own; tests, answers over one's own. -/
namespace Lay
open PySem PySem.Spec L2

/-! ### dicts as lists of pairs -/
def kD : Key → PyData
  | .inl i => .int i
  | .inr x => .str x
def putD (kvs : List (Key × PyData)) (k : Key) (d : PyData) : List (Key × PyData) :=
  if (kvs.any fun kv => decide (kv.1 = k)) = true then kvs.map (fun kv => if kv.1 = k then (kv.1, d) else kv) else kvs ++ [(k, d)]
def valD (kvs : List (Key × PyData)) (k : Key) : Option PyData := (kvs.find? fun kv => decide (kv.1 = k)).map (·.2)
theorem KDq.length {K : PySem.W.Frag} {F : Hp} {vs : List (Key × V)} {ds : List (Key × PyData)} (h : KDq K F vs ds) : vs.length = ds.length := by
  induction h with
  | nil => rfl
  | cons h t ih => rw [List.length_cons, List.length_cons, ih]
theorem KDq.keys {K : PySem.W.Frag} {F : Hp} {vs : List (Key × V)} {ds : List (Key × PyData)} (h : KDq K F vs ds) : vs.map (·.1) = ds.map (·.1) := by
  induction h with
  | nil => rfl
  | cons h t ih => rw [List.map_cons, List.map_cons, ih, h.1]
theorem KDq.any {K : PySem.W.Frag} {F : Hp} {vs : List (Key × V)} {ds : List (Key × PyData)} (h : KDq K F vs ds) (k : Key) : (vs.any fun kv => decide (kv.1 = k)) = ds.any fun kv => decide (kv.1 = k) := by
  induction h with
  | nil => rfl
  | cons h t ih => rw [List.any_cons, List.any_cons, ih, h.1]
theorem KDq.put {K : PySem.W.Frag} {F : Hp} {vs : List (Key × V)} {ds : List (Key × PyData)} (h : KDq K F vs ds) (k : Key) {v : V} {d : PyData} (hv : Dq K F v d) : KDq K F (putK vs k v) (putD ds k d) := by
  unfold putK putD
  rw [h.any k]
  split
  · rename_i hany
    clear hany
    induction h with
    | nil => exact .nil
    | @cons p q l1 l2 h t ih =>
      rw [List.map_cons, List.map_cons]
      refine .cons ?_ ih
      rw [h.1]
      by_cases e : q.1 = k
      · rw [if_pos e, if_pos e]
        exact ⟨rfl, hv⟩
      · rw [if_neg e, if_neg e]
        exact h
  · exact Paired.snoc h ⟨rfl, hv⟩
theorem KDq.val {K : PySem.W.Frag} {F : Hp} {vs : List (Key × V)} {ds : List (Key × PyData)} (h : KDq K F vs ds) (k : Key) : (valD ds k = none ∧ valV vs k = none) ∨ ∃ v d, valD ds k = some d ∧ valV vs k = some v ∧ Dq K F v d := by
  induction h with
  | nil => exact .inl ⟨rfl, rfl⟩
  | @cons p q l1 l2 h t ih =>
    by_cases e : q.1 = k
    · refine .inr ⟨p.2, q.2, ?_, valV_pos (by rw [h.1]; exact e), h.2⟩
      simp [valD, List.find?_cons, e]
    · rw [valV_neg (by rw [h.1]; exact e)]
      have : valD (q :: l2) k = valD l2 k := by simp [valD, List.find?_cons, e]
      rw [this]
      exact ih
theorem valD_put (kvs : List (Key × PyData)) (k j : Key) (d : PyData) : valD (putD kvs k d) j = if j = k then some d else valD kvs j := by
  induction kvs with
  | nil =>
    show valD [(k, d)] j = _
    by_cases e : j = k
    · rw [if_pos e]; simp [valD, List.find?_cons, e]
    · rw [if_neg e]; simp [valD, List.find?_cons, Ne.symm e]
  | cons p r ih =>
    by_cases e : p.1 = k
    · have e1 : putD (p :: r) k d = (p :: r).map fun kv => if kv.1 = k then (kv.1, d) else kv := by
        unfold putD
        rw [if_pos (by simp [e])]
      rw [e1, List.map_cons, if_pos e]
      by_cases ej : j = k
      · rw [if_pos ej]
        simp [valD, List.find?_cons, e, ej]
      · rw [if_neg ej]
        have e2 : ∀ l : List (Key × PyData), ((l.map fun kv => if kv.1 = k then (kv.1, d) else kv).find? fun kv => decide (kv.1 = j)) = l.find? fun kv => decide (kv.1 = j) := by
          intro l
          induction l with
          | nil => rfl
          | cons q l ihl =>
            rw [List.map_cons, List.find?_cons, List.find?_cons]
            by_cases eq : q.1 = k
            · rw [if_pos eq]
              have : decide (q.1 = j) = false := by simp [eq, Ne.symm ej]
              rw [this, ihl]
            · rw [if_neg eq, ihl]
        unfold valD
        rw [List.find?_cons, List.find?_cons, e2]
        have : decide (p.1 = j) = false := by simp [e, Ne.symm ej]
        rw [this]
    · have e1 : putD (p :: r) k d = p :: putD r k d := by
        unfold putD
        have : ((p :: r).any fun kv => decide (kv.1 = k)) = r.any fun kv => decide (kv.1 = k) := by simp [e]
        rw [this]
        split
        · rw [List.map_cons, if_neg e]
        · rfl
      rw [e1]
      by_cases ep : p.1 = j
      · have : ¬ j = k := fun z => e (ep.trans z)
        rw [if_neg this]
        simp [valD, List.find?_cons, ep]
      · have h1 : ∀ l : List (Key × PyData), valD (p :: l) j = valD l j := fun l => by simp [valD, List.find?_cons, ep]
        rw [h1, h1, ih]
/-- ints as keys, True with each -/
theorem putD_true (ks : List Int) (k : Int) : putD (ks.map fun i => (Sum.inl i, PyData.bool true)) (.inl k) (.bool true) = (if k ∈ ks then ks else ks ++ [k]).map fun i => (Sum.inl i, PyData.bool true) := by
  unfold putD
  have e : ((ks.map fun i => ((Sum.inl i : Key), PyData.bool true)).any fun kv => decide (kv.1 = .inl k)) = decide (k ∈ ks) := by
    rw [Bool.eq_iff_iff]
    simp
  rw [e]
  by_cases h : k ∈ ks
  · rw [decide_eq_true h, if_pos rfl, if_pos h, List.map_map]
    refine List.map_congr_left fun i _ => ?_
    show (if (Sum.inl i : Key) = Sum.inl k then ((Sum.inl i : Key), PyData.bool true) else ((Sum.inl i : Key), PyData.bool true)) = _
    split <;> rfl
  · rw [decide_eq_false h, if_neg (by decide), if_neg h, List.map_append]
    rfl

section
variable {X : Cx} {sds : List (Option D)} {sls : List Sl} {e a b c : Expr} {d : D} {pos p p2 pos' : Pos} {x : Str} {es : List Expr} {yes no : List Stmt} {N : List Sl → Prop} {R : Ret → Prop} {j k : Nat} {K : PySem.W.Frag} {F H : Hp} {y : V}
theorem Dq.key {k : Key} (h : Dq K H y (kD k)) : y = kV k := by
  cases k with
  | inl i => exact h.inv_int
  | inr x => cases h; rfl
/-- x = {i: True} -/
theorem cs_setD1 (i : Nat) {n : Int} {j1 j2 : Nat} {p1 p2 : Pos} (h : N (sls.set i (.dct [(.inl n, .bool true)]))) (hN : X.N.Nodup) (hi : X.N[i]? = some x := by rfl) (hx : Loc X.env.scope x := by first | exact .inl rfl | exact .inr rfl) (hs : swapsWith (.Dict [some (.Constant (.int n) j1 p1)] [.Constant (.bool true) j2 p2] p) (some (.Name x pos')) pos.line X.env = pure false := by rfl)
    (hf : X.fn x = true ∨ X.env.scope.names.lookup x = some .local := by first | exact .inl rfl | exact .inr rfl | assumption) : CS X (.Assign [.Name x pos'] (.Dict [some (.Constant (.int n) j1 p1)] [.Constant (.bool true) j2 p2] p) pos) sls N R := fun F0 H0 F σ H D s ok => by
  refine ⟨_, ps_set hN hi hx (pe_disp (pps_cons pe_int pe_bl pps_nil) (by rfl) (by rfl) (fun z => by cases z) (show 1 ≤ 15 by decide)) hs hf, fun q hq => ?_⟩
  refine ⟨upd_same, [(.inl n, .bl true)], rfl, show 1 ≤ 15 by decide, ?_⟩
  refine ok.nx _ _ _ _ h (s.setNew (F2 := F) (p := q) ?_ i hq (s.st.fh.free hq) (fun _ z => nomatch z) (fun ds' z => by cases z; exact ⟨_, upd_same, .cons ⟨rfl, .bl true⟩ .nil⟩) (fun _ z => nomatch z))
  rw [show upd (upd H q (.dK [])) q (.dK (mergeK [] [(.inl n, .bl true)])) = upd H q (.dK (mergeK [] [(.inl n, .bl true)])) by
    funext b
    by_cases e : b = q
    · subst e; rw [upd_same, upd_same]
    · rw [upd_ne e, upd_ne e, upd_ne e]]
  exact Step.mine s.st.fh hq
/-- d[k] = v -/
theorem cs_dput (i : Nat) {kvs : List (Key × PyData)} {k : Key} (hi : sls[i]? = some (.dct kvs)) (hz : kvs.length ≤ 100000) (hk : EV X sls b (kD k)) (he : EV X sls e d) (h : N (sls.set i (.dct (putD kvs k d)))) (hu : X.A.units + 65 < cLine)
    (hN : X.N[i]? = some x := by rfl) (hv : Vis X.env.scope x := by first | exact Or.inl rfl | exact Or.inr (Or.inl rfl) | exact Or.inr (Or.inr rfl)) (h1 : (x == ("__debug__" : Str)) = false := by decide) (h2 : (x == ("__classdict__" : Str)) = false := by decide)
    (hs : swapsWith e (some (.Subscript (.Name x p) b pos')) pos.line X.env = pure false := by rfl) : CS X (.Assign [.Subscript (.Name x p) b pos'] e pos) sls N R := fun F0 H0 F σ H D s ok => by
  obtain ⟨l, vs, e1, _, _, _, _⟩ := s.dct i kvs hi
  refine ⟨_, ps_dput (by omega) (pe_var hN hv h1 h2) pe_we pe_we hs, he.run s fun v F2 H2 st hv => ⟨_, e1, hk.run (s.step st) fun y F3 H3 s3 hy => ?_⟩⟩
  have t3 := (s.step st).step s3
  obtain ⟨l', ws, g1, g2, g3, g4, g5⟩ := t3.dct i kvs hi
  rw [e1] at g1
  cases g1
  rw [hy.key]
  refine ⟨l, _, rfl, .k g4 (by rw [g5.length]; exact line_lt hz), ?_⟩
  exact ok.nx _ _ _ _ h (t3.write i (by rw [hi]; rfl) e1 (fun _ z => nomatch z) (fun ds' z => by cases z; exact ⟨_, rfl, g5.put k (hv.mono s3.ff)⟩) (fun _ z => nomatch z))
/-! tests over the state -/
def TX (X : Cx) (sls : List Sl) (c : Expr) (b : Bool) : Prop := ∀ (F0 H0 F : Hp) (σ : St) (H : Hp), SR X.K F0 H0 F σ H sls → ∀ Q : Bool → Hp → Prop, (∀ F2 H2, Step F H F2 H2 → Q b H2) → WT X c σ H Q
theorem tx_s {t : Bool} (h : T X (sls.map shw) c t) : TX X sls c t := fun F0 H0 F σ H s Q q => by
  obtain ⟨F', g1, g2, g3⟩ := s.shown
  exact h F' σ H g3 g2.fh Q fun F2 H2 st => q F H2 (st.less g1)
theorem TX.is {t t' : Bool} (h : TX X sls c t) (e : t = t') : TX X sls c t' := e ▸ h
/-- k in d -/
theorem tx_din (i : Nat) {kvs : List (Key × PyData)} {k : Key} (hi : sls[i]? = some (.dct kvs)) (hk : EV X sls a (kD k)) (hu : X.A.units + 65 < cLine)
    (hN : X.N[i]? = some x := by rfl) (hv : Vis X.env.scope x := by first | exact Or.inl rfl | exact Or.inr (Or.inl rfl) | exact Or.inr (Or.inr rfl)) (h1 : (x == ("__debug__" : Str)) = false := by decide) (h2 : (x == ("__classdict__" : Str)) = false := by decide)
    (hm : behindInMarks .In (.Name x p) = false := by first | exact nomark _ | rfl) : TX X sls (.Compare a [.In] [.Name x p] pos) (valD kvs k).isSome := fun F0 H0 F σ H s Q q => by
  obtain ⟨l, vs, e1, _, _, _, _⟩ := s.dct i kvs hi
  refine ⟨_, pt_cmp (pc_din (by omega) pe_we (pe_var hN hv h1 h2)) hm, hk.run s fun y F2 H2 st hy => ⟨_, e1, ?_⟩⟩
  have t2 := s.step st
  obtain ⟨l', ws, g1, g2, g3, g4, g5⟩ := t2.dct i kvs hi
  rw [e1] at g1
  cases g1
  rw [hy.key]
  refine ⟨l, _, rfl, .k g4, _, rfl, ?_⟩
  rcases g5.val k with ⟨q1, q2⟩ | ⟨w1, d1, q1, q2, _⟩
  · rw [q2]
    rw [q1] at q
    exact q F2 H2 st
  · rw [q2]
    rw [q1] at q
    exact q F2 H2 st
theorem cs_ifX {t : Bool} (hc : TX X sls c t) (h1 : t = true → C X yes sls N R) (h2 : t = false → C X no sls N R) : CS X (.If c yes no pos) sls N R := fun F0 H0 F σ H D s ok => by
  refine ⟨_, ps_if pt_wt pss_wss pss_wss, hc F0 H0 F σ H s _ fun F2 H2 st => ?_⟩
  have s2 := s.step st
  cases t with
  | true =>
    rw [if_pos rfl]
    exact h1 rfl F0 H0 F2 σ H2 D s2 ok
  | false =>
    rw [if_neg Bool.false_ne_true]
    exact h2 rfl F0 H0 F2 σ H2 D s2 ok
/-- d[k] -/
theorem ex_dget (i : Nat) {kvs : List (Key × PyData)} {k : Key} (hi : sls[i]? = some (.dct kvs)) (hk : EV X sls b (kD k)) (hd : valD kvs k = some d) (hu : X.A.units + 65 < cLine) (hp : NoSl b := by exact fun _ _ => rfl)
    (hN : X.N[i]? = some x := by rfl) (hv : Vis X.env.scope x := by first | exact Or.inl rfl | exact Or.inr (Or.inl rfl) | exact Or.inr (Or.inr rfl)) (h1 : (x == ("__debug__" : Str)) = false := by decide) (h2 : (x == ("__classdict__" : Str)) = false := by decide) :
    EX X sls (.Subscript (.Name x p) b pos) d := fun F0 H0 F σ H s Q q => by
  obtain ⟨l, vs, e1, _, _, _, _⟩ := s.dct i kvs hi
  refine ⟨_, pe_dget (by omega) (pe_var hN hv h1 h2) pe_we hp, _, e1, hk.run s fun y F2 H2 st hy => ?_⟩
  have t2 := s.step st
  obtain ⟨l', ws, g1, g2, g3, g4, g5⟩ := t2.dct i kvs hi
  rw [e1] at g1
  cases g1
  rw [hy.key]
  rcases g5.val k with ⟨q1, q2⟩ | ⟨w1, d1, q1, q2, q3⟩
  · rw [hd] at q1; cases q1
  · rw [hd] at q1
    cases q1
    refine ⟨l, w1, rfl, ?_, q w1 F2 H2 st q3⟩
    rw [← q2]
    exact .k g4
theorem ex_ix {x' y' : D} (ha : EX X sls a x') (hb : EV X sls b y') (h : IxD X x' y' d) (hp : PlainIx b := by exact fun _ _ => rfl) : EX X sls (.Subscript a b pos) d := fun F0 H0 F σ H s Q q => by
  obtain ⟨r, ho, hr⟩ := h
  exact ⟨_, pe_ix ho pe_we pe_we hp, ha F0 H0 F σ H s _ fun v F1 H1 s1 hv => hb.run (s.step s1) fun u F2 H2 s2 hu =>
    hr F2 H2 v u Q s2.fh (hv.mono s2.ff) hu fun z F3 H3 s3 hz => q z F3 H3 ((s1.trans s2).trans s3) hz⟩
theorem cs_retX (he : EX X sls e d) (h : R (.dat d)) : CS X (.Return (some e) pos) sls N R := fun F0 H0 F σ H D s ok =>
  ⟨_, ps_ret pe_we, he F0 H0 F σ H s _ fun v F2 H2 st hv => ok.rt v _ F2 H2 h ⟨s.st.trans st, hv⟩⟩
theorem cs_retLX {ds : List PyData} (he : ELX X sls e ds) (h : R (.own ds)) : CS X (.Return (some e) pos) sls N R := fun F0 H0 F σ H D s ok =>
  ⟨_, ps_ret pe_we, he F0 H0 F σ H s _ fun p vs F2 H2 st h0 h1 h2 h3 => ok.rt _ _ F2 H2 h ⟨p, vs, rfl, s.st.trans st, s.st.hh.free h0, h1, h2, h3⟩⟩
/-- list(d) -/
theorem elx_listD (i : Nat) {y : Str} {kvs : List (Key × PyData)} (hi : sls[i]? = some (.dct kvs)) (hm : X.mg "list" = none) (hy : y = "list" := by rfl) (hc : X.calm = true := by rfl) (hg : Gl X "list" := by rfl)
    (hN : X.N[i]? = some x := by rfl) (hv : Vis X.env.scope x := by first | exact Or.inl rfl | exact Or.inr (Or.inl rfl) | exact Or.inr (Or.inr rfl)) (h1 : (x == ("__debug__" : Str)) = false := by decide) (h2 : (x == ("__classdict__" : Str)) = false := by decide)
    (hs' : starEach [.Name x p2] X.env = [(false, eval (.Name x p2) X.env)] := by rfl) : ELX X sls (.Call (.Name y p) [.Name x p2] [] pos) (kvs.map fun kv => kD kv.1) := fun F0 H0 F σ H s Q q => by
  subst hy
  obtain ⟨l, vs, e1, e2, e3, e4, e5⟩ := s.dct i kvs hi
  refine ⟨_, pe_callTy (call_list_dK hc) hg hm (by first | rfl | decide +kernel) (pa_cons (pe_var hN hv h1 h2) pa_nil hs') (by decide) (by decide) hs' rfl, _, e1, l, vs, rfl, e4, fun m hm => ?_⟩
  refine q m _ F _ (.mine s.st.fh hm) hm (s.st.fh.free hm) upd_same ?_
  have ek : (vs.map fun kv => kV kv.1) = (kvs.map (·.1)).map kV := by
    rw [← e5.keys, List.map_map]
    rfl
  rw [ek, show (kvs.map fun kv => kD kv.1) = (kvs.map (·.1)).map kD by rw [List.map_map]; rfl]
  generalize kvs.map (·.1) = ks
  induction ks with
  | nil => exact .nil
  | cons k ks ih =>
    refine .cons ?_ ih
    cases k with
    | inl i => exact .int i
    | inr x => exact .str x
theorem elx_callB {id : String} {ds xs : List D} (h : CallL X (.builtin id) ds xs) (ha : EAX X sls (e :: es) ds) (hm : X.mg x = none) (hv : bootBuiltins x = some (.builtin id) := by first | rfl | decide +kernel) (hg : Gl X x := by rfl)
    (hn : x ≠ "__name__" := by decide) (hdb : (x == ("__debug__" : Str)) = false := by decide)
    (he : starEach (e :: es) X.env = (false, eval e X.env) :: starEach es X.env := by rfl) (hpl : (backTo pos (starEach es X.env)).any (·.1) = false := by rfl) : ELX X sls (.Call (.Name x p) (e :: es) [] pos) xs := fun F0 H0 F σ H s Q q => by
  obtain ⟨r, ho, hr⟩ := h
  exact ⟨_, pe_callB ho hg hm hv pa_wa hn hdb he hpl, ha F0 H0 F σ H s _ fun vs F2 H2 st hvs => hr F2 H2 vs Q st.fh hvs fun z ws F3 H3 s3 h1 h2 h3 h4 => q z ws F3 H3 (st.trans s3) (st.hh.free h1) h2 h3 h4⟩
theorem cs_mtX {name : Str} {id : String} {ap cp : Pos} (i : Nat) {xs vs ys : List PyData} (hi : sls[i]? = some (.own xs)) (ha : EAX X sls (e :: es) vs) (hm : MtL X id xs vs ys) (h : N (sls.set i (.own ys)))
    (slot : Slot "list" name id) (hty : typeOf (.builtin id) = pure (.type "method_descriptor"))
    (hN : X.N[i]? = some x := by rfl) (hv : Vis X.env.scope x := by first | exact Or.inl rfl | exact Or.inr (Or.inl rfl) | exact Or.inr (Or.inr rfl)) (h1 : (x == ("__debug__" : Str)) = false := by decide) (h2 : (x == ("__classdict__" : Str)) = false := by decide)
    (hbase : attributeBase (.Name x p) name X.env (eval (.Name x p) X.env) = eval (.Name x p) X.env := by rfl)
    (hfew : ((backTo cp (starEach (e :: es) X.env)).all (fun x => !x.1) && (backToKw cp (keywordEach [] X.env)).all (fun x => x.1.isSome)
      && decide ((e :: es).length + ([] : List Keyword).length + (if ([] : List Keyword).isEmpty then 0 else 1) < 30)) = true := by rfl)
    (hline : (ap.endLine == cp.line) = true := by rfl) (hs : starEach (e :: es) X.env = (false, eval e X.env) :: starEach es X.env := by rfl) (hplain : (backTo cp (starEach es X.env)).any (·.1) = false := by rfl)
    (hsw : swapsWith (.Call (.Attribute (.Name x p) name ap) (e :: es) [] cp) none pos.line X.env = pure false := by rfl) :
    CS X (.Expr (.Call (.Attribute (.Name x p) name ap) (e :: es) [] cp) pos) sls N R := fun F0 H0 F σ H D s ok => by
  obtain ⟨r, hr, hq⟩ := hm
  obtain ⟨l, ws, e1, e2, e3, e4, e5⟩ := s.own i xs hi
  refine ⟨_, ps_expr (pe_bm PySem.F.plainAttrs_list slot hty hr (pe_var hN hv h1 h2) pa_wa hbase hfew hline hs hplain) hsw, _, e1, .inl ⟨rfl, _, .of e4⟩, ?_⟩
  have ho : isOwn sls[i]? = true := by rw [hi]; rfl
  refine ha F0 H0 F σ H s _ fun us F2 H2 st hus => ?_
  have s2 := s.step st
  obtain ⟨l', ws', g1, g2, g3, g4, g5⟩ := s2.own i xs hi
  rw [e1] at g1
  cases g1
  exact hq F2 H2 l ws' us _ s2.st.fh g3 g4 g5 hus fun v ws2 h6 => ok.nx _ _ _ _ h (s2.write i ho e1 (fun ds z => by cases z; exact ⟨ws2, rfl, h6⟩) (fun _ z => nomatch z) (fun _ z => nomatch z))
end
end Lay

/-! Lay: defs that raise own errors, try .. except. -/
namespace Lay
open PySem PySem.Spec L2

/-- an own error class at the module's name x -/
structure Err (K : PySem.W.Frag) (mg : Str → Option Value) (x : Str) (C : Addr) : Prop where
  gC : mg x = some (.ref C)
  xq : PySem.W.excIn K C [.type "ValueError", .type "Exception", .type "BaseException", .type "object"] "ValueError.__new__" = true
  kC : PySem.W.keepIn K (.ref C) = true
  bC : PySem.W.subIn K (.ref C) (.type "BaseException") = some true
  tC : PySem.W.typeIn K (.ref C) = some (.type "type")
  is : ExcC K C
/-- a def's answer, or an error of the class at x -/
inductive RetE where
  | ok (r : Ret)
  | err (x : Str)
def spOfE (K : PySem.W.Frag) (mg : Str → Option Value) (Rel : List D → RetE → Prop) : Sp := fun vs H Q E => ∃ (F : Hp) (ds : List D), Same F H ∧ DqAll K F vs ds ∧
  ((∃ r, Rel ds (.ok r) ∧ ∀ v F2 H2, RetOk K F H F2 H2 v r → Q v H2) ∨ (∃ x C, Rel ds (.err x) ∧ mg x = some (.ref C) ∧ ∀ F2 H2, Step F H F2 H2 → E (.ref C) none H2))
/-- a block that may raise: Ex, the class and the slots there -/
def CR (X : Cx) (W : WX) (sts : List Stmt) (sls : List Sl) (N : List Sl → Prop) (R : Ret → Prop) (Ex : Value → List Sl → Prop) : Prop := ∀ (F0 H0 F : Hp) (σ : St) (H : Hp) (D : Ends), SR X.K F0 H0 F σ H sls → EndsOk X.K F0 H0 N R D →
  (∀ c s', Ex c s' → ∀ F' σ' H', SR X.K F0 H0 F' σ' H' s' → W c none σ' H') → WSs X sts D σ H
def CRS (X : Cx) (W : WX) (st : Stmt) (sls : List Sl) (N : List Sl → Prop) (R : Ret → Prop) (Ex : Value → List Sl → Prop) : Prop := ∀ (F0 H0 F : Hp) (σ : St) (H : Hp) (D : Ends), SR X.K F0 H0 F σ H sls → EndsOk X.K F0 H0 N R D →
  (∀ c s', Ex c s' → ∀ F' σ' H', SR X.K F0 H0 F' σ' H' s' → W c none σ' H') → WS X st D σ H
section
variable {X : Cx} {W : WX} {sds : List (Option D)} {sls : List Sl} {e a b c : Expr} {d : D} {pos p p2 pos' tp : Pos} {x : Str} {es : List Expr} {st : Stmt} {sts yes no body : List Stmt} {N : List Sl → Prop} {R : Ret → Prop} {Ex : Value → List Sl → Prop} {j k : Nat} {iter : Expr}
theorem cr_of (h : C X sts sls N R) : CR X W sts sls N R Ex := fun F0 H0 F σ H D s ok _ => h F0 H0 F σ H D s ok
theorem crs_of (h : CS X st sls N R) : CRS X W st sls N R Ex := fun F0 H0 F σ H D s ok _ => h F0 H0 F σ H D s ok
theorem cr_cons (h : CRS X W st sls (fun s => CR X W sts s N R Ex) R Ex) : CR X W (st :: sts) sls N R Ex := fun F0 H0 F σ H D s ok ex =>
  ⟨_, pss_cons ps_ws pss_wss, h F0 H0 F σ H { D with nx := WSs X sts D } s ⟨fun F' σ' H' sls' hn s' => hn F0 H0 F' σ' H' D s' ok ex, ok.rt⟩ ex⟩
theorem cr_nil (h : N sls) : CR X W [] sls N R Ex := cr_of (c_nil h)
theorem CRS.mono {N' : List Sl → Prop} (h : CRS X W st sls N R Ex) (hN : ∀ s, N s → N' s) : CRS X W st sls N' R Ex := fun F0 H0 F σ H D s ok ex => h F0 H0 F σ H D s (ok.mono hN fun _ z => z) ex
theorem cr_one (h : CRS X W st sls N R Ex) : CR X W [st] sls N R Ex := cr_cons (h.mono fun _ z => cr_nil z)
theorem crs_if {t : Bool} (hc : T X (sls.map shw) c t) (h1 : t = true → CR X W yes sls N R Ex) (h2 : t = false → CR X W no sls N R Ex) : CRS X W (.If c yes no pos) sls N R Ex := fun F0 H0 F σ H D s ok ex => by
  obtain ⟨F', g1, g2, g3⟩ := s.shown
  refine ⟨_, ps_if pt_wt pss_wss pss_wss, hc F' σ H g3 g2.fh _ fun F2 H2 st => ?_⟩
  have s2 := s.step (st.less g1)
  cases t with
  | true =>
    rw [if_pos rfl]
    exact h1 rfl F0 H0 F σ H2 D s2 ok ex
  | false =>
    rw [if_neg Bool.false_ne_true]
    exact h2 rfl F0 H0 F σ H2 D s2 ok ex
/-- raise x('m') -/
theorem crs_raise {m : Str} {j0 : Nat} {Ca : Addr} (tk : Takes X W) (T : Err X.K X.mg x Ca) (h : Ex (.ref Ca) sls) (hc : X.calm = true := by rfl) (hg : Gl X x := by rfl) (hdb : (x == ("__debug__" : Str)) = false := by decide) :
    CRS X W (.Raise (some (.Call (.Name x p) [.Constant (.str m) j0 p2] [] pos')) none pos) sls N R Ex := fun F0 H0 F σ H D s ok ex =>
  ⟨_, ps_raise hc tk (pmk_own PySem.F.excBase_ValueError T.xq T.gC T.kC (raises_own T.bC T.tC) hg hdb), ex _ _ h F σ H s⟩
/-- a loop, a turn of which may raise -/
theorem crs_for (j : Nat) {ds : List PyData} (I : Nat → List Sl → Prop) (hi : IT X (sls.map hid) (.Name x tp) iter ds) (h0 : I 0 sls)
    (hs : ∀ i d s, ds[i]? = some d → I i s → CR X W body (s.set j (.dat d)) (I (i + 1)) R Ex) (hd : ∀ s, I ds.length s → N s) (hp : PassesOwn (model X.prog X.w) X.A X.env X.xe) (hN : X.N.Nodup) (hj : X.N[j]? = some x := by rfl) (hx : Loc X.env.scope x := by first | exact .inl rfl | exact .inr rfl)
    (hf : X.fn x = true ∨ X.env.scope.names.lookup x = some .local := by first | exact .inl rfl | exact .inr rfl | assumption) (hc : X.calm = true := by rfl)
    (hfs : ∀ x, foldedSetIterable iter X.env x = pure x := by intro _; rfl) : CRS X W (.For (.Name x tp) iter body [] pos) sls N R Ex := fun F0 H0 F σ H D s ok ex => by
  refine ⟨_, ps_for hp hc pi_wi (pg_name hN hj hx hf) pss_wss hfs, hi F σ H s.sd s.st.fh _ fun J F1 H1 st hy => ?_⟩
  refine ⟨fun i m σ' H' => m = ds.length - i ∧ i ≤ ds.length ∧ ∃ F' sls', I i sls' ∧ SR X.K F0 H0 F' σ' H' sls' ∧ Same F1 F', ⟨ds.length, by omega, Nat.zero_le _, F1, sls, h0, s.step st, Same.refl _⟩, ?_⟩
  rintro i m σ' H' ⟨rfl, hle, F', sls', hI, s', hsm⟩
  by_cases hlt : i < ds.length
  · refine .inr ⟨hy.go i H' (hsm.trans s'.st.fh) hlt, fun σ'' H'' => ∃ F'' sls'', I (i + 1) sls'' ∧ SR X.K F0 H0 F'' σ'' H'' sls'' ∧ Same F1 F'', fun σ'' H'' ⟨F'', sls'', a, b, c⟩ => ⟨ds.length - (i + 1), by omega, rfl, hlt, F'', sls'', a, b, c⟩, fun y H'' hyl => ?_⟩
    obtain ⟨rfl, d, hd1, hd2⟩ := hy.yld i H' y H'' (hsm.trans s'.st.fh) hlt hyl
    have s2 := (s'.set j (hd2.mono hsm)).rebase
    refine hs i d sls' hd1 hI F' H0 F' _ H'' _ s2 ⟨fun F3 σ3 H3 sls3 n3 s3 => ⟨F3, sls3, n3, s3.back s'.st, hsm.trans s3.st.ff⟩, fun v r F3 H3 hr k => ok.rt v r F3 H3 hr (k.back s'.st)⟩ fun c s3 hE F3 σ3 H3 r3 => ex c s3 hE F3 σ3 H3 (r3.back s'.st)
  · have e : i = ds.length := by omega
    subst e
    exact .inl ⟨hy.stop H' (hsm.trans s'.st.fh), ok.nx _ _ _ _ (hd _ hI) s'⟩
end
/-! ### a def that may raise -/
structure DfnE (P : Program) (w : World) (K : PySem.W.Frag) (mg : Str → Option Value) (base : Heap) (k : Nat) (x : Str) (Rel : List D → RetE → Prop) : Prop where
  ex : ∃ f fd ps, FnOk P w K mg base (L2.CX P w) k f fd ps (spOfE K mg Rel) ∧ mg x = some (.ref f) ∧ PySem.W.keepIn K (.ref f) = true ∧ Binds K fd ps []
section
variable {P : Program} {w : World} {K : PySem.W.Frag} {mg : Str → Option Value} {base : Heap}
theorem dfnE_ok {x : Str} {st : Stmt} {N ps : List Str} {k : Nat} {Rel : List D → RetE → Prop} (A : FnAt K mg x st ps) (S : FnScope N ps (defScope st)) (len : ∀ ds r, Rel ds r → ds.length = ps.length)
    (hbody : ∀ (f : Addr) (cdv : Value) (A : Around) (outer : List Env) (s : Shared) (H : Hp) (E : XK) (ds : List D) (r : RetE), Room k (A.deeper (PyProof.Rows.envOfC x (defScope st) s.heap.objs.size f cdv)) → Rel ds r →
      Takes (cxOf (L2.CX P w) P w K mg base N x (defScope st) f cdv A outer s H E) (fun cls d _ H => E cls d H) → PassesOwn (model P w) (cxOf (L2.CX P w) P w K mg base N x (defScope st) f cdv A outer s H E).A (cxOf (L2.CX P w) P w K mg base N x (defScope st) f cdv A outer s H E).env (cxOf (L2.CX P w) P w K mg base N x (defScope st) f cdv A outer s H E).xe →
      CR (cxOf (L2.CX P w) P w K mg base N x (defScope st) f cdv A outer s H E) (fun cls d _ H => E cls d H) (defBody st) (initS N ds) (fun _ => r = .ok (.dat .none)) (fun r' => r = .ok r') (fun c _ => ∃ y C, r = .err y ∧ mg y = some (.ref C) ∧ c = .ref C)) : DfnE P w K mg base (k + 1) x Rel := by
  obtain ⟨f, fd, F, hm, hb⟩ := A
  refine ⟨f, fd, ps, F.okX S (fun vs H Q E h => ?_) (fun cdv A outer s H vs Q E hr h => ?_), hm, F.kp, hb⟩
  · obtain ⟨F', ds, _, h1, h2⟩ := h
    rw [h1.length]
    rcases h2 with ⟨r, h2, _⟩ | ⟨_, _, h2, _⟩
    · exact len ds _ h2
    · exact len ds _ h2
  · obtain ⟨F', ds, hf, h1, h2⟩ := h
    rcases h2 with ⟨r, h2, q⟩ | ⟨y, Ca, h2, hy, q⟩
    · refine hbody f cdv A outer s H E ds _ hr h2 (takes_of rfl rfl rfl rfl) (passes_of rfl) F' H F' (L2.start N vs) H _ (initS_sr hf h1) ⟨fun F2 σ' H' sls' hn s' => ?_, fun v r' F2 H' hr' k => ?_⟩ fun c s' hE => ?_
      · cases hn
        exact q .non F2 H' ⟨s'.st, .non⟩
      · cases hr'
        exact q v F2 H' k
      · obtain ⟨_, _, z, _⟩ := hE
        cases z
    · refine hbody f cdv A outer s H E ds _ hr h2 (takes_of rfl rfl rfl rfl) (passes_of rfl) F' H F' (L2.start N vs) H _ (initS_sr hf h1) ⟨fun F2 σ' H' sls' hn s' => ?_, fun v r' F2 H' hr' k => ?_⟩ fun c s' hE F2 σ' H' r2 => ?_
      · cases hn
      · cases hr'
      · obtain ⟨y', C', z, hy', rfl⟩ := hE
        cases z
        rw [hy] at hy'
        cases hy'
        exact q F2 H' r2.st
end
end Lay

/-! Lay: calls of defs that raise, try .. except X as e, its suite. -/
namespace Lay
open PySem PySem.Spec L2

/-- slot i holds what no datum says -/
theorem SR.setNo {K : PySem.W.Frag} {F0 H0 F H : Hp} {σ : St} {sls : List Sl} (h : SR K F0 H0 F σ H sls) (i : Nat) (v : Option V) : SR K F0 H0 F (σ.set i v) H (sls.set i .no) where
  st := h.st
  len := by rw [List.length_set, List.length_set]; exact h.len
  dat := fun j e he => by
    rcases get_set_cases he with ⟨rfl, e1, hl⟩ | ⟨hij, e1⟩
    · cases e1
    · obtain ⟨w, h1, h2⟩ := h.dat j e e1
      exact ⟨w, by rw [List.getElem?_set_ne hij]; exact h1, h2⟩
  own := fun j e he => by
    rcases get_set_cases he with ⟨rfl, e1, hl⟩ | ⟨hij, e1⟩
    · cases e1
    · obtain ⟨p, vs, e2, r⟩ := h.own j e e1
      exact ⟨p, vs, by rw [List.getElem?_set_ne hij]; exact e2, r⟩
  dct := fun j e he => by
    rcases get_set_cases he with ⟨rfl, e1, hl⟩ | ⟨hij, e1⟩
    · cases e1
    · obtain ⟨p, vs, e2, r⟩ := h.dct j e e1
      exact ⟨p, vs, by rw [List.getElem?_set_ne hij]; exact e2, r⟩
  pin := fun j a o he => by
    rcases get_set_cases he with ⟨rfl, e1, hl⟩ | ⟨hij, e1⟩
    · cases e1
    · obtain ⟨e2, r⟩ := h.pin j a o e1
      exact ⟨by rw [List.getElem?_set_ne hij]; exact e2, r⟩
  sep := fun j k q hjk o1 o2 g1 => by
    obtain ⟨n1, o1⟩ := own_set_no rfl o1
    obtain ⟨n2, o2⟩ := own_set_no rfl o2
    rw [List.getElem?_set_ne n1] at g1
    rw [List.getElem?_set_ne n2]
    exact h.sep j k q hjk o1 o2 g1
section
variable {X : Cx} {W : WX} {sds : List (Option D)} {sls : List Sl} {e a b c : Expr} {d : D} {pos p p2 pos' tp np pos2 : Pos} {x : Str} {es : List Expr} {st b₀ : Stmt} {sts yes no body suite : List Stmt} {N : List Sl → Prop} {R : Ret → Prop} {Ex : Value → List Sl → Prop} {j k : Nat} {Rel : List D → RetE → Prop}
/-! calls -/
theorem e_callE {ds : List PyData} (G : DfnE X.prog X.w X.K X.mg X.base k x Rel) (hr : Room j X.A) (ha : EA X sds (e :: es) ds) (h : Rel ds (.ok (.dat d))) (hk : k ≤ j := by first | omega | decide) (hg : Gl X x := by rfl)
    (hdb : (x == ("__debug__" : Str)) = false := by decide) (he : starEach (e :: es) X.env = (false, eval e X.env) :: starEach es X.env := by rfl) (hpl : (backTo pos (starEach es X.env)).any (·.1) = false := by rfl) :
    E X sds (.Call (.Name x p) (e :: es) [] pos) d := fun F σ H hs hf Q q => by
  obtain ⟨f, fd, ps, G1, hm, hkp, hb⟩ := G.ex
  refine ⟨_, pe_call (E := E0) G1 (hr.mono hk) hg hm hkp hb .nil passL pa_wa hdb he hpl, ha F σ H hs hf _ fun vs F2 H2 st hvs => ?_⟩
  rw [List.append_nil]
  exact ⟨F2, ds, st.fh, hvs, .inl ⟨.dat d, h, fun v F3 H3 ⟨s3, hv⟩ => q v F3 H3 (st.trans s3) hv⟩⟩
theorem el_callE {ds xs : List PyData} (G : DfnE X.prog X.w X.K X.mg X.base k x Rel) (hr : Room j X.A) (ha : EA X sds (e :: es) ds) (h : Rel ds (.ok (.own xs))) (hk : k ≤ j := by first | omega | decide) (hg : Gl X x := by rfl)
    (hdb : (x == ("__debug__" : Str)) = false := by decide) (he : starEach (e :: es) X.env = (false, eval e X.env) :: starEach es X.env := by rfl) (hpl : (backTo pos (starEach es X.env)).any (·.1) = false := by rfl) :
    EL X sds (.Call (.Name x p) (e :: es) [] pos) xs := fun F σ H hs hf Q q => by
  obtain ⟨f, fd, ps, G1, hm, hkp, hb⟩ := G.ex
  refine ⟨_, pe_call (E := E0) G1 (hr.mono hk) hg hm hkp hb .nil passL pa_wa hdb he hpl, ha F σ H hs hf _ fun vs F2 H2 st hvs => ?_⟩
  rw [List.append_nil]
  refine ⟨F2, ds, st.fh, hvs, .inl ⟨.own xs, h, fun v F3 H3 hv => ?_⟩⟩
  obtain ⟨l, ws, rfl, s3, h1, h2, h3, h4⟩ := hv
  exact q l ws F3 H3 (st.trans s3) (st.hh.free h1) h2 h3 h4
/-- the call raises: as a statement, in an assignment -/
theorem crs_callE {ds : List PyData} {y : Str} (tk : Takes X W) (G : DfnE X.prog X.w X.K X.mg X.base k x Rel) (hr : Room j X.A) (ha : EA X (sls.map hid) (e :: es) ds) (h : Rel ds (.err y)) (hE : ∀ Ca, X.mg y = some (.ref Ca) → Ex (.ref Ca) sls) (hy : ∃ Ca, X.mg y = some (.ref Ca)) (hk : k ≤ j := by first | omega | decide) (hg : Gl X x := by rfl)
    (hdb : (x == ("__debug__" : Str)) = false := by decide) (he : starEach (e :: es) X.env = (false, eval e X.env) :: starEach es X.env := by rfl) (hpl : (backTo pos' (starEach es X.env)).any (·.1) = false := by rfl)
    (hsw : swapsWith (.Call (.Name x p) (e :: es) [] pos') none pos.line X.env = pure false := by rfl) : CRS X W (.Expr (.Call (.Name x p) (e :: es) [] pos') pos) sls N R Ex := fun F0 H0 F σ H D s ok ex => by
  obtain ⟨f, fd, ps, G1, hm, hkp, hb⟩ := G.ex
  obtain ⟨Ca, hCa⟩ := hy
  refine ⟨_, ps_expr (pe_callS G1 (hr.mono hk) hg hm hkp hb (fun σ => passAt tk σ) pa_wa hdb he hpl) hsw, ha F σ H s.sd s.st.fh _ fun vs F2 H2 st hvs => ?_⟩
  exact ⟨F2, ds, st.fh, hvs, .inr ⟨y, Ca, h, hCa, fun F3 H3 s3 => ex _ _ (hE Ca hCa) F3 σ H3 (s.step (st.trans s3))⟩⟩
theorem crs_setE {ds : List PyData} {y z : Str} {pz : Pos} (i : Nat) (tk : Takes X W) (G : DfnE X.prog X.w X.K X.mg X.base k x Rel) (hr : Room j X.A) (ha : EA X (sls.map hid) (e :: es) ds) (h : Rel ds (.err y)) (hE : ∀ Ca, X.mg y = some (.ref Ca) → Ex (.ref Ca) sls) (hy : ∃ Ca, X.mg y = some (.ref Ca)) (hN : X.N.Nodup) (hk : k ≤ j := by first | omega | decide) (hg : Gl X x := by rfl)
    (hdb : (x == ("__debug__" : Str)) = false := by decide) (he : starEach (e :: es) X.env = (false, eval e X.env) :: starEach es X.env := by rfl) (hpl : (backTo pos' (starEach es X.env)).any (·.1) = false := by rfl)
    (hi : X.N[i]? = some z := by rfl) (hx : Loc X.env.scope z := by first | exact .inl rfl | exact .inr rfl) (hsw : swapsWith (.Call (.Name x p) (e :: es) [] pos') (some (.Name z pz)) pos.line X.env = pure false := by rfl)
    (hf : X.fn z = true ∨ X.env.scope.names.lookup z = some .local := by first | exact .inl rfl | exact .inr rfl | assumption) : CRS X W (.Assign [.Name z pz] (.Call (.Name x p) (e :: es) [] pos') pos) sls N R Ex := fun F0 H0 F σ H D s ok ex => by
  obtain ⟨f, fd, ps, G1, hm, hkp, hb⟩ := G.ex
  obtain ⟨Ca, hCa⟩ := hy
  refine ⟨_, ps_set hN hi hx (pe_callS G1 (hr.mono hk) hg hm hkp hb (fun σ => passAt tk σ) pa_wa hdb he hpl) hsw hf, ha F σ H s.sd s.st.fh _ fun vs F2 H2 st hvs => ?_⟩
  exact ⟨F2, ds, st.fh, hvs, .inr ⟨y, Ca, h, hCa, fun F3 H3 s3 => ex _ _ (hE Ca hCa) F3 σ H3 (s.step (st.trans s3))⟩⟩
/-! the suite: slot i holds the exception at aE -/
def CA (X : Cx) (i : Nat) (aE : Addr) (sts : List Stmt) (sls : List Sl) (N : List Sl → Prop) (R : Ret → Prop) : Prop := ∀ (F0 H0 F : Hp) (σ : St) (H : Hp) (D : Ends), SR X.K F0 H0 F σ H sls → σ[i]? = some (some (.ref aE)) → EndsOk X.K F0 H0 N R D → WSs X sts D σ H
def EaX (X : Cx) (i : Nat) (aE : Addr) (sds : List (Option D)) (e : Expr) (d : D) : Prop := ∀ (F : Hp) (σ : St) (H : Hp), SD X.K F σ sds → σ[i]? = some (some (.ref aE)) → Same F H → ∀ Q : VK, (∀ v F2 H2, Step F H F2 H2 → Dq X.K F2 v d → Q v H2) → WE X e σ H Q
def EaA (X : Cx) (i : Nat) (aE : Addr) (sds : List (Option D)) (es : List Expr) (ds : List D) : Prop := ∀ (F : Hp) (σ : St) (H : Hp), SD X.K F σ sds → σ[i]? = some (some (.ref aE)) → Same F H → ∀ Q : List V → Hp → Prop, (∀ vs F2 H2, Step F H F2 H2 → DqAll X.K F2 vs ds → Q vs H2) → WA X es σ H Q
variable {i : Nat} {aE : Addr}
theorem ea_of (h : E X sds e d) : EaX X i aE sds e d := fun F σ H hs _ hf Q q => h F σ H hs hf Q q
theorem EaX.is {d' : D} (h : EaX X i aE sds e d) (q : d = d') : EaX X i aE sds e d' := q ▸ h
theorem eaa_nil : EaA X i aE sds [] [] := fun F σ H hs _ hf Q q => ⟨_, pa_nil, q [] F H (.refl hf) .nil⟩
theorem eaa_cons {ds : List PyData} (h : EaX X i aE sds e d) (h' : EaA X i aE sds es ds) (hs : starEach (e :: es) X.env = (false, eval e X.env) :: starEach es X.env := by rfl) : EaA X i aE sds (e :: es) (d :: ds) := fun F σ H hsd hi hf Q q =>
  ⟨_, pa_cons pe_we pa_wa hs, h F σ H hsd hi hf _ fun v F2 H2 st hv => h' F2 σ H2 (hsd.mono st.ff) hi st.fh _ fun vs F3 H3 s3 hvs => q _ F3 H3 (st.trans s3) (.cons (hv.mono s3.ff) hvs)⟩
theorem ea_lst {ds : List PyData} (h : EaA X i aE sds es ds) (hz : ds.length ≤ sizeLine := by (first | decide | (show _ ≤ 16777216; simp only [List.length_cons, List.length_nil]; omega))) : EaX X i aE sds (.List es pos) (.list ds) := fun F σ H hs hi hf Q q =>
  ⟨_, pe_lst pa_wa, h F σ H hs hi hf _ fun vs F2 H2 st hv => ⟨by rw [hv.length]; exact hz, fun p hp => q (.ref p) (upd F2 p (.lst vs)) _ (st.trans (.new st.fh hp)) (.lst upd_same (hv.mono (same_upd (st.fh.free hp))))⟩⟩
theorem ea_tup {ds : List PyData} {x1} (h : EaA X i aE sds es ds) (hz : ds.length ≤ sizeLine := by (first | decide | (show _ ≤ 16777216; simp only [List.length_cons, List.length_nil]; omega))) : EaX X i aE sds (.Tuple es x1 pos) (.tuple ds) := fun F σ H hs hi hf Q q =>
  ⟨_, pe_tup pa_wa, h F σ H hs hi hf _ fun vs F2 H2 st hv => ⟨by rw [hv.length]; exact hz, fun p hp => q _ (upd F2 p (.tup vs)) _ (st.trans (.new st.fh hp)) (.tup upd_same (hv.mono (same_upd (st.fh.free hp))))⟩⟩
theorem ea_two {x' y' : D} (ha : EaX X i aE sds a x') (hb : EaX X i aE sds b y') {F : Hp} {σ : St} {H : Hp} (hs : SD X.K F σ sds) (hi : σ[i]? = some (some (.ref aE))) (hf : Same F H) {Q : V → V → Hp → Prop} (q : ∀ v u F2 H2, Step F H F2 H2 → Dq X.K F2 v x' → Dq X.K F2 u y' → Q v u H2) : WE X a σ H fun v H1 => WE X b σ H1 fun u H2 => Q v u H2 :=
  ha F σ H hs hi hf _ fun v F1 H1 s1 hv => hb F1 σ H1 (hs.mono s1.ff) hi s1.fh _ fun u F2 H2 s2 hu => q v u F2 H2 (s1.trans s2) (hv.mono s2.ff) hu
theorem ea_cmp {op : CmpOp} {x' y' : D} {t : Bool} (ha : EaX X i aE sds a x') (hb : EaX X i aE sds b y') (h : CmpD X op x' y' t) (hm : behindInMarks op b = false := by first | exact nomark _ | rfl) : EaX X i aE sds (.Compare a [op] [b] pos) (.bool t) := fun F σ H hs hi hf Q q => by
  obtain ⟨r, ho, hr⟩ := h
  refine ⟨_, pe_cmpR ho pe_we pe_we hm, ea_two ha hb hs hi hf fun v u F2 H2 st hv hu => ?_⟩
  exact hr F2 H2 v u Q st.fh hv hu fun z F3 H3 s3 hz => q z F3 H3 (st.trans s3) hz
theorem ea_cat {xs ys : List PyData} (ha : EaX X i aE sds a (.list xs)) (hb : EaX X i aE sds b (.list ys)) (hz : xs.length + ys.length ≤ 100000) : EaX X i aE sds (.BinOp a .Add b pos) (.list (xs ++ ys)) := fun F σ H hs hi hf Q q => by
  obtain ⟨r, ho, hr⟩ := binL_cat (X := X) hz
  refine ⟨_, pe_op ho pe_we pe_we, ea_two ha hb hs hi hf fun v u F2 H2 st hv hu => ?_⟩
  exact hr F2 H2 v u Q st.fh hv hu fun p vs F3 H3 s3 h1 h2 h3 h4 => q (.ref p) (upd F3 p (.lst vs)) H3 ((st.trans s3).keep (st.hh.free h1) h3 h2) (.lst upd_same (h4.mono (same_upd h2)))
theorem ea_one {op} (h : EaX X i aE sds a d) : EaX X i aE sds (.BoolOp op [a] pos) d := fun F σ H hs hi hf Q q => ⟨_, pe_one pe_we, h F σ H hs hi hf Q q⟩
/-- isinstance(e, C), C a class of the program -/
theorem ea_isi {Ca T : Addr} {oe : Obj} {pn : List (Addr × Obj)} {n t : Str} {r : Bool} (hC : ExcC X.K Ca) (hz : Zc (.ref Ca) none oe) (hfl : ∃ vs, oe.data = .fields vs) (hT : X.mg t = some (.ref T)) (hk : PySem.W.kitOne X.K (.ref Ca) (.ref T) = some r) (hm : X.mg "isinstance" = none) (hx : x = "isinstance" := by rfl) (hN : X.N[i]? = some n := by rfl)
    (hv : Vis X.env.scope n := by first | exact Or.inl rfl | exact Or.inr (Or.inl rfl) | exact Or.inr (Or.inr rfl)) (h1 : (n == ("__debug__" : Str)) = false := by decide) (h2 : (n == ("__classdict__" : Str)) = false := by decide) (hg : Gl X "isinstance" := by rfl) (hgt : Gl X t := by rfl) (hdt : (t == ("__debug__" : Str)) = false := by decide)
    (h0 : starEach [.Name t p2] X.env = (false, eval (.Name t p2) X.env) :: starEach [] X.env := by rfl)
    (he : starEach [.Name n p, .Name t p2] X.env = (false, eval (.Name n p) X.env) :: starEach [.Name t p2] X.env := by rfl) (hpl : (backTo pos (starEach [.Name t p2] X.env)).any (·.1) = false := by rfl) :
    EaX (X.suite aE ((aE, oe) :: pn)) i aE sds (.Call (.Name x tp) [.Name n p, .Name t p2] [] pos) (.bool r) := fun F σ H hs hi hf Q q => by
  subst hx
  refine ⟨_, pe_callB (call_isE (X := X) (pn := pn) hC hz hfl) hg hm (by first | rfl | decide +kernel) (pa_cons (pe_var hN hv h1 h2) (pa_cons (pe_glob hgt hT (v := .ref T) rfl hdt) pa_nil h0) he) (by decide) (by decide) he hpl, _, hi, ?_⟩
  exact ⟨.ref T, .ref T, r, rfl, fun u hu => hu, hk, q _ F H (.refl hf) (.bl r)⟩
/-- isinstance(e, T), T a built-in class -/
theorem ea_isiT {Ca : Addr} {oe : Obj} {pn : List (Addr × Obj)} {n t : Str} {r : Bool} (T : String) (hC : ExcC X.K Ca) (hz : Zc (.ref Ca) none oe) (hfl : ∃ vs, oe.data = .fields vs) (hT : X.mg t = none) (hk : PySem.W.kitOne X.K (.ref Ca) (.type T) = some r) (hm : X.mg "isinstance" = none) (hx : x = "isinstance" := by rfl) (hvt : bootBuiltins t = some (.type T) := by decide +kernel) (hN : X.N[i]? = some n := by rfl)
    (hv : Vis X.env.scope n := by first | exact Or.inl rfl | exact Or.inr (Or.inl rfl) | exact Or.inr (Or.inr rfl)) (h1 : (n == ("__debug__" : Str)) = false := by decide) (h2 : (n == ("__classdict__" : Str)) = false := by decide) (hg : Gl X "isinstance" := by rfl) (hgt : Gl X t := by rfl) (hdt : (t == ("__debug__" : Str)) = false := by decide) (hnt : t ≠ "__name__" := by decide)
    (h0 : starEach [.Name t p2] X.env = (false, eval (.Name t p2) X.env) :: starEach [] X.env := by rfl)
    (he : starEach [.Name n p, .Name t p2] X.env = (false, eval (.Name n p) X.env) :: starEach [.Name t p2] X.env := by rfl) (hpl : (backTo pos (starEach [.Name t p2] X.env)).any (·.1) = false := by rfl) :
    EaX (X.suite aE ((aE, oe) :: pn)) i aE sds (.Call (.Name x tp) [.Name n p, .Name t p2] [] pos) (.bool r) := fun F σ H hs hi hf Q q => by
  subst hx
  refine ⟨_, pe_callB (call_isE (X := X) (pn := pn) hC hz hfl) hg hm (by first | rfl | decide +kernel) (pa_cons (pe_var hN hv h1 h2) (pa_cons (pe_bltn hgt hT hvt (v := .ty T) rfl hnt hdt) pa_nil h0) he) (by decide) (by decide) he hpl, _, hi, ?_⟩
  exact ⟨.ty T, .type T, r, rfl, fun u hu => hu, hk, q _ F H (.refl hf) (.bl r)⟩
theorem ca_of (h : C X sts sls N R) : CA X i aE sts sls N R := fun F0 H0 F σ H D s _ ok => h F0 H0 F σ H D s ok
theorem ca_set {sts : List Stmt} {z : Str} {pz : Pos} (j : Nat) (hji : j ≠ i) (he : EaX X i aE (sls.map hid) e d) (h : CA X i aE sts (sls.set j (.dat d)) N R) (hN : X.N.Nodup) (hj : X.N[j]? = some z := by rfl) (hx : Loc X.env.scope z := by first | exact .inl rfl | exact .inr rfl) (hs : swapsWith e (some (.Name z pz)) pos.line X.env = pure false := by rfl)
    (hf : X.fn z = true ∨ X.env.scope.names.lookup z = some .local := by first | exact .inl rfl | exact .inr rfl | assumption) : CA X i aE (.Assign [.Name z pz] e pos :: sts) sls N R := fun F0 H0 F σ H D s hi ok =>
  ⟨_, pss_cons ps_ws pss_wss, ⟨_, ps_set hN hj hx pe_we hs hf, he F σ H s.sd hi s.st.fh _ fun v F2 H2 st hv => h F0 H0 F2 _ H2 D ((s.step st).set j hv) (by rw [List.getElem?_set_ne hji]; exact hi) ok⟩⟩
theorem ca_ret {sts : List Stmt} (he : EaX X i aE (sls.map shw) e d) (h : R (.dat d)) : CA X i aE (.Return (some e) pos :: sts) sls N R := fun F0 H0 F σ H D s hi ok => by
  obtain ⟨F', g1, g2, g3⟩ := s.shown
  exact ⟨_, pss_cons ps_ws pss_wss, ⟨_, ps_ret pe_we, he F' σ H g3 hi g2.fh _ fun v F2 H2 st hv => ok.rt v _ F2 H2 h ⟨g2.trans st, hv⟩⟩⟩
/-- try: body except xh as n: suite -/
theorem cs_try {n xh : Str} {Rh : Addr} (i : Nat) (hb : ∀ (W : WX) (pn : List (Addr × Obj)) (xe : Value → Shared → Prop), Takes (X.tr pn xe) W → PassesOwn (model X.prog X.w) X.A X.env xe → CR (X.tr pn xe) W body sls N R Ex)
    (hsu : ∀ c s', Ex c s' → ∃ Ca, c = .ref Ca ∧ PySem.W.exmOne X.K (.ref Ca) (.ref Rh) = some true ∧ ∀ (a : Addr) (oe : Obj) (pn : List (Addr × Obj)), Zc (.ref Ca) none oe → (∃ vs, oe.data = .fields vs) → CA (X.suite a ((a, oe) :: pn)) i a (b₀ :: suite) (s'.set i .no) (fun s => N (s.set i .no)) R)
    (hh : X.mg xh = some (.ref Rh)) (hN : X.N.Nodup) (hst : X.stack = X.env :: X.outer := by rfl) (hfr : X.env.frame = some X.env.locals := by rfl) (hi : X.N[i]? = some n := by rfl) (hln : X.env.kindOf n = some .local := by rfl) (hgh : Gl X xh := by rfl) (hdh : (xh == ("__debug__" : Str)) = false := by decide)
    (hlen : ∀ c s', Ex c s' → i < s'.length) : CS X (.Try body [.ExceptHandler (some (.Name xh np)) (some n) (b₀ :: suite) pos'] [] [] pos) sls N R := fun F0 H0 F σ H D s ok => by
  refine ⟨_, ps_try_as (i := i) (c := .ref Rh) (Wout := fun _ _ _ _ => False) (tb := fun W D σ H => ∀ (pn : List (Addr × Obj)) (xe : Value → Shared → Prop), Takes (X.tr pn xe) W → PassesOwn (model X.prog X.w) X.A X.env xe → WSs (X.tr pn xe) body D σ H)
    (ts := fun a cls d D σ H => ∀ (oe : Obj) (pn : List (Addr × Obj)), Zc cls d oe → (∃ vs, oe.data = .fields vs) → WSs (X.suite a ((a, oe) :: pn)) (b₀ :: suite) D σ H) hst hfr hN hi hln ⟨hgh, hdh, .inl hh⟩ takes0 (fun W pn xe tk ps => ?_) (fun a oe cls d pn hz hf => ?_), ?_⟩
  · refine ⟨fun pins s σ H D I h => ?_⟩
    exact pss_wss.run pins s σ H D I (h pn xe tk ps)
  · refine ⟨fun pins s σ H D I h => ?_⟩
    exact pss_wss.run pins s σ H D I (h oe pn hz hf)
  · intro pn xe tk ps
    refine hb _ pn xe tk ps F0 H0 F σ H D s ok fun c s' hE F' σ' H' r' => ?_
    obtain ⟨Ca, rfl, hex, hs⟩ := hsu c s' hE
    refine ⟨true, hex, fun _ a ha oe pn hz hf => ?_, fun z => nomatch z⟩
    refine hs a oe pn hz hf F0 H0 F' _ H' _ (r'.setNo i _) (List.getElem?_set_self (by rw [r'.len]; exact hlen _ _ hE)) ⟨fun F3 σ3 H3 s3 n3 r3 => ?_, fun v r F3 H3 hr k => ok.rt v r F3 H3 hr k⟩
    exact ok.nx F3 _ H3 _ n3 (r3.setNo i none)
end
end Lay
namespace Lay
open PySem PySem.Spec L2
/-- the own errors, of which the one at x is raised -/
structure ErrS (K : PySem.W.Frag) (mg : Str → Option Value) (x : Str) : Prop where
  ex : ∃ C R a0 a1 a2 a3 a4 a5 : Addr, Err K mg x C ∧ mg "RoadError" = some (.ref R) ∧ PySem.W.exmOne K (.ref C) (.ref R) = some true ∧ (mg "ValueError" = none ∧ PySem.W.kitOne K (.ref C) (.type "ValueError") = some true) ∧
    (mg "BadHead" = some (.ref a0) ∧ PySem.W.kitOne K (.ref C) (.ref a0) = some (x == ("BadHead" : Str))) ∧ (mg "BadAddress" = some (.ref a1) ∧ PySem.W.kitOne K (.ref C) (.ref a1) = some (x == ("BadAddress" : Str))) ∧
    (mg "BadSpan" = some (.ref a2) ∧ PySem.W.kitOne K (.ref C) (.ref a2) = some (x == ("BadSpan" : Str))) ∧ (mg "BadLine" = some (.ref a3) ∧ PySem.W.kitOne K (.ref C) (.ref a3) = some (x == ("BadLine" : Str))) ∧
    (mg "FullBoard" = some (.ref a4) ∧ PySem.W.kitOne K (.ref C) (.ref a4) = some (x == ("FullBoard" : Str))) ∧ (mg "NoHead" = some (.ref a5) ∧ PySem.W.kitOne K (.ref C) (.ref a5) = some (x == ("NoHead" : Str)))
end Lay

/-! Lay: and in a suite; xs * n; x[:-1]. -/
namespace Lay
open PySem PySem.Spec L2
section
variable {X : Cx} {sds : List (Option D)} {sls : List Sl} {e a b c : Expr} {d : D} {pos p p2 pos' : Pos} {x : Str} {es : List Expr} {i : Nat} {aE : Addr}
theorem ea_and {t t' : Bool} {rest : List Expr} (h : EaX X i aE sds a (.bool t)) (h' : t = true → EaX X i aE sds (.BoolOp .And (b :: rest) pos) (.bool t')) : EaX X i aE sds (.BoolOp .And (a :: b :: rest) pos) (.bool (t && t')) := fun F σ H hs hi hf Q q => by
  refine ⟨_, pe_and pe_we pe_we, h F σ H hs hi hf _ fun v F2 H2 st hv => ⟨t, hv.inv_bl, ?_⟩⟩
  cases t with
  | true =>
    rw [if_pos rfl]
    exact h' rfl F2 σ H2 (hs.mono st.ff) hi st.fh Q fun z F3 H3 s3 => q z F3 H3 (st.trans s3)
  | false =>
    rw [if_neg Bool.false_ne_true]
    exact q (.bl false) F2 H2 st (.bl false)
theorem DqAll.rep {K : PySem.W.Frag} {F : Hp} {vs : List V} {ds : List PyData} (h : DqAll K F vs ds) : ∀ n : Nat, DqAll K F (List.replicate n vs).flatten (List.replicate n ds).flatten
  | 0 => .nil
  | n + 1 => by
    rw [List.replicate_succ, List.replicate_succ, List.flatten_cons, List.flatten_cons]
    exact h.append (DqAll.rep h n)
theorem binL_rep {xs : List D} {n : Nat} (h : xs.length * n ≤ 100000) (hn : n ≤ 100000) : BinL X .Mult (.list xs) (.int (n : Int)) (List.replicate n xs).flatten :=
  ⟨_, op_rep, fun F H v u Q hf hv hu q => by
    obtain ⟨p, vs, rfl, hp, h1⟩ := hv.inv_lst
    refine ⟨p, n, vs, rfl, hu.inv_int, hf _ _ hp, by omega, by omega, by rw [h1.length, Int.toNat_natCast]; exact line_ok h, fun l hl => ?_⟩
    rw [Int.toNat_natCast]
    exact q l _ F _ (.mine hf hl) hl (hf.free hl) upd_same (h1.rep n)⟩
/-- x[:-1] -/
theorem e_slBut {l : List Nat} (ha : E X sds a (S l)) (hb : E X sds b (.int (-1))) (hz : l.length ≤ 100000) (hp : 0 < l.length) : E X sds (.Subscript a (.Slice none (some b) none p2) pos) (S (l.take (l.length - 1))) := by
  have h := e_slS (pos := pos) (p2 := p2) ha eo_none (eo_some hb) hz
  have e : cutN l none (some (-1)) = l.take (l.length - 1) := by
    unfold cutN
    have e1 : HT.sIx l.length 0 none = 0 := rfl
    have e2 : HT.sIx l.length l.length (some (-1)) = l.length - 1 := by
      unfold HT.sIx
      simp
      omega
    rw [e1, e2, Nat.sub_zero, List.drop_zero]
  rw [e] at h
  exact h
end
end Lay

/-! Lay: the classes of own errors, one beside the other. -/
namespace Lay
open PySem PySem.Spec L2
theorem kit_ref {K : PySem.W.Frag} {C D : Addr} {b : Bool} (hi : PySem.W.isClsIn K D = true) (t : PySem.W.typeIn K (.ref D) = some (.type "type")) (s : PySem.W.subIn K (.ref C) (.ref D) = some b) (ss : PySem.W.subIn K (.ref C) (.ref C) = some true) : PySem.W.kitOne K (.ref C) (.ref D) = some b := by
  unfold PySem.W.kitOne
  split
  · rename_i e
    have e : C = D := by simpa using e
    subst e
    rw [ss] at s
    exact s
  · show (if ((PySem.W.clsIn K D).isSome && PySem.W.typeIn K (.ref D) == some (.type "type")) = true then PySem.W.subIn K (.ref C) (.ref D) else none) = some b
    rw [if_pos (by rw [t, show (PySem.W.clsIn K D).isSome = true from hi]; rfl)]
    exact s
theorem exm_ref' {K : PySem.W.Frag} {C D : Addr} {b : Bool} (hb : PySem.W.subIn K (.ref D) (.type "BaseException") = some true) (hi : PySem.W.isClsIn K D = true) (t : PySem.W.typeIn K (.ref D) = some (.type "type")) (s : PySem.W.subIn K (.ref C) (.ref D) = some b) : PySem.W.exmOne K (.ref C) (.ref D) = some b := by
  unfold PySem.W.exmOne
  rw [if_pos (by rw [hb]; rfl)]
  show (if ((PySem.W.clsIn K D).isSome && PySem.W.typeIn K (.ref D) == some (.type "type")) = true then PySem.W.subIn K (.ref C) (.ref D) else none) = some b
  rw [if_pos (by rw [t, show (PySem.W.clsIn K D).isSome = true from hi]; rfl)]
  exact s
theorem kit_ve {K : PySem.W.Frag} {C : Addr} (s : PySem.W.subIn K (.ref C) (.type "ValueError") = some true) : PySem.W.kitOne K (.ref C) (.type "ValueError") = some true := by
  unfold PySem.W.kitOne
  rw [if_neg (by simp)]
  show (if PySem.W.kitMeta "ValueError" = true then PySem.W.subIn K (.ref C) (.type "ValueError") else none) = some true
  rw [if_pos (by decide +kernel)]
  exact s
end Lay

/-! Lay: the figures' text .index(a figure); x[a:b]. -/
namespace Lay
open PySem PySem.Spec L2
section
variable {X : Cx} {sds : List (Option D)} {e a : Expr} {pos ap : Pos}
theorem occ_fig (c : Nat) (h : 48 ≤ c ∧ c ≤ 57) : Builtin.Str.occurrences (tx [48, 49, 50, 51, 52, 53, 54, 55, 56, 57]) (tx [c]) 0 (tx [48, 49, 50, 51, 52, 53, 54, 55, 56, 57]).length 1 = [c - 48] := by
  have : c = 48 ∨ c = 49 ∨ c = 50 ∨ c = 51 ∨ c = 52 ∨ c = 53 ∨ c = 54 ∨ c = 55 ∨ c = 56 ∨ c = 57 := by omega
  rcases this with rfl | rfl | rfl | rfl | rfl | rfl | rfl | rfl | rfl | rfl <;> decide +kernel
theorem e_index {c : Nat} (h : 48 ≤ c ∧ c ≤ 57) (ho : E X sds a (S [48, 49, 50, 51, 52, 53, 54, 55, 56, 57])) (he : E X sds e (S [c])) (hs : starEach [e] X.env = (false, eval e X.env) :: starEach [] X.env := by rfl)
    (hbase : attributeBase a "index" X.env (eval a X.env) = eval a X.env := by rfl)
    (hfew : ((backTo pos (starEach [e] X.env)).all (fun x => !x.1) && (backToKw pos (keywordEach [] X.env)).all (fun x => x.1.isSome)
      && decide ([e].length + ([] : List Keyword).length + (if ([] : List Keyword).isEmpty then 0 else 1) < 30)) = true := by rfl)
    (hline : (ap.endLine == pos.line) = true := by rfl) (hplain : (backTo pos (starEach [] X.env)).any (·.1) = false := by rfl) :
    E X sds (.Call (.Attribute a "index" ap) [e] [] pos) (.int ((c - 48 : Nat) : Int)) := fun F σ H hsd hf Q q => by
  refine ⟨_, pe_bm PySem.F.plainAttrs_str PySem.F.slot_str_index PySem.F.type_str_index mt_sindex pe_we (pa_cons pe_we pa_nil hs) hbase hfew hline hs hplain, ho F σ H hsd hf _ fun v F1 H1 s1 hv => ?_⟩
  refine ⟨by rw [hv.inv_str]; rfl, he F1 σ H1 (hsd.mono s1.ff) s1.fh _ fun u F2 H2 s2 hu => ?_⟩
  exact ⟨_, _, c - 48, [], hv.inv_str, by rw [hu.inv_str], occ_fig c h, q _ F2 H2 (s1.trans s2) (.int _)⟩
end
end Lay

namespace HR
open PySem PySem.Spec L2 Lay
def topS (i : Nat) : Stmt := PySem.Challenge.pw_headroad_k12_lines_refused.main.body.getD i (.Pass ⟨0, 0, 0, 0⟩)

/-! ### numbers, texts -/
def numStep (t : Int) (c : Nat) : Int := 2 * t + (if c = 49 then 1 else 0)
def numOf (l : List Nat) : Int := l.foldl numStep 0
theorem numOf_take {l : List Nat} {i c : Nat} (h : l[i]? = some c) : numOf (l.take (i + 1)) = numStep (numOf (l.take i)) c := by
  unfold numOf
  rw [List.take_add_one, h, List.foldl_append]
  rfl
/-- the i-th rest of halving -/
def halves (c : Int) : Nat → Int
  | 0 => c
  | i + 1 => halves c i / 2
def bit (b : Int) : Nat := if b % 2 = 1 then 49 else 48
def bitsBy (c : Int) (n : Nat) : List Nat := (List.range n).map fun i => bit (halves c i)
theorem bitsBy_len (c : Int) (n : Nat) : (bitsBy c n).length = n := by simp [bitsBy]
theorem bitsBy_succ (c : Int) (n : Nat) : bitsBy c (n + 1) = bitsBy c n ++ [bit (halves c n)] := by simp [bitsBy, List.range_succ]
def textOf (c : Int) (n : Nat) : List Nat := (bitsBy c n).reverse
theorem textOf_len (c : Int) (n : Nat) : (textOf c n).length = n := by simp [textOf, bitsBy_len]
theorem textOf_succ (c : Int) (n : Nat) : textOf c (n + 1) = bit (halves c n) :: textOf c n := by simp [textOf, bitsBy_succ]
theorem at01 (c : Int) : atI [48, 49] (c % 2) = some (bit c) := by
  have h : c % 2 = 0 ∨ c % 2 = 1 := by omega
  unfold bit
  rcases h with h | h <;> rw [h] <;> rfl
theorem pow_le60 {n : Nat} (h : n ≤ 60) : (2 : Int) ^ n ≤ 2 ^ 60 := by
  have := Nat.pow_le_pow_right (show 0 < 2 by decide) h
  exact_mod_cast this
theorem pow_pos2 (n : Nat) : (0 : Int) < 2 ^ n := Int.pow_pos (by decide)
/-- a cell of the script -/
def cell (ns : List Int) (k : Nat) : Int := ns.getD k 0

/-! ### rows, tables -/
abbrev Row := List Nat × Option Int
def encW : Option Int → D
  | none => .none
  | some i => .int i
abbrev encR (r : Row) : D := .tuple [S r.1, encW r.2]
def encOR : Option Row → D
  | none => .none
  | some r => encR r
/-- a head as a datum, or None -/
def encH : Option (List Nat) → D
  | none => .none
  | some l => S l
theorem encW_scal (w : Option Int) : scalD (encW w) = true := by cases w <;> rfl
theorem encW_dict (w : Option Int) : dictD (encW w) = false := by cases w <;> rfl
theorem encH_scal (w : Option (List Nat)) : scalD (encH w) = true := by cases w <;> rfl
theorem encH_dict (w : Option (List Nat)) : dictD (encH w) = false := by cases w <;> rfl
def Bits (l : List Nat) : Prop := ∀ c ∈ l, c = 48 ∨ c = 49
theorem bit_or (b : Int) : bit b = 48 ∨ bit b = 49 := by unfold bit; split <;> simp
theorem bitsBy_bits (c : Int) (n : Nat) : Bits (bitsBy c n) := fun x hx => by
  obtain ⟨i, _, rfl⟩ := List.mem_map.mp hx
  exact bit_or _
theorem textOf_bits (c : Int) (n : Nat) : Bits (textOf c n) := fun x hx => bitsBy_bits c n x (List.mem_reverse.mp hx)
/-- a table for addresses of size signs -/
structure Tbl (size : Nat) (rows : List Row) : Prop where
  bits : ∀ r ∈ rows, Bits r.1
  len : ∀ r ∈ rows, r.1.length ≤ size
  nd : (rows.map (·.1)).Nodup
theorem canS {l : List Nat} (h : Bits l) : (S l).canLay0 = true := by
  show PyData.canLay0 (.str (tx l)) = true
  simp only [PyData.canLay0, PyData.strOk, Array.all_eq_true']
  intro c hc
  have hc : c ∈ l := by simpa using hc
  rcases h c hc with rfl | rfl <;> decide
theorem canW (w : Option Int) : (encW w).canLay0 = true := by cases w <;> simp [encW, PyData.canLay0]
theorem canR {r : Row} (h : Bits r.1) : (encR r).canLay0 = true := by
  show PyData.canLay0 (.tuple [S r.1, encW r.2]) = true
  rw [PyData.canLay0]
  simp only [PyData.canLayAll0, canS h, canW, Bool.and_self]
theorem depR (r : Row) : (encR r).depth ≤ 60 := by
  cases h : r.2 <;> simp [encR, h, encW, PyData.depth, PyData.depthAll]
theorem shaped_rows {rows : List Row} (h : ∀ r ∈ rows, Bits r.1) : SeqAt.shaped (.list (rows.map encR)) = true := shaped_list (fun r hr => canR (h r hr)) fun r _ => depR r
theorem eqv_rows {rows : List Row} (h : ∀ r ∈ rows, Bits r.1) : PyData.eqv (.list (rows.map encR)) (.list (rows.map encR)) = true := SeqAt.eqv_refl _ (SeqAt.canLay_of_shaped (shaped_rows h))

def wayBy (c few : Int) : Option Int := if c % 5 = 4 then none else if c / 5 % 4 = 3 then some (c / 20 % 10000) else some (c / 20 % few)
/-- one more row, if its head is a new one -/
def addRow (rows : List Row) (r : Row) : List Row := if r.1 ∈ rows.map (·.1) then rows else rows ++ [r]
def rowBy (size : Nat) (few : Int) (c : Int) : Row := (bitsBy (c / ((size : Int) + 1)) (c % ((size : Int) + 1)).toNat, wayBy ((c * 48271 + 11) % 2147483647) few)
def tableBy (ns : List Int) (start : Nat) (size : Nat) (few : Int) : Nat → List Row
  | 0 => []
  | k + 1 => addRow (tableBy ns start size few k) (rowBy size few (cell ns (start + k)))
theorem addRow_tbl {size : Nat} {rows : List Row} {r : Row} (h : Tbl size rows) (h1 : Bits r.1) (h2 : r.1.length ≤ size) : Tbl size (addRow rows r) := by
  unfold addRow
  split
  · exact h
  · rename_i hn
    refine ⟨fun x hx => ?_, fun x hx => ?_, ?_⟩
    · rcases List.mem_append.mp hx with hx | hx
      · exact h.bits x hx
      · rw [List.mem_singleton.mp hx]; exact h1
    · rcases List.mem_append.mp hx with hx | hx
      · exact h.len x hx
      · rw [List.mem_singleton.mp hx]; exact h2
    · rw [List.map_append, List.nodup_append]
      refine ⟨h.nd, by simp, fun a ha b hb e => ?_⟩
      have hb : b = r.1 := by simpa using hb
      rw [e, hb] at ha
      exact hn ha
theorem addRow_len (rows : List Row) (r : Row) : (addRow rows r).length ≤ rows.length + 1 := by
  unfold addRow
  split
  · omega
  · simp
theorem mod_size {size : Nat} (c : Int) : (c % ((size : Int) + 1)).toNat ≤ size ∧ ((c % ((size : Int) + 1)).toNat : Int) = c % ((size : Int) + 1) := by
  have h1 := Int.emod_nonneg c (show (size : Int) + 1 ≠ 0 by omega)
  have h2 := Int.emod_lt_of_pos c (show (0 : Int) < (size : Int) + 1 by omega)
  omega
theorem rowBy_ok (size : Nat) (few c : Int) : Bits (rowBy size few c).1 ∧ (rowBy size few c).1.length ≤ size := ⟨bitsBy_bits _ _, by
  unfold rowBy
  rw [bitsBy_len]
  exact (mod_size c).1⟩
theorem tableBy_tbl (ns : List Int) (start size : Nat) (few : Int) : ∀ k, Tbl size (tableBy ns start size few k)
  | 0 => ⟨fun _ h => (nomatch h), fun _ h => (nomatch h), List.nodup_nil⟩
  | k + 1 => addRow_tbl (tableBy_tbl ns start size few k) (rowBy_ok _ _ _).1 (rowBy_ok _ _ _).2
theorem tableBy_len (ns : List Int) (start size : Nat) (few : Int) : ∀ k, (tableBy ns start size few k).length ≤ k
  | 0 => Nat.le_refl _
  | k + 1 => by
    have h1 := tableBy_len ns start size few k
    have h2 := addRow_len (tableBy ns start size few k) (rowBy size few (cell ns (start + k)))
    show (addRow _ _).length ≤ k + 1
    omega
/-- the mixed cells -/
def mixed (c : Int) : Nat → Int
  | 0 => c
  | k + 1 => (mixed c k * 48271 + 11) % 2147483647
def farRow (size : Nat) (few c : Int) : Row := (bitsBy (c / 97) (c % ((size : Int) + 1)).toNat, wayBy (c / 1009) few)
def farTable (c : Int) (size : Nat) (few : Int) : Nat → List Row
  | 0 => []
  | k + 1 => addRow (farTable c size few k) (farRow size few (mixed c (k + 1)))
theorem farRow_ok (size : Nat) (few c : Int) : Bits (farRow size few c).1 ∧ (farRow size few c).1.length ≤ size := ⟨bitsBy_bits _ _, by
  unfold farRow
  rw [bitsBy_len]
  exact (mod_size c).1⟩
theorem farTable_tbl (c : Int) (size : Nat) (few : Int) : ∀ k, Tbl size (farTable c size few k)
  | 0 => ⟨fun _ h => (nomatch h), fun _ h => (nomatch h), List.nodup_nil⟩
  | k + 1 => addRow_tbl (farTable_tbl c size few k) (farRow_ok _ _ _).1 (farRow_ok _ _ _).2
theorem farTable_len (c : Int) (size : Nat) (few : Int) : ∀ k, (farTable c size few k).length ≤ k
  | 0 => Nat.le_refl _
  | k + 1 => by
    have h1 := farTable_len c size few k
    have h2 := addRow_len (farTable c size few k) (farRow size few (mixed c (k + 1)))
    show (addRow _ _).length ≤ k + 1
    omega

/-! ### lines -/
def bitsB (l : List Nat) : Bool := l.all fun c => c == 48 || c == 49
theorem bitsB_iff (l : List Nat) : bitsB l = true ↔ Bits l := by
  unfold bitsB Bits
  rw [List.all_eq_true]
  constructor
  · intro h c hc
    simpa using h c hc
  · intro h c hc
    simpa using h c hc
def figs : List Nat := [48, 49, 50, 51, 52, 53, 54, 55, 56, 57]
theorem mem_figs (c : Nat) : c ∈ figs ↔ 48 ≤ c ∧ c ≤ 57 := by
  constructor
  · intro h
    simp [figs] at h
    omega
  · intro h
    have : c = 48 ∨ c = 49 ∨ c = 50 ∨ c = 51 ∨ c = 52 ∨ c = 53 ∨ c = 54 ∨ c = 55 ∨ c = 56 ∨ c = 57 := by omega
    simp [figs]
    omega
def nowhere : List Nat := [110, 111, 119, 104, 101, 114, 101]
def wordOf : Option Nat → List Nat
  | none => nowhere
  | some n => TL.numL n
def natW (w : Option Nat) : Option Int := w.map fun n : Nat => (n : Int)
theorem wordOf_free (w : Option Nat) : 42 ∉ wordOf w := by
  cases w with
  | none => decide
  | some n => exact TL.numL_free (by omega)
theorem bits_free {h : List Nat} (hb : Bits h) : 42 ∉ h := fun hm => by
  rcases hb 42 hm with h | h <;> cases h
theorem split_line {h w : List Nat} (h1 : 42 ∉ h) (h2 : 42 ∉ w) : TL.spl [42, 32] 0 [] (h ++ 42 :: 32 :: w) = [h, w] := by
  have q := TL.spl_join (s := 42) (S := [32]) (parts := [h, w]) (by simp) (fun p hp => by
    rcases List.mem_cons.mp hp with rfl | hp
    · exact h1
    · rw [List.mem_singleton.mp hp]; exact h2)
  exact q
theorem numL_head {n : Nat} : (TL.numL n).length > 1 → (TL.numL n).head? ≠ some 48 := by
  intro hl hh
  have v := TL.numL_val n
  by_cases h0 : n < 10
  · rw [TL.numL_lt h0] at hl
    simp at hl
  · cases e : TL.numL n with
    | nil => rw [e] at hl; simp at hl
    | cons c r =>
      rw [e] at hh v
      cases hh
      have hd : NumText.AllDigits (48 :: r) := e ▸ TL.numL_digits n
      have v2 : NumText.digitsVal r = n := v
      have e2 : TL.numL n = 48 :: r := e
      have hnz : ∃ d q, TL.numL n = d :: q ∧ 49 ≤ d := by
        clear v v2 hd e2 hl e
        induction n using Nat.strongRecOn with
        | _ n ih =>
          by_cases h1 : n < 10
          · exact absurd h1 h0
          · rw [TL.numL_step (by omega)]
            by_cases h2 : n / 10 < 10
            · rw [TL.numL_lt h2]
              exact ⟨48 + n / 10, _, rfl, by omega⟩
            · obtain ⟨d, q, e1, e2⟩ := ih (n / 10) (by omega) h2
              rw [e1]
              exact ⟨d, _, rfl, e2⟩
      obtain ⟨d, q, e3, h3⟩ := hnz
      rw [e2] at e3
      injection e3 with e4 _
      omega

/-! ### what a line writes -/
def wayL (w : List Nat) : Option (Option Nat) := if w = nowhere then some none else if w = [] ∨ 4 < w.length ∨ (w.head? = some 48 ∧ 1 < w.length) then none else if (w.all fun c => decide (c ∈ figs)) = true then some (some (NumText.digitsVal w)) else none
def readL (line : List Nat) : Option (List Nat × Option Nat) := match TL.spl [42, 32] 0 [] line with
  | [h, w] => if bitsB h = true ∧ h.length ≤ 16 then (wayL w).map fun v => (h, v) else none
  | _ => none
def runL : Nat → List Nat → Nat
  | n + 1, c :: l => if c = 48 ∨ c = 49 then runL n l + 1 else 0
  | _, _ => 0
def dueL (line : List Nat) : Option (List Nat × Option Nat) := if 16 < runL 17 line ∨ ¬ (line.drop (runL 17 line)).take 2 = [42, 32] then none else (wayL (line.drop (runL 17 line + 2))).map fun v => (line.take (runL 17 line), v)
theorem runL_bits : ∀ (n : Nat) (l : List Nat), Bits (l.take (runL n l))
  | 0, l => by simp [runL, Bits]
  | n + 1, [] => by simp [runL, Bits]
  | n + 1, c :: l => by
    unfold runL
    split
    · rename_i h
      rw [List.take_succ_cons]
      intro x hx
      rcases List.mem_cons.mp hx with rfl | hx
      · exact h
      · exact runL_bits n l x hx
    · simp [Bits]
theorem runL_full : ∀ (n : Nat) (h r : List Nat) (c : Nat), Bits h → h.length ≤ n → ¬ (c = 48 ∨ c = 49) → runL n (h ++ c :: r) = h.length
  | 0, [], r, c, _, _, _ => rfl
  | n + 1, [], r, c, _, _, hc => by
    show runL (n + 1) (c :: r) = 0
    rw [runL, if_neg hc]
  | n + 1, x :: h, r, c, hb, hl, hc => by
    show runL (n + 1) (x :: (h ++ c :: r)) = h.length + 1
    rw [runL, if_pos (hb x List.mem_cons_self), runL_full n h r c (fun y hy => hb y (List.mem_cons_of_mem _ hy)) (by simp at hl; omega) hc]
theorem wayL_free {w : List Nat} (h : wayL w ≠ none) : 42 ∉ w := by
  unfold wayL at h
  split at h
  · rename_i e
    rw [e]
    decide
  · split at h
    · exact absurd rfl h
    · split at h
      · rename_i ha
        intro hm
        have := List.all_eq_true.mp ha 42 hm
        simp [figs] at this
      · exact absurd rfl h
theorem spl_ne (S : List Nat) : ∀ (l : List Nat) (k : Nat) (acc : List Nat), TL.spl S k acc l ≠ []
  | [], k, acc => by rw [TL.spl_nil]; simp
  | c :: l, 0, acc => by
    cases h : TL.pre S (c :: l) with
    | true => rw [TL.spl_hit h]; simp
    | false => rw [TL.spl_miss h]; exact spl_ne S l 0 _
  | c :: l, k + 1, acc => by
    rw [TL.spl_pass]
    rw [List.drop_succ_cons]
    rw [← TL.spl_pass]
    exact spl_ne S l k acc
theorem spl_single (S : List Nat) : ∀ (l acc p : List Nat), TL.spl S 0 acc l = [p] → p = acc ++ l
  | [], acc, p, h => by
    rw [TL.spl_nil] at h
    simpa using h.symm
  | c :: l, acc, p, h => by
    cases hp : TL.pre S (c :: l) with
    | true =>
      rw [TL.spl_hit hp] at h
      injection h with _ h2
      exact absurd h2 (spl_ne S _ _ _)
    | false =>
      rw [TL.spl_miss hp] at h
      rw [spl_single S l _ p h, List.append_assoc]
      rfl
theorem spl_two : ∀ (l acc h w : List Nat), TL.spl [42, 32] 0 acc l = [h, w] → acc ++ l = h ++ 42 :: 32 :: w
  | [], acc, h, w, e => by
    rw [TL.spl_nil] at e
    cases e
  | c :: l, acc, h, w, e => by
    cases hp : TL.pre [42, 32] (c :: l) with
    | true =>
      rw [TL.spl_hit hp] at e
      injection e with e1 e2
      rw [TL.spl_pass] at e2
      have e3 := spl_single _ _ _ _ e2
      have hl : c = 42 ∧ ∃ r, l = 32 :: r := by
        cases l with
        | nil => simp [TL.pre] at hp
        | cons d r => simp [TL.pre] at hp; exact ⟨hp.1.symm ▸ rfl, r, by rw [hp.2]⟩
      obtain ⟨rfl, r, rfl⟩ := hl
      rw [← e1, e3]
      rfl
    | false =>
      rw [TL.spl_miss hp] at e
      rw [← spl_two l _ h w e, List.append_assoc]
      rfl
theorem read_due (line : List Nat) : readL line = dueL line := by
  by_cases H : ∃ h w, Bits h ∧ h.length ≤ 16 ∧ line = h ++ 42 :: 32 :: w
  · obtain ⟨h, w, hb, hl, rfl⟩ := H
    have er : runL 17 (h ++ 42 :: 32 :: w) = h.length := runL_full 17 h (32 :: w) 42 hb (by omega) (by decide)
    have e1 : dueL (h ++ 42 :: 32 :: w) = (wayL w).map fun v => (h, v) := by
      unfold dueL
      rw [er, if_neg]
      · rw [List.take_left, show List.drop (h.length + 2) (h ++ 42 :: 32 :: w) = w by rw [← List.drop_drop, List.drop_left]; rfl]
      · rintro (z | z)
        · omega
        · exact z (by rw [List.drop_left]; rfl)
    rw [e1]
    have es : TL.spl [42, 32] 0 [] (h ++ 42 :: 32 :: w) = h :: TL.spl [42, 32] 0 [] w := TL.spl_part1 (s := 42) (S := [32]) (acc := []) (rest := w) (bits_free hb)
    unfold readL
    rw [es]
    by_cases hw : 42 ∈ w
    · have hn : wayL w = none := Decidable.byContradiction fun z => wayL_free z hw
      rw [hn]
      cases e : TL.spl [42, 32] 0 [] w with
      | nil => rfl
      | cons p ps =>
        cases ps with
        | nil =>
          have := spl_single _ _ _ _ e
          rw [this, List.nil_append]
          show (if _ then (wayL w).map _ else none) = _
          rw [hn]
          split <;> rfl
        | cons q qs => rfl
    · have e2 : TL.spl [42, 32] 0 [] w = [w] := TL.spl_last1 (s := 42) (S := [32]) (acc := []) hw
      rw [e2]
      show (if bitsB h = true ∧ h.length ≤ 16 then _ else none) = _
      rw [if_pos ⟨(bitsB_iff h).mpr hb, hl⟩]
  · have e1 : readL line = none := by
      unfold readL
      split
      · rename_i h w e
        split
        · rename_i hc
          exact absurd ⟨h, w, (bitsB_iff h).mp hc.1, hc.2, by have := spl_two _ _ _ _ e; rw [← this]; rfl⟩ H
        · rfl
      · rfl
    rw [e1]
    unfold dueL
    split
    · rfl
    · rename_i hc
      exfalso
      have h1 : ¬ 16 < runL 17 line := fun z => hc (.inl z)
      have h2 : (line.drop (runL 17 line)).take 2 = [42, 32] := Decidable.byContradiction fun z => hc (.inr z)
      refine H ⟨line.take (runL 17 line), line.drop (runL 17 line + 2), runL_bits _ _, by rw [List.length_take]; omega, ?_⟩
      have e2 := List.take_append_drop 2 (line.drop (runL 17 line))
      rw [h2, List.drop_drop] at e2
      have e3 := List.take_append_drop (runL 17 line) line
      rw [← e2] at e3
      exact e3.symm

section
variable {P : Program} {w : World} {K : PySem.W.Frag} {mg : Str → Option Value} {base : Heap}
abbrev s_only_bits : Stmt := topS 9
theorem sc_only_bits : FnScope ["text", "sign"] ["text"] (defScope s_only_bits) := ⟨rfl, rfl, rfl, by decide +kernel, rfl, by decide +kernel, by decide +kernel⟩
def R_only_bits (ds : List D) (r : Ret) : Prop := ∃ l : List Nat, ds = [S l] ∧ r = .dat (.bool (bitsB l))
theorem ok_only_bits (B : Bt mg) (A : FnAt K mg "only_bits" s_only_bits ["text"]) : Dfn P w K mg base 1 "only_bits" R_only_bits := by
  refine dfn_ok A sc_only_bits (fun ds r h => ?_) (fun f cdv A outer s H Ew ds r hr h => ?_)
  · obtain ⟨l, rfl, _⟩ := h; rfl
  obtain ⟨l, rfl, rfl⟩ := h
  refine c_cons (cs_for 1 (fun i s => ∃ y, s = [.dat (S l), y] ∧ ∀ c ∈ l.take i, c = 48 ∨ c = 49) (it_str (e_var 0 rfl)) ⟨_, rfl, by simp⟩ (fun i d s hd hI => ?_) (fun s hI => ?_) sc_only_bits.nd)
  · obtain ⟨y, rfl, hb⟩ := hI
    obtain ⟨c, hc, rfl⟩ := map_get hd
    refine c_one (cs_if (tw_and (t_cmp (e_var 1 rfl) (e_strC [48]) cmp_neS) fun _ => tw_and1 (t_cmp (e_var 1 rfl) (e_strC [49]) cmp_neS)).t (fun h => c_one (cs_ret e_bl ?_)) (fun h => c_nil ⟨_, rfl, ?_⟩))
    · have h : ¬ c = 48 ∧ ¬ c = 49 := by simpa using h
      refine dat_inj ?_
      cases q : bitsB l with
      | false => rfl
      | true =>
        rcases (bitsB_iff l).mp q c (List.mem_of_getElem? hc) with e | e
        · exact absurd e h.1
        · exact absurd e h.2
    · intro x hx
      rw [List.take_add_one, hc] at hx
      rcases List.mem_append.mp hx with hx | hx
      · exact hb x hx
      · have hx : x = c := by simpa using hx
        subst hx
        have h : ¬ x = 48 → x = 49 := by simpa using h
        by_cases e : x = 48
        · exact .inl e
        · exact .inr (h e)
  · obtain ⟨y, rfl, hb⟩ := hI
    refine c_one (cs_ret e_bl (dat_inj ?_))
    rw [List.length_map, List.take_length] at hb
    exact ((bitsB_iff l).mpr hb).symm

abbrev s_read : Stmt := topS 12
theorem sc_read : FnScope ["line", "words", "word", "sign"] ["line"] (defScope s_read) := ⟨rfl, rfl, rfl, by decide +kernel, rfl, by decide +kernel, by decide +kernel⟩
def ansL : Option (List Nat × Option Nat) → RetE
  | some x => .ok (.dat (encR (x.1, natW x.2)))
  | none => .err "BadLine"
def R_read (ds : List D) (r : RetE) : Prop := ∃ line : List Nat, line.length ≤ 1000 ∧ ds = [S line] ∧ r = ansL (readL line)
theorem spl_len (S : List Nat) : ∀ (l : List Nat) (k : Nat) (acc p : List Nat), p ∈ TL.spl S k acc l → p.length ≤ acc.length + l.length
  | [], k, acc, p, h => by
    rw [TL.spl_nil] at h
    rw [List.mem_singleton.mp h]
    simp
  | c :: l, 0, acc, p, h => by
    cases hp : TL.pre S (c :: l) with
    | true =>
      rw [TL.spl_hit hp] at h
      rcases List.mem_cons.mp h with rfl | h
      · omega
      · have := spl_len S l _ [] p h
        simp at this ⊢
        omega
    | false =>
      rw [TL.spl_miss hp] at h
      have := spl_len S l 0 _ p h
      simp at this ⊢
      omega
  | c :: l, k + 1, acc, p, h => by
    have h : p ∈ TL.spl S k acc l := h
    have := spl_len S l k acc p h
    simp
    omega
theorem ok_read (B : Bt mg) (hF : ∃ t, mg "FIGURES" = some (.str "0123456789" t)) (T : ErrS K mg "BadLine") (Gb : Dfn P w K mg base 1 "only_bits" R_only_bits) (A : FnAt K mg "read" s_read ["line"]) : DfnE P w K mg base 2 "read" R_read := by
  refine dfnE_ok A sc_read (fun ds r h => ?_) (fun f cdv A outer s H Ew ds r hr h tk ps => ?_)
  · obtain ⟨line, _, rfl, _⟩ := h; rfl
  obtain ⟨line, hl, rfl, er⟩ := h
  obtain ⟨t0, hF⟩ := hF
  obtain ⟨Ca, R, a0, a1, a2, a3, a4, a5, TC, _⟩ := T.ex
  have bad : readL line = none → ∃ y C, r = .err y ∧ mg y = some (.ref C) ∧ (.ref Ca : Value) = .ref C := fun e => ⟨"BadLine", Ca, by rw [er, e]; rfl, TC.gC, rfl⟩
  obtain ⟨qs, eq⟩ : ∃ qs, qs = TL.spl [42, 32] 0 [] line := ⟨_, rfl⟩
  have hql : ∀ p ∈ qs, p.length ≤ 1000 := fun p hp => by
    have := spl_len [42, 32] line 0 [] p (eq ▸ hp)
    simp at this
    omega
  refine cr_cons (crs_of (cs_set 1 (ev_h (E.of_L (EL.is (el_split (e_var 0 rfl) (e_strC [42, 32]) (by omega)) (congrArg (List.map S) eq.symm)))) ?_ sc_read.nd))
  by_cases h2 : qs.length = 2
  · obtain ⟨h, v, e2⟩ : ∃ h v, qs = [h, v] := by
      match qs, h2 with
      | [h, v], _ => exact ⟨h, v, rfl⟩
    subst e2
    have hh := hql h (by simp)
    have hv := hql v (by simp)
    have erd : readL line = if bitsB h = true ∧ h.length ≤ 16 then (wayL v).map fun x => (h, x) else none := by unfold readL; rw [← eq]
    refine cr_cons (crs_if (tw_or (t_cmp (e_callB cd_lenL (ea_cons (e_var 1 rfl) ea_nil) B.len) e_int cmp_neI) fun _ => tw_or (t_not (t_val (e_call Gb hr (ea_cons (e_ix (e_var 1 rfl) e_int (ix_L (d := S h) rfl)) ea_nil) ⟨h, rfl, rfl⟩))) fun _ =>
      tw_or1 (t_cmp (e_callB (cd_lenS (l := h) (by omega)) (ea_cons (e_ix (e_var 1 rfl) e_int (ix_L (d := S h) rfl)) ea_nil) B.len) e_int cmp_gt)).t (fun q => cr_one (crs_raise tk TC (bad ?_))) (fun q => cr_of (c_nil ?_)))
    · rw [erd, if_neg]
      rintro ⟨b1, b2⟩
      rw [b1, decide_eq_false (show ¬ (16 : Int) < h.length by omega)] at q
      exact absurd q (by simp)
    have q1 : bitsB h = true ∧ h.length ≤ 16 := by
      have : bitsB h = true ∧ ¬ (16 : Int) < h.length := by simpa using q
      exact ⟨this.1, by omega⟩
    rw [if_pos q1] at erd
    refine cr_cons (crs_of (cs_set 2 (ev_h (e_ix (e_var 1 rfl) e_int (ix_L (d := S v) rfl))) ?_ sc_read.nd))
    by_cases hn : v = nowhere
    · refine cr_cons (crs_if (t_cmp (e_var 2 rfl) (e_strC nowhere) cmp_eqS) (fun _ => cr_of (c_one (cs_ret (e_tup (ea_cons (e_ix (e_var 1 rfl) e_int (ix_L (d := S h) rfl)) (ea_cons e_non ea_nil))) ?_))) (fun q => absurd hn (of_decide_eq_false q)))
      rw [er, erd, wayL, if_pos hn]
      rfl
    refine cr_cons (crs_if (t_cmp (e_var 2 rfl) (e_strC nowhere) cmp_eqS) (fun q => absurd (of_decide_eq_true q) hn) (fun _ => cr_of (c_nil ?_)))
    cases v with
    | nil =>
      refine cr_cons (crs_if (tw_or (c' := false) (t_cmp (e_var 2 rfl) (e_strC []) cmp_eqS) (fun q => absurd q (by simp))).t (fun q => cr_one (crs_raise tk TC (bad ?_))) (fun q => absurd q (by simp)))
      rw [erd, wayL, if_neg hn, if_pos (.inl rfl)]
      rfl
    | cons c rest =>
    refine cr_cons (crs_if (tw_or (t_cmp (e_var 2 rfl) (e_strC []) cmp_eqS) fun _ => tw_or (t_cmp (e_callB (cd_lenS (by omega)) (ea_cons (e_var 2 rfl) ea_nil) B.len) e_int cmp_gt) fun _ =>
      tw_or1 (tw_and (t_cmp (e_ix (e_var 2 rfl) e_int (ix_S (c := c) (atI_of (j := 0) rfl rfl) (by omega))) (e_strC [48]) cmp_eqS) fun _ => tw_and1 (t_cmp (e_callB (cd_lenS (by omega)) (ea_cons (e_var 2 rfl) ea_nil) B.len) e_int cmp_gt)).t).t (fun q => cr_one (crs_raise tk TC (bad ?_))) (fun q => cr_of (c_nil ?_)))
    · have q : 4 < rest.length + 1 ∨ c = 48 ∧ 1 < rest.length + 1 := by
        have : (4 : Int) < rest.length + 1 ∨ c = 48 ∧ (1 : Int) < rest.length + 1 := by simpa using q
        omega
      rw [erd, wayL, if_neg hn, if_pos (.inr (q.elim (fun z => .inl (by simpa using z)) fun z => .inr ⟨by rw [z.1]; rfl, by simpa using z.2⟩))]
      rfl
    have q : ¬ (4 < rest.length + 1 ∨ c = 48 ∧ 1 < rest.length + 1) := by
      have : ¬ ((4 : Int) < rest.length + 1) ∧ (c = 48 → ¬ (1 : Int) < rest.length + 1) := by simpa using q
      rintro (z | z)
      · omega
      · have := this.2 z.1
        omega
    have ew : wayL (c :: rest) = if ((c :: rest).all fun c => decide (c ∈ figs)) = true then some (some (NumText.digitsVal (c :: rest))) else none := by
      rw [wayL, if_neg hn, if_neg]
      rintro (z | z | ⟨z1, z2⟩)
      · cases z
      · exact q (.inl (by simpa using z))
      · exact q (.inr ⟨by simpa using z1, by simpa using z2⟩)
    refine cr_cons (crs_for 3 (fun i s => ∃ y, s = [.dat (S line), .dat (.list [S h, S (c :: rest)]), .dat (S (c :: rest)), y] ∧ ∀ x ∈ (c :: rest).take i, x ∈ figs) (it_str (e_var 2 rfl)) ⟨_, rfl, fun _ z => (nomatch z)⟩ (fun i d s hd' hI => ?_) (fun s hI => ?_) ps sc_read.nd)
    · obtain ⟨y, rfl, hy⟩ := hI
      obtain ⟨x, hx, rfl⟩ := map_get hd'
      refine cr_one (crs_if (t_cmp (e_var 3 rfl) (e_globS figs hF) cmp_niS) (fun q => cr_one (crs_raise tk TC (bad ?_))) (fun q => cr_of (c_nil ⟨_, rfl, fun z hz => ?_⟩)))
      · rw [erd, ew, if_neg]
        · rfl
        · intro ha
          have := List.all_eq_true.mp ha x (List.mem_of_getElem? hx)
          have hm : x ∈ figs := of_decide_eq_true this
          have hq : ¬ x ∈ figs := by simpa using q
          exact hq hm
      · rw [List.take_add_one, hx] at hz
        rcases List.mem_append.mp hz with hz | hz
        · exact hy z hz
        · rw [List.mem_singleton.mp (show z ∈ [x] from hz)]
          simpa using q
    · obtain ⟨y, rfl, hy⟩ := hI
      rw [List.length_map, List.take_length] at hy
      have hd : NumText.AllDigits (c :: rest) := fun x hx => (mem_figs x).mp (hy x hx)
      refine cr_of (c_one (cs_ret (e_tup (ea_cons (e_ix (e_var 1 rfl) e_int (ix_L (d := S h) rfl)) (ea_cons (e_callTy (cd_intD hd (by simp) (by simp at hv ⊢; omega)) (ea_cons (e_var 2 rfl) ea_nil) B.int) ea_nil))) ?_))
      rw [er, erd, ew, if_pos (List.all_eq_true.mpr fun x hx => decide_eq_true (hy x hx))]
      rfl
  · refine cr_cons (crs_if (tw_or (c' := false) (t_cmp (e_callB cd_lenL (ea_cons (e_var 1 rfl) ea_nil) B.len) e_int cmp_neI) (fun q => absurd q (by rw [List.length_map]; simp; omega))).t (fun q => cr_one (crs_raise tk TC (bad ?_))) (fun q => absurd q (by rw [List.length_map]; simp; omega)))
    unfold readL
    rw [← eq]
    split
    · exact absurd rfl h2
    · rfl

abbrev s__law_cell_at : Stmt := topS 14
theorem sc__law_cell_at : FnScope ["script", "k"] ["script", "k"] (defScope s__law_cell_at) := ⟨rfl, rfl, rfl, by decide +kernel, rfl, by decide +kernel, by decide +kernel⟩
def R__law_cell_at (ds : List D) (r : Ret) : Prop := ∃ (ns : List Int) (k : Nat), ds = [scr ns, .int k] ∧ r = .dat (.int (cell ns k))
theorem ok__law_cell_at (B : Bt mg) (A : FnAt K mg "_law_cell_at" s__law_cell_at ["script", "k"]) : Dfn P w K mg base 1 "_law_cell_at" R__law_cell_at := by
  refine dfn_ok A sc__law_cell_at (fun ds r h => ?_) (fun f cdv A outer s H Ew ds r hr h => ?_)
  · obtain ⟨ns, k, rfl, _⟩ := h; rfl
  obtain ⟨ns, k, rfl, rfl⟩ := h
  refine c_cons (cs_if (t_cmp (e_var 1 rfl) (e_callB cd_lenScr (ea_cons (e_var 0 rfl) ea_nil) B.len) cmp_lt) (fun hb => ?_) (fun hb => ?_))
  · have hb : (k : Int) < ns.length := by simpa using hb
    refine c_one (cs_ret (e_ix (e_var 0 rfl) (e_var 1 rfl) (ix_scr (atI_of (j := k) (x := cell ns k) rfl ?_))) rfl)
    unfold cell
    rw [List.getD_eq_getElem?_getD, List.getElem?_eq_getElem (by omega)]
    rfl
  · have hb : ¬ (k : Int) < ns.length := by simpa using hb
    refine c_nil (c_one (cs_ret e_int ?_))
    unfold cell
    rw [List.getD_eq_getElem?_getD, List.getElem?_eq_none (by omega)]
    rfl

abbrev s__law_whole : Stmt := topS 15
theorem sc__law_whole : FnScope ["found"] ["found"] (defScope s__law_whole) := ⟨rfl, rfl, rfl, by decide +kernel, rfl, by decide +kernel, by decide +kernel⟩
/-- whether a datum is a whole number -/
def whole : D → Bool
  | .int _ => true
  | _ => false
def R__law_whole (ds : List D) (r : Ret) : Prop := ∃ d : D, dictD d = false ∧ ds = [d] ∧ r = .dat (.bool (whole d))
theorem ok__law_whole (B : Bt mg) (A : FnAt K mg "_law_whole" s__law_whole ["found"]) : Dfn P w K mg base 1 "_law_whole" R__law_whole := by
  refine dfn_ok A sc__law_whole (fun ds r h => ?_) (fun f cdv A outer s H Ew ds r hr h => ?_)
  · obtain ⟨d, _, rfl, _⟩ := h; rfl
  obtain ⟨d, hd, rfl, rfl⟩ := h
  have key : ∀ (t : String) (a b : Bool), tyD d = t → kitB t "int" = some a → (a = true → kitB t "bool" = some b) → whole d = (a && !b) → C (cxOf CX0 P w K mg base ["found"] "_law_whole" (defScope s__law_whole) f cdv A outer s H Ew).nox (defBody s__law_whole) (initS ["found"] [d]) (fun _ => Ret.dat (.bool (whole d)) = .dat .none) (fun r' => r' = .dat (.bool (whole d))) := fun t a b ht h1 h2 h3 => by
    refine c_one (cs_ret (e_and (e_isi t "int" a (e_var 0 rfl) B.isinstance B.int ht hd h1) fun ha => e_one (e_not (e_isi t "bool" b (e_var 0 rfl) B.isinstance B.bool ht hd (h2 ha)))) ?_)
    rw [h3]
  cases d with
  | none => exact key "NoneType" false false rfl (by decide +kernel) (fun z => nomatch z) rfl
  | bool b => exact key "bool" true true rfl (by decide +kernel) (fun _ => by decide +kernel) rfl
  | int i => exact key "int" true false rfl (by decide +kernel) (fun _ => by decide +kernel) rfl
  | str x => exact key "str" false false rfl (by decide +kernel) (fun z => nomatch z) rfl
  | list xs => exact key "list" false false rfl (by decide +kernel) (fun z => nomatch z) rfl
  | tuple xs => exact key "tuple" false false rfl (by decide +kernel) (fun z => nomatch z) rfl
  | dict kvs => cases hd

abbrev s__law_bits_by : Stmt := topS 16
theorem sc__law_bits_by : FnScope ["cell", "size", "text", "k"] ["cell", "size"] (defScope s__law_bits_by) := ⟨rfl, rfl, rfl, by decide +kernel, rfl, by decide +kernel, by decide +kernel⟩
def R__law_bits_by (ds : List D) (r : Ret) : Prop := ∃ (c : Int) (n : Nat), n ≤ 1000 ∧ ds = [.int c, .int n] ∧ r = .dat (S (bitsBy c n))
theorem ok__law_bits_by (B : Bt mg) (A : FnAt K mg "_law_bits_by" s__law_bits_by ["cell", "size"]) : Dfn P w K mg base 1 "_law_bits_by" R__law_bits_by := by
  refine dfn_ok A sc__law_bits_by (fun ds r h => ?_) (fun f cdv A outer s H Ew ds r hr h => ?_)
  · obtain ⟨c, n, _, rfl, _⟩ := h; rfl
  obtain ⟨c, n, hn, rfl, rfl⟩ := h
  refine c_cons (cs_set 2 (ev_h (e_strC [])) ?_ sc__law_bits_by.nd)
  refine c_cons (cs_for 3 (fun i s => ∃ m t y, s = [.dat (.int m), .dat (.int n), .dat (S t), y] ∧ m = halves c i ∧ t = bitsBy c i) (it_range1 (e_var 1 rfl) B.range (by omega) (by omega)) ⟨_, _, _, rfl, rfl, rfl⟩ (fun i d s hd hI => ?_) (fun s hI => ?_) sc__law_bits_by.nd)
  · obtain ⟨m, t, y, rfl, rfl, rfl⟩ := hI
    obtain ⟨hi, rfl⟩ := rng_get' hd
    refine c_cons (cs_set 2 (ev_h (e_bin (e_var 2 rfl) (e_ix (e_strC [48, 49]) (e_bin (e_var 0 rfl) e_int (bin_mod (by decide))) (ix_S (at01 _) (by decide))) (bin_S (by rw [bitsBy_len]; simp; omega)))) ?_ sc__law_bits_by.nd)
    refine c_one (cs_set 0 (ev_h (e_bin (e_var 0 rfl) e_int (bin_div ⟨by decide, by decide⟩))) ?_ sc__law_bits_by.nd)
    exact ⟨_, _, _, rfl, rfl, (bitsBy_succ c i).symm⟩
  · obtain ⟨m, t, y, rfl, rfl, rfl⟩ := hI
    refine c_one (cs_ret (e_var 2 rfl) ?_)
    rw [rng_len, Int.toNat_natCast]

abbrev s__law_way_is : Stmt := topS 17
theorem sc__law_way_is : FnScope ["found", "due"] ["found", "due"] (defScope s__law_way_is) := ⟨rfl, rfl, rfl, by decide +kernel, rfl, by decide +kernel, by decide +kernel⟩
def R__law_way_is (ds : List D) (r : Ret) : Prop := ∃ f d : Option Int, ds = [encW f, encW d] ∧ r = .dat (.bool (decide (f = d)))
theorem ok__law_way_is (B : Bt mg) (Gw : Dfn P w K mg base 1 "_law_whole" R__law_whole) (A : FnAt K mg "_law_way_is" s__law_way_is ["found", "due"]) : Dfn P w K mg base 2 "_law_way_is" R__law_way_is := by
  refine dfn_ok A sc__law_way_is (fun ds r h => ?_) (fun f cdv A outer s H Ew ds r hr h => ?_)
  · obtain ⟨f, d, rfl, _⟩ := h; rfl
  obtain ⟨f, d, rfl, rfl⟩ := h
  cases d with
  | none =>
    refine c_cons (cs_if (t_cmp (e_var 1 rfl) e_non cmp_isN) (fun _ => c_one (cs_ret (e_cmp (e_var 0 rfl) e_non cmp_isN) ?_)) (fun h => absurd h (by decide)))
    cases f <;> exact dat_inj (by simp [isN, encW])
  | some i =>
    refine c_cons (cs_if (t_cmp (e_var 1 rfl) e_non cmp_isN) (fun h => absurd (show false = true from h) (by decide)) (fun _ => c_nil ?_))
    cases f with
    | none =>
      refine c_one (cs_ret (e_and (c' := false) (e_call Gw hr (ea_cons (e_var 0 rfl) ea_nil) ⟨_, rfl, rfl, rfl⟩) (fun h => absurd h (by decide))) ?_)
      exact dat_inj (by simp)
    | some j =>
      refine c_one (cs_ret (e_and (e_call Gw hr (ea_cons (e_var 0 rfl) ea_nil) ⟨_, rfl, rfl, rfl⟩) (fun _ => e_one (e_cmp (e_var 0 rfl) (e_var 1 rfl) (cmp_eqI (i := j) (j := i))))) ?_)
      exact dat_inj (by simp [whole, encW])

abbrev s__law_sign_by : Stmt := topS 18
theorem sc__law_sign_by : FnScope ["cell", "signs"] ["cell"] (defScope s__law_sign_by) := ⟨rfl, rfl, rfl, by decide +kernel, rfl, by decide +kernel, by decide +kernel⟩
def fewSigns : List Nat := [48, 49, 42, 32, 48, 49, 50, 51, 52, 53, 54, 55, 56, 57]
def signsA : List Nat := [32, 33, 34, 35, 36, 38, 39, 40, 41, 42, 43, 44, 45, 46, 47, 48, 49, 50, 51, 52, 53, 54, 55, 56, 57, 58, 59, 60, 61, 62, 63, 64, 65, 66, 67, 68, 69, 70, 71, 72, 73, 74, 75, 76, 77, 78, 79, 80, 81, 82, 83, 84, 85, 86, 87, 88, 89, 90, 91, 92, 93, 94, 95, 96]
def signsB : List Nat := [97, 98, 99, 100, 101, 102, 103, 104, 105, 106, 107, 108, 109, 110, 111, 112, 113, 114, 115, 116, 117, 118, 119, 120, 121, 122, 123, 124, 125, 126]
def signBy (c : Int) : Nat := if c % 2 = 1 then fewSigns.getD (c / 2 % 14).toNat 0 else (signsA ++ signsB).getD (c / 2 % 94).toNat 0
def R__law_sign_by (ds : List D) (r : Ret) : Prop := ∃ c : Int, ds = [.int c] ∧ r = .dat (S [signBy c])
theorem at_getD (l : List Nat) (i : Int) (h0 : 0 ≤ i) (h1 : i < l.length) : atI l i = some (l.getD i.toNat 0) := atI_of (j := i.toNat) (by omega) (by
  have : i.toNat < l.length := by omega
  rw [List.getD_eq_getElem?_getD, List.getElem?_eq_getElem this]
  rfl)
theorem ok__law_sign_by (B : Bt mg) (A : FnAt K mg "_law_sign_by" s__law_sign_by ["cell"]) : Dfn P w K mg base 1 "_law_sign_by" R__law_sign_by := by
  refine dfn_ok A sc__law_sign_by (fun ds r h => ?_) (fun f cdv A outer s H Ew ds r hr h => ?_)
  · obtain ⟨c, rfl, _⟩ := h; rfl
  obtain ⟨c, rfl, rfl⟩ := h
  refine c_cons (cs_if (t_cmp (e_bin (e_var 0 rfl) e_int (bin_mod (by decide))) e_int cmp_eqI) (fun hb => c_one (cs_ret (e_ix (e_strC fewSigns) (e_bin (e_bin (e_var 0 rfl) e_int (bin_div ⟨by decide, by decide⟩)) e_int (bin_mod (by decide))) (ix_S (c := fewSigns.getD (c / 2 % 14).toNat 0) (at_getD _ _ (by omega) (by show _ < (14 : Int); omega)) (by decide))) ?_)) (fun hb => c_nil ?_))
  · rw [signBy, if_pos (of_decide_eq_true hb)]
  refine c_cons (cs_set 1 (ev_h (e_strC signsA)) ?_ sc__law_sign_by.nd)
  refine c_cons (cs_set 1 (ev_h (e_bin (e_var 1 rfl) (e_strC signsB) (bin_S (by decide)))) ?_ sc__law_sign_by.nd)
  refine c_one (cs_ret (e_ix (e_var 1 rfl) (e_bin (e_bin (e_var 0 rfl) e_int (bin_div ⟨by decide, by decide⟩)) e_int (bin_mod (by decide))) (ix_S (c := (signsA ++ signsB).getD (c / 2 % 94).toNat 0) (at_getD _ _ (by omega) (by show _ < (94 : Int); omega)) (by decide))) ?_)
  rw [signBy, if_neg (of_decide_eq_false hb)]

abbrev s__law_odd : Stmt := topS 19
theorem sc__law_odd : FnScope ["cell", "some"] ["cell"] (defScope s__law_odd) := ⟨rfl, rfl, rfl, by decide +kernel, rfl, by decide +kernel, by decide +kernel⟩
def oddA : List (List Nat) := [[], [42], [42, 32], [42, 32, 48, 49], [42, 32, 48, 48], [48, 42, 49], [48, 32, 42, 32, 49], [48, 42, 32, 32, 49], [48, 42, 32, 49, 32], [32, 48, 42, 32, 49], [48, 42, 42, 32, 49], [48, 42, 32, 45, 49], [48, 42, 32, 43, 49]]
def oddB : List (List Nat) := [[48, 42, 32, 49, 46, 48], [50, 42, 32, 49], [48, 42, 32, 78, 111, 119, 104, 101, 114, 101], [48, 42, 32, 78, 111, 110, 101], [48, 42, 32, 110, 111, 119, 104, 101, 114, 101, 32], [110, 111, 119, 104, 101, 114, 101], [48, 42, 32, 49, 42, 32, 50], [48, 42, 32, 49, 95, 48], [42, 32, 48]]
def oddL (c : Int) : List Nat := (oddA ++ oddB).getD (c % 22).toNat []
theorem oddL_len (c : Int) : (oddL c).length ≤ 20 := by
  unfold oddL
  rw [List.getD_eq_getElem?_getD]
  cases e : (oddA ++ oddB)[(c % 22).toNat]? with
  | none => exact Nat.zero_le _
  | some l =>
    have : ∀ l ∈ oddA ++ oddB, l.length ≤ 20 := by decide
    exact this l (List.mem_of_getElem? e)
def R__law_odd (ds : List D) (r : Ret) : Prop := ∃ c : Int, ds = [.int c] ∧ r = .dat (S (oddL c))
theorem ok__law_odd (B : Bt mg) (A : FnAt K mg "_law_odd" s__law_odd ["cell"]) : Dfn P w K mg base 1 "_law_odd" R__law_odd := by
  refine dfn_ok A sc__law_odd (fun ds r h => ?_) (fun f cdv A outer s H Ew ds r hr h => ?_)
  · obtain ⟨c, rfl, _⟩ := h; rfl
  obtain ⟨c, rfl, rfl⟩ := h
  have h0 : 0 ≤ c % 22 ∧ c % 22 < 22 := by omega
  refine c_cons (cs_set 1 (ev_h ((E.of_L (el_lst (ea_cons (e_strC []) (ea_cons (e_strC [42]) (ea_cons (e_strC [42, 32]) (ea_cons (e_strC [42, 32, 48, 49]) (ea_cons (e_strC [42, 32, 48, 48]) (ea_cons (e_strC [48, 42, 49]) (ea_cons (e_strC [48, 32, 42, 32, 49]) (ea_cons (e_strC [48, 42, 32, 32, 49]) (ea_cons (e_strC [48, 42, 32, 49, 32]) (ea_cons (e_strC [32, 48, 42, 32, 49]) (ea_cons (e_strC [48, 42, 42, 32, 49]) (ea_cons (e_strC [48, 42, 32, 45, 49]) (ea_cons (e_strC [48, 42, 32, 43, 49]) ea_nil))))))))))))))).is (show _ = PyData.list (oddA.map S) from rfl))) ?_ sc__law_odd.nd)
  refine c_cons (cs_set 1 (ev_h (E.of_L (EL.is (el_bin (e_var 1 rfl) ((E.of_L (el_lst (ea_cons (e_strC [48, 42, 32, 49, 46, 48]) (ea_cons (e_strC [50, 42, 32, 49]) (ea_cons (e_strC [48, 42, 32, 78, 111, 119, 104, 101, 114, 101]) (ea_cons (e_strC [48, 42, 32, 78, 111, 110, 101]) (ea_cons (e_strC [48, 42, 32, 110, 111, 119, 104, 101, 114, 101, 32]) (ea_cons (e_strC [110, 111, 119, 104, 101, 114, 101]) (ea_cons (e_strC [48, 42, 32, 49, 42, 32, 50]) (ea_cons (e_strC [48, 42, 32, 49, 95, 48]) (ea_cons (e_strC [42, 32, 48]) ea_nil))))))))))).is (show _ = PyData.list (oddB.map S) from rfl)) (binL_cat (by decide))) (show _ = (oddA ++ oddB).map S by rw [List.map_append])))) ?_ sc__law_odd.nd)
  refine c_one (cs_ret (e_ix (e_var 1 rfl) (e_bin (e_var 0 rfl) e_int (bin_mod (by decide))) (ix_L (d := S (oddL c)) (atI_of (j := (c % 22).toNat) (by omega) ?_))) rfl)
  have hl : (c % 22).toNat < (oddA ++ oddB).length := by show _ < 22; omega
  rw [List.getElem?_map, oddL, List.getD_eq_getElem?_getD, List.getElem?_eq_getElem hl]
  rfl

abbrev s__law_told : Stmt := topS 21
theorem sc__law_told : FnScope ["line", "found", "e", "some"] ["line"] (defScope s__law_told) := ⟨rfl, rfl, rfl, by decide +kernel, rfl, by decide +kernel, by decide +kernel⟩
def toldL : Option (List Nat × Option Nat) → D
  | some x => .tuple [.bool true, encR (x.1, natW x.2)]
  | none => .tuple [.bool false, .bool true]
def R__law_told (ds : List D) (r : Ret) : Prop := ∃ line : List Nat, line.length ≤ 1000 ∧ ds = [S line] ∧ r = .dat (toldL (readL line))
theorem ok__law_told (B : Bt mg) (T : ErrS K mg "BadLine") (Gr : DfnE P w K mg base 2 "read" R_read) (A : FnAt K mg "_law_told" s__law_told ["line"]) : Dfn P w K mg base 3 "_law_told" R__law_told := by
  refine dfn_ok A sc__law_told (fun ds r h => ?_) (fun f cdv A outer s H Ew ds r hr h => ?_)
  · obtain ⟨line, _, rfl, _⟩ := h; rfl
  obtain ⟨line, hl, rfl, rfl⟩ := h
  obtain ⟨Ca, Ra, a0, a1, a2, a3, a4, a5, TC, hR, hex, ⟨vN, hV⟩, ⟨g0, k0⟩, ⟨g1, k1⟩, ⟨g2, k2⟩, ⟨g3, k3⟩, ⟨g4, k4⟩, g5, k5⟩ := T.ex
  have sh : ∀ l : List Bool, SeqAt.shaped (.list (l.map PyData.bool)) = true := fun l => shaped_list (fun b _ => by simp [PyData.canLay0]) fun b _ => by simp [PyData.depth]
  cases erd : readL line with
  | some x =>
    refine c_cons (cs_try (Ex := fun _ _ => False) 2 (fun W pn xe tk ps => cr_of (c_one (cs_set 1 (ev_h (e_callE Gr hr (ea_cons (e_var 0 rfl) ea_nil) ⟨line, hl, rfl, by rw [erd]; rfl⟩)) ?_ sc__law_told.nd))) (fun c s' hE => hE.elim) hR sc__law_told.nd (hlen := fun c s' hE => hE.elim))
    exact c_one (cs_ret (e_tup (ea_cons e_bl (ea_cons (e_var 1 rfl) ea_nil))) rfl)
  | none =>
    refine c_cons (cs_try (Ex := fun c s' => c = .ref Ca ∧ s' = [.dat (S line), .no, .no, .no]) 2 (fun W pn xe tk ps => ?_) (fun c s' hE => ?_) hR sc__law_told.nd (hlen := fun c s' hE => by rw [hE.2]; show 2 < 4; decide))
    · refine cr_one (crs_setE (y := "BadLine") 1 tk Gr hr (ea_cons (e_var 0 rfl) ea_nil) ⟨line, hl, rfl, by rw [erd]; rfl⟩ (fun Cb hCb => ?_) ⟨Ca, TC.gC⟩ sc__law_told.nd)
      have : Cb = Ca := by
        have h1 : mg "BadLine" = some (.ref Cb) := hCb
        rw [TC.gC] at h1
        cases h1
        rfl
      subst this
      exact ⟨rfl, rfl⟩
    · obtain ⟨rfl, rfl⟩ := hE
      refine ⟨Ca, rfl, hex, fun a oe pn hz hf => ?_⟩
      refine ca_set 3 (by decide) (ea_lst (eaa_cons (ea_isi (r := false) TC.is hz hf g0 (k0.trans (by decide)) B.isinstance) (eaa_cons (ea_isi (r := false) TC.is hz hf g1 (k1.trans (by decide)) B.isinstance) (eaa_cons (ea_isi (r := false) TC.is hz hf g2 (k2.trans (by decide)) B.isinstance) (eaa_cons (ea_isi (r := false) TC.is hz hf g4 (k4.trans (by decide)) B.isinstance) eaa_nil))))) ?_ sc__law_told.nd
      refine ca_set 3 (by decide) (ea_cat (ea_of (e_var 3 rfl)) (ea_lst (eaa_cons (ea_isi (r := false) TC.is hz hf g5 (k5.trans (by decide)) B.isinstance) eaa_nil)) (by decide)) ?_ sc__law_told.nd
      refine ca_ret (ea_tup (eaa_cons (ea_of e_bl) (eaa_cons (ea_and (ea_isi (r := true) TC.is hz hf g3 (k3.trans (by decide)) B.isinstance) fun _ => ea_and (ea_isiT (r := true) "ValueError" TC.is hz hf (t := "ValueError") vN hV B.isinstance) fun _ => ea_one (ea_cmp (ea_of (e_var 3 rfl))
        (ea_of (E.of_L (el_bin (E.of_L (el_lst (ea_cons e_bl ea_nil))) e_int (binL_rep (n := 5) (by decide) (by decide))))) (cmp_eqD hr.units (sh [false, false, false, false, false]) (sh [false, false, false, false, false])))) eaa_nil))) ?_
      rfl

abbrev s__law_right : Stmt := topS 22
theorem sc__law_right : FnScope ["got", "due"] ["got", "due"] (defScope s__law_right) := ⟨rfl, rfl, rfl, by decide +kernel, rfl, by decide +kernel, by decide +kernel⟩
def duD : Option (List Nat × Option Nat) → D
  | some x => encR (x.1, natW x.2)
  | none => .none
def R__law_right (ds : List D) (r : Ret) : Prop := ∃ x : Option (List Nat × Option Nat), ds = [toldL x, duD x] ∧ r = .dat (.bool true)
theorem ok__law_right (B : Bt mg) (Gi : Dfn P w K mg base 2 "_law_way_is" R__law_way_is) (_ : Dfn P w K mg base 3 "_law_told" R__law_told) (A : FnAt K mg "_law_right" s__law_right ["got", "due"]) : Dfn P w K mg base 4 "_law_right" R__law_right := by
  refine dfn_ok A sc__law_right (fun ds r h => ?_) (fun f cdv A outer s H Ew ds r hr h => ?_)
  · obtain ⟨x, rfl, _⟩ := h; rfl
  obtain ⟨x, rfl, rfl⟩ := h
  cases x with
  | none =>
    have sh : SeqAt.shaped (.tuple [.bool false, .bool true]) = true := by
      unfold SeqAt.shaped
      simp [PyData.canLay0, PyData.canLayAll0, PyData.depth, PyData.depthAll]
    refine c_cons (cs_if (t_cmp (e_var 1 rfl) e_non cmp_isN) (fun _ => c_one (cs_ret (e_cmp (e_var 0 rfl) (e_tup (ea_cons e_bl (ea_cons e_bl ea_nil))) (cmp_eqD hr.units sh sh)) ?_)) (fun q => absurd (show true = false from q) (by decide)))
    exact dat_inj (SeqAt.eqv_refl _ (SeqAt.canLay_of_shaped sh))
  | some x =>
    refine c_cons (cs_if (t_cmp (e_var 1 rfl) e_non cmp_isN) (fun q => absurd (show false = true from q) (by decide)) (fun _ => c_nil ?_))
    refine c_cons (cs_if (tw_or (t_not (t_val (e_ix (e_var 0 rfl) e_int (ix_T (d := .bool true) rfl)))) fun _ => tw_or (t_not (t_val (e_isi "tuple" "tuple" true (e_ix (e_var 0 rfl) e_int (ix_T (d := encR (x.1, natW x.2)) rfl)) B.isinstance B.tuple))) fun _ =>
      tw_or (t_cmp (e_callB (cd_lenT (xs := [S x.1, encW (natW x.2)])) (ea_cons (e_ix (e_var 0 rfl) e_int (ix_T (d := encR (x.1, natW x.2)) rfl)) ea_nil) B.len) e_int cmp_neI) fun _ =>
      tw_or1 (t_not (t_val (e_isi "str" "str" true (e_ix (e_ix (e_var 0 rfl) e_int (ix_T (d := encR (x.1, natW x.2)) rfl)) e_int (ix_T (d := S x.1) rfl)) B.isinstance B.str)))).t (fun q => absurd q (by simp)) (fun _ => c_nil ?_))
    refine c_one (cs_ret (e_and (e_cmp (e_ix (e_ix (e_var 0 rfl) e_int (ix_T (d := encR (x.1, natW x.2)) rfl)) e_int (ix_T (d := S x.1) rfl)) (e_ix (e_var 1 rfl) e_int (ix_T (d := S x.1) rfl)) cmp_eqS) fun _ => e_one (e_call Gi hr (ea_cons (e_ix (e_ix (e_var 0 rfl) e_int (ix_T (d := encR (x.1, natW x.2)) rfl)) e_int (ix_T (d := encW (natW x.2)) rfl)) (ea_cons (e_ix (e_var 1 rfl) e_int (ix_T (d := encW (natW x.2)) rfl)) ea_nil)) ⟨natW x.2, natW x.2, rfl, rfl⟩)) ?_)
    exact dat_inj (by simp)

abbrev s__law_due : Stmt := topS 20
theorem sc__law_due : FnScope ["line", "at", "word", "number", "sign"] ["line"] (defScope s__law_due) := ⟨rfl, rfl, rfl, by decide +kernel, rfl, by decide +kernel, by decide +kernel⟩
def R__law_due (ds : List D) (r : Ret) : Prop := ∃ line : List Nat, line.length ≤ 1000 ∧ ds = [S line] ∧ r = .dat (duD (dueL line))
theorem cut_two (l : List Nat) (k n : Nat) : cutN l (some (k : Int)) (some ((k + n : Nat) : Int)) = (l.drop k).take n := by
  unfold cutN
  rw [HT.sIx_nat, HT.sIx_nat]
  apply List.ext_getElem?
  intro i
  rw [List.getElem?_take, List.getElem?_take, List.getElem?_drop, List.getElem?_drop]
  by_cases hk : k ≤ l.length
  · rw [Nat.min_eq_left hk]
    by_cases h : i < n
    · rw [if_pos h]
      by_cases h2 : k + i < l.length
      · rw [if_pos (by omega)]
      · rw [List.getElem?_eq_none (by omega)]
        split <;> rfl
    · rw [if_neg h, if_neg (by omega)]
  · rw [List.getElem?_eq_none (by omega), List.getElem?_eq_none (by omega)]
    split <;> split <;> rfl
theorem runL_le : ∀ (n : Nat) (l : List Nat), runL n l ≤ l.length ∧ runL n l ≤ n
  | 0, l => by cases l <;> simp [runL]
  | n + 1, [] => by simp [runL]
  | n + 1, c :: l => by
    have := runL_le n l
    unfold runL
    split
    · simp; omega
    · simp
def atSl : List Sl → Int
  | [_, .dat (.int t), _, _, _] => t
  | _ => 0
theorem digits_take {l : List Nat} {i c : Nat} (h : l[i]? = some c) : NumText.digitsVal (l.take (i + 1)) = 10 * NumText.digitsVal (l.take i) + (c - 48) := by
  rw [List.take_add_one, h]
  show NumText.digitsVal (l.take i ++ [c]) = _
  unfold NumText.digitsVal
  simp [List.foldl_append]
  try omega
theorem ok__law_due (B : Bt mg) (_ : Dfn P w K mg base 4 "_law_right" R__law_right) (A : FnAt K mg "_law_due" s__law_due ["line"]) : Dfn P w K mg base 5 "_law_due" R__law_due := by
  refine dfn_ok A sc__law_due (fun ds r h => ?_) (fun f cdv A outer s H Ew ds r hr h => ?_)
  · obtain ⟨line, _, rfl, _⟩ := h; rfl
  obtain ⟨line, hl, rfl, rfl⟩ := h
  obtain ⟨hr1, hr2⟩ := runL_le 17 line
  have hbits := runL_bits 17 line
  obtain ⟨m, em⟩ : ∃ m, m = runL 17 line := ⟨_, rfl⟩
  have stop : m < line.length → m < 17 → ∀ c, line[m]? = some c → ¬ (c = 48 ∨ c = 49) := by
    have key : ∀ (n : Nat) (l : List Nat), runL n l < l.length → runL n l < n → ∀ c, l[runL n l]? = some c → ¬ (c = 48 ∨ c = 49) := by
      intro n
      induction n with
      | zero => intro l _ h; cases l <;> simp [runL] at h
      | succ n ih =>
        intro l h1 h2 c hc
        cases l with
        | nil => simp at h1
        | cons x l =>
          by_cases hx : x = 48 ∨ x = 49
          · have e : runL (n + 1) (x :: l) = runL n l + 1 := by rw [runL, if_pos hx]
            rw [e] at h1 h2 hc
            exact ih l (by simpa using h1) (by omega) c (by simpa using hc)
          · have e : runL (n + 1) (x :: l) = 0 := by rw [runL, if_neg hx]
            rw [e] at hc
            cases hc
            exact hx
    rw [em]
    exact key 17 line
  have go : ∀ k, k < m → ∃ c, line[k]? = some c ∧ (c = 48 ∨ c = 49) := fun k hk => by
    have hkl : k < line.length := by omega
    refine ⟨line[k], List.getElem?_eq_getElem hkl, hbits _ ?_⟩
    rw [← em]
    exact List.mem_of_getElem? (i := k) (by rw [List.getElem?_take, if_pos hk, List.getElem?_eq_getElem hkl])
  refine c_cons (cs_set 1 (ev_h e_int) ?_ sc__law_due.nd)
  refine c_cons (cs_while (fun s => ∃ k : Nat, s = [.dat (S line), .dat (.int (k : Int)), .no, .no, .no] ∧ k ≤ m) (fun s => (17 - atSl s).toNat) ⟨0, rfl, Nat.zero_le _⟩ (fun s hI => ?_))
  obtain ⟨k, rfl, hk⟩ := hI
  have tb : ∃ b, T (cxOf CX0 P w K mg base ["line", "at", "word", "number", "sign"] "_law_due" (defScope s__law_due) f cdv A outer s H Ew).nox ([Sl.dat (S line), .dat (.int (k : Int)), .no, .no, .no].map shw) (match (defBody s__law_due).getD 1 (.Pass ⟨0, 0, 0, 0⟩) with | .While c _ _ _ => c | _ => .Constant .none 0 ⟨0, 0, 0, 0⟩) b ∧ b = decide (k < m) := by
    by_cases c1 : k < line.length
    · by_cases c2 : k < 17
      · obtain ⟨c, hc⟩ : ∃ c, line[k]? = some c := ⟨_, List.getElem?_eq_getElem c1⟩
        refine ⟨_, (tw_and (t_cmp (e_var 1 rfl) (e_callB (cd_lenS (by omega)) (ea_cons (e_var 0 rfl) ea_nil) B.len) cmp_lt) fun _ => tw_and (t_cmp (e_var 1 rfl) e_int cmp_lt) fun _ => tw_and1 (t_cmp (e_ix (e_var 0 rfl) (e_var 1 rfl) (ix_S (c := c) (atI_of rfl hc) (by omega))) (e_strC [48, 49]) cmp_inS)).t, ?_⟩
        rw [decide_eq_true (show (k : Int) < (line.length : Int) by omega), decide_eq_true (show (k : Int) < 17 by omega), Bool.true_and, Bool.true_and, Bool.eq_iff_iff, decide_eq_true_eq, decide_eq_true_eq]
        constructor
        · intro hm
          refine Nat.lt_of_le_of_ne hk fun e => ?_
          subst e
          exact stop c1 c2 c hc (by simpa using hm)
        · intro hm
          obtain ⟨c', hc', hb'⟩ := go k hm
          rw [hc] at hc'
          cases hc'
          simpa using hb'
      · refine ⟨_, (tw_and (t_cmp (e_var 1 rfl) (e_callB (cd_lenS (by omega)) (ea_cons (e_var 0 rfl) ea_nil) B.len) cmp_lt) fun _ => tw_and (c' := false) (t_cmp (e_var 1 rfl) e_int cmp_lt) fun q => absurd (of_decide_eq_true q) (by omega)).t, ?_⟩
        rw [Bool.and_false, Bool.and_false, decide_eq_false (by omega)]
    · refine ⟨_, (tw_and (c' := false) (t_cmp (e_var 1 rfl) (e_callB (cd_lenS (by omega)) (ea_cons (e_var 0 rfl) ea_nil) B.len) cmp_lt) fun q => absurd (of_decide_eq_true q) (by omega)).t, ?_⟩
      rw [Bool.and_false, decide_eq_false (by omega)]
  obtain ⟨b, tb, eb⟩ := tb
  refine ⟨b, tb, fun hb => ?_, fun hb => ?_⟩
  · rw [eb] at hb
    have hb := of_decide_eq_true hb
    refine c_one (cs_set 1 (ev_h (e_bin (e_var 1 rfl) e_int bin_add)) ?_ sc__law_due.nd)
    refine ⟨⟨k + 1, rfl, by omega⟩, ?_⟩
    show ((17 : Int) - ((k : Int) + 1)).toNat < ((17 : Int) - (k : Int)).toNat
    omega
  rw [eb] at hb
  have hb := of_decide_eq_false hb
  have hkm : k = m := by omega
  subst hkm
  have ed : dueL line = if 16 < k ∨ ¬ (line.drop k).take 2 = [42, 32] then none else (wayL (line.drop (k + 2))).map fun v => (line.take k, v) := by unfold dueL; rw [← em]
  refine c_cons (cs_if (tw_or (t_cmp (e_var 1 rfl) e_int cmp_gt) fun _ => tw_or1 (t_cmp ((e_slS (e_var 0 rfl) (eo_some (e_var 1 rfl)) (eo_some (e_bin (e_var 1 rfl) e_int bin_add)) (by omega)).is (congrArg S (cut_two line k 2))) (e_strC [42, 32]) cmp_neS)).t (fun q => c_one (cs_ret e_non ?_)) (fun q => c_nil ?_))
  · have q : 16 < k ∨ ¬ (line.drop k).take 2 = [42, 32] := by
      have q : (16 : Int) < (k : Int) ∨ ¬ (line.drop k).take 2 = [42, 32] := by simpa using q
      exact q.imp (fun z => by omega) id
    rw [ed, if_pos q]
    rfl
  have q : ¬ (16 < k ∨ ¬ (line.drop k).take 2 = [42, 32]) := by
    rintro (z | z)
    · rw [decide_eq_true (show (16 : Int) < (k : Int) by omega)] at q
      exact absurd q (by simp)
    · rw [decide_eq_false z] at q
      exact absurd q (by simp)
  rw [if_neg q] at ed
  obtain ⟨wd, ewd⟩ : ∃ wd, wd = line.drop (k + 2) := ⟨_, rfl⟩
  have hwl : wd.length ≤ 1000 := by rw [ewd, List.length_drop]; omega
  rw [← ewd] at ed
  refine c_cons (cs_set 2 (ev_h ((e_slFrom (n := k + 2) (e_var 0 rfl) (e_bin (e_var 1 rfl) e_int bin_add) (by omega)).is (congrArg S ewd.symm))) ?_ sc__law_due.nd)
  by_cases hn : wd = nowhere
  · refine c_cons (cs_if (t_cmp (e_var 2 rfl) (e_strC nowhere) cmp_eqS) (fun _ => c_one (cs_ret (e_tup (ea_cons (e_slTo (e_var 0 rfl) (e_var 1 rfl) (by omega)) (ea_cons e_non ea_nil))) ?_)) (fun q => absurd hn (of_decide_eq_false q)))
    rw [ed, wayL, if_pos hn]
    rfl
  refine c_cons (cs_if (t_cmp (e_var 2 rfl) (e_strC nowhere) cmp_eqS) (fun q => absurd (of_decide_eq_true q) hn) (fun _ => c_nil ?_))
  cases wd with
  | nil =>
    refine c_cons (cs_if (tw_or (c' := false) (t_cmp (e_var 2 rfl) (e_strC []) cmp_eqS) (fun q => absurd q (by simp))).t (fun q => c_one (cs_ret e_non ?_)) (fun q => absurd q (by simp)))
    rw [ed, wayL, if_neg hn, if_pos (.inl rfl)]
    rfl
  | cons c rest =>
  refine c_cons (cs_if (tw_or (t_cmp (e_var 2 rfl) (e_strC []) cmp_eqS) fun _ => tw_or (t_cmp (e_callB (cd_lenS (by omega)) (ea_cons (e_var 2 rfl) ea_nil) B.len) e_int cmp_gt) fun _ =>
    tw_or1 (tw_and (t_cmp (e_var 2 rfl) (e_strC [48]) cmp_neS) fun _ => tw_and1 (t_cmp (e_ix (e_var 2 rfl) e_int (ix_S (c := c) (atI_of (j := 0) rfl rfl) (by omega))) (e_strC [48]) cmp_eqS)).t).t (fun q => c_one (cs_ret e_non ?_)) (fun q => c_nil ?_))
  · have q : 4 < rest.length + 1 ∨ c = 48 ∧ 1 < rest.length + 1 := by
      have q : (4 : Int) < rest.length + 1 ∨ ¬ (c = 48 ∧ rest = []) ∧ c = 48 := by simpa only [decide_eq_true_eq, Bool.or_eq_true, Bool.and_eq_true, Bool.not_eq_true', decide_eq_false_iff_not, List.cons.injEq, and_true, List.length_cons, Int.natCast_add, Int.cast_ofNat_Int, reduceCtorEq, false_or] using q
      rcases q with z | ⟨z1, z2⟩
      · exact .inl (by omega)
      · refine .inr ⟨z2, ?_⟩
        have := List.length_pos_iff.mpr (fun y => z1 ⟨z2, y⟩)
        omega
    rw [ed, wayL, if_neg hn, if_pos (.inr (q.elim (fun z => .inl (by simpa using z)) fun z => .inr ⟨by rw [z.1]; rfl, by simpa using z.2⟩))]
    rfl
  have q : ¬ (4 < rest.length + 1 ∨ c = 48 ∧ 1 < rest.length + 1) := by
    rintro (z | z)
    · rw [decide_eq_true (show (4 : Int) < ((c :: rest).length : Nat) by rw [List.length_cons]; omega)] at q
      exact absurd q (by simp)
    · obtain ⟨rfl, z2⟩ := z
      rw [decide_eq_false (show ¬ (48 : Nat) :: rest = [48] by intro y; injection y with _ y; rw [y] at z2; exact absurd z2 (by decide)), decide_eq_true (show [(48 : Nat)] = [48] from rfl)] at q
      exact absurd q (by simp)
  have ew : wayL (c :: rest) = if ((c :: rest).all fun c => decide (c ∈ figs)) = true then some (some (NumText.digitsVal (c :: rest))) else none := by
    rw [wayL, if_neg hn, if_neg]
    rintro (z | z | ⟨z1, z2⟩)
    · cases z
    · exact q (.inl (by simpa using z))
    · exact q (.inr ⟨by simpa using z1, by simpa using z2⟩)
  refine c_cons (cs_set 3 (ev_h e_int) ?_ sc__law_due.nd)
  refine c_cons (cs_for 4 (fun i s => ∃ y, s = [.dat (S line), .dat (.int (k : Int)), .dat (S (c :: rest)), .dat (.int ((NumText.digitsVal ((c :: rest).take i) : Nat) : Int)), y] ∧ ∀ x ∈ (c :: rest).take i, x ∈ figs) (it_str (e_var 2 rfl)) ⟨_, rfl, fun _ z => (nomatch z)⟩ (fun i d s hd' hI => ?_) (fun s hI => ?_) sc__law_due.nd)
  · obtain ⟨y, rfl, hy⟩ := hI
    obtain ⟨x, hx, rfl⟩ := map_get hd'
    by_cases hxf : x ∈ figs
    · refine c_cons (cs_if (t_cmp (e_var 4 rfl) (e_strC figs) cmp_niS) (fun q => absurd q (by simp [hxf])) (fun _ => c_nil ?_))
      refine c_one (cs_set 3 (ev_h (e_bin (e_bin e_int (e_var 3 rfl) (bin_mul (.inl ⟨by decide, by decide⟩))) (e_index ((mem_figs x).mp hxf) (e_strC figs) (e_var 4 rfl)) bin_add)) ?_ sc__law_due.nd)
      refine ⟨.dat (S [x]), ?_, fun z hz => ?_⟩
      · rw [digits_take hx]
        show [Sl.dat _, Sl.dat _, Sl.dat _, Sl.dat (PyData.int (10 * ((NumText.digitsVal ((c :: rest).take i) : Nat) : Int) + ((x - 48 : Nat) : Int))), Sl.dat _] = _
        rw [Int.natCast_add, Int.natCast_mul]
        rfl
      · rw [List.take_add_one, hx] at hz
        rcases List.mem_append.mp hz with hz | hz
        · exact hy z hz
        · rw [List.mem_singleton.mp (show z ∈ [x] from hz)]
          exact hxf
    · refine c_cons (cs_if (t_cmp (e_var 4 rfl) (e_strC figs) cmp_niS) (fun _ => c_one (cs_ret e_non ?_)) (fun q => absurd q (by simp [hxf])))
      rw [ed, ew, if_neg]
      · rfl
      · intro ha
        have := List.all_eq_true.mp ha x (List.mem_of_getElem? hx)
        exact hxf (of_decide_eq_true this)
  · obtain ⟨y, rfl, hy⟩ := hI
    rw [List.length_map, List.take_length] at hy ⊢
    refine c_one (cs_ret (e_tup (ea_cons (e_slTo (e_var 0 rfl) (e_var 1 rfl) (by omega)) (ea_cons (e_var 3 rfl) ea_nil))) ?_)
    rw [ed, ew, if_pos (List.all_eq_true.mpr fun x hx => decide_eq_true (hy x hx))]
    rfl

abbrev s__law_spoiled : Stmt := topS 23
theorem sc__law_spoiled : FnScope ["line", "cell", "other", "way", "at"] ["line", "cell", "other"] (defScope s__law_spoiled) := ⟨rfl, rfl, rfl, by decide +kernel, rfl, by decide +kernel, by decide +kernel⟩
def spotL (line : List Nat) (c : Int) : Nat := (c / 3 % ((line.length : Int) + 1)).toNat
def spoilL (line : List Nat) (c o : Int) : List Nat :=
  if c % 3 = 0 then line.take (spotL line c) ++ line.drop (spotL line c + 1)
  else if c % 3 = 1 then (line.take (spotL line c) ++ [signBy o]) ++ line.drop (spotL line c + 1)
  else (line.take (spotL line c) ++ [signBy o]) ++ line.drop (spotL line c)
def R__law_spoiled (ds : List D) (r : Ret) : Prop := ∃ (line : List Nat) (c o : Int), line.length ≤ 900 ∧ ds = [S line, .int c, .int o] ∧ r = .dat (S (spoilL line c o))
theorem ok__law_spoiled (B : Bt mg) (Gs : Dfn P w K mg base 1 "_law_sign_by" R__law_sign_by) (A : FnAt K mg "_law_spoiled" s__law_spoiled ["line", "cell", "other"]) : Dfn P w K mg base 2 "_law_spoiled" R__law_spoiled := by
  refine dfn_ok A sc__law_spoiled (fun ds r h => ?_) (fun f cdv A outer s H Ew ds r hr h => ?_)
  · obtain ⟨line, c, o, _, rfl, _⟩ := h; rfl
  obtain ⟨line, c, o, hl, rfl, rfl⟩ := h
  have e1 : c / 3 % ((line.length : Int) + 1) = ((spotL line c : Nat) : Int) := by
    have := Int.emod_nonneg (c / 3) (show (line.length : Int) + 1 ≠ 0 by omega)
    unfold spotL
    omega
  have e2 : ((spotL line c : Nat) : Int) + 1 = ((spotL line c + 1 : Nat) : Int) := by omega
  refine c_cons (cs_set 3 (ev_h (e_bin (e_var 1 rfl) e_int (bin_mod (by decide)))) ?_ sc__law_spoiled.nd)
  refine c_cons (cs_set 4 (ev_h ((e_bin (e_bin (e_var 1 rfl) e_int (bin_div ⟨by decide, by decide⟩)) (e_bin (e_callB (cd_lenS (by omega)) (ea_cons (e_var 0 rfl) ea_nil) B.len) e_int bin_add) (bin_mod (by omega))).is (congrArg PyData.int e1))) ?_ sc__law_spoiled.nd)
  have h3 : c % 3 = 0 ∨ c % 3 = 1 ∨ c % 3 = 2 := by omega
  rcases h3 with h | h | h
  · refine c_cons (cs_if (t_cmp (e_var 3 rfl) e_int cmp_eqI) (fun _ => c_one (cs_ret (e_bin (e_slTo (e_var 0 rfl) (e_var 4 rfl) (by omega)) (e_slFrom (n := spotL line c + 1) (e_var 0 rfl) ((e_bin (e_var 4 rfl) e_int bin_add).is (congrArg PyData.int e2)) (by omega)) (bin_S (by simp; omega))) ?_)) (fun q => absurd (decide_eq_true h) (by rw [q]; decide)))
    rw [spoilL, if_pos h]
  · refine c_cons (cs_if (t_cmp (e_var 3 rfl) e_int cmp_eqI) (fun q => absurd (of_decide_eq_true q) (by omega)) (fun _ => c_nil ?_))
    refine c_cons (cs_if (t_cmp (e_var 3 rfl) e_int cmp_eqI) (fun _ => c_one (cs_ret (e_bin (e_bin (e_slTo (e_var 0 rfl) (e_var 4 rfl) (by omega)) (e_call Gs hr (ea_cons (e_var 2 rfl) ea_nil) ⟨o, rfl, rfl⟩) (bin_S (by simp; omega))) (e_slFrom (n := spotL line c + 1) (e_var 0 rfl) ((e_bin (e_var 4 rfl) e_int bin_add).is (congrArg PyData.int e2)) (by omega)) (bin_S (by simp; omega))) ?_)) (fun q => absurd (decide_eq_true h) (by rw [q]; decide)))
    rw [spoilL, if_neg (by omega), if_pos h]
  · refine c_cons (cs_if (t_cmp (e_var 3 rfl) e_int cmp_eqI) (fun q => absurd (of_decide_eq_true q) (by omega)) (fun _ => c_nil ?_))
    refine c_cons (cs_if (t_cmp (e_var 3 rfl) e_int cmp_eqI) (fun q => absurd (of_decide_eq_true q) (by omega)) (fun _ => c_nil ?_))
    refine c_one (cs_ret (e_bin (e_bin (e_slTo (e_var 0 rfl) (e_var 4 rfl) (by omega)) (e_call Gs hr (ea_cons (e_var 2 rfl) ea_nil) ⟨o, rfl, rfl⟩) (bin_S (by simp; omega))) (e_slFrom (e_var 0 rfl) (e_var 4 rfl) (by omega)) (bin_S (by simp; omega))) ?_)
    rw [spoilL, if_neg (by omega), if_neg (by omega)]

abbrev s_law : Stmt := topS 24
theorem sc_law : FnScope ["script", "head", "line", "due"] ["script"] (defScope s_law) := ⟨rfl, rfl, rfl, by decide +kernel, rfl, by decide +kernel, by decide +kernel⟩
theorem ok_law {fa : Addr} {fd : FuncData} (B : Bt mg) (Gc : Dfn P w K mg base 1 "_law_cell_at" R__law_cell_at) (Gb : Dfn P w K mg base 1 "_law_bits_by" R__law_bits_by) (Gs : Dfn P w K mg base 2 "_law_spoiled" R__law_spoiled)
    (Go : Dfn P w K mg base 1 "_law_odd" R__law_odd) (Gt : Dfn P w K mg base 3 "_law_told" R__law_told) (Gr : Dfn P w K mg base 4 "_law_right" R__law_right) (Gd : Dfn P w K mg base 5 "_law_due" R__law_due) (F : Fun K "law" "law" s_law fa fd) : FnOk P w K mg base CX0 6 fa fd ["script"] (spOf K R_law) := by
  refine def_ok F sc_law (fun ds r h => ?_) (fun cdv A outer s H Ew ds r hr h => ?_)
  · obtain ⟨ns, _, rfl, _⟩ := h; rfl
  obtain ⟨ns, hns, rfl, rfl⟩ := h
  have cl : ∀ (k : Nat) {sds : List (Option D)}, sds[0]? = some (some (scr ns)) → ∀ {pa pb pc pd : Pos} {j}, E (cxOf CX0 P w K mg base ["script", "head", "line", "due"] "law" (defScope s_law) fa cdv A outer s H Ew).nox sds
      (.Call (.Name "_law_cell_at" pa) [.Name "script" pb, .Constant (.int k) j pc] [] pd) (.int (cell ns k)) := fun k {_} h {_ _ _ _ _} => e_call Gc hr (ea_cons (e_var 0 h) (ea_cons e_int ea_nil)) ⟨ns, k, rfl, rfl⟩
  obtain ⟨n0, hn0, en0⟩ : ∃ n0 : Nat, n0 ≤ 17 ∧ cell ns 0 % 18 = (n0 : Int) := ⟨(cell ns 0 % 18).toNat, by omega, by omega⟩
  obtain ⟨hd, ehd, lhd⟩ : ∃ hd, hd = bitsBy (cell ns 1) n0 ∧ hd.length = n0 := ⟨_, rfl, bitsBy_len _ _⟩
  obtain ⟨n, hn, en⟩ : ∃ n : Nat, n < 10 ^ 5 ∧ cell ns 2 % 10 ^ (5 : Int).toNat = (n : Int) := by
    have h1 := Int.emod_nonneg (cell ns 2) (show (10 ^ (5 : Int).toNat : Int) ≠ 0 by decide)
    have h2 := Int.emod_lt_of_pos (cell ns 2) (show (0 : Int) < 10 ^ (5 : Int).toNat by decide)
    have h3 : ((10 : Int) ^ (5 : Int).toNat) = 100000 := by decide
    rw [h3] at h1 h2 ⊢
    exact ⟨(cell ns 2 % 100000).toNat, by omega, by omega⟩
  have hnl : (TL.numL n).length ≤ 5 := TL.numL_len (by decide) hn
  refine c_cons (cs_set 1 (ev_h ((e_call Gb hr (ea_cons (cl 1 rfl) (ea_cons ((e_bin (cl 0 rfl) e_int (bin_mod (by decide))).is (congrArg PyData.int en0)) ea_nil)) ⟨_, n0, by omega, rfl, rfl⟩).is (congrArg S ehd.symm))) ?_ sc_law.nd)
  refine c_cons (cs_set 2 (ev_h (e_bin (e_bin (e_var 1 rfl) (e_strC [42, 32]) (bin_S (by simp; omega))) (e_callTy (cd_strN (n := n) (Nat.lt_trans hn (by decide +kernel))) (ea_cons ((e_bin (cl 2 rfl) (e_bin e_int e_int (bin_pow ⟨by decide, by decide, by decide⟩)) (bin_mod (by decide))).is (congrArg PyData.int en)) ea_nil) B.str) (bin_S (by simp; omega)))) ?_ sc_law.nd)
  refine c_cons (cs_cut (fun s => ∃ line : List Nat, line.length ≤ 100 ∧ s = [.dat (scr ns), .dat (S hd), .dat (S line), .no]) ?_ (fun s hs => ?_))
  · refine cs_if (t_cmp (e_bin (e_bin (cl 2 rfl) (e_bin e_int e_int (bin_pow ⟨by decide, by decide, by decide⟩)) (bin_div ⟨by decide, by decide⟩)) e_int (bin_mod (by decide))) e_int cmp_eqI) (fun _ => c_one (cs_set 2 (ev_h (e_bin (e_var 1 rfl) (e_strC (42 :: 32 :: nowhere)) (bin_S (by simp [nowhere]; omega)))) ⟨_, by simp [nowhere]; omega, rfl⟩ sc_law.nd)) (fun _ => c_nil ⟨_, by simp; omega, rfl⟩)
  obtain ⟨line, hl, rfl⟩ := hs
  refine c_cons (cs_cut (fun s => ∃ line : List Nat, line.length ≤ 200 ∧ s = [.dat (scr ns), .dat (S hd), .dat (S line), .no]) ?_ (fun s hs => ?_))
  · refine cs_if (t_cmp (e_bin (cl 3 rfl) e_int (bin_mod (by decide))) e_int cmp_gt) (fun _ => c_one (cs_set 2 (ev_h (e_call Gs hr (ea_cons (e_var 2 rfl) (ea_cons (e_bin (cl 3 rfl) e_int (bin_div ⟨by decide, by decide⟩)) (ea_cons (cl 4 rfl) ea_nil))) ⟨line, _, _, by omega, rfl, rfl⟩)) ⟨_, ?_, rfl⟩ sc_law.nd)) (fun _ => c_nil ⟨_, by omega, rfl⟩)
    unfold spoilL
    split
    · simp; omega
    · split
      · simp; omega
      · simp; omega
  clear hl
  obtain ⟨line, hl, rfl⟩ := hs
  refine c_cons (cs_cut (fun s => ∃ line : List Nat, line.length ≤ 200 ∧ s = [.dat (scr ns), .dat (S hd), .dat (S line), .no]) ?_ (fun s hs => ?_))
  · exact cs_if (t_cmp (e_bin (cl 5 rfl) e_int (bin_mod (by decide))) e_int cmp_eqI) (fun _ => c_one (cs_set 2 (ev_h (e_call Go hr (ea_cons (e_bin (cl 5 rfl) e_int (bin_div ⟨by decide, by decide⟩)) ea_nil) ⟨_, rfl, rfl⟩)) ⟨_, Nat.le_trans (oddL_len _) (by decide), rfl⟩ sc_law.nd)) (fun _ => c_nil ⟨_, hl, rfl⟩)
  clear hl
  obtain ⟨line, hl, rfl⟩ := hs
  refine c_cons (cs_set 3 (ev_h (e_call Gd hr (ea_cons (e_var 2 rfl) ea_nil) ⟨line, by omega, rfl, rfl⟩)) ?_ sc_law.nd)
  have tl : ∀ {sds : List (Option D)}, sds[2]? = some (some (S line)) → sds[3]? = some (some (duD (dueL line))) → ∀ {pa pb pc pd pe pf : Pos}, E (cxOf CX0 P w K mg base ["script", "head", "line", "due"] "law" (defScope s_law) fa cdv A outer s H Ew).nox sds
      (.Call (.Name "_law_right" pa) [.Call (.Name "_law_told" pb) [.Name "line" pc] [] pd, .Name "due" pe] [] pf) (.bool true) := fun {_} h h' {_ _ _ _ _ _} => e_call Gr hr (ea_cons (e_call Gt hr (ea_cons (e_var 2 h) ea_nil) ⟨line, by omega, rfl, rfl⟩) (ea_cons (e_var 3 h') ea_nil)) ⟨dueL line, by rw [read_due], rfl⟩
  exact c_one (cs_ret (e_and (tl rfl rfl) fun _ => e_one (tl rfl rfl)) rfl)

end
theorem all_mk {l : PySem.W.OpenLaw} {w : World} {K : PySem.W.Frag} {h : Heap} {mg : Str → Option Value} {fa : Addr} (X : K.In h) (G : h.Ns mainGlobals mg) (hfa : mg "law" = some (.ref fa))
    {f0 : Addr} {od0 an0 : Option Addr} {sl0 : Array (Option Value)} {oc0 kV0 dc0 pm0 cd0 ct0 : Value}
    (a0 : PySem.W.nsIn K mainGlobals "only_bits" = some (some (.ref f0))) (l0 : K.lookup f0 = some ⟨oc0, od0, .func (PySem.W.fnOf "only_bits" "only_bits" (defArgs s_only_bits) (defBody s_only_bits) (defScope s_only_bits) .none kV0 dc0 pm0 an0 cd0 ct0), sl0⟩) (c0 : PySem.W.codeIn K cd0 "only_bits" = true) (k0 : PySem.W.keepIn K (.ref f0) = true)
    {f1 : Addr} {od1 an1 : Option Addr} {sl1 : Array (Option Value)} {oc1 kV1 dc1 pm1 cd1 ct1 : Value}
    (a1 : PySem.W.nsIn K mainGlobals "read" = some (some (.ref f1))) (l1 : K.lookup f1 = some ⟨oc1, od1, .func (PySem.W.fnOf "read" "read" (defArgs s_read) (defBody s_read) (defScope s_read) .none kV1 dc1 pm1 an1 cd1 ct1), sl1⟩) (c1 : PySem.W.codeIn K cd1 "read" = true) (k1 : PySem.W.keepIn K (.ref f1) = true)
    {f2 : Addr} {od2 an2 : Option Addr} {sl2 : Array (Option Value)} {oc2 kV2 dc2 pm2 cd2 ct2 : Value}
    (a2 : PySem.W.nsIn K mainGlobals "_law_cell_at" = some (some (.ref f2))) (l2 : K.lookup f2 = some ⟨oc2, od2, .func (PySem.W.fnOf "_law_cell_at" "_law_cell_at" (defArgs s__law_cell_at) (defBody s__law_cell_at) (defScope s__law_cell_at) .none kV2 dc2 pm2 an2 cd2 ct2), sl2⟩) (c2 : PySem.W.codeIn K cd2 "_law_cell_at" = true) (k2 : PySem.W.keepIn K (.ref f2) = true)
    {f3 : Addr} {od3 an3 : Option Addr} {sl3 : Array (Option Value)} {oc3 kV3 dc3 pm3 cd3 ct3 : Value}
    (a3 : PySem.W.nsIn K mainGlobals "_law_whole" = some (some (.ref f3))) (l3 : K.lookup f3 = some ⟨oc3, od3, .func (PySem.W.fnOf "_law_whole" "_law_whole" (defArgs s__law_whole) (defBody s__law_whole) (defScope s__law_whole) .none kV3 dc3 pm3 an3 cd3 ct3), sl3⟩) (c3 : PySem.W.codeIn K cd3 "_law_whole" = true) (k3 : PySem.W.keepIn K (.ref f3) = true)
    {f4 : Addr} {od4 an4 : Option Addr} {sl4 : Array (Option Value)} {oc4 kV4 dc4 pm4 cd4 ct4 : Value}
    (a4 : PySem.W.nsIn K mainGlobals "_law_bits_by" = some (some (.ref f4))) (l4 : K.lookup f4 = some ⟨oc4, od4, .func (PySem.W.fnOf "_law_bits_by" "_law_bits_by" (defArgs s__law_bits_by) (defBody s__law_bits_by) (defScope s__law_bits_by) .none kV4 dc4 pm4 an4 cd4 ct4), sl4⟩) (c4 : PySem.W.codeIn K cd4 "_law_bits_by" = true) (k4 : PySem.W.keepIn K (.ref f4) = true)
    {f5 : Addr} {od5 an5 : Option Addr} {sl5 : Array (Option Value)} {oc5 kV5 dc5 pm5 cd5 ct5 : Value}
    (a5 : PySem.W.nsIn K mainGlobals "_law_way_is" = some (some (.ref f5))) (l5 : K.lookup f5 = some ⟨oc5, od5, .func (PySem.W.fnOf "_law_way_is" "_law_way_is" (defArgs s__law_way_is) (defBody s__law_way_is) (defScope s__law_way_is) .none kV5 dc5 pm5 an5 cd5 ct5), sl5⟩) (c5 : PySem.W.codeIn K cd5 "_law_way_is" = true) (k5 : PySem.W.keepIn K (.ref f5) = true)
    {f6 : Addr} {od6 an6 : Option Addr} {sl6 : Array (Option Value)} {oc6 kV6 dc6 pm6 cd6 ct6 : Value}
    (a6 : PySem.W.nsIn K mainGlobals "_law_sign_by" = some (some (.ref f6))) (l6 : K.lookup f6 = some ⟨oc6, od6, .func (PySem.W.fnOf "_law_sign_by" "_law_sign_by" (defArgs s__law_sign_by) (defBody s__law_sign_by) (defScope s__law_sign_by) .none kV6 dc6 pm6 an6 cd6 ct6), sl6⟩) (c6 : PySem.W.codeIn K cd6 "_law_sign_by" = true) (k6 : PySem.W.keepIn K (.ref f6) = true)
    {f7 : Addr} {od7 an7 : Option Addr} {sl7 : Array (Option Value)} {oc7 kV7 dc7 pm7 cd7 ct7 : Value}
    (a7 : PySem.W.nsIn K mainGlobals "_law_odd" = some (some (.ref f7))) (l7 : K.lookup f7 = some ⟨oc7, od7, .func (PySem.W.fnOf "_law_odd" "_law_odd" (defArgs s__law_odd) (defBody s__law_odd) (defScope s__law_odd) .none kV7 dc7 pm7 an7 cd7 ct7), sl7⟩) (c7 : PySem.W.codeIn K cd7 "_law_odd" = true) (k7 : PySem.W.keepIn K (.ref f7) = true)
    {f8 : Addr} {od8 an8 : Option Addr} {sl8 : Array (Option Value)} {oc8 kV8 dc8 pm8 cd8 ct8 : Value}
    (a8 : PySem.W.nsIn K mainGlobals "_law_told" = some (some (.ref f8))) (l8 : K.lookup f8 = some ⟨oc8, od8, .func (PySem.W.fnOf "_law_told" "_law_told" (defArgs s__law_told) (defBody s__law_told) (defScope s__law_told) .none kV8 dc8 pm8 an8 cd8 ct8), sl8⟩) (c8 : PySem.W.codeIn K cd8 "_law_told" = true) (k8 : PySem.W.keepIn K (.ref f8) = true)
    {f9 : Addr} {od9 an9 : Option Addr} {sl9 : Array (Option Value)} {oc9 kV9 dc9 pm9 cd9 ct9 : Value}
    (a9 : PySem.W.nsIn K mainGlobals "_law_right" = some (some (.ref f9))) (l9 : K.lookup f9 = some ⟨oc9, od9, .func (PySem.W.fnOf "_law_right" "_law_right" (defArgs s__law_right) (defBody s__law_right) (defScope s__law_right) .none kV9 dc9 pm9 an9 cd9 ct9), sl9⟩) (c9 : PySem.W.codeIn K cd9 "_law_right" = true) (k9 : PySem.W.keepIn K (.ref f9) = true)
    {f10 : Addr} {od10 an10 : Option Addr} {sl10 : Array (Option Value)} {oc10 kV10 dc10 pm10 cd10 ct10 : Value}
    (a10 : PySem.W.nsIn K mainGlobals "_law_due" = some (some (.ref f10))) (l10 : K.lookup f10 = some ⟨oc10, od10, .func (PySem.W.fnOf "_law_due" "_law_due" (defArgs s__law_due) (defBody s__law_due) (defScope s__law_due) .none kV10 dc10 pm10 an10 cd10 ct10), sl10⟩) (c10 : PySem.W.codeIn K cd10 "_law_due" = true) (k10 : PySem.W.keepIn K (.ref f10) = true)
    {f11 : Addr} {od11 an11 : Option Addr} {sl11 : Array (Option Value)} {oc11 kV11 dc11 pm11 cd11 ct11 : Value}
    (a11 : PySem.W.nsIn K mainGlobals "_law_spoiled" = some (some (.ref f11))) (l11 : K.lookup f11 = some ⟨oc11, od11, .func (PySem.W.fnOf "_law_spoiled" "_law_spoiled" (defArgs s__law_spoiled) (defBody s__law_spoiled) (defScope s__law_spoiled) .none kV11 dc11 pm11 an11 cd11 ct11), sl11⟩) (c11 : PySem.W.codeIn K cd11 "_law_spoiled" = true) (k11 : PySem.W.keepIn K (.ref f11) = true)
    {f12 : Addr} {od12 an12 : Option Addr} {sl12 : Array (Option Value)} {oc12 kV12 dc12 pm12 cd12 ct12 : Value}
    (a12 : PySem.W.nsIn K mainGlobals "law" = some (some (.ref f12))) (l12 : K.lookup f12 = some ⟨oc12, od12, .func (PySem.W.fnOf "law" "law" (defArgs s_law) (defBody s_law) (defScope s_law) .none kV12 dc12 pm12 an12 cd12 ct12), sl12⟩) (c12 : PySem.W.codeIn K cd12 "law" = true) (k12 : PySem.W.keepIn K (.ref f12) = true)
    {tk0 : Tok} (y0 : PySem.W.nsIn K mainGlobals "FIGURES" = some (some (.str (Str.ofString "0123456789") tk0)))
    (zV : PySem.W.nsIn K mainGlobals "ValueError" = some none)
    {E0 : Addr} (e0 : PySem.W.nsIn K mainGlobals "RoadError" = some (some (.ref E0))) (ci0 : PySem.W.isClsIn K E0 = true) (ct0 : PySem.W.typeIn K (.ref E0) = some (.type "type"))
    {E1 : Addr} (e1 : PySem.W.nsIn K mainGlobals "BadHead" = some (some (.ref E1))) (ci1 : PySem.W.isClsIn K E1 = true) (ct1 : PySem.W.typeIn K (.ref E1) = some (.type "type"))
    {E2 : Addr} (e2 : PySem.W.nsIn K mainGlobals "BadAddress" = some (some (.ref E2))) (ci2 : PySem.W.isClsIn K E2 = true) (ct2 : PySem.W.typeIn K (.ref E2) = some (.type "type"))
    {E3 : Addr} (e3 : PySem.W.nsIn K mainGlobals "BadSpan" = some (some (.ref E3))) (ci3 : PySem.W.isClsIn K E3 = true) (ct3 : PySem.W.typeIn K (.ref E3) = some (.type "type"))
    {E4 : Addr} (e4 : PySem.W.nsIn K mainGlobals "BadLine" = some (some (.ref E4))) (ci4 : PySem.W.isClsIn K E4 = true) (ct4 : PySem.W.typeIn K (.ref E4) = some (.type "type"))
    {E5 : Addr} (e5 : PySem.W.nsIn K mainGlobals "FullBoard" = some (some (.ref E5))) (ci5 : PySem.W.isClsIn K E5 = true) (ct5 : PySem.W.typeIn K (.ref E5) = some (.type "type"))
    {E6 : Addr} (e6 : PySem.W.nsIn K mainGlobals "NoHead" = some (some (.ref E6))) (ci6 : PySem.W.isClsIn K E6 = true) (ct6 : PySem.W.typeIn K (.ref E6) = some (.type "type"))
    (bE0 : PySem.W.subIn K (.ref E0) (.type "BaseException") = some true)
    (xq4 : PySem.W.excIn K E4 [.type "ValueError", .type "Exception", .type "BaseException", .type "object"] "ValueError.__new__" = true)
    (kC4 : PySem.W.keepIn K (.ref E4) = true)
    (bC4 : PySem.W.subIn K (.ref E4) (.type "BaseException") = some true)
    (tC4 : PySem.W.typeIn K (.ref E4) = some (.type "type"))
    (hg4 : PySem.W.findIn K (.ref E4) "__getattribute__" = some (some (.builtin "BaseException.__getattribute__")))
    (hk4 : PySem.W.findIn K (.ref E4) "__getattr__" = some none)
    (hd4 : PySem.W.hasDictIn K E4 = true)
    (ha4 : PySem.W.findIn K (.ref E4) "__class__" = some (some (.builtin "object.__class__")))
    (hn4 : PySem.W.specialIn K (.builtin "object.__class__") "__get__" = some (some (.builtin "getset_descriptor.__get__")))
    (ht4 : PySem.W.takesIn K (.builtin "object.__class__") = some true)
    (hm4 : PySem.W.mroIn K E4 (.type "object") = some true)
    (em4 : PySem.W.subIn K (.ref E4) (.ref E0) = some true)
    (kv4 : PySem.W.subIn K (.ref E4) (.type "ValueError") = some true)
    (kk4_1 : PySem.W.subIn K (.ref E4) (.ref E1) = some false)
    (kk4_2 : PySem.W.subIn K (.ref E4) (.ref E2) = some false)
    (kk4_3 : PySem.W.subIn K (.ref E4) (.ref E3) = some false)
    (kk4_4 : PySem.W.subIn K (.ref E4) (.ref E4) = some true)
    (kk4_5 : PySem.W.subIn K (.ref E4) (.ref E5) = some false)
    (kk4_6 : PySem.W.subIn K (.ref E4) (.ref E6) = some false)
    (z0 : PySem.W.nsIn K mainGlobals "len" = some none)
    (z1 : PySem.W.nsIn K mainGlobals "range" = some none)
    (z2 : PySem.W.nsIn K mainGlobals "int" = some none)
    (z3 : PySem.W.nsIn K mainGlobals "str" = some none)
    (z4 : PySem.W.nsIn K mainGlobals "bool" = some none)
    (z5 : PySem.W.nsIn K mainGlobals "list" = some none)
    (z6 : PySem.W.nsIn K mainGlobals "tuple" = some none)
    (z7 : PySem.W.nsIn K mainGlobals "set" = some none)
    (z8 : PySem.W.nsIn K mainGlobals "sorted" = some none)
    (z9 : PySem.W.nsIn K mainGlobals "reversed" = some none)
    (z10 : PySem.W.nsIn K mainGlobals "isinstance" = some none)
    (z11 : PySem.W.nsIn K mainGlobals "max" = some none)
    (z12 : PySem.W.nsIn K mainGlobals "min" = some none)
    : ∃ fd : FuncData, (∀ (s : Shared) (v : Value), BindsTo s fd ⟨[v], []⟩ [("script", v)]) ∧ ∀ base : Heap, K.In base → base.Ns mainGlobals mg → FnOk l.prog w K mg base CX0 6 fa fd ["script"] (spLaw K) := by
  have e := hfa.symm.trans (PySem.W.mg_of X G a12)
  cases e
  have A0 : FnAt K mg "only_bits" s_only_bits ["text"] := fnAt_mk X G a0 l0 c0 k0 fun _ _ _ _ _ _ us hl => match us, hl with | [_], _ => rfl
  have A1 : FnAt K mg "read" s_read ["line"] := fnAt_mk X G a1 l1 c1 k1 fun _ _ _ _ _ _ us hl => match us, hl with | [_], _ => rfl
  have A2 : FnAt K mg "_law_cell_at" s__law_cell_at ["script", "k"] := fnAt_mk X G a2 l2 c2 k2 fun _ _ _ _ _ _ us hl => match us, hl with | [_, _], _ => rfl
  have A3 : FnAt K mg "_law_whole" s__law_whole ["found"] := fnAt_mk X G a3 l3 c3 k3 fun _ _ _ _ _ _ us hl => match us, hl with | [_], _ => rfl
  have A4 : FnAt K mg "_law_bits_by" s__law_bits_by ["cell", "size"] := fnAt_mk X G a4 l4 c4 k4 fun _ _ _ _ _ _ us hl => match us, hl with | [_, _], _ => rfl
  have A5 : FnAt K mg "_law_way_is" s__law_way_is ["found", "due"] := fnAt_mk X G a5 l5 c5 k5 fun _ _ _ _ _ _ us hl => match us, hl with | [_, _], _ => rfl
  have A6 : FnAt K mg "_law_sign_by" s__law_sign_by ["cell"] := fnAt_mk X G a6 l6 c6 k6 fun _ _ _ _ _ _ us hl => match us, hl with | [_], _ => rfl
  have A7 : FnAt K mg "_law_odd" s__law_odd ["cell"] := fnAt_mk X G a7 l7 c7 k7 fun _ _ _ _ _ _ us hl => match us, hl with | [_], _ => rfl
  have A8 : FnAt K mg "_law_told" s__law_told ["line"] := fnAt_mk X G a8 l8 c8 k8 fun _ _ _ _ _ _ us hl => match us, hl with | [_], _ => rfl
  have A9 : FnAt K mg "_law_right" s__law_right ["got", "due"] := fnAt_mk X G a9 l9 c9 k9 fun _ _ _ _ _ _ us hl => match us, hl with | [_, _], _ => rfl
  have A10 : FnAt K mg "_law_due" s__law_due ["line"] := fnAt_mk X G a10 l10 c10 k10 fun _ _ _ _ _ _ us hl => match us, hl with | [_], _ => rfl
  have A11 : FnAt K mg "_law_spoiled" s__law_spoiled ["line", "cell", "other"] := fnAt_mk X G a11 l11 c11 k11 fun _ _ _ _ _ _ us hl => match us, hl with | [_, _, _], _ => rfl
  have FL := fun_mk (st := s_law) l12 c12 k12
  have B : Bt mg := ⟨PySem.W.mg_none_of X G z0, PySem.W.mg_none_of X G z1, PySem.W.mg_none_of X G z2, PySem.W.mg_none_of X G z3, PySem.W.mg_none_of X G z4, PySem.W.mg_none_of X G z5, PySem.W.mg_none_of X G z6, PySem.W.mg_none_of X G z7, PySem.W.mg_none_of X G z8, PySem.W.mg_none_of X G z9, PySem.W.mg_none_of X G z10, PySem.W.mg_none_of X G z11, PySem.W.mg_none_of X G z12⟩
  refine ⟨PySem.W.fnOf "law" "law" (defArgs s_law) (defBody s_law) (defScope s_law) .none kV12 dc12 pm12 an12 cd12 ct12, fun s v => .of_eq rfl, fun base _ _ => ?_⟩
  have C0 := PySem.W.mg_of X G y0
  have X4 : ErrS K mg "BadLine" := ⟨E4, E0, E1, E2, E3, E4, E5, E6, ⟨PySem.W.mg_of X G e4, xq4, kC4, bC4, tC4, ⟨hg4, hk4, bC4, hd4, ha4, hn4, ht4, hm4⟩⟩, PySem.W.mg_of X G e0, exm_ref' bE0 ci0 ct0 em4, ⟨PySem.W.mg_none_of X G zV, kit_ve kv4⟩, ⟨PySem.W.mg_of X G e1, kit_ref ci1 ct1 kk4_1 kk4_4⟩, ⟨PySem.W.mg_of X G e2, kit_ref ci2 ct2 kk4_2 kk4_4⟩, ⟨PySem.W.mg_of X G e3, kit_ref ci3 ct3 kk4_3 kk4_4⟩, ⟨PySem.W.mg_of X G e4, kit_ref ci4 ct4 kk4_4 kk4_4⟩, ⟨PySem.W.mg_of X G e5, kit_ref ci5 ct5 kk4_5 kk4_4⟩, ⟨PySem.W.mg_of X G e6, kit_ref ci6 ct6 kk4_6 kk4_4⟩⟩
  have G0 := ok_only_bits (P := l.prog) (w := w) (base := base) B  A0
  have G1 := ok_read (P := l.prog) (w := w) (base := base) B ⟨_, C0⟩ X4 G0 A1
  have G2 := ok__law_cell_at (P := l.prog) (w := w) (base := base) B  A2
  have G3 := ok__law_whole (P := l.prog) (w := w) (base := base) B  A3
  have G4 := ok__law_bits_by (P := l.prog) (w := w) (base := base) B  A4
  have G5 := ok__law_way_is (P := l.prog) (w := w) (base := base) B G3 A5
  have G6 := ok__law_sign_by (P := l.prog) (w := w) (base := base) B  A6
  have G7 := ok__law_odd (P := l.prog) (w := w) (base := base) B  A7
  have G8 := ok__law_told (P := l.prog) (w := w) (base := base) B X4 G1 A8
  have G9 := ok__law_right (P := l.prog) (w := w) (base := base) B G5 G8 A9
  have G10 := ok__law_due (P := l.prog) (w := w) (base := base) B G9 A10
  have G11 := ok__law_spoiled (P := l.prog) (w := w) (base := base) B G6 A11
  exact (ok_law B G2 G4 G11 G7 G8 G9 G10 FL).imp fun _ _ _ _ h => law_imp h
end HR
open PySem PySem.W PyProof.Rows
set_option maxHeartbeats 0 in
theorem PySem.Challenge.cw_headroad_k12_lines_refused_holds : PySem.Challenge.rw_headroad_k12_lines_refused.Holds := by
  w_on; o_law; k_head; (case hw => w_witness2)
  k_fill
  refine L2.walk_of (l := PySem.Challenge.rw_headroad_k12_lines_refused) (n := 63) (k := 6) (x := "script") (CX := fun _ => L2.CX0) (sp := fun w => Lay.spLaw _) rfl (by decide) rfl ⟨rfl, by decide, by decide⟩ (fun w h Y => PySem.W.kIn_of Y) ?F (fun _ _ a ns hl _ hS => ⟨a, ns, rfl, hS, hl, fun _ => rfl⟩) (fun _ _ _ _ _ h => h)
  case F =>
    intro w mg fa h KX G hmg
    refine' HR.all_mk KX G hmg ?a0 ?l0 ?c0 ?k0 ?a1 ?l1 ?c1 ?k1 ?a2 ?l2 ?c2 ?k2 ?a3 ?l3 ?c3 ?k3 ?a4 ?l4 ?c4 ?k4 ?a5 ?l5 ?c5 ?k5 ?a6 ?l6 ?c6 ?k6 ?a7 ?l7 ?c7 ?k7 ?a8 ?l8 ?c8 ?k8 ?a9 ?l9 ?c9 ?k9 ?a10 ?l10 ?c10 ?k10 ?a11 ?l11 ?c11 ?k11 ?a12 ?l12 ?c12 ?k12 ?y0 ?zV ?e0 ?ci0 ?ct0 ?e1 ?ci1 ?ct1 ?e2 ?ci2 ?ct2 ?e3 ?ci3 ?ct3 ?e4 ?ci4 ?ct4 ?e5 ?ci5 ?ct5 ?e6 ?ci6 ?ct6 ?bE0 ?xq4 ?kC4 ?bC4 ?tC4 ?hg4 ?hk4 ?hd4 ?ha4 ?hn4 ?ht4 ?hm4 ?em4 ?kv4 ?kk4_1 ?kk4_2 ?kk4_3 ?kk4_4 ?kk4_5 ?kk4_6 ?z0 ?z1 ?z2 ?z3 ?z4 ?z5 ?z6 ?z7 ?z8 ?z9 ?z10 ?z11 ?z12
    (case a0 => k_is)
    (case l0 => k_is)
    (case c0 => k_is)
    (case k0 => k_is)
    (case a1 => k_is)
    (case l1 => k_is)
    (case c1 => k_is)
    (case k1 => k_is)
    (case a2 => k_is)
    (case l2 => k_is)
    (case c2 => k_is)
    (case k2 => k_is)
    (case a3 => k_is)
    (case l3 => k_is)
    (case c3 => k_is)
    (case k3 => k_is)
    (case a4 => k_is)
    (case l4 => k_is)
    (case c4 => k_is)
    (case k4 => k_is)
    (case a5 => k_is)
    (case l5 => k_is)
    (case c5 => k_is)
    (case k5 => k_is)
    (case a6 => k_is)
    (case l6 => k_is)
    (case c6 => k_is)
    (case k6 => k_is)
    (case a7 => k_is)
    (case l7 => k_is)
    (case c7 => k_is)
    (case k7 => k_is)
    (case a8 => k_is)
    (case l8 => k_is)
    (case c8 => k_is)
    (case k8 => k_is)
    (case a9 => k_is)
    (case l9 => k_is)
    (case c9 => k_is)
    (case k9 => k_is)
    (case a10 => k_is)
    (case l10 => k_is)
    (case c10 => k_is)
    (case k10 => k_is)
    (case a11 => k_is)
    (case l11 => k_is)
    (case c11 => k_is)
    (case k11 => k_is)
    (case a12 => k_is)
    (case l12 => k_is)
    (case c12 => k_is)
    (case k12 => k_is)
    (case y0 => k_is)
    (case zV => k_is)
    (case e0 => k_is)
    (case ci0 => k_is)
    (case ct0 => k_is)
    (case e1 => k_is)
    (case ci1 => k_is)
    (case ct1 => k_is)
    (case e2 => k_is)
    (case ci2 => k_is)
    (case ct2 => k_is)
    (case e3 => k_is)
    (case ci3 => k_is)
    (case ct3 => k_is)
    (case e4 => k_is)
    (case ci4 => k_is)
    (case ct4 => k_is)
    (case e5 => k_is)
    (case ci5 => k_is)
    (case ct5 => k_is)
    (case e6 => k_is)
    (case ci6 => k_is)
    (case ct6 => k_is)
    (case bE0 => k_is)
    (case xq4 => first | k_exc | k_is)
    (case kC4 => k_is)
    (case bC4 => k_is)
    (case tC4 => k_is)
    (case hg4 => k_is)
    (case hk4 => k_is)
    (case hd4 => k_is)
    (case ha4 => k_is)
    (case hn4 => k_is)
    (case ht4 => k_is)
    (case hm4 => k_is)
    (case em4 => k_is)
    (case kv4 => k_is)
    (case kk4_1 => k_is)
    (case kk4_2 => k_is)
    (case kk4_3 => k_is)
    (case kk4_4 => k_is)
    (case kk4_5 => k_is)
    (case kk4_6 => k_is)
    (case z0 => k_is)
    (case z1 => k_is)
    (case z2 => k_is)
    (case z3 => k_is)
    (case z4 => k_is)
    (case z5 => k_is)
    (case z6 => k_is)
    (case z7 => k_is)
    (case z8 => k_is)
    (case z9 => k_is)
    (case z10 => k_is)
    (case z11 => k_is)
    (case z12 => k_is)
