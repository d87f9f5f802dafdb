import PyProof.Rows.All
import Wide.All
import OpenK.AllK
import Wide.FinOn
import HandS.ForMost
import HandS.TupAny
import HandS.TupMul
import HandS.Style
import HandS.Deep
import HandS.IsInst
import HandS.RaiseMore
import HandS.SortInts
import HandS.Conv
import HandS.SetKeys
import HandS.Finally
import HandS.Zip
import HandS.More
import KE.GoesMore
import KE.GoesZip
import KE.GoesEnum
import KE.KDictZip
import HandS.Exc
import HandS.ExcValue
import KE.KDictPairs
import HandS.TupSets
import KE.KeyNested
import KE.SortData
import HandS.Text
import HandS.Codes
import PyProof.Rows.ReprOcc
import PyProof.ReprLen
import PySem.Challenge.RW_nearestkinds_k11_whole_implied
set_option Elab.async false
set_option linter.all false
set_option maxRecDepth 100000
set_option maxHeartbeats 4000000
/-! DA: values as trees (D), what is frozen (F), what may still change (M), and readings over these. -/
namespace DL
open PySem PySem.Spec PyProof.Rows L2

/-- a value seen as a tree; ref: a list, a dict, an instance that may still change, or a def, a class -/
inductive D where
  | non | bl (b : Bool) | int (i : Int) | str (s : Str)
  | tup (xs : List D) | lst (xs : List D) | dct (kvs : List (Key × D))
  | ref (a : Addr) | ty (n : String) | ins (C : Addr) (fs : List (Str × D))
  /-- a list that was there ahead of the law: read alone -/
  | rol (xs : List D)
  /-- a tuple of which it is known that nothing hangs at it -/
  | ptp (xs : List D)

/-- what stands at an address that may still change -/
inductive MO where
  | lst (xs : List D) | dct (kvs : List (Key × D)) | ins (C : Addr) (fs : List (Str × D))

abbrev Sto := Addr → Option MO
def Sto.upd (M : Sto) (a : Addr) (o : MO) : Sto := fun b => if b = a then some o else M b
@[simp] theorem Sto.upd_same {M : Sto} {a : Addr} {o : MO} : M.upd a o a = some o := by unfold Sto.upd; rw [if_pos rfl]
theorem Sto.upd_ne {M : Sto} {a b : Addr} {o : MO} (h : b ≠ a) : M.upd a o b = M b := by unfold Sto.upd; rw [if_neg h]
theorem Sto.upd_upd {M : Sto} {a : Addr} {o u : MO} : (M.upd a o).upd a u = M.upd a u := by
  funext b; unfold Sto.upd; split <;> rfl
def Sto.del (M : Sto) (a : Addr) : Sto := fun b => if b = a then none else M b
theorem Sto.del_ne {M : Sto} {a b : Addr} (h : b ≠ a) : M.del a b = M b := by unfold Sto.del; rw [if_neg h]
theorem Sto.del_same {M : Sto} {a : Addr} : M.del a a = none := by unfold Sto.del; rw [if_pos rfl]
/-- M knows less than M' -/
def Sto.le (M M' : Sto) : Prop := ∀ a o, M a = some o → M' a = some o
theorem Sto.le_refl (M : Sto) : M.le M := fun _ _ h => h
theorem Sto.le_trans {M M1 M2 : Sto} (a : M.le M1) (b : M1.le M2) : M.le M2 := fun x o h => b x o (a x o h)
theorem Sto.ne {M : Sto} {a b : Addr} {o : MO} (h : M a = some o) (h' : M b = none) : a ≠ b := by
  intro e; subst e; rw [h] at h'; cases h'
theorem Sto.le_new {M : Sto} {a : Addr} {o : MO} (h : M a = none) : M.le (M.upd a o) := fun b u e => by
  rw [Sto.upd_ne (Sto.ne e h)]; exact e
theorem Sto.del_new {M : Sto} {a : Addr} {o : MO} (h : M a = none) : (M.upd a o).del a = M := by
  funext b
  by_cases e : b = a
  · rw [e, Sto.del_same, h]
  · rw [Sto.del_ne e, Sto.upd_ne e]

/-! ### a value v, by what is frozen, is the tree d -/
mutual
inductive RelD (K : PySem.W.Frag) (F : Hp) : V → D → Prop
  | non : RelD K F .non .non
  | bl (b : Bool) : RelD K F (.bl b) (.bl b)
  | int (i : Int) : RelD K F (.int i) (.int i)
  | str (s : Str) : RelD K F (.str s) (.str s)
  | tup {a : Addr} {xs : List V} {ds : List D} : SqT K F a xs → RelDs K F xs ds → RelD K F (.ref a) (.tup ds)
  | lst {a : Addr} {xs : List V} {ds : List D} : F a = some (.lst xs) → RelDs K F xs ds → RelD K F (.ref a) (.lst ds)
  | rol {a : Addr} {xs : List V} {ds : List D} : SqL K F a xs → RelDs K F xs ds → RelD K F (.ref a) (.rol ds)
  | ptp {a : Addr} {o : Obj} {xs : List V} {ds : List D} : F a = some (.frz o (.tup xs)) → o.dict = none → RelDs K F xs ds → RelD K F (.ref a) (.ptp ds)
  | dct {a : Addr} {kvs : List (Key × V)} {ds : List (Key × D)} : Rd F a (.dK kvs) → RelKv K F kvs ds → RelD K F (.ref a) (.dct ds)
  | ref (a : Addr) : RelD K F (.ref a) (.ref a)
  | ty (n : String) : RelD K F (.ty n) (.ty n)
  | ins {a C dx : Addr} {fs : List (Str × V)} {ds : List (Str × D)} : F a = some (.ins C dx fs) → RelFs K F fs ds → RelD K F (.ref a) (.ins C ds)
inductive RelDs (K : PySem.W.Frag) (F : Hp) : List V → List D → Prop
  | nil : RelDs K F [] []
  | cons {v : V} {vs : List V} {d : D} {ds : List D} : RelD K F v d → RelDs K F vs ds → RelDs K F (v :: vs) (d :: ds)
inductive RelKv (K : PySem.W.Frag) (F : Hp) : List (Key × V) → List (Key × D) → Prop
  | nil : RelKv K F [] []
  | cons {k : Key} {v : V} {vs : List (Key × V)} {d : D} {ds : List (Key × D)} : RelD K F v d → RelKv K F vs ds → RelKv K F ((k, v) :: vs) ((k, d) :: ds)
inductive RelFs (K : PySem.W.Frag) (F : Hp) : List (Str × V) → List (Str × D) → Prop
  | nil : RelFs K F [] []
  | cons {k : Str} {v : V} {vs : List (Str × V)} {d : D} {ds : List (Str × D)} : RelD K F v d → RelFs K F vs ds → RelFs K F ((k, v) :: vs) ((k, d) :: ds)
end

/-- F' has all that F has -/
def Ext (F F' : Hp) : Prop := ∀ a o, F a = some o → F' a = some o
theorem Ext.refl (F : Hp) : Ext F F := fun _ _ h => h
theorem Ext.trans {F F1 F2 : Hp} (a : Ext F F1) (b : Ext F1 F2) : Ext F F2 := fun x o h => b x o (a x o h)
theorem Ext.new {F : Hp} {a : Addr} {o : HO} (h : F a = none) : Ext F (upd F a o) := fun b u e => by
  rw [upd_ne (ne_of_none e h)]; exact e
theorem Ext.rd {F F' : Hp} {a : Addr} {u : HO} (e : Ext F F') (h : Rd F a u) : Rd F' a u := by
  rcases h with h | ⟨o, h⟩
  · exact Or.inl (e a _ h)
  · exact Or.inr ⟨o, e a _ h⟩
theorem Ext.sqL {K : PySem.W.Frag} {F F' : Hp} {a : Addr} {xs : List V} (e : Ext F F') (h : SqL K F a xs) : SqL K F' a xs := by
  rcases h with h | h
  · exact Or.inl (e.rd h)
  · exact Or.inr h
theorem Ext.sqT {K : PySem.W.Frag} {F F' : Hp} {a : Addr} {xs : List V} (e : Ext F F') (h : SqT K F a xs) : SqT K F' a xs := by
  rcases h with h | h
  · exact Or.inl (e.rd h)
  · exact Or.inr h
mutual
theorem RelD.mono {K : PySem.W.Frag} {F F' : Hp} (e : Ext F F') : ∀ {v : V} {d : D}, RelD K F v d → RelD K F' v d
  | _, _, .non => .non
  | _, _, .bl b => .bl b
  | _, _, .int i => .int i
  | _, _, .str s => .str s
  | _, _, .tup h r => .tup (e.sqT h) (RelDs.mono e r)
  | _, _, .lst h r => .lst (e _ _ h) (RelDs.mono e r)
  | _, _, .rol h r => .rol (e.sqL h) (RelDs.mono e r)
  | _, _, .ptp h n r => .ptp (e _ _ h) n (RelDs.mono e r)
  | _, _, .dct h r => .dct (e.rd h) (RelKv.mono e r)
  | _, _, .ref a => .ref a
  | _, _, .ty n => .ty n
  | _, _, .ins h r => .ins (e _ _ h) (RelFs.mono e r)
theorem RelDs.mono {K : PySem.W.Frag} {F F' : Hp} (e : Ext F F') : ∀ {v : List V} {d : List D}, RelDs K F v d → RelDs K F' v d
  | _, _, .nil => .nil
  | _, _, .cons h r => .cons (RelD.mono e h) (RelDs.mono e r)
theorem RelKv.mono {K : PySem.W.Frag} {F F' : Hp} (e : Ext F F') : ∀ {v : List (Key × V)} {d : List (Key × D)}, RelKv K F v d → RelKv K F' v d
  | _, _, .nil => .nil
  | _, _, .cons h r => .cons (RelD.mono e h) (RelKv.mono e r)
theorem RelFs.mono {K : PySem.W.Frag} {F F' : Hp} (e : Ext F F') : ∀ {v : List (Str × V)} {d : List (Str × D)}, RelFs K F v d → RelFs K F' v d
  | _, _, .nil => .nil
  | _, _, .cons h r => .cons (RelD.mono e h) (RelFs.mono e r)
end
section
variable {K : PySem.W.Frag} {F : Hp}
theorem RelDs.length : ∀ {vs : List V} {ds : List D}, RelDs K F vs ds → vs.length = ds.length
  | _, _, .nil => rfl
  | _, _, .cons _ r => by rw [List.length_cons, List.length_cons, RelDs.length r]
theorem RelDs.get : ∀ {vs : List V} {ds : List D}, RelDs K F vs ds → ∀ {i : Nat} {d : D}, ds[i]? = some d → ∃ v, vs[i]? = some v ∧ RelD K F v d
  | _, _, .nil, i, d, h => by simp at h
  | _, _, .cons h r, 0, d, e => by simp at e; subst e; exact ⟨_, rfl, h⟩
  | _, _, .cons h r, i + 1, d, e => by
    obtain ⟨v, h1, h2⟩ := RelDs.get r (i := i) (d := d) (by simpa using e)
    exact ⟨v, by simpa using h1, h2⟩
theorem RelDs.getV : ∀ {vs : List V} {ds : List D}, RelDs K F vs ds → ∀ {i : Nat} {v : V}, vs[i]? = some v → ∃ d, ds[i]? = some d ∧ RelD K F v d
  | _, _, .nil, i, d, h => by simp at h
  | _, _, .cons h r, 0, d, e => by simp at e; subst e; exact ⟨_, rfl, h⟩
  | _, _, .cons h r, i + 1, d, e => by
    obtain ⟨v, h1, h2⟩ := RelDs.getV r (i := i) (v := d) (by simpa using e)
    exact ⟨v, by simpa using h1, h2⟩
theorem RelDs.append : ∀ {vs ws : List V} {ds es : List D}, RelDs K F vs ds → RelDs K F ws es → RelDs K F (vs ++ ws) (ds ++ es)
  | _, _, _, _, .nil, s => s
  | _, _, _, _, .cons h r, s => .cons h (RelDs.append r s)
theorem RelDs.drop : ∀ {vs : List V} {ds : List D} (n : Nat), RelDs K F vs ds → RelDs K F (vs.drop n) (ds.drop n)
  | _, _, 0, r => r
  | _, _, _ + 1, .nil => .nil
  | _, _, n + 1, .cons _ r => RelDs.drop n r
theorem RelDs.take : ∀ {vs : List V} {ds : List D} (n : Nat), RelDs K F vs ds → RelDs K F (vs.take n) (ds.take n)
  | _, _, 0, _ => .nil
  | _, _, _ + 1, .nil => .nil
  | _, _, n + 1, .cons h r => .cons h (RelDs.take n r)
theorem RelDs.set : ∀ {vs : List V} {ds : List D} (i : Nat) {v : V} {d : D}, RelDs K F vs ds → RelD K F v d → RelDs K F (vs.set i v) (ds.set i d)
  | _, _, _, _, _, .nil, _ => .nil
  | _, _, 0, _, _, .cons _ r, q => .cons q r
  | _, _, i + 1, _, _, .cons h r, q => .cons h (RelDs.set i r q)
theorem RelDs.eraseIdx : ∀ {vs : List V} {ds : List D} (i : Nat), RelDs K F vs ds → RelDs K F (vs.eraseIdx i) (ds.eraseIdx i)
  | _, _, _, .nil => .nil
  | _, _, 0, .cons _ r => r
  | _, _, i + 1, .cons h r => .cons h (RelDs.eraseIdx i r)
theorem RelDs.reverse {vs : List V} {ds : List D} (r : RelDs K F vs ds) : RelDs K F vs.reverse ds.reverse := by
  have go : ∀ {vs ws : List V} {ds es : List D}, RelDs K F vs ds → RelDs K F ws es → RelDs K F (vs.reverseAux ws) (ds.reverseAux es) := by
    intro vs
    induction vs with
    | nil => intro ws ds es h k; cases h; exact k
    | cons v vs ih => intro ws ds es h k; cases h with
      | cons h1 h2 =>
        have z := ih h2 (RelDs.cons h1 k)
        exact z
  exact go r .nil
end

/-! ### the state -/
abbrev DSt := List (Option D)
def RelO (K : PySem.W.Frag) (F : Hp) : HO → MO → Prop
  | .lst vs, .lst ds => RelDs K F vs ds
  | .dK kvs, .dct ds => RelKv K F kvs ds
  | .ins C _ fs, .ins C' ds => C = C' ∧ RelFs K F fs ds
  | _, _ => False
theorem RelO.mono {K : PySem.W.Frag} {F F' : Hp} (e : Ext F F') {h : HO} {o : MO} (r : RelO K F h o) : RelO K F' h o := by
  cases h <;> cases o <;> first | exact False.elim r | skip
  · exact RelDs.mono e r
  · exact RelKv.mono e r
  · exact ⟨r.1, RelFs.mono e r.2⟩
/-- the heap without the slots -/
structure Rst0 (K : PySem.W.Frag) (F H : Hp) (M : Sto) : Prop where
  sub : Ext F H
  sto : ∀ a o, M a = some o → F a = none ∧ ∃ ho, H a = some ho ∧ RelO K F ho o
structure RelSl (K : PySem.W.Frag) (F : Hp) (σ : L2.St) (τ : DSt) : Prop where
  len : σ.length = τ.length
  get : ∀ (i : Nat) (d : D), τ[i]? = some (some d) → ∃ v, σ[i]? = some (some v) ∧ RelD K F v d
structure Rst (K : PySem.W.Frag) (F H : Hp) (σ : L2.St) (τ : DSt) (M : Sto) : Prop where
  heap : Rst0 K F H M
  slots : RelSl K F σ τ
section
variable {K : PySem.W.Frag} {F F' H : Hp} {σ : L2.St} {τ : DSt} {M M' : Sto} {a p : Addr} {v : V} {d : D}
theorem RelSl.mono (e : Ext F F') (r : RelSl K F σ τ) : RelSl K F' σ τ := ⟨r.len, fun i d h => by
  obtain ⟨v, h1, h2⟩ := r.get i d h
  exact ⟨v, h1, h2.mono e⟩⟩
theorem RelSl.set (r : RelSl K F σ τ) (i : Nat) (h : RelD K F v d) : RelSl K F (σ.set i (some v)) (τ.set i (some d)) := by
  refine ⟨by rw [List.length_set, List.length_set, r.len], fun j e he => ?_⟩
  by_cases hj : j = i
  · subst hj
    have hl : j < τ.length := by
      have := (List.getElem?_eq_some_iff.mp he).1
      rw [List.length_set] at this; exact this
    rw [List.getElem?_set_self hl] at he
    cases he
    exact ⟨v, List.getElem?_set_self (by rw [r.len]; exact hl), h⟩
  · rw [List.getElem?_set_ne (Ne.symm hj)] at he ⊢
    exact r.get j e he
theorem RelSl.forget (r : RelSl K F σ τ) (i : Nat) : RelSl K F σ (τ.set i none) := by
  refine ⟨by rw [List.length_set, r.len], fun j e he => ?_⟩
  by_cases hj : j = i
  · subst hj
    have hl : j < τ.length := by
      have := (List.getElem?_eq_some_iff.mp he).1
      rw [List.length_set] at this; exact this
    rw [List.getElem?_set_self hl] at he
    cases he
  · rw [List.getElem?_set_ne (Ne.symm hj)] at he
    exact r.get j e he
theorem Rst0.less (r : Rst0 K F H M') (h : M.le M') : Rst0 K F H M := ⟨r.sub, fun a o e => r.sto a o (h a o e)⟩
theorem Rst0.free (r : Rst0 K F H M) (h : H p = none) : F p = none ∧ M p = none := by
  constructor
  · cases e : F p with
    | none => rfl
    | some o => rw [r.sub p o e] at h; cases h
  · cases e : M p with
    | none => rfl
    | some o => obtain ⟨_, ho, h1, _⟩ := r.sto p o e; rw [h1] at h; cases h
/-- from F, H, M on: what is frozen stays, what M does not know is left alone -/
structure Stp (F H : Hp) (M : Sto) (F' H' : Hp) (M' : Sto) : Prop where
  ext : Ext F F'
  kp : ∀ a o, H a = some o → M a = none → H' a = some o ∧ M' a = none ∧ (F a = none → F' a = none)
  al : ∀ a, H' a = none → H a = none
theorem Stp.refl (F H : Hp) (M : Sto) : Stp F H M F H M := ⟨Ext.refl F, fun a o h m => ⟨h, m, fun z => z⟩, fun _ h => h⟩
theorem Stp.trans {F H F1 H1 F2 H2 : Hp} {M M1 M2 : Sto} (x : Stp F H M F1 H1 M1) (y : Stp F1 H1 M1 F2 H2 M2) : Stp F H M F2 H2 M2 :=
  ⟨x.ext.trans y.ext, fun a o h m => by
    obtain ⟨h1, m1, f1⟩ := x.kp a o h m
    obtain ⟨h2, m2, f2⟩ := y.kp a o h1 m1
    exact ⟨h2, m2, fun z => f2 (f1 z)⟩, fun a h => x.al a (y.al a h)⟩
theorem Stp.less {F H F1 H1 : Hp} {M M1 M2 : Sto} (x : Stp F H M F1 H1 M1) (h : M2.le M1) : Stp F H M F1 H1 M2 := by
  refine ⟨x.ext, fun a o e m => ?_, x.al⟩
  obtain ⟨h1, m1, f1⟩ := x.kp a o e m
  refine ⟨h1, ?_, f1⟩
  cases q : M2 a with
  | none => rfl
  | some u => rw [h a u q] at m1; cases m1
theorem upd_al {H : Hp} {p : Addr} {o : HO} (a : Addr) (h : upd H p o a = none) : H a = none := by
  by_cases e : a = p
  · subst e; rw [upd_same] at h; cases h
  · rw [upd_ne e] at h; exact h
/-- a new object that is frozen at once -/
theorem Rst0.frozen (r : Rst0 K F H M) {o : HO} (h : H p = none) : Stp F H M (upd F p o) (upd H p o) M ∧ Rst0 K (upd F p o) (upd H p o) M := by
  obtain ⟨hf, hm⟩ := r.free h
  have e := Ext.new (o := o) hf
  refine ⟨⟨e, fun b u q n => ?_, upd_al⟩, fun b u q => ?_, fun b u q => ?_⟩
  · have hb := ne_of_none q h
    exact ⟨by rw [upd_ne hb]; exact q, n, fun z => by rw [upd_ne hb]; exact z⟩
  · by_cases hb : b = p
    · subst hb; rw [upd_same] at q ⊢; exact q
    · rw [upd_ne hb] at q ⊢; exact r.sub b u q
  · have hb : b ≠ p := Sto.ne q hm
    obtain ⟨h1, ho, h2, h3⟩ := r.sto b u q
    exact ⟨by rw [upd_ne hb]; exact h1, ho, by rw [upd_ne hb]; exact h2, h3.mono e⟩
/-- a new object that may change -/
theorem Rst0.fresh (r : Rst0 K F H M) {o : HO} {u : MO} (h : H p = none) (q : RelO K F o u) : Stp F H M F (upd H p o) (M.upd p u) ∧ Rst0 K F (upd H p o) (M.upd p u) := by
  obtain ⟨hf, hm⟩ := r.free h
  refine ⟨⟨Ext.refl F, fun b w e n => ?_, upd_al⟩, fun b w e => ?_, fun b w e => ?_⟩
  · have hb := ne_of_none e h
    exact ⟨by rw [upd_ne hb]; exact e, by rw [Sto.upd_ne hb]; exact n, fun z => z⟩
  · rw [upd_ne (ne_of_none e hf)]; exact r.sub b w e
  · by_cases hb : b = p
    · subst hb
      rw [Sto.upd_same] at e; cases e
      exact ⟨hf, o, upd_same, q⟩
    · rw [Sto.upd_ne hb] at e
      obtain ⟨h1, ho, h2, h3⟩ := r.sto b w e
      exact ⟨h1, ho, by rw [upd_ne hb]; exact h2, h3⟩
/-- an object is written -/
theorem Rst0.write (r : Rst0 K F H M) {o : HO} {u w : MO} (h : M p = some w) (q : RelO K F o u) : Stp F H M F (upd H p o) (M.upd p u) ∧ Rst0 K F (upd H p o) (M.upd p u) := by
  obtain ⟨hf, _, _, _⟩ := r.sto p w h
  refine ⟨⟨Ext.refl F, fun b z e n => ?_, upd_al⟩, fun b z e => ?_, fun b z e => ?_⟩
  · have hb : b ≠ p := (Sto.ne h n).symm
    exact ⟨by rw [upd_ne hb]; exact e, by rw [Sto.upd_ne hb]; exact n, fun z => z⟩
  · rw [upd_ne (ne_of_none e hf)]; exact r.sub b z e
  · by_cases hb : b = p
    · subst hb
      rw [Sto.upd_same] at e; cases e
      exact ⟨hf, o, upd_same, q⟩
    · rw [Sto.upd_ne hb] at e
      obtain ⟨h1, ho, h2, h3⟩ := r.sto b z e
      exact ⟨h1, ho, by rw [upd_ne hb]; exact h2, h3⟩
/-- an object is frozen -/
theorem Rst0.freeze (r : Rst0 K F H M) {w : MO} (h : M p = some w) : ∃ ho, H p = some ho ∧ RelO K F ho w ∧ Ext F (upd F p ho) ∧ Stp F H M (upd F p ho) H (M.del p) ∧ Rst0 K (upd F p ho) H (M.del p) := by
  obtain ⟨hf, ho, h1, h2⟩ := r.sto p w h
  have e := Ext.new (o := ho) hf
  refine ⟨ho, h1, h2, e, ⟨e, fun b u q n => ?_, fun _ z => z⟩, fun b u q => ?_, fun b u q => ?_⟩
  · have hb : b ≠ p := (Sto.ne h n).symm
    exact ⟨q, by rw [Sto.del_ne hb]; exact n, fun z => by rw [upd_ne hb]; exact z⟩
  · by_cases hb : b = p
    · subst hb; rw [upd_same] at q; cases q; exact h1
    · rw [upd_ne hb] at q; exact r.sub b u q
  · have hb : b ≠ p := by intro z; subst z; rw [Sto.del_same] at q; cases q
    rw [Sto.del_ne hb] at q
    obtain ⟨g1, go, g2, g3⟩ := r.sto b u q
    exact ⟨by rw [upd_ne hb]; exact g1, go, g2, g3.mono e⟩
/-- an object that is known to nobody is frozen; it was not there at the start -/
theorem Rst0.adopt {F0 H0 : Hp} {M0 : Sto} (r : Rst0 K F H M) (st : Stp F0 H0 M0 F H M) {o : HO} (h : H p = some o) (hm : M p = none) (hf : F p = none) (h0 : H0 p = none) : Ext F (upd F p o) ∧ Stp F0 H0 M0 (upd F p o) H M ∧ Rst0 K (upd F p o) H M := by
  have e := Ext.new (o := o) hf
  refine ⟨e, ⟨st.ext.trans e, fun b u q n => ?_, st.al⟩, fun b u q => ?_, fun b u q => ?_⟩
  · obtain ⟨h1, m1, f1⟩ := st.kp b u q n
    exact ⟨h1, m1, fun z => by rw [upd_ne (ne_of_none q h0)]; exact f1 z⟩
  · by_cases hb : b = p
    · subst hb; rw [upd_same] at q; cases q; exact h
    · rw [upd_ne hb] at q; exact r.sub b u q
  · have hb : b ≠ p := Sto.ne q hm
    obtain ⟨g1, go, g2, g3⟩ := r.sto b u q
    exact ⟨by rw [upd_ne hb]; exact g1, go, g2, g3.mono e⟩
theorem Rst.mono (r : Rst K F H σ τ M) {H' : Hp} (e : Ext F F') (h : Rst0 K F' H' M') : Rst K F' H' σ τ M' := ⟨h, r.slots.mono e⟩
end

/-! ### judgements -/
abbrev DK := D → Sto → Prop
abbrev DTE := DSt → Sto → DK → Prop
abbrev DTT := DSt → Sto → (Bool → Sto → Prop) → Prop
abbrev DTA := DSt → Sto → (List D → Sto → Prop) → Prop
structure DEnds where
  nx : DSt → Sto → Prop
  rt : DK
  bk : DSt → Sto → Prop := fun _ _ => False
  ct : DSt → Sto → Prop := fun _ _ => False
abbrev DTS := DEnds → DSt → Sto → Prop

/-- the HandS reading te is refined by the reading t over trees -/
def RefE (K : PySem.W.Frag) (te : TE) (t : DTE) : Prop := ∀ (F H : Hp) (σ : L2.St) (τ : DSt) (M : Sto) (Qd : DK) (Q : VK), Rst K F H σ τ M → t τ M Qd →
  (∀ v F' H' d M', Stp F H M F' H' M' → Rst K F' H' σ τ M' → RelD K F' v d → Qd d M' → Q v H') → te σ H Q
def RefT (K : PySem.W.Frag) (te : TT) (t : DTT) : Prop := ∀ (F H : Hp) (σ : L2.St) (τ : DSt) (M : Sto) (Qd : Bool → Sto → Prop) (Q : Bool → Hp → Prop), Rst K F H σ τ M → t τ M Qd →
  (∀ b F' H' M', Stp F H M F' H' M' → Rst K F' H' σ τ M' → Qd b M' → Q b H') → te σ H Q
def RefA (K : PySem.W.Frag) (te : TA) (t : DTA) : Prop := ∀ (F H : Hp) (σ : L2.St) (τ : DSt) (M : Sto) (Qd : List D → Sto → Prop) (Q : List V → Hp → Prop), Rst K F H σ τ M → t τ M Qd →
  (∀ vs F' H' ds M', Stp F H M F' H' M' → Rst K F' H' σ τ M' → RelDs K F' vs ds → Qd ds M' → Q vs H') → te σ H Q
structure RefD (K : PySem.W.Frag) (F H : Hp) (M : Sto) (D : DEnds) (E : Ends) : Prop where
  nx : ∀ F' H' σ' τ' M', Stp F H M F' H' M' → Rst K F' H' σ' τ' M' → D.nx τ' M' → E.nx σ' H'
  bk : ∀ F' H' σ' τ' M', Stp F H M F' H' M' → Rst K F' H' σ' τ' M' → D.bk τ' M' → E.bk σ' H'
  ct : ∀ F' H' σ' τ' M', Stp F H M F' H' M' → Rst K F' H' σ' τ' M' → D.ct τ' M' → E.ct σ' H'
  rt : ∀ v F' H' d M', Stp F H M F' H' M' → Rst0 K F' H' M' → RelD K F' v d → D.rt d M' → E.rt v H'
def RefS (K : PySem.W.Frag) (ts : TS) (t : DTS) : Prop := ∀ (F H : Hp) (σ : L2.St) (τ : DSt) (M : Sto) (D : DEnds) (E : Ends), Rst K F H σ τ M → t D τ M → RefD K F H M D E → ts E σ H
theorem RefD.mono {K : PySem.W.Frag} {F H F' H' : Hp} {M M' : Sto} {D : DEnds} {E : Ends} (r : RefD K F H M D E) (e : Stp F H M F' H' M') : RefD K F' H' M' D E :=
  ⟨fun F2 H2 σ' τ' M2 e2 => r.nx F2 H2 σ' τ' M2 (e.trans e2), fun F2 H2 σ' τ' M2 e2 => r.bk F2 H2 σ' τ' M2 (e.trans e2), fun F2 H2 σ' τ' M2 e2 => r.ct F2 H2 σ' τ' M2 (e.trans e2), fun v F2 H2 d M2 e2 => r.rt v F2 H2 d M2 (e.trans e2)⟩

structure DE (X : Cx) (e : Expr) (t : DTE) : Prop where
  ex : ∃ te, PE X e te ∧ RefE X.K te t
structure DT (X : Cx) (e : Expr) (t : DTT) : Prop where
  ex : ∃ te, PT X e te ∧ RefT X.K te t
structure DA (X : Cx) (es : List Expr) (t : DTA) : Prop where
  ex : ∃ te, PA X es te ∧ RefA X.K te t
structure DS (X : Cx) (s : Stmt) (t : DTS) : Prop where
  ex : ∃ ts, PS X s ts ∧ RefS X.K ts t
structure DSs (X : Cx) (ss : List Stmt) (t : DTS) : Prop where
  ex : ∃ ts, PSs X ss ts ∧ RefS X.K ts t

/-! ### names, constants -/
section
variable {X : Cx} {e a b : Expr} {pos : Pos}
@[simp] def dVar (i : Nat) : DTE := fun τ M Q => match τ[i]? with
  | some (some d) => Q d M
  | _ => False
theorem dv (i : Nat) {x : Str} {pos : Pos} (hN : X.N[i]? = some x := by rfl) (hv : Vis X.env.scope x := by first | exact Or.inl rfl | exact Or.inr (Or.inl rfl) | exact Or.inr (Or.inr rfl)) (hd : (x == ("__debug__" : Str)) = false := by decide)
    (hcd : (x == ("__classdict__" : Str)) = false := by decide) : DE X (.Name x pos) (dVar i) := by
  refine ⟨tVar i, pe_var hN hv hd hcd, fun F H σ τ M Qd Q R h k => ?_⟩
  unfold dVar at h
  split at h
  · rename_i d e
    obtain ⟨v, h1, h2⟩ := R.slots.get i d e
    exact ⟨v, h1, k v F H d M (Stp.refl F H M) R h2 h⟩
  · exact h.elim
@[simp] def dC (d : D) : DTE := fun _ M Q => Q d M
theorem refC {K : PySem.W.Frag} {v : V} {d : D} (h : ∀ F, RelD K F v d) : RefE K (tC v) (dC d) := fun F H σ τ M Qd Q R q k => k v F H d M (Stp.refl F H M) R (h F) q
theorem de_int {i : Int} {j pos} : DE X (.Constant (.int i) j pos) (dC (.int i)) := ⟨_, pe_int, refC fun _ => .int i⟩
theorem de_bl {b : Bool} {j pos} : DE X (.Constant (.bool b) j pos) (dC (.bl b)) := ⟨_, pe_bl, refC fun _ => .bl b⟩
theorem de_non {j pos} : DE X (.Constant .none j pos) (dC .non) := ⟨_, pe_non, refC fun _ => .non⟩
theorem de_str {x : Str} {j pos} : DE X (.Constant (.str x) j pos) (dC (.str x)) := ⟨_, pe_str, refC fun _ => .str x⟩
/-- a constant of the module: a text, an int; a built-in type -/
theorem de_gstr {x z : Str} {t : Tok} {pos : Pos} (hg : Gl X x) (hm : X.mg x = some (.str z t)) (hd : (x == ("__debug__" : Str)) = false := by decide) : DE X (.Name x pos) (dC (.str z)) := ⟨_, pe_glob hg hm (v := .str z) ⟨_, rfl⟩ hd, refC fun _ => .str z⟩
theorem de_gint {x : Str} {z : Int} {t : Tok} {pos : Pos} (hg : Gl X x) (hm : X.mg x = some (.int z t)) (hd : (x == ("__debug__" : Str)) = false := by decide) : DE X (.Name x pos) (dC (.int z)) := ⟨_, pe_glob hg hm (v := .int z) ⟨_, rfl⟩ hd, refC fun _ => .int z⟩
theorem de_ty {x : Str} {n : String} {pos : Pos} (hg : Gl X x) (hm : X.mg x = none) (hv : bootBuiltins x = some (.type n)) (hn : x ≠ "__name__" := by decide) (hd : (x == ("__debug__" : Str)) = false := by decide) : DE X (.Name x pos) (dC (.ty n)) :=
  ⟨_, pe_bltn hg hm hv (v := .ty n) rfl hn hd, refC fun _ => .ty n⟩

/-! ### arguments, displays -/
@[simp] def dNil : DTA := fun _ M Q => Q [] M
@[simp] def dCons (ta : DTE) (tr : DTA) : DTA := fun τ M Q => ta τ M fun x M1 => tr τ M1 fun xs M2 => Q (x :: xs) M2
theorem da_nil : DA X [] dNil := ⟨tNil, pa_nil, fun F H σ τ M Qd Q R q k => k [] F H [] M (Stp.refl F H M) R .nil q⟩
theorem da_cons {es : List Expr} {te : DTE} {t : DTA} (ha : DE X e te) (hr : DA X es t) (hs : starEach (e :: es) X.env = (false, eval e X.env) :: starEach es X.env := by rfl) : DA X (e :: es) (dCons te t) := by
  obtain ⟨u, pu, ru⟩ := ha.ex
  obtain ⟨w, pw, rw'⟩ := hr.ex
  refine ⟨tCons u w, pa_cons pu pw hs, fun F H σ τ M Qd Q R q k => ?_⟩
  refine ru F H σ τ M _ _ R q fun v F1 H1 d M1 e1 R1 r1 q1 => ?_
  refine rw' F1 H1 σ τ M1 _ _ R1 q1 fun vs F2 H2 ds M2 e2 R2 r2 q2 => ?_
  exact k _ F2 H2 _ M2 (e1.trans e2) R2 (.cons (r1.mono e2.ext) r2) q2
@[simp] def dTup (t : DTA) : DTE := fun τ M Q => t τ M fun xs M1 => xs.length ≤ sizeLine ∧ Q (.tup xs) M1
@[simp] def dLst (t : DTA) : DTE := fun τ M Q => t τ M fun xs M1 => xs.length ≤ sizeLine ∧ Q (.lst xs) M1
@[simp] def dLstM (t : DTA) : DTE := fun τ M Q => t τ M fun xs M1 => xs.length ≤ sizeLine ∧ ∀ p, M1 p = none → Q (.ref p) (M1.upd p (.lst xs))
theorem de_tup {es : List Expr} {t : DTA} {x1} (h : DA X es t) : DE X (.Tuple es x1 pos) (dTup t) := by
  obtain ⟨u, pu, ru⟩ := h.ex
  refine ⟨tTup u, pe_tup pu, fun F H σ τ M Qd Q R q k => ?_⟩
  refine ru F H σ τ M _ _ R q fun vs F1 H1 ds M1 e1 R1 r1 ⟨z, q1⟩ => ⟨by rw [r1.length]; exact z, fun p hp => ?_⟩
  obtain ⟨e2, R2⟩ := R1.heap.frozen (o := .tup vs) hp
  exact k (.ref p) _ _ (.tup ds) M1 (e1.trans e2) (R1.mono e2.ext R2) (.tup (SqT.of upd_same) (r1.mono e2.ext)) q1
theorem de_lst {es : List Expr} {t : DTA} (h : DA X es t) : DE X (.List es pos) (dLst t) := by
  obtain ⟨u, pu, ru⟩ := h.ex
  refine ⟨tLst u, pe_lst pu, fun F H σ τ M Qd Q R q k => ?_⟩
  refine ru F H σ τ M _ _ R q fun vs F1 H1 ds M1 e1 R1 r1 ⟨z, q1⟩ => ⟨by rw [r1.length]; exact z, fun p hp => ?_⟩
  obtain ⟨e2, R2⟩ := R1.heap.frozen (o := .lst vs) hp
  exact k (.ref p) _ _ (.lst ds) M1 (e1.trans e2) (R1.mono e2.ext R2) (.lst upd_same (r1.mono e2.ext)) q1
theorem de_lstM {es : List Expr} {t : DTA} (h : DA X es t) : DE X (.List es pos) (dLstM t) := by
  obtain ⟨u, pu, ru⟩ := h.ex
  refine ⟨tLst u, pe_lst pu, fun F H σ τ M Qd Q R q k => ?_⟩
  refine ru F H σ τ M _ _ R q fun vs F1 H1 ds M1 e1 R1 r1 ⟨z, q1⟩ => ⟨by rw [r1.length]; exact z, fun p hp => ?_⟩
  obtain ⟨e2, R2⟩ := R1.heap.fresh (o := .lst vs) (u := .lst ds) hp r1
  exact k (.ref p) F1 _ (.ref p) _ (e1.trans e2) (R1.mono e2.ext R2) (.ref p) (q1 p (R1.heap.free hp).2)

/-! ### freezing: what an expression gives is from now on as it is -/
@[simp] def frz (Q : DK) : DK := fun d M => match d with
  | .ref a => (match M a with
    | some (.lst ds) => Q (.lst ds) (M.del a)
    | some (.dct ds) => Q (.dct ds) (M.del a)
    | some (.ins C ds) => Q (.ins C ds) (M.del a)
    | none => False)
  | _ => Q d M
@[simp] def dFrz (t : DTE) : DTE := fun τ M Q => t τ M (frz Q)
theorem frz_ok {K : PySem.W.Frag} {F H : Hp} {σ : L2.St} {τ : DSt} {M : Sto} {v : V} {d : D} {Q : DK} (R : Rst K F H σ τ M) (r : RelD K F v d) (q : frz Q d M) : ∃ F' d' M', Stp F H M F' H M' ∧ Rst K F' H σ τ M' ∧ RelD K F' v d' ∧ Q d' M' := by
  cases d with
  | ref a =>
    cases r
    unfold frz at q
    dsimp only at q
    split at q
    · rename_i ds e
      obtain ⟨ho, h1, h2, e2, e3, R2⟩ := R.heap.freeze e
      cases ho <;> first | exact False.elim h2 | skip
      exact ⟨_, .lst ds, _, e3, R.mono e2 R2, .lst upd_same (RelDs.mono e2 h2), q⟩
    · rename_i ds e
      obtain ⟨ho, h1, h2, e2, e3, R2⟩ := R.heap.freeze e
      cases ho <;> first | exact False.elim h2 | skip
      exact ⟨_, .dct ds, _, e3, R.mono e2 R2, .dct (.inl upd_same) (RelKv.mono e2 h2), q⟩
    · rename_i C ds e
      obtain ⟨ho, h1, h2, e2, e3, R2⟩ := R.heap.freeze e
      cases ho <;> first | exact False.elim h2 | skip
      obtain ⟨rfl, h3⟩ := h2
      exact ⟨_, .ins _ ds, _, e3, R.mono e2 R2, .ins upd_same (RelFs.mono e2 h3), q⟩
    · exact q.elim
  | _ => exact ⟨F, _, M, Stp.refl F H M, R, r, q⟩
theorem de_frz {t : DTE} (h : DE X e t) : DE X e (dFrz t) := by
  obtain ⟨u, pu, ru⟩ := h.ex
  refine ⟨u, pu, fun F H σ τ M Qd Q R q k => ?_⟩
  refine ru F H σ τ M _ _ R q fun v F1 H1 d M1 e1 R1 r1 q1 => ?_
  obtain ⟨F2, d', M2, e2, R2, r2, q2⟩ := frz_ok R1 r1 q1
  exact k v F2 H1 d' M2 (e1.trans e2) R2 r2 q2

/-! ### operators, by values -/
/-- g tells what is asked of two trees -/
abbrev G2 := D → D → Sto → DK → Prop
/-- f on values as g tells of trees -/
def OpD (X : Cx) (f : Value → Value → Sem Value) (g : G2) : Prop :=
  ∀ (F H : Hp) (M : Sto) (x y : V) (d e : D) (Qd : DK) (Q : VK), Rst0 X.K F H M → RelD X.K F x d → RelD X.K F y e → g d e M Qd →
    (∀ v F' H' z M', Stp F H M F' H' M' → Rst0 X.K F' H' M' → RelD X.K F' v z → Qd z M' → Q v H') → ∃ r, OpR X f r ∧ r x y H Q
def rAny (X : Cx) (f : Value → Value → Sem Value) : R2 := fun x y H Q => ∃ r, OpR X f r ∧ r x y H Q
theorem op_any (f : Value → Value → Sem Value) : OpR X f (rAny X f) := fun pins s σ H x y v u Q I rx ry ⟨r, h, q⟩ => h pins s σ H x y v u Q I rx ry q
@[simp] def dOp (g : G2) (ta tb : DTE) : DTE := fun τ M Q => ta τ M fun x M1 => tb τ M1 fun y M2 => g x y M2 Q
theorem refOp {f : Value → Value → Sem Value} {g : G2} {ta tb : TE} {da db : DTE} (ho : OpD X f g) (ha : RefE X.K ta da) (hb : RefE X.K tb db) : RefE X.K (tOp (rAny X f) ta tb) (dOp g da db) := fun F H σ τ M Qd Q R q k => by
  refine ha F H σ τ M _ _ R q fun v F1 H1 d M1 e1 R1 r1 q1 => ?_
  refine hb F1 H1 σ τ M1 _ _ R1 q1 fun u F2 H2 e M2 e2 R2 r2 q2 => ?_
  exact ho F2 H2 M2 v u d e Qd Q R2.heap (r1.mono e2.ext) r2 q2 fun w F3 H3 z M3 e3 R3 r3 q3 => k w F3 H3 z M3 ((e1.trans e2).trans e3) (R2.mono e3.ext R3) r3 q3
theorem de_op {op : Operator} {g : G2} {ta tb : DTE} (ho : OpD X (binaryOp op) g) (ha : DE X a ta) (hb : DE X b tb) : DE X (.BinOp a op b pos) (dOp g ta tb) := by
  obtain ⟨u, pu, ru⟩ := ha.ex
  obtain ⟨w, pw, rw'⟩ := hb.ex
  exact ⟨_, pe_op (op_any _) pu pw, refOp ho ru rw'⟩
theorem de_cmp {op : CmpOp} {g : G2} {ta tb : DTE} (ho : OpD X (compareOp op) g) (ha : DE X a ta) (hb : DE X b tb) (hm : behindInMarks op b = false := by first | exact nomark _ | with_unfolding_all rfl) : DE X (.Compare a [op] [b] pos) (dOp g ta tb) := by
  obtain ⟨u, pu, ru⟩ := ha.ex
  obtain ⟨w, pw, rw'⟩ := hb.ex
  exact ⟨_, pe_cmpR (op_any _) pu pw hm, refOp ho ru rw'⟩
/-- a reading whose value is True or False, as a test -/
@[simp] def dTest (t : DTE) : DTT := fun τ M Q => t τ M fun x M1 => match x with
  | .bl b => Q b M1
  | _ => False
theorem refTest {K : PySem.W.Frag} {te : TE} {t : DTE} (h : RefE K te t) : RefT K (tTest te) (dTest t) := fun F H σ τ M Qd Q R q k => by
  refine h F H σ τ M _ _ R q fun v F1 H1 d M1 e1 R1 r1 q1 => ?_
  cases d <;> first | exact False.elim q1 | skip
  cases r1
  exact ⟨_, rfl, k _ F1 H1 M1 e1 R1 q1⟩
theorem dt_cmp {op : CmpOp} {g : G2} {ta tb : DTE} (ho : OpD X (compareOp op) g) (ha : DE X a ta) (hb : DE X b tb) (hm : behindInMarks op b = false := by first | exact nomark _ | with_unfolding_all rfl) : DT X (.Compare a [op] [b] pos) (dTest (dOp g ta tb)) := by
  obtain ⟨u, pu, ru⟩ := ha.ex
  obtain ⟨w, pw, rw'⟩ := hb.ex
  exact ⟨_, pt_cmpR (op_any _) pu pw hm, refTest (refOp ho ru rw')⟩
theorem dt_val {t : DTE} (h : DE X e t) (he : ∀ whole, isTrue e X.env whole = (do let v ← whole; standAt e.pos; holding [v] (truthy v)) := by intro _; rfl) : DT X e (dTest t) := by
  obtain ⟨u, pu, ru⟩ := h.ex
  exact ⟨_, pt_val pu he, refTest ru⟩
/-- a op1 b op2 c -/
@[simp] def dChain (g g' : G2) (ta tb tc : DTE) : DTE := fun τ M Q => ta τ M fun x M1 => tb τ M1 fun y M2 => g x y M2 fun z M3 => match z with
  | .bl k => if k = true then tc τ M3 fun w M4 => g' y w M4 Q else Q (.bl false) M3
  | _ => False
theorem refChain {f f' : Value → Value → Sem Value} {g g' : G2} {ta tb tc : TE} {da db dc : DTE} (ho : OpD X f g) (ho' : OpD X f' g') (ha : RefE X.K ta da) (hb : RefE X.K tb db) (hc : RefE X.K tc dc) :
    RefE X.K (tChain (rAny X f) (rAny X f') ta tb tc) (dChain g g' da db dc) := fun F H σ τ M Qd Q R q k => by
  refine ha F H σ τ M _ _ R q fun v F1 H1 d M1 e1 R1 r1 q1 => ?_
  refine hb F1 H1 σ τ M1 _ _ R1 q1 fun u F2 H2 e M2 e2 R2 r2 q2 => ?_
  refine ho F2 H2 M2 v u d e _ _ R2.heap (r1.mono e2.ext) r2 q2 fun w F3 H3 z M3 e3 R3 r3 q3 => ?_
  cases z <;> first | exact False.elim q3 | skip
  rename_i bb
  cases r3
  refine ⟨bb, rfl, ?_⟩
  cases bb with
  | false => exact iteF (k _ F3 H3 _ M3 ((e1.trans e2).trans e3) (R2.mono e3.ext R3) (.bl false) q3)
  | true =>
    refine iteT (hc F3 H3 σ τ M3 _ _ (R2.mono e3.ext R3) q3 fun w' F4 H4 z' M4 e4 R4 r4 q4 => ?_)
    exact ho' F4 H4 M4 u w' e z' Qd Q R4.heap (r2.mono (e3.trans e4).ext) r4 q4 fun w5 F5 H5 z5 M5 e5 R5 r5 q5 => k w5 F5 H5 z5 M5 ((((e1.trans e2).trans e3).trans e4).trans e5) (R4.mono e5.ext R5) r5 q5
theorem de_chain {op op' : CmpOp} {g g' : G2} {c : Expr} {ta tb tc : DTE} (ho : OpD X (compareOp op) g) (ho' : OpD X (compareOp op') g') (ha : DE X a ta) (hb : DE X b tb) (hc : DE X c tc) (hm : lastMarks [op, op'] [b, c] = false := by with_unfolding_all rfl) :
    DE X (.Compare a [op, op'] [b, c] pos) (dChain g g' ta tb tc) := by
  obtain ⟨u, pu, ru⟩ := ha.ex
  obtain ⟨w, pw, rw'⟩ := hb.ex
  obtain ⟨z, pz, rz⟩ := hc.ex
  exact ⟨_, pe_chain (op_any _) (op_any _) pu pw pz hm, refChain ho ho' ru rw' rz⟩
theorem dt_chain {op op' : CmpOp} {g g' : G2} {c : Expr} {ta tb tc : DTE} (ho : OpD X (compareOp op) g) (ho' : OpD X (compareOp op') g') (ha : DE X a ta) (hb : DE X b tb) (hc : DE X c tc) (hm : lastMarks [op, op'] [b, c] = false := by with_unfolding_all rfl) :
    DT X (.Compare a [op, op'] [b, c] pos) (dTest (dChain g g' ta tb tc)) := by
  obtain ⟨u, pu, ru⟩ := ha.ex
  obtain ⟨w, pw, rw'⟩ := hb.ex
  obtain ⟨z, pz, rz⟩ := hc.ex
  exact ⟨_, pt_chain (op_any _) (op_any _) pu pw pz hm, refTest (refChain ho ho' ru rw' rz)⟩

/-! ### and, or, not, if else -/
structure DW (X : Cx) (e : Expr) (t : DTT) : Prop where
  ex : ∃ te, PW X e te ∧ RefT X.K te t
theorem DW.dt {t : DTT} (h : DW X e t) : DT X e t := by
  obtain ⟨u, pu, ru⟩ := h.ex
  exact ⟨u, pu.pt, ru⟩
@[simp] def dAnd (t u : DTT) : DTT := fun τ M Q => t τ M fun c M1 => if c = true then u τ M1 Q else Q false M1
@[simp] def dOr (t u : DTT) : DTT := fun τ M Q => t τ M fun c M1 => if c = true then Q true M1 else u τ M1 Q
@[simp] def dNot (t : DTT) : DTT := fun τ M Q => t τ M fun c M1 => Q (!c) M1
variable {rest : List Expr}
theorem dw_and1 {t : DTT} (ha : DT X a t) : DW X (.BoolOp .And [a] pos) t := by
  obtain ⟨u, pu, ru⟩ := ha.ex
  exact ⟨u, pw_and1 pu, ru⟩
theorem dw_or1 {t : DTT} (ha : DT X a t) : DW X (.BoolOp .Or [a] pos) t := by
  obtain ⟨u, pu, ru⟩ := ha.ex
  exact ⟨u, pw_or1 pu, ru⟩
theorem dw_and {t u : DTT} (ha : DT X a t) (hb : DW X (.BoolOp .And (b :: rest) pos) u) : DW X (.BoolOp .And (a :: b :: rest) pos) (dAnd t u) := by
  obtain ⟨u, pu, ru⟩ := ha.ex
  obtain ⟨w, pw, rw'⟩ := hb.ex
  refine ⟨_, pw_and pu pw, fun F H σ τ M Qd Q R q k => ?_⟩
  refine ru F H σ τ M _ _ R q fun c F1 H1 M1 e1 R1 q1 => ?_
  cases c with
  | true => exact iteT (rw' F1 H1 σ τ M1 _ _ R1 q1 fun c F2 H2 M2 e2 R2 q2 => k c F2 H2 M2 (e1.trans e2) R2 q2)
  | false => exact iteF (k false F1 H1 M1 e1 R1 q1)
theorem dw_or {t u : DTT} (ha : DT X a t) (hb : DW X (.BoolOp .Or (b :: rest) pos) u) : DW X (.BoolOp .Or (a :: b :: rest) pos) (dOr t u) := by
  obtain ⟨u, pu, ru⟩ := ha.ex
  obtain ⟨w, pw, rw'⟩ := hb.ex
  refine ⟨_, pw_or pu pw, fun F H σ τ M Qd Q R q k => ?_⟩
  refine ru F H σ τ M _ _ R q fun c F1 H1 M1 e1 R1 q1 => ?_
  cases c with
  | true => exact iteT (k true F1 H1 M1 e1 R1 q1)
  | false => exact iteF (rw' F1 H1 σ τ M1 _ _ R1 q1 fun c F2 H2 M2 e2 R2 q2 => k c F2 H2 M2 (e1.trans e2) R2 q2)
theorem dt_not {t : DTT} (ha : DT X a t) : DT X (.UnaryOp .Not a pos) (dNot t) := by
  obtain ⟨u, pu, ru⟩ := ha.ex
  exact ⟨_, pt_not pu, fun F H σ τ M Qd Q R q k => ru F H σ τ M _ _ R q fun c F1 H1 M1 e1 R1 q1 => k (!c) F1 H1 M1 e1 R1 q1⟩
/-- .. as values -/
@[simp] def dAndV (ta tb : DTE) : DTE := fun τ M Q => ta τ M fun x M1 => match x with
  | .bl c => if c = true then tb τ M1 Q else Q (.bl false) M1
  | _ => False
@[simp] def dOrV (ta tb : DTE) : DTE := fun τ M Q => ta τ M fun x M1 => match x with
  | .bl c => if c = true then Q (.bl true) M1 else tb τ M1 Q
  | _ => False
@[simp] def dNotV (ta : DTE) : DTE := fun τ M Q => ta τ M fun x M1 => match x with
  | .bl c => Q (.bl (!c)) M1
  | _ => False
theorem de_one {op} {t : DTE} (h : DE X a t) : DE X (.BoolOp op [a] pos) t := by
  obtain ⟨u, pu, ru⟩ := h.ex
  exact ⟨u, pe_one pu, ru⟩
theorem de_and {ta tb : DTE} (ha : DE X a ta) (hb : DE X (.BoolOp .And (b :: rest) pos) tb) : DE X (.BoolOp .And (a :: b :: rest) pos) (dAndV ta tb) := by
  obtain ⟨u, pu, ru⟩ := ha.ex
  obtain ⟨w, pw, rw'⟩ := hb.ex
  refine ⟨_, pe_and pu pw, fun F H σ τ M Qd Q R q k => ?_⟩
  refine ru F H σ τ M _ _ R q fun v F1 H1 d M1 e1 R1 r1 q1 => ?_
  cases d <;> first | exact False.elim q1 | skip
  rename_i c
  cases r1
  refine ⟨c, rfl, ?_⟩
  cases c with
  | true => exact iteT (rw' F1 H1 σ τ M1 _ _ R1 q1 fun v F2 H2 d M2 e2 R2 r2 q2 => k v F2 H2 d M2 (e1.trans e2) R2 r2 q2)
  | false => exact iteF (k _ F1 H1 _ M1 e1 R1 (.bl false) q1)
theorem de_or {ta tb : DTE} (ha : DE X a ta) (hb : DE X (.BoolOp .Or (b :: rest) pos) tb) : DE X (.BoolOp .Or (a :: b :: rest) pos) (dOrV ta tb) := by
  obtain ⟨u, pu, ru⟩ := ha.ex
  obtain ⟨w, pw, rw'⟩ := hb.ex
  refine ⟨_, pe_or pu pw, fun F H σ τ M Qd Q R q k => ?_⟩
  refine ru F H σ τ M _ _ R q fun v F1 H1 d M1 e1 R1 r1 q1 => ?_
  cases d <;> first | exact False.elim q1 | skip
  rename_i c
  cases r1
  refine ⟨c, rfl, ?_⟩
  cases c with
  | true => exact iteT (k _ F1 H1 _ M1 e1 R1 (.bl true) q1)
  | false => exact iteF (rw' F1 H1 σ τ M1 _ _ R1 q1 fun v F2 H2 d M2 e2 R2 r2 q2 => k v F2 H2 d M2 (e1.trans e2) R2 r2 q2)
theorem de_not {ta : DTE} (ha : DE X a ta) : DE X (.UnaryOp .Not a pos) (dNotV ta) := by
  obtain ⟨u, pu, ru⟩ := ha.ex
  refine ⟨_, pe_not pu, fun F H σ τ M Qd Q R q k => ?_⟩
  refine ru F H σ τ M _ _ R q fun v F1 H1 d M1 e1 R1 r1 q1 => ?_
  cases d <;> first | exact False.elim q1 | skip
  rename_i c
  cases r1
  exact ⟨c, rfl, k _ F1 H1 _ M1 e1 R1 (.bl (!c)) q1⟩
@[simp] def dIf (t : DTT) (ta tb : DTE) : DTE := fun τ M Q => t τ M fun c M1 => if c = true then ta τ M1 Q else tb τ M1 Q
theorem de_if {c : Expr} {t : DTT} {ta tb : DTE} (hc : DT X c t) (ha : DE X a ta) (hb : DE X b tb) : DE X (.IfExp c a b pos) (dIf t ta tb) := by
  obtain ⟨z, pz, rz⟩ := hc.ex
  obtain ⟨u, pu, ru⟩ := ha.ex
  obtain ⟨w, pw, rw'⟩ := hb.ex
  refine ⟨_, pe_ifExp pz pu pw, fun F H σ τ M Qd Q R q k => ?_⟩
  refine rz F H σ τ M _ _ R q fun c F1 H1 M1 e1 R1 q1 => ?_
  cases c with
  | true => exact iteT (ru F1 H1 σ τ M1 _ _ R1 q1 fun v F2 H2 d M2 e2 R2 r2 q2 => k v F2 H2 d M2 (e1.trans e2) R2 r2 q2)
  | false => exact iteF (rw' F1 H1 σ τ M1 _ _ R1 q1 fun v F2 H2 d M2 e2 R2 r2 q2 => k v F2 H2 d M2 (e1.trans e2) R2 r2 q2)
end
end DL

/-! DB: statements, loops, comprehensions, calls of the text's own defs, over trees. -/
namespace DL
open PySem PySem.Spec PyProof.Rows L2

/-! ### blocks and small statements -/
section
variable {X : Cx} {st : Stmt} {rest : List Stmt} {e : Expr} {pos : Pos}
@[simp] def dNext : DTS := fun D τ M => D.nx τ M
@[simp] def dSeq (t u : DTS) : DTS := fun D τ M => t { D with nx := u D } τ M
theorem dss_nil : DSs X [] dNext := ⟨tNext, pss_nil, fun F H σ τ M D E R q r => r.nx F H σ τ M (Stp.refl F H M) R q⟩
theorem dss_cons {t u : DTS} (h1 : DS X st t) (h2 : DSs X rest u) : DSs X (st :: rest) (dSeq t u) := by
  obtain ⟨t1, p1, r1⟩ := h1.ex
  obtain ⟨t2, p2, r2⟩ := h2.ex
  refine ⟨_, pss_cons p1 p2, fun F H σ τ M D E R q r => ?_⟩
  exact r1 F H σ τ M { D with nx := u D } { E with nx := t2 E } R q ⟨fun F1 H1 σ1 τ1 M1 e1 R1 q1 => r2 F1 H1 σ1 τ1 M1 D E R1 q1 (r.mono e1), r.bk, r.ct, r.rt⟩
theorem dss_one {t : DTS} (h1 : DS X st t) : DSs X [st] t := by
  obtain ⟨t1, p1, r1⟩ := h1.ex
  exact ⟨_, pss_one p1, r1⟩
@[simp] def dBreak : DTS := fun D τ M => D.bk τ M
@[simp] def dCont : DTS := fun D τ M => D.ct τ M
theorem ds_pass : DS X (.Pass pos) dNext := ⟨tNext, ps_pass, fun F H σ τ M D E R q r => r.nx F H σ τ M (Stp.refl F H M) R q⟩
theorem ds_break : DS X (.Break pos) dBreak := ⟨tBreak, ps_break, fun F H σ τ M D E R q r => r.bk F H σ τ M (Stp.refl F H M) R q⟩
theorem ds_continue : DS X (.Continue pos) dCont := ⟨tCont, ps_continue, fun F H σ τ M D E R q r => r.ct F H σ τ M (Stp.refl F H M) R q⟩
@[simp] def dDrop (t : DTE) : DTS := fun D τ M => t τ M fun _ M1 => D.nx τ M1
theorem ds_expr {t : DTE} (he : DE X e t) (hs : swapsWith e none pos.line X.env = pure false := by rfl) : DS X (.Expr e pos) (dDrop t) := by
  obtain ⟨u, pu, ru⟩ := he.ex
  exact ⟨_, ps_expr pu hs, fun F H σ τ M D E R q r => ru F H σ τ M _ _ R q fun v F1 H1 d M1 e1 R1 r1 q1 => r.nx F1 H1 σ τ M1 e1 R1 q1⟩
@[simp] def dRet (t : DTE) : DTS := fun D τ M => t τ M D.rt
theorem ds_ret {t : DTE} (he : DE X e t) : DS X (.Return (some e) pos) (dRet t) := by
  obtain ⟨u, pu, ru⟩ := he.ex
  exact ⟨_, ps_ret pu, fun F H σ τ M D E R q r => ru F H σ τ M _ _ R q fun v F1 H1 d M1 e1 R1 r1 q1 => r.rt v F1 H1 d M1 e1 R1.heap r1 q1⟩
@[simp] def dRetN : DTS := fun D _ M => D.rt .non M
theorem ds_retN : DS X (.Return none pos) dRetN := ⟨_, ps_retN, fun F H σ τ M D E R q r => r.rt .non F H .non M (Stp.refl F H M) R.heap .non q⟩
@[simp] def dIfS (c : DTT) (t u : DTS) : DTS := fun D τ M => c τ M fun b M1 => if b = true then t D τ M1 else u D τ M1
theorem ds_if {c : Expr} {a b : List Stmt} {tc : DTT} {t u : DTS} (hc : DT X c tc) (ha : DSs X a t) (hb : DSs X b u) : DS X (.If c a b pos) (dIfS tc t u) := by
  obtain ⟨z, pz, rz⟩ := hc.ex
  obtain ⟨t1, p1, r1⟩ := ha.ex
  obtain ⟨t2, p2, r2⟩ := hb.ex
  refine ⟨_, ps_if pz p1 p2, fun F H σ τ M D E R q r => ?_⟩
  refine rz F H σ τ M _ _ R q fun b F1 H1 M1 e1 R1 q1 => ?_
  cases b with
  | true => exact iteT (r1 F1 H1 σ τ M1 D E R1 q1 (r.mono e1))
  | false => exact iteF (r2 F1 H1 σ τ M1 D E R1 q1 (r.mono e1))
def dNever : DTS := fun _ _ _ => False
theorem ds_never : DS X st dNever := ⟨_, ps_never, fun _ _ _ _ _ _ _ _ q _ => False.elim q⟩
theorem dss_never {sts : List Stmt} : DSs X sts dNever := ⟨_, pss_never, fun _ _ _ _ _ _ _ _ q _ => False.elim q⟩
def dNeverE : DTE := fun _ _ _ => False
end

/-! ### targets -/
abbrev DTG := D → DSt → Sto → (DSt → Sto → Prop) → Prop
abbrev DTGs := List D → DSt → Sto → (DSt → Sto → Prop) → Prop
def RefG (K : PySem.W.Frag) (tg : TG) (g : DTG) : Prop := ∀ (F H : Hp) (σ : L2.St) (τ : DSt) (M : Sto) (v : V) (d : D) (Qd : DSt → Sto → Prop) (Q : L2.St → Hp → Prop), Rst K F H σ τ M → RelD K F v d → g d τ M Qd →
  (∀ F' H' σ' τ' M', Stp F H M F' H' M' → Rst K F' H' σ' τ' M' → Qd τ' M' → Q σ' H') → tg v σ H Q
def RefGs (K : PySem.W.Frag) (tg : TGs) (g : DTGs) : Prop := ∀ (F H : Hp) (σ : L2.St) (τ : DSt) (M : Sto) (vs : List V) (ds : List D) (Qd : DSt → Sto → Prop) (Q : L2.St → Hp → Prop), Rst K F H σ τ M → RelDs K F vs ds → g ds τ M Qd →
  (∀ F' H' σ' τ' M', Stp F H M F' H' M' → Rst K F' H' σ' τ' M' → Qd τ' M' → Q σ' H') → tg vs σ H Q
structure DG (X : Cx) (tg : Expr) (g : DTG) : Prop where
  ex : ∃ t, PG X tg t ∧ RefG X.K t g
structure DGs (X : Cx) (ts : List Expr) (g : DTGs) : Prop where
  ex : ∃ t, PGs X ts t ∧ RefGs X.K t g
section
variable {X : Cx} {pos : Pos} {e : Expr}
@[simp] def dgName (i : Nat) : DTG := fun d τ M Q => Q (τ.set i (some d)) M
theorem Rst.set {K : PySem.W.Frag} {F H : Hp} {σ : L2.St} {τ : DSt} {M : Sto} {v : V} {d : D} (R : Rst K F H σ τ M) (i : Nat) (r : RelD K F v d) : Rst K F H (σ.set i (some v)) (τ.set i (some d)) M := ⟨R.heap, R.slots.set i r⟩
theorem refGName {K : PySem.W.Frag} {i : Nat} : RefG K (gName i) (dgName i) := fun F H σ τ M v d Qd Q R r q k => k F H _ _ M (Stp.refl F H M) (R.set i r) q
theorem dg_name {i : Nat} {x : Str} (hN : X.N.Nodup) (hi : X.N[i]? = some x := by rfl) (hx : Loc X.env.scope x := by first | exact .inl rfl | exact .inr rfl) (hf : X.fn x = true ∨ X.env.scope.names.lookup x = some .local := by first | exact .inl rfl | exact .inr rfl | assumption) : DG X (.Name x pos) (dgName i) :=
  ⟨_, pg_name hN hi hx hf, refGName⟩
@[simp] def dgNil : DTGs := fun ds τ M Q => match ds with
  | [] => Q τ M
  | _ => False
@[simp] def dgCons (g : DTG) (u : DTGs) : DTGs := fun ds τ M Q => match ds with
  | d :: r => g d τ M fun τ1 M1 => u r τ1 M1 Q
  | [] => False
theorem refGNil {K : PySem.W.Frag} : RefGs K gNil dgNil := fun F H σ τ M vs ds Qd Q R r q k => by
  cases r with
  | nil => exact ⟨rfl, k F H σ τ M (Stp.refl F H M) R q⟩
  | cons _ _ => exact False.elim q
theorem refGCons {K : PySem.W.Frag} {t : TG} {u : TGs} {g : DTG} {w : DTGs} (h1 : RefG K t g) (h2 : RefGs K u w) : RefGs K (gCons t u) (dgCons g w) := fun F H σ τ M vs ds Qd Q R r q k => by
  cases r with
  | nil => exact False.elim q
  | cons a b =>
    refine ⟨_, _, rfl, h1 F H σ τ M _ _ _ _ R a q fun F1 H1 σ1 τ1 M1 e1 R1 q1 => ?_⟩
    exact h2 F1 H1 σ1 τ1 M1 _ _ _ _ R1 (b.mono e1.ext) q1 fun F2 H2 σ2 τ2 M2 e2 R2 q2 => k F2 H2 σ2 τ2 M2 (e1.trans e2) R2 q2
theorem dgs_nil : DGs X [] dgNil := ⟨_, pgs_nil, refGNil⟩
theorem dgs_cons {es : List Expr} {t : DTG} {u : DTGs} (h1 : DG X e t) (h2 : DGs X es u) (hs : (assignEach (e :: es) X.env).map (·.2) = assign e X.env :: (assignEach es X.env).map (·.2) := by rfl) : DGs X (e :: es) (dgCons t u) := by
  obtain ⟨a, pa, ra⟩ := h1.ex
  obtain ⟨b, pb, rb⟩ := h2.ex
  exact ⟨_, pgs_cons pa pb hs, refGCons ra rb⟩
@[simp] def dgTup (n : Nat) (t : DTGs) : DTG := fun d τ M Q => match d with
  | .tup xs => xs.length = n ∧ t xs τ M Q
  | _ => False
theorem refGTup {K : PySem.W.Frag} {n : Nat} {t : TGs} {g : DTGs} (h : RefGs K t g) : RefG K (gTup K n t) (dgTup n g) := fun F H σ τ M v d Qd Q R r q k => by
  cases d <;> first | exact False.elim q | skip
  cases r with
  | tup hs rs =>
    obtain ⟨hl, q⟩ := q
    have hs' : SqT K H _ _ := Ext.sqT R.heap.sub hs
    exact ⟨_, _, rfl, hs', by rw [rs.length]; exact hl, h F H σ τ M _ _ _ _ R rs q k⟩
theorem dg_tup {es : List Expr} {k : Nat} {t : DTGs} {n : Nat} (hc : X.calm = true) (h : DGs X es t) (hn : (assignEach es X.env).length = n := by rfl) (hst : (assignEach es X.env).findIdx? (·.1) = none := by rfl) : DG X (.Tuple es k pos) (dgTup n t) := by
  obtain ⟨a, pa, ra⟩ := h.ex
  exact ⟨_, pg_tup hc pa hn hst, refGTup ra⟩
@[simp] def dAsg (t : DTE) (g : DTG) : DTS := fun D τ M => t τ M fun d M1 => g d τ M1 D.nx
theorem refAsg {K : PySem.W.Frag} {te : TE} {t : DTE} {tg : TG} {g : DTG} (h : RefE K te t) (hg : RefG K tg g) : RefS K (tAsg te tg) (dAsg t g) := fun F H σ τ M D E R q r =>
  h F H σ τ M _ _ R q fun v F1 H1 d M1 e1 R1 r1 q1 => hg F1 H1 σ τ M1 v d _ _ R1 r1 q1 fun F2 H2 σ2 τ2 M2 e2 R2 q2 => r.nx F2 H2 σ2 τ2 M2 (e1.trans e2) R2 q2
theorem ds_asg {tg e : Expr} {t : DTE} {g : DTG} (he : DE X e t) (hg : DG X tg g) (hs : swapsWithSole [tg] e pos.line X.env = pure false := by rfl) (hw : swappedStores [tg] e X.env = pure none := by rfl)
    (h1 : (assignEach [tg] X.env).map (·.2) = [assign tg X.env] := by rfl) : DS X (.Assign [tg] e pos) (dAsg t g) := by
  obtain ⟨u, pu, ru⟩ := he.ex
  obtain ⟨w, pw, rw'⟩ := hg.ex
  exact ⟨_, ps_asg pu pw hs hw h1, refAsg ru rw'⟩
theorem ds_set {i : Nat} {x : Str} {e : Expr} {t : DTE} {pos' : Pos} (hN : X.N.Nodup) (he : DE X e t) (hi : X.N[i]? = some x := by rfl) (hx : Loc X.env.scope x := by first | exact .inl rfl | exact .inr rfl) (hs : swapsWith e (some (.Name x pos')) pos.line X.env = pure false := by rfl)
    (hf : X.fn x = true ∨ X.env.scope.names.lookup x = some .local := by first | exact .inl rfl | exact .inr rfl | assumption) : DS X (.Assign [.Name x pos'] e pos) (dAsg t (dgName i)) := by
  obtain ⟨u, pu, ru⟩ := he.ex
  exact ⟨_, ps_set hN hi hx pu hs hf, refAsg ru refGName⟩
/-- a, b = x, y -/
@[simp] def dPar (i j : Nat) (ta tb : DTE) : DTS := fun D τ M => ta τ M fun v M1 => tb τ M1 fun w M2 => D.nx ((τ.set i (some v)).set j (some w)) M2
theorem ds_par {i j : Nat} {x y : Str} {a b : Expr} {ta tb : DTE} {px py pt : Pos} {kt k2 pt2} (hc : X.calm = true) (hN : X.N.Nodup) (ha : DE X a ta) (hb : DE X b tb) (hi : X.N[i]? = some x := by rfl) (hj : X.N[j]? = some y := by rfl) (hij : i ≠ j := by decide)
    (hx : X.env.scope.names.lookup x = some .local := by rfl) (hy : X.env.scope.names.lookup y = some .local := by rfl)
    (hw : swappedStores [.Tuple [.Name x px, .Name y py] kt pt] (.Tuple [a, b] k2 pt2) X.env = pure (some [x, y]) := by rfl)
    (hs : swapsWithSole [.Tuple [.Name x px, .Name y py] kt pt] (.Tuple [a, b] k2 pt2) pos.line X.env = pure false := by rfl)
    (h1 : starEach [a, b] X.env = (false, eval a X.env) :: starEach [b] X.env := by rfl) (h2 : starEach [b] X.env = (false, eval b X.env) :: starEach [] X.env := by rfl) :
    DS X (.Assign [.Tuple [.Name x px, .Name y py] kt pt] (.Tuple [a, b] k2 pt2) pos) (dPar i j ta tb) := by
  obtain ⟨u, pu, ru⟩ := ha.ex
  obtain ⟨w, pw, rw'⟩ := hb.ex
  refine ⟨_, ps_par hc hN hi hj hij hx hy (pa_cons pu (pa_cons pw pa_nil h2) h1) hw hs, fun F H σ τ M D E R q r => ?_⟩
  refine ru F H σ τ M _ _ R q fun v F1 H1 d M1 e1 R1 r1 q1 => ?_
  refine rw' F1 H1 σ τ M1 _ _ R1 q1 fun v' F2 H2 d' M2 e2 R2 r2 q2 => ?_
  exact ⟨v, v', rfl, r.nx F2 H2 _ _ M2 (e1.trans e2) ((R2.set i (r1.mono e2.ext)).set j r2) q2⟩
end

/-! ### while -/
section
variable {X : Cx} {pos : Pos}
def dWhile (c : DTT) (tb : DTS) : DTS := fun D τ M => ∃ W : Nat → DSt → Sto → Prop, (∃ m, W m τ M) ∧ ∀ m τ M, W m τ M →
  c τ M fun b M1 => if b = true then tb { D with nx := fun τ' M' => ∃ m', m' < m ∧ W m' τ' M', ct := fun τ' M' => ∃ m', m' < m ∧ W m' τ' M', bk := D.nx } τ M1 else D.nx τ M1
theorem ds_while {c : Expr} {body : List Stmt} {tc : DTT} {tb : DTS} (hp : PassesOwn (model X.prog X.w) X.A X.env X.xe) (hc : DT X c tc) (hb : DSs X body tb) : DS X (.While c body [] pos) (dWhile tc tb) := by
  obtain ⟨u, pu, ru⟩ := hc.ex
  obtain ⟨w, pw, rw'⟩ := hb.ex
  refine ⟨_, ps_while hp pu pw, fun F H σ τ M D E R q r => ?_⟩
  obtain ⟨W, ⟨m0, w0⟩, turn⟩ := q
  refine ⟨fun m σ' H' => ∃ F' τ' M', Stp F H M F' H' M' ∧ Rst X.K F' H' σ' τ' M' ∧ W m τ' M', ⟨m0, F, τ, M, Stp.refl F H M, R, w0⟩, ?_⟩
  rintro m σ1 H1 ⟨F1, τ1, M1, e1, R1, w1⟩
  refine ru F1 H1 σ1 τ1 M1 _ _ R1 (turn m τ1 M1 w1) fun b F2 H2 M2 e2 R2 q2 => ?_
  cases b with
  | false => exact iteF (r.nx F2 H2 σ1 τ1 M2 (e1.trans e2) R2 q2)
  | true =>
    refine iteT ⟨fun σ' H' => ∃ m', m' < m ∧ ∃ F' τ' M', Stp F H M F' H' M' ∧ Rst X.K F' H' σ' τ' M' ∧ W m' τ' M', fun σ' H' z => z, ?_⟩
    have go : ∀ F' H' σ' τ' M', Stp F2 H2 M2 F' H' M' → Rst X.K F' H' σ' τ' M' → (∃ m', m' < m ∧ W m' τ' M') → ∃ m', m' < m ∧ ∃ F' τ' M', Stp F H M F' H' M' ∧ Rst X.K F' H' σ' τ' M' ∧ W m' τ' M' :=
      fun F' H' σ' τ' M' e' R' ⟨m', l, w'⟩ => ⟨m', l, F', τ', M', (e1.trans e2).trans e', R', w'⟩
    exact rw' F2 H2 σ1 τ1 M2 _ _ R2 q2 ⟨go, fun F' H' σ' τ' M' e' R' z => r.nx F' H' σ' τ' M' ((e1.trans e2).trans e') R' z, go, fun v F' H' d M' e' R' rd z => r.rt v F' H' d M' ((e1.trans e2).trans e') R' rd z⟩
/-- the while by an invariant and a measure -/
theorem while_inv {c : DTT} {tb : DTS} {D : DEnds} {τ : DSt} {M : Sto} (W : Nat → DSt → Sto → Prop) (m0 : Nat) (w0 : W m0 τ M)
    (turn : ∀ m τ M, W m τ M → c τ M fun b M1 => if b = true then tb { D with nx := fun τ' M' => ∃ m', m' < m ∧ W m' τ' M', ct := fun τ' M' => ∃ m', m' < m ∧ W m' τ' M', bk := D.nx } τ M1 else D.nx τ M1) : dWhile c tb D τ M := ⟨W, ⟨m0, w0⟩, turn⟩
end

/-! ### what is walked -/
/-- J walks ds, whatever happens to the rest -/
structure ItD (K : PySem.W.Frag) (F : Hp) (J : It) (ds : List D) : Prop where
  go : ∀ i F2 H2 M2, i < ds.length → Ext F F2 → Rst0 K F2 H2 M2 → J.go i H2
  yld : ∀ i F2 H2 M2 d x H', ds[i]? = some d → Ext F F2 → Rst0 K F2 H2 M2 → J.yld i H2 x H' → ∃ F3, Stp F2 H2 M2 F3 H' M2 ∧ Rst0 K F3 H' M2 ∧ RelD K F3 x d
  stop : ∀ F2 H2 M2, Ext F F2 → Rst0 K F2 H2 M2 → J.stop ds.length H2
theorem ItD.mono {K : PySem.W.Frag} {F F' : Hp} {J : It} {ds : List D} (h : ItD K F J ds) (e : Ext F F') : ItD K F' J ds :=
  ⟨fun i F2 H2 M2 hi e2 => h.go i F2 H2 M2 hi (e.trans e2), fun i F2 H2 M2 d x H' hd e2 => h.yld i F2 H2 M2 d x H' hd (e.trans e2), fun F2 H2 M2 e2 => h.stop F2 H2 M2 (e.trans e2)⟩
abbrev DTI := DSt → Sto → (List D → Sto → Prop) → Prop
def RefI (K : PySem.W.Frag) (wi : TI) (it : DTI) : Prop := ∀ (F H : Hp) (σ : L2.St) (τ : DSt) (M : Sto) (Qd : List D → Sto → Prop) (Q : It → Hp → Prop), Rst K F H σ τ M → it τ M Qd →
  (∀ J F' H' ds M', Stp F H M F' H' M' → Rst K F' H' σ τ M' → ItD K F' J ds → Qd ds M' → Q J H') → wi σ H Q
structure DI (X : Cx) (tg iter : Expr) (it : DTI) : Prop where
  ex : ∃ wi, PI X tg iter wi ∧ RefI X.K wi it
/-- the loop, item by item -/
def loopD (g : DTG) (tb : DTS) (E : DEnds) : List D → DSt → Sto → Prop
  | [], τ, M => E.nx τ M
  | d :: ds, τ, M => g d τ M fun τ1 M1 => tb { E with nx := loopD g tb E ds, ct := loopD g tb E ds, bk := E.nx } τ1 M1
@[simp] def dFor (it : DTI) (g : DTG) (tb : DTS) : DTS := fun E τ M => it τ M fun ds M1 => loopD g tb E ds τ M1
theorem drop_cons {α : Type} {l : List α} {i : Nat} {x : α} (h : l[i]? = some x) : l.drop i = x :: l.drop (i + 1) := by
  obtain ⟨hi, e⟩ := List.getElem?_eq_some_iff.mp h
  rw [List.drop_eq_getElem_cons hi, e]
theorem ds_for {X : Cx} {tg iter : Expr} {body : List Stmt} {it : DTI} {g : DTG} {tb : DTS} {pos : Pos} (hp : PassesOwn (model X.prog X.w) X.A X.env X.xe) (hc : X.calm = true) (hi : DI X tg iter it) (hg : DG X tg g) (hb : DSs X body tb)
    (hs : ∀ x, foldedSetIterable iter X.env x = pure x := by intro _; rfl) : DS X (.For tg iter body [] pos) (dFor it g tb) := by
  obtain ⟨wi, pi, ri⟩ := hi.ex
  obtain ⟨gg, pg, rg⟩ := hg.ex
  obtain ⟨bb, pb, rb⟩ := hb.ex
  refine ⟨_, ps_for hp hc pi pg pb hs, fun F H σ τ M D E R q r => ?_⟩
  refine ri F H σ τ M _ _ R q fun J F1 H1 ds M1 e1 R1 hJ q1 => ?_
  refine ⟨fun i m σ' H' => m = ds.length - i ∧ i ≤ ds.length ∧ ∃ F' τ' M', Stp F H M F' H' M' ∧ Ext F1 F' ∧ Rst X.K F' H' σ' τ' M' ∧ loopD g tb D (ds.drop i) τ' M', ⟨ds.length, by simp, Nat.zero_le _, F1, τ, M1, e1, Ext.refl _, R1, by simpa using q1⟩, ?_⟩
  rintro i m σ2 H2 ⟨rfl, hil, F2, τ2, M2, e2, x2, R2, q2⟩
  by_cases hlt : i < ds.length
  · obtain ⟨d, hd⟩ : ∃ d, ds[i]? = some d := ⟨ds[i], List.getElem?_eq_getElem hlt⟩
    rw [drop_cons hd] at q2
    refine .inr ⟨hJ.go i F2 H2 M2 hlt x2 R2.heap, fun σ' H' => ∃ F' τ' M', Stp F H M F' H' M' ∧ Ext F1 F' ∧ Rst X.K F' H' σ' τ' M' ∧ loopD g tb D (ds.drop (i + 1)) τ' M', fun σ' H' z => ⟨ds.length - (i + 1), by omega, rfl, hlt, z⟩, fun x H' y => ?_⟩
    obtain ⟨F3, e3, R3, r3⟩ := hJ.yld i F2 H2 M2 d x H' hd x2 R2.heap y
    refine rg F3 H' σ2 τ2 M2 x d _ _ (R2.mono e3.ext R3) r3 q2 fun F4 H4 σ4 τ4 M4 e4 R4 q4 => ?_
    have s4 : Stp F H M F4 H4 M4 := (e2.trans e3).trans e4
    have x4 : Ext F1 F4 := (x2.trans e3.ext).trans e4.ext
    have go : ∀ F' H' σ' τ' M', Stp F4 H4 M4 F' H' M' → Rst X.K F' H' σ' τ' M' → loopD g tb D (ds.drop (i + 1)) τ' M' → ∃ F' τ' M', Stp F H M F' H' M' ∧ Ext F1 F' ∧ Rst X.K F' H' σ' τ' M' ∧ loopD g tb D (ds.drop (i + 1)) τ' M' :=
      fun F' H' σ' τ' M' e' R' q' => ⟨F', τ', M', s4.trans e', x4.trans e'.ext, R', q'⟩
    exact rb F4 H4 σ4 τ4 M4 _ _ R4 q4 ⟨go, fun F' H' σ' τ' M' e' R' z => r.nx F' H' σ' τ' M' (s4.trans e') R' z, go, fun v F' H' d M' e' R' rd z => r.rt v F' H' d M' (s4.trans e') R' rd z⟩
  · have e : i = ds.length := by omega
    subst e
    rw [List.drop_length] at q2
    exact .inl ⟨hJ.stop F2 H2 M2 x2 R2.heap, r.nx F2 H2 σ2 τ2 M2 e2 R2 q2⟩

/-! ### the ways of walking: lists, tuples, ranges -/
theorem sqL_fix {K : PySem.W.Frag} {F F2 H2 : Hp} {M2 : Sto} {a : Addr} {xs : List V} (h : SqL K F a xs) (e : Ext F F2) (R : Rst0 K F2 H2 M2) : SqL K H2 a xs := (e.trans R.sub).sqL h
theorem itd_list {K : PySem.W.Frag} {F : Hp} {a : Addr} {xs : List V} {ds : List D} (h : SqL K F a xs) (r : RelDs K F xs ds) : ItD K F (Itl K a) ds where
  go := fun i F2 H2 M2 hi e R => by
    have hx : i < xs.length := by rw [r.length]; exact hi
    exact ⟨xs, xs[i], sqL_fix h e R, List.getElem?_eq_getElem hx⟩
  yld := fun i F2 H2 M2 d x H' hd e R y => by
    obtain ⟨rfl, y⟩ := y
    obtain ⟨v, h1, h2⟩ := r.get hd
    have z := y xs (sqL_fix h e R)
    rw [h1] at z
    cases z
    exact ⟨F2, Stp.refl _ _ _, R, h2.mono e⟩
  stop := fun F2 H2 M2 e R => ⟨xs, sqL_fix h e R, by rw [r.length]; exact Nat.le_refl _⟩
theorem itd_tup {K : PySem.W.Frag} {F : Hp} {a : Addr} {xs : List V} {ds : List D} (h : SqT K F a xs) (r : RelDs K F xs ds) : ItD K F (Itt K a) ds where
  go := fun i F2 H2 M2 hi e R => by
    have hx : i < xs.length := by rw [r.length]; exact hi
    exact ⟨xs, xs[i], (e.trans R.sub).sqT h, List.getElem?_eq_getElem hx⟩
  yld := fun i F2 H2 M2 d x H' hd e R y => by
    obtain ⟨rfl, y⟩ := y
    obtain ⟨v, h1, h2⟩ := r.get hd
    have z := y xs ((e.trans R.sub).sqT h)
    rw [h1] at z
    cases z
    exact ⟨F2, Stp.refl _ _ _, R, h2.mono e⟩
  stop := fun F2 H2 M2 e R => ⟨xs, (e.trans R.sub).sqT h, by rw [r.length]; exact Nat.le_refl _⟩
def rangeD (lo : Int) (n : Nat) : List D := (List.range n).map fun (i : Nat) => .int (lo + (i : Int))
theorem itd_range {K : PySem.W.Frag} {F : Hp} {lo : Int} {n : Nat} : ItD K F (Itr lo n) (rangeD lo n) where
  go := fun i F2 H2 M2 hi e R => by
    show i < n
    simpa [rangeD] using hi
  yld := fun i F2 H2 M2 d x H' hd e R y => by
    obtain ⟨rfl, rfl⟩ := y
    have hd' : d = .int (lo + (i : Int)) := by
      unfold rangeD at hd
      rw [List.getElem?_map] at hd
      cases q : (List.range n)[i]? with
      | none => rw [q] at hd; cases hd
      | some j =>
        rw [q] at hd
        have hj : j = i := by
          obtain ⟨h1, h2⟩ := List.getElem?_eq_some_iff.mp q
          simpa using h2.symm
        subst hj
        exact (Option.some.inj hd).symm
    subst hd'
    exact ⟨F2, Stp.refl _ _ _, R, .int _⟩
  stop := fun F2 H2 M2 e R => by
    show n ≤ (rangeD lo n).length
    simp [rangeD]
section
variable {X : Cx} {tg : Expr}
@[simp] def iSeq (t : DTE) : DTI := fun τ M Q => t τ M fun d M1 => match d with
  | .lst xs => Q xs M1
  | .tup xs => Q xs M1
  | .ptp xs => Q xs M1
  | _ => False
/-- a list or a tuple: as it is written -/
theorem di_lst {l : Expr} {t : DTE} (hl : DE X l t) : DI X tg l (fun τ M Q => t τ M fun d M1 => match d with | .lst xs => Q xs M1 | _ => False) := by
  obtain ⟨u, pu, ru⟩ := hl.ex
  refine ⟨_, pi_list pu, fun F H σ τ M Qd Q R q k => ?_⟩
  refine ru F H σ τ M _ _ R q fun v F1 H1 d M1 e1 R1 r1 q1 => ?_
  cases d <;> first | exact False.elim q1 | skip
  cases r1 with
  | lst hs rs => exact ⟨_, rfl, ⟨_, SqL.of (R1.heap.sub _ _ hs)⟩, k _ F1 H1 _ M1 e1 R1 (itd_list (SqL.of hs) rs) q1⟩
theorem di_tup {l : Expr} {t : DTE} (hl : DE X l t) : DI X tg l (fun τ M Q => t τ M fun d M1 => match d with | .tup xs => Q xs M1 | _ => False) := by
  obtain ⟨u, pu, ru⟩ := hl.ex
  refine ⟨_, pi_tup pu, fun F H σ τ M Qd Q R q k => ?_⟩
  refine ru F H σ τ M _ _ R q fun v F1 H1 d M1 e1 R1 r1 q1 => ?_
  cases d <;> first | exact False.elim q1 | skip
  cases r1 with
  | tup hs rs => exact ⟨_, rfl, ⟨_, R1.heap.sub.sqT hs⟩, k _ F1 H1 _ M1 e1 R1 (itd_tup hs rs) q1⟩
@[simp] def iRange1 (t : DTE) : DTI := fun τ M Q => t τ M fun d M1 => match d with
  | .int j => (-(2 ^ 62) ≤ j ∧ j < 2 ^ 62) ∧ Q (rangeD 0 j.toNat) M1
  | _ => False
@[simp] def iRange2 (t u : DTE) : DTI := fun τ M Q => t τ M fun d M1 => u τ M1 fun e M2 => match d, e with
  | .int i, .int j => (-(2 ^ 62) ≤ i ∧ i < 2 ^ 62 ∧ -(2 ^ 62) ≤ j ∧ j < 2 ^ 62) ∧ Q (rangeD i (j - i).toNat) M2
  | _, _ => False
theorem di_range1 {a : Expr} {t : DTE} {p pos : Pos} (hg : Gl X "range") (hm : X.mg "range" = none) (ha : DE X a t) (hs : starEach [a] X.env = (false, eval a X.env) :: starEach [] X.env := by rfl) (hs' : starEach [a] X.env = [(false, eval a X.env)] := by rfl) : DI X tg (.Call (.Name "range" p) [a] [] pos) (iRange1 t) := by
  obtain ⟨u, pu, ru⟩ := ha.ex
  refine ⟨_, pi_range1 hg hm (pa_cons pu pa_nil hs) hs', fun F H σ τ M Qd Q R q k => ?_⟩
  refine ru F H σ τ M _ _ R q fun v F1 H1 d M1 e1 R1 r1 q1 => ?_
  cases d <;> first | exact False.elim q1 | skip
  cases r1
  exact ⟨_, rfl, q1.1.1, q1.1.2, k _ F1 H1 _ M1 e1 R1 itd_range q1.2⟩
theorem di_range2 {a b : Expr} {t t' : DTE} {p pos : Pos} (hg : Gl X "range") (hm : X.mg "range" = none) (ha : DE X a t) (hb : DE X b t') (hs : starEach [a, b] X.env = (false, eval a X.env) :: starEach [b] X.env := by rfl) (hs1 : starEach [b] X.env = (false, eval b X.env) :: starEach [] X.env := by rfl)
    (hs' : starEach [a, b] X.env = [(false, eval a X.env), (false, eval b X.env)] := by rfl) (hs2 : starEach [b] X.env = [(false, eval b X.env)] := by rfl) : DI X tg (.Call (.Name "range" p) [a, b] [] pos) (iRange2 t t') := by
  obtain ⟨u, pu, ru⟩ := ha.ex
  obtain ⟨w, pw, rw'⟩ := hb.ex
  refine ⟨_, pi_range2 hg hm (pa_cons pu (pa_cons pw pa_nil hs1) hs) hs' hs2, fun F H σ τ M Qd Q R q k => ?_⟩
  refine ru F H σ τ M _ _ R q fun v F1 H1 d M1 e1 R1 r1 q1 => ?_
  refine rw' F1 H1 σ τ M1 _ _ R1 q1 fun v' F2 H2 d' M2 e2 R2 r2 q2 => ?_
  cases d <;> cases d' <;> first | exact False.elim q2 | skip
  cases r1
  cases r2
  exact ⟨_, _, rfl, q2.1, k _ F2 H2 _ M2 (e1.trans e2) R2 itd_range q2.2⟩
end

/-! ### list comprehensions -/
@[simp] def dwipe (τ : DSt) : List Nat → DSt
  | [] => τ
  | v :: vs => (dwipe τ vs).set v none
theorem dwipe_length (τ : DSt) : ∀ vs : List Nat, (dwipe τ vs).length = τ.length
  | [] => rfl
  | v :: vs => by unfold dwipe; rw [List.length_set, dwipe_length τ vs]
theorem dwipe_some {τ : DSt} {i : Nat} {x : D} : ∀ {vs : List Nat}, (dwipe τ vs)[i]? = some (some x) → τ[i]? = some (some x) ∧ i ∉ vs
  | [], h => ⟨h, by simp⟩
  | v :: vs, h => by
    unfold dwipe at h
    by_cases hi : v = i
    · subst hi
      by_cases hv : v < (dwipe τ vs).length
      · rw [List.getElem?_set_self hv] at h; cases h
      · rw [List.getElem?_eq_none (by simpa using hv)] at h; cases h
    · rw [List.getElem?_set_ne hi] at h
      obtain ⟨h1, h2⟩ := dwipe_some h
      exact ⟨h1, by simp only [List.mem_cons, not_or]; exact ⟨fun e => hi e.symm, h2⟩⟩
theorem wipe_keep {σ : L2.St} {i : Nat} : ∀ {vs : List Nat}, i ∉ vs → (wipe σ vs)[i]? = σ[i]?
  | [], _ => rfl
  | v :: vs, h => by
    unfold wipe
    rw [List.getElem?_set_ne (fun e => h (by simp [e]))]
    exact wipe_keep fun z => h (by simp [z])
theorem RelSl.wipe {K : PySem.W.Frag} {F : Hp} {σ : L2.St} {τ : DSt} (r : RelSl K F σ τ) (vs : List Nat) : RelSl K F (L2.wipe σ vs) (dwipe τ vs) := by
  refine ⟨by rw [wipe_length, dwipe_length, r.len], fun i d h => ?_⟩
  obtain ⟨h1, h2⟩ := dwipe_some h
  obtain ⟨v, g1, g2⟩ := r.get i d h1
  exact ⟨v, by rw [wipe_keep h2]; exact g1, g2⟩
/-- a target that stores only what the block forgets again -/
def Own (g : TG) (vs : List Nat) : Prop := ∀ x σ H Q, g x (wipe σ vs) H Q → g x (wipe σ vs) H fun σ2 H2 => wipe σ2 vs = wipe σ vs ∧ Q σ2 H2
def OwnAny (g : TG) (vs : List Nat) : Prop := ∀ x σ H Q, g x σ H Q → g x σ H fun σ2 H2 => wipe σ2 vs = wipe σ vs ∧ Q σ2 H2
def OwnAnys (g : TGs) (vs : List Nat) : Prop := ∀ x σ H Q, g x σ H Q → g x σ H fun σ2 H2 => wipe σ2 vs = wipe σ vs ∧ Q σ2 H2
theorem wipe_set {σ : L2.St} {i : Nat} {x : Option V} : ∀ {vs : List Nat}, i ∈ vs → wipe (σ.set i x) vs = wipe σ vs
  | [], h => by cases h
  | v :: vs, h => by
    by_cases hv : i ∈ vs
    · unfold wipe; rw [wipe_set hv]
    · have e : i = v := by
        rcases List.mem_cons.mp h with z | z
        · exact z
        · exact absurd z hv
      subst e
      unfold wipe
      have go : ∀ ws : List Nat, i ∉ ws → wipe (σ.set i x) ws = (wipe σ ws).set i x := by
        intro ws
        induction ws with
        | nil => intro _; rfl
        | cons w ws ih =>
          intro hw
          unfold wipe
          rw [ih fun z => hw (by simp [z]), List.set_comm _ _ (fun z => hw (by simp [z]))]
      rw [go vs hv, List.set_set]
theorem wipe_wipe (σ : L2.St) (vs : List Nat) : wipe (wipe σ vs) vs = wipe σ vs := by
  apply List.ext_getElem?
  intro i
  by_cases h : i ∈ vs
  · have go : ∀ (ρ : L2.St) (ws : List Nat), i ∈ ws → (wipe ρ ws)[i]? = if i < ρ.length then some none else none := by
      intro ρ ws
      induction ws with
      | nil => intro z; cases z
      | cons w ws ih =>
        intro z
        unfold wipe
        by_cases e : w = i
        · subst e
          rw [List.getElem?_set]
          simp [wipe_length]
        · rw [List.getElem?_set_ne e]
          rcases List.mem_cons.mp z with z | z
          · exact absurd z.symm e
          · exact ih z
    rw [go _ _ h, go _ _ h, wipe_length]
  · rw [wipe_keep h]
theorem OwnAny.own {g : TG} {vs : List Nat} (h : OwnAny g vs) : Own g vs := fun x σ H Q q => by
  have z := h x (wipe σ vs) H Q q
  rw [wipe_wipe] at z
  exact z
theorem own_name {i : Nat} {vs : List Nat} (h : i ∈ vs) : OwnAny (gName i) vs := fun x σ H Q q => ⟨wipe_set h, q⟩
theorem own_nil {vs : List Nat} : OwnAnys gNil vs := fun x σ H Q q => ⟨q.1, rfl, q.2⟩
theorem own_cons {g : TG} {u : TGs} {vs : List Nat} (hm : ∀ x σ H Q Q', (∀ σ2 H2, Q σ2 H2 → Q' σ2 H2) → g x σ H Q → g x σ H Q') (hmu : ∀ x σ H Q Q', (∀ σ2 H2, Q σ2 H2 → Q' σ2 H2) → u x σ H Q → u x σ H Q') (h : OwnAny g vs) (h' : OwnAnys u vs) : OwnAnys (gCons g u) vs := fun x σ H Q q => by
  obtain ⟨v, r, e, q⟩ := q
  refine ⟨v, r, e, ?_⟩
  have z := h v σ H _ q
  refine hm _ _ _ _ _ (fun σ2 H2 ⟨e2, q2⟩ => ?_) z
  refine hmu _ _ _ _ _ (fun σ3 H3 ⟨e3, q3⟩ => ?_) (h' r σ2 H2 _ q2)
  exact ⟨e3.trans e2, q3⟩
theorem own_tup {K : PySem.W.Frag} {n : Nat} {u : TGs} {vs : List Nat} (h : OwnAnys u vs) : OwnAny (gTup K n u) vs := fun x σ H Q q => by
  obtain ⟨a, xs, e, hs, hl, q⟩ := q
  exact ⟨a, xs, e, hs, hl, h xs σ H Q q⟩
/-- a comprehension's target, wherever the block runs -/
structure DGC (X : Cx) (scope : Scope) (tg : Expr) (vs : List Nat) (g : DTG) : Prop where
  ex : ∃ t, (∀ (s : Shared) (H : Hp) (C : Addr) (cl : List (Str × Addr)) (fp : List Addr), PG (X.blk s H scope (compEnvC scope cl C X.env) fp) tg t) ∧ RefG X.K t g ∧ OwnAny t vs ∧ ∀ x σ H Q Q', (∀ σ2 H2, Q σ2 H2 → Q' σ2 H2) → t x σ H Q → t x σ H Q'
structure DGCs (X : Cx) (scope : Scope) (tgs : List Expr) (vs : List Nat) (g : DTGs) : Prop where
  ex : ∃ t, (∀ (s : Shared) (H : Hp) (C : Addr) (cl : List (Str × Addr)) (fp : List Addr), PGs (X.blk s H scope (compEnvC scope cl C X.env) fp) tgs t) ∧ RefGs X.K t g ∧ OwnAnys t vs ∧ ∀ x σ H Q Q', (∀ σ2 H2, Q σ2 H2 → Q' σ2 H2) → t x σ H Q → t x σ H Q'
section
variable {X : Cx} {scope : Scope} {vs : List Nat} {pos : Pos}
theorem dgc_name {i : Nat} {x : Str} (hN : X.N.Nodup) (hv : i ∈ vs := by decide) (hi : X.N[i]? = some x := by rfl)
    (hx : ∀ (s : Shared) (H : Hp) (C : Addr) (cl : List (Str × Addr)) (fp : List Addr), Loc (X.blk s H scope (compEnvC scope cl C X.env) fp).env.scope x := by intro _ _ _ _ _; first | exact .inl rfl | exact .inr rfl)
    (hf : ∀ (s : Shared) (H : Hp) (C : Addr) (cl : List (Str × Addr)) (fp : List Addr), (X.blk s H scope (compEnvC scope cl C X.env) fp).fn x = true ∨ (X.blk s H scope (compEnvC scope cl C X.env) fp).env.scope.names.lookup x = some .local := by intro _ _ _ _ _; first | exact .inl rfl | exact .inr rfl) :
    DGC X scope (.Name x pos) vs (dgName i) := ⟨gName i, fun s H C cl fp => pg_name hN hi (hx s H C cl fp) (hf s H C cl fp), refGName, own_name hv, fun x σ H Q Q' h q => h _ _ q⟩
theorem dgcs_nil : DGCs X scope [] vs dgNil := ⟨gNil, fun s H C cl fp => pgs_nil, refGNil, own_nil, fun x σ H Q Q' h q => ⟨q.1, h _ _ q.2⟩⟩
theorem dgcs_cons {e : Expr} {es : List Expr} {g : DTG} {u : DTGs} (h1 : DGC X scope e vs g) (h2 : DGCs X scope es vs u)
    (hs : ∀ (s : Shared) (H : Hp) (C : Addr) (cl : List (Str × Addr)) (fp : List Addr), (assignEach (e :: es) (X.blk s H scope (compEnvC scope cl C X.env) fp).env).map (·.2) = assign e (X.blk s H scope (compEnvC scope cl C X.env) fp).env :: (assignEach es (X.blk s H scope (compEnvC scope cl C X.env) fp).env).map (·.2) := by intro _ _ _ _ _; rfl) :
    DGCs X scope (e :: es) vs (dgCons g u) := by
  obtain ⟨a, pa, ra, oa, ma⟩ := h1.ex
  obtain ⟨b, pb, rb, ob, mb⟩ := h2.ex
  refine ⟨gCons a b, fun s H C cl fp => pgs_cons (pa s H C cl fp) (pb s H C cl fp) (hs s H C cl fp), refGCons ra rb, own_cons ma mb oa ob, fun x σ H Q Q' h q => ?_⟩
  obtain ⟨v, r, e, q⟩ := q
  exact ⟨v, r, e, ma _ _ _ _ _ (fun σ2 H2 q2 => mb _ _ _ _ _ h q2) q⟩
theorem dgc_tup {es : List Expr} {k n : Nat} {t : DTGs} (hc : X.calm = true) (h : DGCs X scope es vs t)
    (hn : ∀ (s : Shared) (H : Hp) (C : Addr) (cl : List (Str × Addr)) (fp : List Addr), (assignEach es (X.blk s H scope (compEnvC scope cl C X.env) fp).env).length = n := by intro _ _ _ _ _; rfl)
    (hst : ∀ (s : Shared) (H : Hp) (C : Addr) (cl : List (Str × Addr)) (fp : List Addr), (assignEach es (X.blk s H scope (compEnvC scope cl C X.env) fp).env).findIdx? (·.1) = none := by intro _ _ _ _ _; rfl) : DGC X scope (.Tuple es k pos) vs (dgTup n t) := by
  obtain ⟨a, pa, ra, oa, ma⟩ := h.ex
  refine ⟨gTup X.K n a, fun s H C cl fp => pg_tup hc (pa s H C cl fp) (hn s H C cl fp) (hst s H C cl fp), refGTup ra, own_tup oa, fun x σ H Q Q' h q => ?_⟩
  obtain ⟨b, xs, e, hs, hl, q⟩ := q
  exact ⟨b, xs, e, hs, hl, ma _ _ _ _ _ h q⟩
end
/-- a comprehension's tests -/
structure DTs (X : Cx) (ifs : List Expr) (t : DTT) : Prop where
  ex : ∃ te, PTs X ifs te ∧ RefT X.K te t
@[simp] def dYes : DTT := fun _ M Q => Q true M
theorem dts_nil {X : Cx} : DTs X [] dYes := ⟨tYes, pts_nil, fun F H σ τ M Qd Q R q k => k true F H M (Stp.refl F H M) R q⟩
theorem dts_one {X : Cx} {c : Expr} {t : DTT} (h : DT X c t) : DTs X [c] t := by
  obtain ⟨u, pu, ru⟩ := h.ex
  exact ⟨u, pts_one pu, ru⟩
/-- item by item: what is made so far, then the rest -/
def compD (g : DTG) (tt : DTT) (te : DTE) (τ : DSt) (Q : List D → Sto → Prop) : List D → List D → Sto → Prop
  | [], acc, M => Q acc M
  | d :: ds, acc, M => g d τ M fun τ2 M2 => tt τ2 M2 fun b M3 => if b = true then te τ2 M3 fun y M4 => acc.length < sizeLine ∧ compD g tt te τ Q ds (acc ++ [y]) M4 else compD g tt te τ Q ds acc M3
@[simp] def dLc (it : DTI) (g : DTG) (tt : DTT) (te : DTE) (vs : List Nat) : DTE := fun τ M Q => it τ M fun ds M1 => compD g tt te (dwipe τ vs) (fun acc M2 => Q (.lst acc) M2) ds [] M1
@[simp] def dLcM (it : DTI) (g : DTG) (tt : DTT) (te : DTE) (vs : List Nat) : DTE := fun τ M Q => it τ M fun ds M1 => compD g tt te (dwipe τ vs) (fun acc M2 => ∀ p, M2 p = none → Q (.ref p) (M2.upd p (.lst acc))) ds [] M1
section
variable {K : PySem.W.Frag} {F H : Hp} {M : Sto} {p : Addr}
/-- a thing that only H knows is written -/
theorem Rst0.side (r : Rst0 K F H M) (hm : M p = none) (hf : F p = none) (o : HO) : Rst0 K F (upd H p o) M := ⟨fun b u e => by rw [upd_ne (ne_of_none e hf)]; exact r.sub b u e, fun b u e => by
  obtain ⟨h1, ho, h2, h3⟩ := r.sto b u e
  exact ⟨h1, ho, by rw [upd_ne (Sto.ne e hm)]; exact h2, h3⟩⟩
theorem Stp.side {F1 H1 : Hp} {M1 : Sto} (s : Stp F H M F1 H1 M1) (h0 : H p = none) (o : HO) : Stp F H M F1 (upd H1 p o) M1 := ⟨s.ext, fun b u e n => by
  obtain ⟨h1, m1, f1⟩ := s.kp b u e n
  exact ⟨by rw [upd_ne (ne_of_none e h0)]; exact h1, m1, f1⟩, fun a z => s.al a (upd_al a z)⟩
end
theorem lc_coreD {K : PySem.W.Frag} {wi : TI} {it : DTI} {tg : TG} {g : DTG} {tt : TT} {dt : DTT} {te : TE} {de : DTE} {vs : List Nat} (hi : RefI K wi it) (hg : RefG K tg g) (ho : OwnAny tg vs) (hm : ∀ x σ H Q Q', (∀ σ2 H2, Q σ2 H2 → Q' σ2 H2) → tg x σ H Q → tg x σ H Q') (ht : RefT K tt dt) (he : RefE K te de)
    {F H : Hp} {σ : L2.St} {τ : DSt} {M : Sto} {Qc : List D → Sto → Prop} {Q : VK} (R : Rst K F H σ τ M) (q : it τ M fun ds M1 => compD g dt de (dwipe τ vs) Qc ds [] M1)
    (k : ∀ p F' H' M' xs acc, Stp F H M F' H' M' → Rst K F' H' σ τ M' → H p = none → M' p = none → F' p = none → H' p = some (.lst xs) → RelDs K F' xs acc → Qc acc M' → Q (.ref p) H') : tLc wi tg tt te vs σ H Q := by
  refine hi F H σ τ M _ _ R q fun J F1 H1 ds M1 e1 R1 hJ q1 p hp => ?_
  have hp0 : H p = none := e1.al p hp
  obtain ⟨hf1, hm1⟩ := R1.heap.free hp
  refine ⟨fun i m H' => m = ds.length - i ∧ i ≤ ds.length ∧ ∃ F' M' xs acc, Stp F H M F' H' M' ∧ Ext F1 F' ∧ Rst K F' H' σ τ M' ∧ M' p = none ∧ F' p = none ∧ H' p = some (.lst xs) ∧ RelDs K F' xs acc ∧ compD g dt de (dwipe τ vs) Qc (ds.drop i) acc M',
    ⟨ds.length, by simp, Nat.zero_le _, F1, M1, [], [], e1.side hp0 _, Ext.refl _, ⟨R1.heap.side hm1 hf1 _, R1.slots⟩, hm1, hf1, upd_same, .nil, by simpa using q1⟩, ?_⟩
  rintro i m H2 ⟨rfl, hil, F2, M2, xs, acc, s2, x2, R2, m2, f2, h2, rl2, q2⟩
  by_cases hlt : i < ds.length
  · obtain ⟨d, hd⟩ : ∃ d, ds[i]? = some d := ⟨ds[i], List.getElem?_eq_getElem hlt⟩
    rw [drop_cons hd] at q2
    refine .inr ⟨hJ.go i F2 H2 M2 hlt x2 R2.heap, fun H' => ∃ F' M' xs acc, Stp F H M F' H' M' ∧ Ext F1 F' ∧ Rst K F' H' σ τ M' ∧ M' p = none ∧ F' p = none ∧ H' p = some (.lst xs) ∧ RelDs K F' xs acc ∧ compD g dt de (dwipe τ vs) Qc (ds.drop (i + 1)) acc M', fun H' z => ⟨ds.length - (i + 1), by omega, rfl, hlt, z⟩, fun x H' y => ?_⟩
    obtain ⟨F3, e3, R3, r3⟩ := hJ.yld i F2 H2 M2 d x H' hd x2 R2.heap y
    have sl3 : RelSl K F3 (wipe σ vs) (dwipe τ vs) := (R2.slots.mono e3.ext).wipe vs
    refine ho.own _ _ _ _ (hg F3 H' (wipe σ vs) (dwipe τ vs) M2 x d _ _ ⟨R3, sl3⟩ r3 q2 fun F4 H4 σ4 τ4 M4 e4 R4 q4 => ?_)
    refine ht F4 H4 σ4 τ4 M4 _ _ R4 q4 fun b F5 H5 M5 e5 R5 q5 => ?_
    have s5 : Stp F2 H2 M2 F5 H5 M5 := (e3.trans e4).trans e5
    cases b with
    | false =>
      obtain ⟨h5, m5, f5⟩ := s5.kp p _ h2 m2
      exact iteF ⟨F5, M5, xs, acc, s2.trans s5, x2.trans s5.ext, ⟨R5.heap, R2.slots.mono s5.ext⟩, m5, f5 f2, h5, rl2.mono s5.ext, q5⟩
    | true =>
      refine iteT (he F5 H5 σ4 τ4 M5 _ _ R5 q5 fun y F6 H6 dy M6 e6 R6 r6 q6 => ?_)
      have s6 := s5.trans e6
      obtain ⟨h6, m6, f6⟩ := s6.kp p _ h2 m2
      refine ⟨xs, h6, by rw [rl2.length]; exact q6.1, F6, M6, xs ++ [y], acc ++ [dy], (s2.trans s6).side hp0 _, x2.trans s6.ext, ⟨R6.heap.side m6 (f6 f2) _, R2.slots.mono s6.ext⟩, m6, f6 f2, upd_same, (rl2.mono s6.ext).append (.cons r6 .nil), q6.2⟩
  · have e : i = ds.length := by omega
    subst e
    rw [List.drop_length] at q2
    exact .inl ⟨hJ.stop F2 H2 M2 x2 R2.heap, k p F2 H2 M2 xs acc s2 R2 hp0 m2 f2 h2 rl2 q2⟩
theorem refLc {K : PySem.W.Frag} {wi : TI} {it : DTI} {tg : TG} {g : DTG} {tt : TT} {dt : DTT} {te : TE} {de : DTE} {vs : List Nat} (hi : RefI K wi it) (hg : RefG K tg g) (ho : OwnAny tg vs) (hm : ∀ x σ H Q Q', (∀ σ2 H2, Q σ2 H2 → Q' σ2 H2) → tg x σ H Q → tg x σ H Q') (ht : RefT K tt dt) (he : RefE K te de) :
    RefE K (tLc wi tg tt te vs) (dLc it g dt de vs) := fun F H σ τ M Qd Q R q k =>
  lc_coreD hi hg ho hm ht he R q fun p F' H' M' xs acc s' R' h0 m' f' h' rl q' => by
    obtain ⟨e, s2, R2⟩ := R'.heap.adopt s' h' m' f' h0
    exact k (.ref p) _ H' (.lst acc) M' s2 (R'.mono e R2) (.lst upd_same (rl.mono e)) q'
theorem refLcM {K : PySem.W.Frag} {wi : TI} {it : DTI} {tg : TG} {g : DTG} {tt : TT} {dt : DTT} {te : TE} {de : DTE} {vs : List Nat} (hi : RefI K wi it) (hg : RefG K tg g) (ho : OwnAny tg vs) (hm : ∀ x σ H Q Q', (∀ σ2 H2, Q σ2 H2 → Q' σ2 H2) → tg x σ H Q → tg x σ H Q') (ht : RefT K tt dt) (he : RefE K te de) :
    RefE K (tLc wi tg tt te vs) (dLcM it g dt de vs) := fun F H σ τ M Qd Q R q k =>
  lc_coreD hi hg ho hm ht he R q fun p F' H' M' xs acc s' R' h0 m' f' h' rl q' => by
    refine k (.ref p) F' H' (.ref p) (M'.upd p (.lst acc)) ⟨s'.ext, fun b u e n => ?_, s'.al⟩ ⟨⟨R'.heap.sub, fun b u e => ?_⟩, R'.slots⟩ (.ref p) (q' p m')
    · obtain ⟨h1, m1, f1⟩ := s'.kp b u e n
      exact ⟨h1, by rw [Sto.upd_ne (ne_of_none e h0)]; exact m1, f1⟩
    · by_cases hb : b = p
      · subst hb
        rw [Sto.upd_same] at e; cases e
        exact ⟨f', _, h', rl⟩
      · rw [Sto.upd_ne hb] at e
        exact R'.heap.sto b u e
section
variable {X : Cx} {elt tg iter : Expr} {ifs : List Expr} {scope : Scope} {own : List (Str × Nat)} {pos spos : Pos} {it : DTI} {g : DTG} {tt : DTT} {te : DTE} {i : Nat} {y : Str} {py : Pos}
theorem uni_e {t : DTE} (h : ∀ (s : Shared) (H : Hp) (C : Addr) (cl : List (Str × Addr)) (fp : List Addr), DE (X.blk s H scope (compEnvC scope cl C X.env) fp) elt t) :
    ∃ te, (∀ (s : Shared) (H : Hp) (C : Addr) (cl : List (Str × Addr)) (fp : List Addr), PE (X.blk s H scope (compEnvC scope cl C X.env) fp) elt te) ∧ RefE X.K te t := by
  refine ⟨fun σ Hh Q => ∀ (s : Shared) (H : Hp) (C : Addr) (cl : List (Str × Addr)) (fp : List Addr) (te : TE), PE (X.blk s H scope (compEnvC scope cl C X.env) fp) elt te → RefE X.K te t → te σ Hh Q, fun s H C cl fp => ?_, fun F H σ τ M Qd Q R q k => ?_⟩
  · obtain ⟨te, p, r⟩ := (h s H C cl fp).ex
    exact ⟨fun pins s' σ H' Q I q => p.run pins s' σ H' Q I (q s H C cl fp te p r)⟩
  · intro s H' C cl fp te p r
    exact r F H σ τ M Qd Q R q k
theorem uni_t {t : DTT} (h : ∀ (s : Shared) (H : Hp) (C : Addr) (cl : List (Str × Addr)) (fp : List Addr), DTs (X.blk s H scope (compEnvC scope cl C X.env) fp) ifs t) :
    ∃ te, (∀ (s : Shared) (H : Hp) (C : Addr) (cl : List (Str × Addr)) (fp : List Addr), PTs (X.blk s H scope (compEnvC scope cl C X.env) fp) ifs te) ∧ RefT X.K te t := by
  refine ⟨fun σ Hh Q => ∀ (s : Shared) (H : Hp) (C : Addr) (cl : List (Str × Addr)) (fp : List Addr) (te : TT), PTs (X.blk s H scope (compEnvC scope cl C X.env) fp) ifs te → RefT X.K te t → te σ Hh Q, fun s H C cl fp => ?_, fun F H σ τ M Qd Q R q k => ?_⟩
  · obtain ⟨te, p, r⟩ := (h s H C cl fp).ex
    exact ⟨fun pins s' σ H' Q I q => p.run pins s' σ H' Q I (q s H C cl fp te p r)⟩
  · intro s H' C cl fp te p r
    exact r F H σ τ M Qd Q R q k
theorem de_lc (hc : X.calm = true) (hN : X.N.Nodup) (hi : DI X tg iter it) (ok : BlkOk X.N X.env.scope scope own) (hg : DGC X scope tg (own.map (·.2)) g)
    (ht : ∀ (s : Shared) (H : Hp) (C : Addr) (cl : List (Str × Addr)) (fp : List Addr), DTs (X.blk s H scope (compEnvC scope cl C X.env) fp) ifs tt) (he : ∀ (s : Shared) (H : Hp) (C : Addr) (cl : List (Str × Addr)) (fp : List Addr), DE (X.blk s H scope (compEnvC scope cl C X.env) fp) elt te)
    (hs : ∀ x, foldedSetIterable iter X.env x = pure x := by intro _; rfl) : DE X (.ListComp elt [⟨tg, iter, ifs, 0⟩] scope pos) (dLc it g tt te (own.map (·.2))) := by
  obtain ⟨wi, pi, ri⟩ := hi.ex
  obtain ⟨gg, pg, rg, og, mg⟩ := hg.ex
  obtain ⟨ee, pe, re⟩ := uni_e he
  obtain ⟨t', pt, rt⟩ := uni_t ht
  exact ⟨_, pe_lc hc hN pi ok pg pt pe hs, refLc ri rg og mg rt re⟩
theorem de_lcM (hc : X.calm = true) (hN : X.N.Nodup) (hi : DI X tg iter it) (ok : BlkOk X.N X.env.scope scope own) (hg : DGC X scope tg (own.map (·.2)) g)
    (ht : ∀ (s : Shared) (H : Hp) (C : Addr) (cl : List (Str × Addr)) (fp : List Addr), DTs (X.blk s H scope (compEnvC scope cl C X.env) fp) ifs tt) (he : ∀ (s : Shared) (H : Hp) (C : Addr) (cl : List (Str × Addr)) (fp : List Addr), DE (X.blk s H scope (compEnvC scope cl C X.env) fp) elt te)
    (hs : ∀ x, foldedSetIterable iter X.env x = pure x := by intro _; rfl) : DE X (.ListComp elt [⟨tg, iter, ifs, 0⟩] scope pos) (dLcM it g tt te (own.map (·.2))) := by
  obtain ⟨wi, pi, ri⟩ := hi.ex
  obtain ⟨gg, pg, rg, og, mg⟩ := hg.ex
  obtain ⟨ee, pe, re⟩ := uni_e he
  obtain ⟨t', pt, rt⟩ := uni_t ht
  exact ⟨_, pe_lc hc hN pi ok pg pt pe hs, refLcM ri rg og mg rt re⟩
/-- name = [..] -/
theorem ds_setLc (hc : X.calm = true) (hN : X.N.Nodup) (hi : DI X tg iter it) (ok : BlkOk X.N X.env.scope scope own) (hg : DGC X scope tg (own.map (·.2)) g)
    (ht : ∀ (s : Shared) (H : Hp) (C : Addr) (cl : List (Str × Addr)) (fp : List Addr), DTs (X.blk s H scope (compEnvC scope cl C X.env) fp) ifs tt) (he : ∀ (s : Shared) (H : Hp) (C : Addr) (cl : List (Str × Addr)) (fp : List Addr), DE (X.blk s H scope (compEnvC scope cl C X.env) fp) elt te)
    (hsw : swapsWith (.ListComp elt [⟨tg, iter, ifs, 0⟩] scope pos) (some (.Name y py)) spos.line X.env = pure true) (hy : X.N[i]? = some y := by rfl) (hyl : X.env.scope.names.lookup y = some .local := by rfl) (hs : ∀ x, foldedSetIterable iter X.env x = pure x := by intro _; rfl) :
    DS X (.Assign [.Name y py] (.ListComp elt [⟨tg, iter, ifs, 0⟩] scope pos) spos) (dAsg (dLc it g tt te (own.map (·.2))) (dgName i)) := by
  obtain ⟨wi, pi, ri⟩ := hi.ex
  obtain ⟨gg, pg, rg, og, mg⟩ := hg.ex
  obtain ⟨ee, pe, re⟩ := uni_e he
  obtain ⟨t', pt, rt⟩ := uni_t ht
  exact ⟨_, ps_setLc hc hN hy hyl hsw pi ok pg pt pe hs, refAsg (refLc ri rg og mg rt re) refGName⟩
theorem ds_setLcM (hc : X.calm = true) (hN : X.N.Nodup) (hi : DI X tg iter it) (ok : BlkOk X.N X.env.scope scope own) (hg : DGC X scope tg (own.map (·.2)) g)
    (ht : ∀ (s : Shared) (H : Hp) (C : Addr) (cl : List (Str × Addr)) (fp : List Addr), DTs (X.blk s H scope (compEnvC scope cl C X.env) fp) ifs tt) (he : ∀ (s : Shared) (H : Hp) (C : Addr) (cl : List (Str × Addr)) (fp : List Addr), DE (X.blk s H scope (compEnvC scope cl C X.env) fp) elt te)
    (hsw : swapsWith (.ListComp elt [⟨tg, iter, ifs, 0⟩] scope pos) (some (.Name y py)) spos.line X.env = pure true) (hy : X.N[i]? = some y := by rfl) (hyl : X.env.scope.names.lookup y = some .local := by rfl) (hs : ∀ x, foldedSetIterable iter X.env x = pure x := by intro _; rfl) :
    DS X (.Assign [.Name y py] (.ListComp elt [⟨tg, iter, ifs, 0⟩] scope pos) spos) (dAsg (dLcM it g tt te (own.map (·.2))) (dgName i)) := by
  obtain ⟨wi, pi, ri⟩ := hi.ex
  obtain ⟨gg, pg, rg, og, mg⟩ := hg.ex
  obtain ⟨ee, pe, re⟩ := uni_e he
  obtain ⟨t', pt, rt⟩ := uni_t ht
  exact ⟨_, ps_setLc hc hN hy hyl hsw pi ok pg pt pe hs, refAsg (refLcM ri rg og mg rt re) refGName⟩
end

/-! ### calls of the text's own defs; no repr is under way around them -/
/-- a def keeps its promise sp, wherever nothing is being shown -/
structure FnG (P : Program) (w : World) (K : PySem.W.Frag) (mg : Str → Option Value) (base : Heap) (CX : CXT) (k : Nat) (f : Addr) (fd : FuncData) (ps : List Str) (sp : Sp) : Prop where
  many : ∀ {vs H Q E}, sp vs H Q E → vs.length = ps.length
  goes : ∀ {A : Around} {outer : List Env} {s : Shared} {H : Hp} {args : Args} {us : List Value} {vs : List V} {Q : VK} {E : XK}, A.guards = some [] → Room k A → Env0 P w K mg base A outer s H →
    BindsTo s fd args (ps.zip us) → Vals vs us → sp vs H Q E →
      codeAny (model P w) A (.call (.ref f) args) (CR CX outer P w H s Q E) s
theorem FnG.mono {P : Program} {w : World} {K : PySem.W.Frag} {mg : Str → Option Value} {base : Heap} {CX : CXT} {j k : Nat} {f : Addr} {fd : FuncData} {ps : List Str} {sp : Sp} (G : FnG P w K mg base CX j f fd ps sp) (h : j ≤ k) :
    FnG P w K mg base CX k f fd ps sp := ⟨G.many, fun g r => G.goes g (r.mono h)⟩
section
variable {X : Cx} {CX : CXT} {k : Nat} {f : Addr} {fd : FuncData} {ps : List Str} {sp : Sp} {E : XK} {x : Str} {p pos : Pos} {e : Expr} {es : List Expr} {t : TA}
theorem goG {pins : List (Addr × Obj)} {σ : L2.St} {H : Hp} {s : Shared} {Q : VK} {us : List Value} {vs : List V} (G : FnG X.prog X.w X.K X.mg X.base CX k f fd ps sp)
    (g : X.A.guards = some []) (hr : Room k X.A) (hb : Binds X.K fd ps []) (hx : Passes CX X E) (I : Inv X pins σ H s) (r : Vals vs us) (h : sp vs H Q E) :
    wpAny (model X.prog X.w) X.A (call (.ref f) us) (EP X pins σ Q) X.xe s := by
  have n1 : (us ++ ([] : List Value)).length = ps.length := by rw [List.append_nil, ← r.length, G.many h]
  have bd := hb s us I.kIn n1
  rw [List.append_nil] at bd
  have c := G.goes (args := ⟨us, []⟩) g hr I.env0 bd r h
  refine wpAny_call (codeAny_mono c ?_)
  intro res s' z
  match res, z with
  | .error er, z => exact hx pins σ H s er s' I z
  | .ok (.ret u), z => exact I.after z
  | .ok .next, z => exact z.elim
  | .ok .brk, z => exact z.elim
  | .ok .cont, z => exact z.elim
theorem peG (G : FnG X.prog X.w X.K X.mg X.base CX k f fd ps sp) (g : X.A.guards = some []) (hr : Room k X.A) (hg : Gl X x) (hm : X.mg x = some (.ref f)) (hk : PySem.W.keepIn X.K (.ref f) = true) (hb : Binds X.K fd ps []) (hx : Passes CX X E)
    (ha : PA X (e :: es) t) (hdb : (x == ("__debug__" : Str)) = false) (he : starEach (e :: es) X.env = (false, eval e X.env) :: starEach es X.env) (hpl : (backTo pos (starEach es X.env)).any (·.1) = false) :
    PE X (.Call (.Name x p) (e :: es) [] pos) (fun σ H Q => t σ H fun vs H1 => sp vs H1 Q E) := by
  constructor
  intro pins s σ H Q I h
  apply wpAny_Call_Name_kw
  apply ld_glob I hg hm _ hdb
  apply PySem.W.callWith_K (h₀ := X.base) I.ok.mod.kin hk _ he hpl
  refine thn (ha.run pos pins s σ H _ I h) ?_
  rintro us s1 ⟨vs, H1, I1, r, q⟩
  exact ⟨I1.kIn, goG G g hr hb hx I1 r q⟩
theorem peG0 (G : FnG X.prog X.w X.K X.mg X.base CX k f fd ps sp) (g : X.A.guards = some []) (hr : Room k X.A) (hg : Gl X x) (hm : X.mg x = some (.ref f)) (hk : PySem.W.keepIn X.K (.ref f) = true) (hb : Binds X.K fd ps []) (hx : Passes CX X E)
    (hdb : (x == ("__debug__" : Str)) = false) : PE X (.Call (.Name x p) [] [] pos) (fun σ H Q => sp [] H Q E) := by
  constructor
  intro pins s σ H Q I h
  apply wpAny_Call_Name_kw
  apply ld_glob I hg hm _ hdb
  exact PySem.W.callWith_K0 I.kIn hk (goG G g hr hb hx I .nil h)
end
section
variable {P : Program} {w : World} {K : PySem.W.Frag} {mg : Str → Option Value} {base : Heap} {CX : CXT}
/-- a def's promise by its body -/
theorem fnG_of {k : Nat} {f : Addr} {name qual : Str} {params : Arguments} {body : List Stmt} {scope : Scope} {dV kV doc pm cdv ct oc : Value} {an od : Option Addr} {osl : Array (Option Value)} {N ps : List Str} {sp : Sp}
    (lk : K.lookup f = some ⟨oc, od, .func (PySem.W.fnOf name qual params body scope dV kV doc pm an cdv ct), osl⟩) (hcd : PySem.W.codeIn K cdv qual = true) (S : FnScope N ps scope) (many : ∀ {vs H Q E}, sp vs H Q E → vs.length = ps.length)
    (hbody : ∀ (A : Around) (outer : List Env) (s : Shared) (H : Hp) (vs : List V) (Q : VK) (E : XK), (A.deeper (envOfC qual scope s.heap.objs.size f cdv)).guards = some [] → Room k (A.deeper (envOfC qual scope s.heap.objs.size f cdv)) → sp vs H Q E →
      ∃ t, PSs (cxOf CX P w K mg base N qual scope f cdv A outer s H E) body t ∧ t { nx := fun _ H' => Q .non H', rt := Q } (start N vs) H) :
    FnG P w K mg base CX (k + 1) f (PySem.W.fnOf name qual params body scope dV kV doc pm an cdv ct) ps sp := by
  refine ⟨many, ?_⟩
  intro A outer s H args us vs Q E hgd hr e0 hb r hsp
  have hl := many hsp
  have kept : ∀ b o, base.get? b = some o → s.heap.get? b = some o := fun b o z => (e0.bs b o z).1
  have KX := e0.mod.kin.keeps kept
  have lim := e0.mod.nolimit.keeps kept
  have hkind : ∀ y ∈ ps.zip us, scope.names.lookup y.1 = some .local ∨ (scope.names.lookup y.1 = some .cell ∧ ((cellsFrom (s.heap.objs.size + 1) scope.names []).lookup y.1).isSome = true) := by
    rintro ⟨n, v⟩ hy
    have q := S.par n (List.of_mem_zip hy).1
    cases q with
    | inl q => exact .inl q
    | inr q => exact .inr ⟨q, PySem.W.cellsFrom_some _ _ _ (.inl q)⟩
  apply codeAny_call_function hr.depth (KX _ _ lk) rfl S.co S.gen rfl (PySem.W.codeRec_of KX hcd)
  refine hb _ _ _ _ (wpAny_newFunctionEnv_cells S.kind hkind ?_)
  intro env he s1 x
  subst he
  constructor
  · exact lim.keeps x.toInCall.keep
  apply codeAny_func
  obtain ⟨t, ht, hq⟩ := hbody A outer s H vs Q E hgd (hr.deeper _) hsp
  have I : Inv (cxOf CX P w K mg base N qual scope f cdv A outer s H E) [] (start N vs) H s1 := inv_start S hr.hd e0 hl r x
  refine wpAny_mono (ht.run [] s1 _ H _ I hq) ?_ (fun _ _ z => z)
  intro fl s' hs
  match fl, hs with
  | .ret u, ⟨v, σ', H', J, rv, q⟩ => exact ⟨v, H', J.os, J.bare, J.base, J.hok, rv, q⟩
  | .next, ⟨σ', H', J, q⟩ => exact ⟨V.non, H', J.os, J.bare, J.base, J.hok, rfl, q⟩
  | .brk, ⟨_, _, _, q⟩ => exact q.elim
  | .cont, ⟨_, _, _, q⟩ => exact q.elim
theorem funG {x qual : Str} {st : Stmt} {f : Addr} {fd : FuncData} {N ps : List Str} {k : Nat} {sp : Sp} (F : Fun K x qual st f fd) (S : FnScope N ps (defScope st)) (many : ∀ {vs H Q E}, sp vs H Q E → vs.length = ps.length)
    (hbody : ∀ (cdv : Value) (A : Around) (outer : List Env) (s : Shared) (H : Hp) (vs : List V) (Q : VK) (E : XK), (A.deeper (envOfC qual (defScope st) s.heap.objs.size f cdv)).guards = some [] → Room k (A.deeper (envOfC qual (defScope st) s.heap.objs.size f cdv)) → sp vs H Q E →
      ∃ t, PSs (cxOf CX P w K mg base N qual (defScope st) f cdv A outer s H E) (defBody st) t ∧ t { nx := fun _ H' => Q .non H', rt := Q } (start N vs) H) : FnG P w K mg base CX (k + 1) f fd ps sp := by
  obtain ⟨oc, od, kV, doc, pm, an, cdv, ct, osl, e, lk, hcd⟩ := F.ex
  subst e
  exact fnG_of lk hcd S many fun A outer s H vs Q E g hr hsp => hbody cdv A outer s H vs Q E g hr hsp
end

/-- a def's promise over trees -/
abbrev DSp := List D → Sto → DK → Prop
def spD (K : PySem.W.Frag) (dsp : DSp) : Sp := fun vs H Q _ => ∃ (F : Hp) (M : Sto) (ds : List D) (Qd : DK), Rst0 K F H M ∧ RelDs K F vs ds ∧ dsp ds M Qd ∧
  ∀ v F' H' d M', Stp F H M F' H' M' → Rst0 K F' H' M' → RelD K F' v d → Qd d M' → Q v H'
/-- a def of the text keeps its promise over trees; its names: where it stands -/
structure DFn (P : Program) (w : World) (K : PySem.W.Frag) (mg : Str → Option Value) (base : Heap) (k : Nat) (x : Str) (ps : List Str) (dsp : DSp) : Prop where
  ex : ∃ f fd, FnG P w K mg base CX0 k f fd ps (spD K dsp) ∧ mg x = some (.ref f) ∧ PySem.W.keepIn K (.ref f) = true ∧ Binds K fd ps []
theorem DFn.mono {P : Program} {w : World} {K : PySem.W.Frag} {mg : Str → Option Value} {base : Heap} {j k : Nat} {x : Str} {ps : List Str} {dsp : DSp} (G : DFn P w K mg base j x ps dsp) (h : j ≤ k) : DFn P w K mg base k x ps dsp := by
  obtain ⟨f, fd, g, r⟩ := G.ex
  exact ⟨f, fd, g.mono h, r⟩
@[simp] def dCall (dsp : DSp) (t : DTA) : DTE := fun τ M Q => t τ M fun ds M1 => dsp ds M1 Q
section
variable {X : Cx} {k : Nat} {ps : List Str} {dsp : DSp} {x : Str} {p pos : Pos} {e : Expr} {es : List Expr} {t : DTA}
theorem de_call (G : DFn X.prog X.w X.K X.mg X.base k x ps dsp) (g : X.A.guards = some []) (hr : Room k X.A) (ha : DA X (e :: es) t) (hg : Gl X x := by rfl)
    (hdb : (x == ("__debug__" : Str)) = false := by decide) (he : starEach (e :: es) X.env = (false, eval e X.env) :: starEach es X.env := by rfl) (hpl : (backTo pos (starEach es X.env)).any (·.1) = false := by rfl) :
    DE X (.Call (.Name x p) (e :: es) [] pos) (dCall dsp t) := by
  obtain ⟨u, pu, ru⟩ := ha.ex
  obtain ⟨f, fd, G, hm, hk, hb⟩ := G.ex
  refine ⟨_, peG G g hr hg hm hk hb pass0 pu hdb he hpl, fun F H σ τ M Qd Q R q k => ?_⟩
  refine ru F H σ τ M _ _ R q fun vs F1 H1 ds M1 e1 R1 r1 q1 => ?_
  exact ⟨F1, M1, ds, Qd, R1.heap, r1, q1, fun v F2 H2 d M2 e2 R2 r2 q2 => k v F2 H2 d M2 (e1.trans e2) (R1.mono e2.ext R2) r2 q2⟩
theorem de_call0 (G : DFn X.prog X.w X.K X.mg X.base k x ps dsp) (g : X.A.guards = some []) (hr : Room k X.A) (hg : Gl X x := by rfl)
    (hdb : (x == ("__debug__" : Str)) = false := by decide) : DE X (.Call (.Name x p) [] [] pos) (dCall dsp dNil) := by
  obtain ⟨f, fd, G, hm, hk, hb⟩ := G.ex
  refine ⟨_, peG0 G g hr hg hm hk hb pass0 hdb, fun F H σ τ M Qd Q R q k => ?_⟩
  exact ⟨F, M, [], Qd, R.heap, .nil, q, fun v F2 H2 d M2 e2 R2 r2 q2 => k v F2 H2 d M2 e2 (R.mono e2.ext R2) r2 q2⟩
end
/-- the names' values at the entry -/
def dstart (n : Nat) (ds : List D) : DSt := ds.map some ++ List.replicate (n - ds.length) none
theorem rel_start {K : PySem.W.Frag} {F : Hp} {N : List Str} {vs : List V} {ds : List D} (r : RelDs K F vs ds) : RelSl K F (L2.start N vs) (dstart N.length ds) := by
  refine ⟨by unfold L2.start dstart; simp [r.length], fun i d h => ?_⟩
  unfold dstart at h
  by_cases hi : i < ds.length
  · rw [List.getElem?_append_left (by simpa using hi), List.getElem?_map] at h
    cases q : ds[i]? with
    | none => rw [q] at h; cases h
    | some d' =>
      rw [q] at h
      cases h
      obtain ⟨v, h1, h2⟩ := r.get q
      refine ⟨v, ?_, h2⟩
      unfold L2.start
      rw [List.getElem?_append_left (by simpa [r.length] using hi), List.getElem?_map, h1]
      rfl
  · rw [List.getElem?_append_right (by simpa using hi), List.getElem?_replicate] at h
    split at h <;> cases h
section
variable {P : Program} {w : World} {K : PySem.W.Frag} {mg : Str → Option Value} {base : Heap}
/-- THE RULE: a def keeps its promise over trees -/
theorem fn_ok {x qual : Str} {st : Stmt} {f : Addr} {fd : FuncData} {N ps : List Str} {k : Nat} {dsp : DSp} (F : Fun K x qual st f fd) (S : FnScope N ps (defScope st)) (hm : mg x = some (.ref f)) (hb : Binds K fd ps []) (len : ∀ ds M Q, dsp ds M Q → ds.length = ps.length)
    (hbody : ∀ (cdv : Value) (A : Around) (outer : List Env) (s : Shared) (H : Hp) (E : XK), (A.deeper (envOfC qual (defScope st) s.heap.objs.size f cdv)).guards = some [] → Room k (A.deeper (envOfC qual (defScope st) s.heap.objs.size f cdv)) →
      ∃ t, DSs (cxOf CX0 P w K mg base N qual (defScope st) f cdv A outer s H E).nox (defBody st) t ∧ ∀ ds M Q, dsp ds M Q → t { nx := fun _ M' => ∃ M2, M2.le M' ∧ Q .non M2, rt := fun d M' => ∃ M2, M2.le M' ∧ Q d M2 } (dstart N.length ds) M) :
    DFn P w K mg base (k + 1) x ps dsp := by
  refine ⟨f, fd, funG F S (fun h => ?_) (fun cdv A outer s H vs Q E hgd hr h => ?_), hm, F.kp, hb⟩
  · obtain ⟨F0, M, ds, Qd, _, r, q, _⟩ := h
    rw [r.length]; exact len _ _ _ q
  · obtain ⟨F0, M, ds, Qd, R, r, q, kk⟩ := h
    obtain ⟨t, ht, hq⟩ := hbody cdv A outer s H E hgd hr
    obtain ⟨ts, pt, rt⟩ := ht.ex
    refine ⟨ts, pt.nox, rt F0 H _ _ M _ _ ⟨R, rel_start r⟩ (hq ds M Qd q) ⟨fun F' H' σ' τ' M' e' R' z => ?_, fun F' H' σ' τ' M' e' R' z => z.elim, fun F' H' σ' τ' M' e' R' z => z.elim, fun v F' H' d M' e' R' rd z => ?_⟩⟩
    · obtain ⟨M2, l, z⟩ := z
      exact kk .non F' H' .non M2 (e'.less l) (R'.heap.less l) .non z
    · obtain ⟨M2, l, z⟩ := z
      exact kk v F' H' d M2 (e'.less l) (R'.less l) rd z
end

/-! ### the law itself, called from outside -/
/-- where the law is called nothing is tracked but the script -/
theorem law_start {P : Program} {w : World} {K : PySem.W.Frag} {mg mb : Str → Option Value} {k : Nat} {a : Addr} {s : Shared} {vs : List Value} {ns : List Int} {H : Hp} {fa : Addr} {fd : FuncData} {x : Str} {sp : Sp}
    (KX : K.In s.heap) (hns : s.heap.Ns mainGlobals mg) (hb : s.heap.Ns builtinsNs mb) (hbb : ∀ y : Str, y ≠ "__name__" → mb y = bootBuiltins y) (hlim : s.heap.NoLimit) (hgens : s.gens = #[])
    (ha : s.heap.get? a = some { cls := .type "list", data := .seq vs.toArray }) (hr : Room k callerA) (hO : Only H) (hok : HOk P w H s.heap) (hA : ∀ b, H b ≠ none → b = a) (hK : H a ≠ none → K.lookup a = none)
    (G : ∀ base : Heap, K.In base → base.Ns mainGlobals mg → FnG P w K mg base CX0 k fa fd [x] sp) (hbind : ∀ (s : Shared) (u : Value), BindsTo s fd ⟨[u], []⟩ [(x, u)])
    (hsp : sp [.ref a] H (fun v _ => v = .bl true) fun _ _ _ => False) :
    codeAny (model P w) callerA (.call (.ref fa) ⟨[.ref a], []⟩) (fun r s' => r = .ok (.ret (.bool true)) ∧ OldK s.heap s'.heap ∧ s'.os = s.os ∧ AllBare s'.gens) s := by
  have dictFree : ∀ {b : Addr} {o : Obj} {es : Array DictEntry} {ep : Nat}, s.heap.get? b = some o → o.data = .dict es ep → H b = none := by
    intro b o es ep e d
    apply Classical.byContradiction
    intro n
    have z := hA b n
    subst z
    rw [ha] at e
    cases e
    cases d
  have low : ∀ {b : Addr} {o : Obj}, s.heap.get? b = some o → H b = none → (hidT s.heap H).get? b = some o := fun e n => hidT_get e n
  have ns2 : ∀ {b : Addr} {m : Str → Option Value}, s.heap.Ns b m → (hidT s.heap H).Ns b m := by
    rintro b m ⟨o, es, ep, e, d, r⟩
    exact ⟨o, es, ep, low e (dictFree e d), d, r⟩
  have kin : K.In (hidT s.heap H) := by
    intro b o e
    apply low (KX b o e)
    apply Classical.byContradiction
    intro n
    have z := hA b n
    subst z
    rw [hK n] at e
    cases e
  obtain ⟨mc, l1, l2⟩ := hlim
  have md : Mod K mg (hidT s.heap H) := ⟨kin, ns2 hns, ⟨mb, ns2 hb, hbb⟩, ⟨mc, ns2 l1, l2⟩⟩
  have e0 : Env0 P w K mg (hidT s.heap H) callerA [] s H := by
    refine ⟨rfl, md, ?_, ?_, trivial, ?_, hok, .of_eq hgens⟩
    · intro b o e; exact of_hidT e
    · rw [hidT_size]; exact Nat.le_refl _
    · intro b z; cases z
  have run := (G _ kin (ns2 hns)).goes (args := ⟨[.ref a], []⟩) (us := [.ref a]) rfl hr e0 (vs := [V.ref a]) (hbind s (.ref a)) (Paired.cons (show RelV (V.ref a) (Value.ref a) from rfl) .nil) hsp
  refine codeAny_mono run ?_
  intro r s' h
  match r, h with
  | .error e, h => exact h.elim
  | .ok .next, h => exact h.elim
  | .ok .brk, h => exact h.elim
  | .ok .cont, h => exact h.elim
  | .ok (.ret u), ⟨v, H', os, bare, un, hok', r', q⟩ =>
    subst q
    cases r'
    refine ⟨rfl, OldK.of_keep ?_, os, bare⟩
    intro b o e
    rcases hO b with z | ⟨ob, xs, z⟩
    · exact un.keep b o e z (fun y => nomatch y) (fun y => nomatch y)
    · have z2 := un.frzs b ob _ z
      have y1 : s.heap.get? b = some ob := (hok b _ z).1
      have y2 : s'.heap.get? b = some ob := (hok' b _ z2).1
      rw [e] at y1
      rw [y2, y1]
theorem law_goes {P : Program} {w : World} {K : PySem.W.Frag} {mg mb : Str → Option Value} {k : Nat} {fa a : Addr} {fd : FuncData} {x : Str} {sp : Sp} {s : Shared} {vs : List Value} {ns : List Int}
    (KX : K.In s.heap) (hns : s.heap.Ns mainGlobals mg) (hb : s.heap.Ns builtinsNs mb) (hbb : ∀ y : Str, y ≠ "__name__" → mb y = bootBuiltins y) (hlim : s.heap.NoLimit) (hgens : s.gens = #[])
    (ha : s.heap.get? a = some { cls := .type "list", data := .seq vs.toArray }) (hi : IntsAre vs ns) (hl : ns.length ≤ sizeLine) (hr : Room k callerA)
    (G : ∀ base : Heap, K.In base → base.Ns mainGlobals mg → FnG P w K mg base CX0 k fa fd [x] sp) (hbind : ∀ (s : Shared) (u : Value), BindsTo s fd ⟨[u], []⟩ [(x, u)])
    (hsp : ∀ H : Hp, Only H → SqL K H a (ns.map V.int) → sp [.ref a] H (fun v _ => v = .bl true) fun _ _ _ => False) :
    codeAny (model P w) callerA (.call (.ref fa) ⟨[.ref a], []⟩) (fun r s' => r = .ok (.ret (.bool true)) ∧ OldK s.heap s'.heap ∧ s'.os = s.os ∧ AllBare s'.gens) s := by
  have rv := vals_ints hi
  have n1 : vs.length = ns.length := hi.length
  cases hk : K.lookup a with
  | some o =>
    have e := KX a o hk
    rw [ha] at e
    cases e
    have hS : SqL K (fun _ => none) a (ns.map V.int) := by
      refine .inr ⟨_, vs.toArray, _, hk, rfl, rfl, rfl, ?_, ?_⟩
      · rw [List.size_toArray, n1]; exact hl
      · simpa using rv
    refine law_start (ns := ns) KX hns hb hbb hlim hgens ha hr (H := fun _ => none) (fun _ => .inl rfl) ?_ ?_ ?_ G hbind (hsp _ (fun _ => .inl rfl) hS)
    · intro b u z; cases z
    · intro b z; exact absurd rfl z
    · intro z; exact absurd rfl z
  | none =>
    let HS : Hp := upd (fun _ => none) a (.frz { cls := .type "list", data := .seq vs.toArray } (.lst (ns.map V.int)))
    have at_a : HS a = some (.frz { cls := .type "list", data := .seq vs.toArray } (.lst (ns.map V.int))) := upd_same
    have off : ∀ b, b ≠ a → HS b = none := fun b n => upd_ne n
    have only : Only HS := by
      intro b
      by_cases z : b = a
      · subst z; exact .inr ⟨_, _, at_a⟩
      · exact .inl (off b z)
    refine law_start (ns := ns) KX hns hb hbb hlim hgens ha hr (H := HS) only ?_ ?_ (fun _ => hk) G hbind (hsp _ only (.inl (.inr ⟨_, at_a⟩)))
    · intro b u z
      by_cases y : b = a
      · subst y
        rw [at_a] at z
        cases z
        exact ⟨ha, by rw [List.length_map]; exact hl, vs, _, rv, ha⟩
      · rw [off b y] at z; cases z
    · intro b z
      apply Classical.byContradiction
      intro y
      exact z (off b y)
/-- the goal behind the head, from the law's promise over trees -/
theorem walkG {l : PySem.W.OpenLaw} {n k : Nat} {q : Program} {loose : List Str} {XP : (Str → Option Value) → Heap → Prop} {YP : World → Heap → Prop} {d : DefRec} {K : Params → PySem.W.Frag} {dsp : DSp} {x : Str}
    (hn : l.most = some n) (hn2 : n ≤ sizeLine) (hdf : d.params.defaults = []) (hr : Room k callerA)
    (hY : ∀ (w : World) (h : Heap), YP w h → (K w.params).In h)
    (G : ∀ (w : World) (mg : Str → Option Value) (fa : Addr) (h : Heap), (K w.params).In h → h.Ns mainGlobals mg → mg d.name = some (.ref fa) →
      ∃ fd : FuncData, (∀ (s : Shared) (u : Value), BindsTo s fd ⟨[u], []⟩ [(x, u)]) ∧
        ∀ base : Heap, (K w.params).In base → base.Ns mainGlobals mg → FnG l.prog w (K w.params) mg base CX0 k fa fd [x] (spD (K w.params) dsp))
    (hsp : ∀ ns : List Int, ns.length ≤ n → dsp [.rol (ns.map D.int)] (fun _ => none) (fun d _ => d = .bl true)) :
    PySem.W.WalkO q loose XP YP l.row.toRowW d [] (fun f vs => PySem.call f vs) := by
  apply Att.attach_call hn hdf
  intro w s₀ s₁ mg mb fa o pm cd doc a vs ns Gf Y ho hd hcd hmg hobj hints hlen hg
  have KX := hY w _ Y
  obtain ⟨fd, hb, hF⟩ := G w mg fa _ KX Gf.T.g hmg
  apply law_goes KX Gf.T.g Gf.T.b Gf.T.builtins Gf.T.nolimit hg hobj hints (Nat.le_trans hlen hn2) hr hF hb
  intro H hO hS
  have allInts : ∀ ns : List Int, RelDs (K w.params) H (ns.map V.int) (ns.map D.int) := by
    intro ns
    induction ns with
    | nil => exact .nil
    | cons i r ih => exact .cons (.int i) ih
  refine ⟨H, fun _ => none, [.rol (ns.map D.int)], fun d _ => d = .bl true, ⟨Ext.refl H, fun b u z => nomatch z⟩, .cons (.rol hS (allInts ns)) .nil, hsp ns hlen, ?_⟩
  intro v F' H' d M' _ _ rd e
  subst e
  cases rd
  rfl
end DL

/-! DO: operators, subscripts, slices, built-in calls over trees. -/
namespace DL
open PySem PySem.Spec PyProof.Rows L2

/-! ### data -/
mutual
def toPy : D → Option PyData
  | .non => some .none
  | .bl b => some (.bool b)
  | .int i => some (.int i)
  | .str s => some (.str s)
  | .tup xs => (toPys xs).map .tuple
  | .lst xs => (toPys xs).map .list
  | .dct kvs => (toPyKv kvs).map .dict
  | _ => none
def toPys : List D → Option (List PyData)
  | [] => some []
  | x :: xs => match toPy x, toPys xs with
    | some p, some ps => some (p :: ps)
    | _, _ => none
def toPyKv : List (Key × D) → Option (List (PyData × PyData))
  | [] => some []
  | (k, x) :: xs => match toPy x, toPyKv xs with
    | some p, some ps => some ((match k with | .inl i => PyData.int i | .inr s => PyData.str s, p) :: ps)
    | _, _ => none
end
mutual
/-- no list within -/
def noLst : D → Bool
  | .tup xs => noLsts xs
  | .lst _ => false
  | .dct kvs => noLstKv kvs
  | _ => true
def noLsts : List D → Bool
  | [] => true
  | x :: xs => noLst x && noLsts xs
def noLstKv : List (Key × D) → Bool
  | [] => true
  | (_, x) :: xs => noLst x && noLstKv xs
end
section
variable {X : Cx} {pins : List (Addr × Obj)} {σ : L2.St} {H F : Hp} {s : Shared}
theorem reads_keys {P : Program} {w : World} {h : Heap} : ∀ {es : List DictEntry} {kvs : List (Key × Value)}, Pairs (mixKind P w) es kvs → ReadsAll h (es.map (·.key)) (kvs.map fun kv => match kv.1 with | .inl i => PyData.int i | .inr x => PyData.str x) []
  | _, _, .nil => .nil
  | _, _, .cons (e := e0) (kv := (k, v)) h1 h2 r => by
    have z := reads_keys (h := h) r
    cases k with
    | inl i =>
      have h3 : keyIs (Sum.inl i) e0.key = true := h1
      rcases keyIs_shape h3 with ⟨j, t, e1, e2⟩ | ⟨x, t, e1, e2⟩
      · cases e1
        rw [List.map_cons, e2]
        exact ReadsAll.cons (as := []) (.int _ _) z
      · cases e1
    | inr x =>
      have h3 : keyIs (Sum.inr x) e0.key = true := h1
      rcases keyIs_shape h3 with ⟨j, t, e1, e2⟩ | ⟨y, t, e1, e2⟩
      · cases e1
      · cases e1
        rw [List.map_cons, e2]
        exact ReadsAll.cons (as := []) (.str _ _) z
theorem keys_py : ∀ {kvs : List (Key × D)} {ps : List (PyData × PyData)}, toPyKv kvs = some ps → ps.map (·.1) = kvs.map fun kv => match kv.1 with | .inl i => PyData.int i | .inr x => PyData.str x
  | [], _, h => by cases h; rfl
  | (k, x) :: r, _, h => by
    unfold toPyKv at h
    split at h
    · rename_i p ps hp hps
      cases h
      simp only [List.map_cons, keys_py hps]
    · cases h
mutual
/-- a tree of data is read off the heap; where it has no list within, no address but those of dicts is met -/
theorem reads_of (I : Inv X pins σ H s) (e : Ext F H) : ∀ (d : D) (p : PyData) (v : V) (u : Value), toPy d = some p → RelD X.K F v d → RelV v u → ∃ as, Reads s.heap u p as ∧ (noLst d = true → sysModules ∉ as)
  | .non, p, v, u, h, r, q => by cases h; cases r; cases q; exact ⟨_, .none, fun _ => by simp⟩
  | .bl b, p, v, u, h, r, q => by cases h; cases r; cases q; exact ⟨_, .bool b, fun _ => by simp⟩
  | .int i, p, v, u, h, r, q => by cases h; cases r; obtain ⟨t, rfl⟩ := q; exact ⟨_, .int i t, fun _ => by simp⟩
  | .str x, p, v, u, h, r, q => by cases h; cases r; obtain ⟨t, rfl⟩ := q; exact ⟨_, .str x t, fun _ => by simp⟩
  | .tup xs, p, v, u, h, r, q => by
    unfold toPy at h
    cases hp : toPys xs with
    | none => rw [hp] at h; cases h
    | some ps =>
      rw [hp] at h
      cases h
      cases r with
      | tup hs rs =>
        cases q
        obtain ⟨its, rv, ⟨o, ho, hc, n, hd⟩, _⟩ := I.tuple (e.sqT hs)
        obtain ⟨as, ra, hn⟩ := readsAll_of I e xs ps _ its hp rs rv
        exact ⟨as, .tuple ho hc hd ra, fun z => hn (by simpa [noLst] using z)⟩
  | .lst xs, p, v, u, h, r, q => by
    unfold toPy at h
    cases hp : toPys xs with
    | none => rw [hp] at h; cases h
    | some ps =>
      rw [hp] at h
      cases h
      cases r with
      | lst hs rs =>
        cases q
        obtain ⟨its, rv, ⟨o, n, ho, hc, _, hd⟩, _⟩ := I.list (SqL.of (e _ _ hs))
        obtain ⟨as, ra, hn⟩ := readsAll_of I e xs ps _ its hp rs rv
        exact ⟨_, .list ho hc hd ra, fun z => by simp [noLst] at z⟩
  | .dct kvs, p, v, u, h, r, q => by
    unfold toPy at h
    cases hp : toPyKv kvs with
    | none => rw [hp] at h; cases h
    | some ps =>
      rw [hp] at h
      cases h
      cases r with
      | @dct a ws _ hs rs =>
        cases q
        obtain ⟨z1, z2, vs, rel, o, es, ep, ho, hx, hd, hk, pr, nd⟩ := (show ObjOk X.prog X.w H s.heap a (.dK ws) from (e.rd hs).elim (fun z => I.hok _ _ z) fun ⟨_, z⟩ => (I.hok _ _ z).2)
        have hkeys : vs.map (·.1) = kvs.map (·.1) := by
          have g1 : ∀ {a : List (Key × V)} {b : List (Key × Value)}, KV a b → b.map (·.1) = a.map (·.1) := by
            intro a b r
            induction r with
            | nil => rfl
            | cons h _ ih => simp only [List.map_cons, ih, h.1]
          have g2 : ∀ {a : List (Key × V)} {b : List (Key × D)}, RelKv X.K F a b → a.map (·.1) = b.map (·.1) := by
            intro a
            induction a with
            | nil => intro b r; cases r; rfl
            | cons x xs ih => intro b r; cases r with
              | cons h1 h2 => simp only [List.map_cons, ih h2]
          rw [g1 rel, g2 rs]
        have hvals : ∀ {a : List (Key × V)} {b : List (Key × Value)}, KV a b → Vals (a.map (·.2)) (b.map (·.2)) := by
          intro a b r
          induction r with
          | nil => exact .nil
          | cons h _ ih => exact .cons h.2 ih
        have pv : ∀ {es : List DictEntry} {vs : List (Key × Value)}, Pairs (mixKind X.prog X.w) es vs → es.map (·.val) = vs.map (·.2) := by
          intro es vs r
          induction r with
          | nil => rfl
          | cons h1 h2 _ ih => simp only [List.map_cons, ih, h2]
        obtain ⟨bs, rb, hn⟩ := readsKv_of I e kvs ps ws (vs.map (·.2)) hp rs (hvals rel)
        have rk := reads_keys (h := s.heap) pr
        have ek : (vs.map fun kv => match kv.1 with | .inl i => PyData.int i | .inr x => PyData.str x) = ps.map (·.1) := by
          rw [keys_py hp]
          have : ∀ {a : List (Key × Value)} {b : List (Key × D)}, a.map (·.1) = b.map (·.1) → (a.map fun kv => match kv.1 with | .inl i => PyData.int i | .inr x => PyData.str x) = b.map fun kv => match kv.1 with | .inl i => PyData.int i | .inr x => PyData.str x := by
            intro a
            induction a with
            | nil => intro b z; cases b with
              | nil => rfl
              | cons _ _ => cases z
            | cons x xs ih => intro b z; cases b with
              | nil => cases z
              | cons y ys =>
                simp only [List.map_cons, List.cons.injEq] at z
                simp only [List.map_cons, ih z.2, z.1]
          exact this hkeys
        rw [ek] at rk
        refine ⟨a :: [] ++ bs, Reads.dict ho hx.1 hd rk (by rw [pv pr]; exact rb), fun z => ?_⟩
        have z2' : a ≠ sysModules := by simpa using z2
        have := hn (by simpa [noLst] using z)
        simp only [List.cons_append, List.nil_append, List.mem_cons, not_or]
        exact ⟨fun y => z2' y.symm, this⟩
  | .ref _, _, _, _, h, _, _ => by cases h
  | .ty _, _, _, _, h, _, _ => by cases h
  | .ins _ _, _, _, _, h, _, _ => by cases h
  | .rol _, _, _, _, h, _, _ => by cases h
  | .ptp _, _, _, _, h, _, _ => by cases h
theorem readsAll_of (I : Inv X pins σ H s) (e : Ext F H) : ∀ (ds : List D) (ps : List PyData) (vs : List V) (us : List Value), toPys ds = some ps → RelDs X.K F vs ds → Vals vs us → ∃ as, ReadsAll s.heap us ps as ∧ (noLsts ds = true → sysModules ∉ as)
  | [], ps, vs, us, h, r, q => by cases h; cases r; cases q; exact ⟨_, .nil, fun _ => by simp⟩
  | d :: ds, ps, vs, us, h, r, q => by
    unfold toPys at h
    split at h
    · rename_i p ps' hp hps
      cases h
      cases r with
      | cons r1 r2 =>
        cases q with
        | cons q1 q2 =>
          obtain ⟨as, ra, ha⟩ := reads_of I e d p _ _ hp r1 q1
          obtain ⟨bs, rb, hb⟩ := readsAll_of I e ds ps' _ _ hps r2 q2
          refine ⟨_, .cons ra rb, fun z => ?_⟩
          simp only [noLsts, Bool.and_eq_true] at z
          simp only [List.mem_append, not_or]
          exact ⟨ha z.1, hb z.2⟩
    · cases h
theorem readsKv_of (I : Inv X pins σ H s) (e : Ext F H) : ∀ (ds : List (Key × D)) (ps : List (PyData × PyData)) (vs : List (Key × V)) (us : List Value), toPyKv ds = some ps → RelKv X.K F vs ds → Vals (vs.map (·.2)) us → ∃ as, ReadsAll s.heap us (ps.map (·.2)) as ∧ (noLstKv ds = true → sysModules ∉ as)
  | [], ps, vs, us, h, r, q => by cases h; cases r; cases q; exact ⟨_, .nil, fun _ => by simp⟩
  | (k, d) :: ds, ps, vs, us, h, r, q => by
    unfold toPyKv at h
    split at h
    · rename_i p ps' hp hps
      cases h
      cases r with
      | cons r1 r2 =>
        cases q with
        | cons q1 q2 =>
          obtain ⟨as, ra, ha⟩ := reads_of I e d p _ _ hp r1 q1
          obtain ⟨bs, rb, hb⟩ := readsKv_of I e ds ps' _ _ hps r2 q2
          refine ⟨_, .cons ra rb, fun z => ?_⟩
          simp only [noLstKv, Bool.and_eq_true] at z
          simp only [List.mem_append, not_or]
          exact ⟨ha z.1, hb z.2⟩
    · cases h
end
end
end DL

/-! DP: operators, comparisons, subscripts, slices over trees. -/
namespace DL
open PySem PySem.Spec PyProof.Rows L2

/-- the items of a list, of a list or a tuple -/
def lstOf (d : D) (M : Sto) : Option (List D) := match d with
  | .lst xs => some xs
  | .ref a => (match M a with
    | some (.lst xs) => some xs
    | _ => none)
  | _ => none
def seqOf (d : D) (M : Sto) : Option (List D) := match d with
  | .tup xs => some xs
  | .ptp xs => some xs
  | d => lstOf d M
section
variable {K : PySem.W.Frag} {F H : Hp} {M : Sto} {v : V} {d : D} {xs : List D}
theorem lst_ok (R : Rst0 K F H M) (r : RelD K F v d) (h : lstOf d M = some xs) : ∃ a vs, v = .ref a ∧ H a = some (.lst vs) ∧ RelDs K F vs xs := by
  cases d <;> first | (simp [lstOf] at h; done) | skip
  · cases h
    cases r with
    | lst h1 h2 => exact ⟨_, _, rfl, R.sub _ _ h1, h2⟩
  · rename_i a
    cases r
    unfold lstOf at h
    dsimp only at h
    split at h
    · rename_i ys e
      cases h
      obtain ⟨_, ho, h1, h2⟩ := R.sto a _ e
      cases ho <;> first | exact False.elim h2 | skip
      exact ⟨_, _, rfl, h1, h2⟩
    · cases h
theorem seq_ok (R : Rst0 K F H M) (r : RelD K F v d) (h : seqOf d M = some xs) : ∃ a vs, v = .ref a ∧ (H a = some (.lst vs) ∨ SqT K H a vs) ∧ RelDs K F vs xs := by
  cases d with
  | tup ys =>
    cases h
    cases r with
    | tup h1 h2 => exact ⟨_, _, rfl, .inr (R.sub.sqT h1), h2⟩
  | ptp ys =>
    cases h
    cases r with
    | ptp h1 _ h2 => exact ⟨_, _, rfl, .inr (.inl (.inr ⟨_, R.sub _ _ h1⟩)), h2⟩
  | _ =>
    obtain ⟨a, vs, e, h1, h2⟩ := lst_ok R r (show lstOf _ M = some xs from h)
    exact ⟨a, vs, e, .inl h1, h2⟩
end

/-! ### + - * % // ** -/
def gAdd : G2 := fun x y M Q => match x, y with
  | .int i, .int j => Q (.int (i + j)) M
  | .str a, .str b => a.length + b.length ≤ sizeLine ∧ Q (.str (a ++ b)) M
  | .tup a, .tup b => a.length + b.length ≤ sizeLine ∧ Q (.tup (a ++ b)) M
  | x, y => match lstOf x M, lstOf y M with
    | some a, some b => a.length + b.length ≤ sizeLine ∧ Q (.lst (a ++ b)) M
    | _, _ => False
@[simp] def gSub : G2 := fun x y M Q => match x, y with
  | .int i, .int j => Q (.int (i - j)) M
  | _, _ => False
def gMul : G2 := fun x y M Q => match x, y with
  | .int i, .int j => CMul i j ∧ Q (.int (i * j)) M
  | .tup a, .int k => (a ≠ [] ∧ 2 ≤ k ∧ k ≤ 1000 ∧ a.length ≤ 1000) ∧ Q (.tup (List.replicate k.toNat a).flatten) M
  | x, .int k => (match lstOf x M with
    | some a => (-(2 ^ 63) ≤ k ∧ k < 2 ^ 63 ∧ a.length * k.toNat ≤ sizeLine) ∧ Q (.lst (List.replicate k.toNat a).flatten) M
    | none => False)
  | _, _ => False
@[simp] def gMod : G2 := fun x y M Q => match x, y with
  | .int i, .int j => 0 < j ∧ Q (.int (i % j)) M
  | _, _ => False
@[simp] def gFdiv : G2 := fun x y M Q => match x, y with
  | .int i, .int j => CDiv i j ∧ Q (.int (i / j)) M
  | _, _ => False
@[simp] def gPow : G2 := fun x y M Q => match x, y with
  | .int i, .int j => CPow i j ∧ Q (.int (i ^ j.toNat)) M
  | _, _ => False
section
variable {X : Cx}
theorem RelDs.rep {K : PySem.W.Frag} {F : Hp} {xs : List V} {ds : List D} (h : RelDs K F xs ds) : ∀ k : Nat, RelDs K F (List.replicate k xs).flatten (List.replicate k ds).flatten
  | 0 => .nil
  | k + 1 => by
    rw [List.replicate_succ, List.replicate_succ, List.flatten_cons, List.flatten_cons]
    exact h.append (RelDs.rep h k)
/-- two ints in, a value out: as the rule of HandS says -/
theorem od_int {f : Value → Value → Sem Value} {C : Int → Int → Prop} {g : Int → Int → V} {h : Int → Int → D} (op : OpR X f (rI C g)) (hr : ∀ F i j, RelD X.K F (g i j) (h i j)) :
    OpD X f (fun x y M Q => match x, y with | .int i, .int j => C i j ∧ Q (h i j) M | _, _ => False) := fun F H M x y d e Qd Q R rx ry q k => by
  cases d <;> first | exact False.elim q | skip
  cases e <;> first | exact False.elim q | skip
  cases rx
  cases ry
  exact ⟨_, op, _, _, rfl, rfl, q.1, k _ F H _ M (Stp.refl F H M) R (hr F _ _) q.2⟩
theorem od_int0 {f : Value → Value → Sem Value} {g : Int → Int → V} {h : Int → Int → D} (op : OpR X f (rI0 g)) (hr : ∀ F i j, RelD X.K F (g i j) (h i j)) :
    OpD X f (fun x y M Q => match x, y with | .int i, .int j => Q (h i j) M | _, _ => False) := fun F H M x y d e Qd Q R rx ry q k => by
  cases d <;> first | exact False.elim q | skip
  cases e <;> first | exact False.elim q | skip
  cases rx
  cases ry
  exact ⟨_, op, _, _, rfl, rfl, k _ F H _ M (Stp.refl F H M) R (hr F _ _) q⟩
theorem od_sub : OpD X (binaryOp .Sub) gSub := od_int0 op_sub fun _ _ _ => .int _
theorem od_mod : OpD X (binaryOp .Mod) gMod := od_int op_mod fun _ _ _ => .int _
theorem od_fdiv : OpD X (binaryOp .FloorDiv) gFdiv := od_int op_fdiv fun _ _ _ => .int _
theorem od_pow : OpD X (binaryOp .Pow) gPow := od_int op_pow fun _ _ _ => .int _
theorem od_add : OpD X (binaryOp .Add) gAdd := fun F H M x y d e Qd Q R rx ry q k => by
  have lists : (∃ a b, lstOf d M = some a ∧ lstOf e M = some b ∧ a.length + b.length ≤ sizeLine ∧ Qd (.lst (a ++ b)) M) → ∃ r, OpR X (binaryOp .Add) r ∧ r x y H Q := by
    rintro ⟨a, b, ha, hb, hz, q⟩
    obtain ⟨p1, v1, rfl, h1, r1⟩ := lst_ok R rx ha
    obtain ⟨p2, v2, rfl, h2, r2⟩ := lst_ok R ry hb
    refine ⟨_, op_cat, p1, p2, v1, v2, rfl, rfl, h1, h2, by rw [r1.length, r2.length]; exact hz, fun p hp => ?_⟩
    obtain ⟨e2, R2⟩ := R.frozen (o := .lst (v1 ++ v2)) hp
    exact k _ _ _ (.lst (a ++ b)) M e2 R2 (.lst upd_same ((r1.append r2).mono e2.ext)) q
  unfold gAdd at q
  split at q
  · cases rx; cases ry
    exact ⟨_, op_add, _, _, rfl, rfl, k _ F H _ M (Stp.refl F H M) R (.int _) q⟩
  · cases rx; cases ry
    exact ⟨_, op_add_str, _, _, rfl, rfl, q.1, k _ F H _ M (Stp.refl F H M) R (.str _) q.2⟩
  · rename_i a b
    obtain ⟨hz, q⟩ := q
    cases id rx with
    | @tup p1 v1 _ h1 r1 =>
      cases id ry with
      | @tup p2 v2 _ h2 r2 =>
        refine ⟨_, op_catA, p1, p2, v1, v2, rfl, rfl, R.sub.sqT h1, R.sub.sqT h2, by rw [r1.length, r2.length]; exact hz, fun n => ?_, fun n m => ?_, fun n m p hp => ?_⟩
        · subst n
          cases r1
          exact k _ F H _ M (Stp.refl F H M) R ry q
        · subst m
          cases r2
          rw [List.append_nil] at q
          exact k _ F H _ M (Stp.refl F H M) R rx q
        · obtain ⟨e2, R2⟩ := R.frozen (o := .tup (v1 ++ v2)) hp
          exact k _ _ _ _ M e2 R2 (.tup (SqT.of upd_same) ((r1.append r2).mono e2.ext)) q
  · split at q
    · rename_i a b ha hb
      exact lists ⟨a, b, ha, hb, q⟩
    · exact q.elim
theorem od_mul : OpD X (binaryOp .Mult) gMul := fun F H M x y d e Qd Q R rx ry q k => by
  unfold gMul at q
  split at q
  · cases rx; cases ry
    exact ⟨_, op_mul, _, _, rfl, rfl, q.1, k _ F H _ M (Stp.refl F H M) R (.int _) q.2⟩
  · rename_i a kk
    cases ry
    obtain ⟨⟨h1, h2, h3, h4⟩, q⟩ := q
    cases rx with
    | @tup p1 v1 _ hs r1 =>
      refine ⟨_, op_repT, p1, kk, v1, rfl, rfl, R.sub.sqT hs, ?_, h2, h3, by rw [r1.length]; exact h4, fun p hp => ?_⟩
      · intro z; subst z; cases r1; exact h1 rfl
      · obtain ⟨e2, R2⟩ := R.frozen (o := .tup (List.replicate kk.toNat v1).flatten) hp
        exact k _ _ _ _ M e2 R2 (.tup (SqT.of upd_same) ((r1.rep kk.toNat).mono e2.ext)) q
  · rename_i kk _ _
    split at q
    · rename_i a ha
      obtain ⟨⟨h1, h2, h3⟩, q⟩ := q
      cases ry
      obtain ⟨p1, v1, rfl, hs, r1⟩ := lst_ok R rx ha
      refine ⟨_, op_rep, p1, kk, v1, rfl, rfl, hs, h1, h2, by rw [r1.length]; exact h3, fun p hp => ?_⟩
      obtain ⟨e2, R2⟩ := R.frozen (o := .lst (List.replicate kk.toNat v1).flatten) hp
      exact k _ _ _ _ M e2 R2 (.lst upd_same ((r1.rep kk.toNat).mono e2.ext)) q
    · exact q.elim
  · exact q.elim
/-- -a -/
@[simp] def dNeg (t : DTE) : DTE := fun τ M Q => t τ M fun d M1 => match d with
  | .int i => Q (.int (-i)) M1
  | _ => False
theorem de_neg {e : Expr} {pos : Pos} {t : DTE} (h : DE X e t) : DE X (.UnaryOp .USub e pos) (dNeg t) := by
  obtain ⟨u, pu, ru⟩ := h.ex
  refine ⟨_, pe_un un_neg pu, fun F H σ τ M Qd Q R q k => ?_⟩
  refine ru F H σ τ M _ _ R q fun v F1 H1 d M1 e1 R1 r1 q1 => ?_
  cases d <;> first | exact False.elim q1 | skip
  cases r1
  exact ⟨_, rfl, k _ F1 H1 _ M1 e1 R1 (.int _) q1⟩

/-! ### comparisons -/
@[simp] def gLt : G2 := fun x y M Q => match x, y with
  | .int i, .int j => Q (.bl (decide (i < j))) M
  | _, _ => False
@[simp] def gLe : G2 := fun x y M Q => match x, y with
  | .int i, .int j => Q (.bl (decide (i ≤ j))) M
  | _, _ => False
@[simp] def gGt : G2 := fun x y M Q => match x, y with
  | .int i, .int j => Q (.bl (decide (j < i))) M
  | _, _ => False
@[simp] def gGe : G2 := fun x y M Q => match x, y with
  | .int i, .int j => Q (.bl (decide (j ≤ i))) M
  | _, _ => False
theorem od_lt : OpD X (compareOp .Lt) gLt := od_int0 op_lt fun _ _ _ => .bl _
theorem od_le : OpD X (compareOp .LtE) gLe := od_int0 op_le fun _ _ _ => .bl _
theorem od_gt : OpD X (compareOp .Gt) gGt := od_int0 op_gt fun _ _ _ => .bl _
theorem od_ge : OpD X (compareOp .GtE) gGe := od_int0 op_ge fun _ _ _ => .bl _
/-- is None, is not None; is, is not of flags -/
def isNon : D → Bool
  | .non => true
  | _ => false
def gIs : G2 := fun x y M Q => match x, y with
  | x, .non => Q (.bl (isNon x)) M
  | .bl a, .bl b => Q (.bl (decide (a = b))) M
  | _, _ => False
def gIsNot : G2 := fun x y M Q => match x, y with
  | x, .non => Q (.bl (!isNon x)) M
  | .bl a, .bl b => Q (.bl (!decide (a = b))) M
  | _, _ => False
theorem isNon_ok {K : PySem.W.Frag} {F : Hp} {v : V} {d : D} (r : RelD K F v d) : decide (v = .non) = isNon d := by
  cases r <;> simp [isNon]
theorem od_is : OpD X (compareOp .Is) gIs := fun F H M x y d e Qd Q R rx ry q k => by
  unfold gIs at q
  split at q
  · cases ry
    exact ⟨_, op_isN, rfl, by rw [isNon_ok rx]; exact k _ F H _ M (Stp.refl F H M) R (.bl _) q⟩
  · cases rx; cases ry
    exact ⟨_, op_isBl, _, _, rfl, rfl, k _ F H _ M (Stp.refl F H M) R (.bl _) q⟩
  · exact q.elim
theorem od_isNot : OpD X (compareOp .IsNot) gIsNot := fun F H M x y d e Qd Q R rx ry q k => by
  unfold gIsNot at q
  split at q
  · cases ry
    exact ⟨_, op_notN, rfl, by rw [isNon_ok rx]; exact k _ F H _ M (Stp.refl F H M) R (.bl _) q⟩
  · cases rx; cases ry
    exact ⟨_, op_notBl, _, _, rfl, rfl, k _ F H _ M (Stp.refl F H M) R (.bl _) q⟩
  · exact q.elim
/-! == of data -/
def eqData (n : Nat) (x y : D) (k : Bool → Prop) : Prop := ∃ p q, toPy x = some p ∧ toPy y = some q ∧ p.canLay0 = true ∧ q.canLay0 = true ∧ min p.depth q.depth ≤ n ∧ k (PyData.eqv p q)
def gEq (n : Nat) : G2 := fun x y M Q => match x, y with
  | .str a, .str b => Q (.bl (decide (a = b))) M
  | .int a, .int b => Q (.bl (decide (a = b))) M
  | .bl a, .bl b => Q (.bl (decide (a = b))) M
  | .non, .str _ => Q (.bl false) M
  | .str _, .non => Q (.bl false) M
  | .int _, .str _ => Q (.bl false) M
  | .str _, .int _ => Q (.bl false) M
  | .bl _, .str _ => Q (.bl false) M
  | .str _, .bl _ => Q (.bl false) M
  | x, y => eqData n x y fun b => Q (.bl b) M
def gNe (n : Nat) : G2 := fun x y M Q => match x, y with
  | .str a, .str b => Q (.bl (!decide (a = b))) M
  | .int a, .int b => Q (.bl (!decide (a = b))) M
  | .bl a, .bl b => Q (.bl (!decide (a = b))) M
  | .non, .str _ => Q (.bl true) M
  | .str _, .non => Q (.bl true) M
  | .int _, .str _ => Q (.bl true) M
  | .str _, .int _ => Q (.bl true) M
  | .bl _, .str _ => Q (.bl true) M
  | .str _, .bl _ => Q (.bl true) M
  | x, y => eqData n x y fun b => Q (.bl (!b)) M
/-- two trees of data, as the heap has them -/
def rEqP (K : PySem.W.Frag) (n : Nat) (neg : Bool) : R2 := fun x y H Q => ∃ F d e p q, Ext F H ∧ RelD K F x d ∧ RelD K F y e ∧ toPy d = some p ∧ toPy e = some q ∧ p.canLay0 = true ∧ q.canLay0 = true ∧ min p.depth q.depth ≤ n ∧ Q (.bl (if neg then !PyData.eqv p q else PyData.eqv p q)) H
theorem op_eqP {n : Nat} (hu : X.A.units + n < cLine) : OpR X (compareOp .Eq) (rEqP X.K n false) := by
  intro pins s σ H x y v u Q I rx ry h
  obtain ⟨F, d, e, p, q, ex, rd, re, hp, hq, cp, cq, hn, k⟩ := h
  obtain ⟨as, r1, _⟩ := reads_of I ex d p x v hp rd rx
  obtain ⟨bs, r2, _⟩ := reads_of I ex e q y u hq re ry
  exact SeqAt.compareEq_reads r1 r2 cp cq (by omega) ⟨.bl _, H, I, rfl, k⟩
theorem op_neP {n : Nat} (hu : X.A.units + n < cLine) : OpR X (compareOp .NotEq) (rEqP X.K n true) := by
  intro pins s σ H x y v u Q I rx ry h
  obtain ⟨F, d, e, p, q, ex, rd, re, hp, hq, cp, cq, hn, k⟩ := h
  obtain ⟨as, r1, _⟩ := reads_of I ex d p x v hp rd rx
  obtain ⟨bs, r2, _⟩ := reads_of I ex e q y u hq re ry
  exact SeqAt.compareNe_reads r1 r2 cp cq (by omega) ⟨.bl _, H, I, rfl, k⟩
theorem dec_V {a b : Str} : decide (V.str a = V.str b) = decide (a = b) := by simp
theorem od_eq {n : Nat} (hu : X.A.units + n < cLine) : OpD X (compareOp .Eq) (gEq n) := fun F H M x y d e Qd Q R rx ry q k => by
  unfold gEq at q
  split at q
  all_goals first
    | (cases rx; cases ry; refine ⟨_, op_eq, rfl, ?_⟩; refine k _ F H _ M (Stp.refl F H M) R (.bl _) ?_; simpa using q)
    | (obtain ⟨p, z, h1, h2, h3, h4, h5, q⟩ := q; exact ⟨_, op_eqP hu, F, _, _, p, z, R.sub, rx, ry, h1, h2, h3, h4, h5, k _ F H _ M (Stp.refl F H M) R (.bl _) q⟩)
theorem od_ne {n : Nat} (hu : X.A.units + n < cLine) : OpD X (compareOp .NotEq) (gNe n) := fun F H M x y d e Qd Q R rx ry q k => by
  unfold gNe at q
  split at q
  all_goals first
    | (cases rx; cases ry; refine ⟨_, op_ne, rfl, ?_⟩; refine k _ F H _ M (Stp.refl F H M) R (.bl _) ?_; simpa using q)
    | (obtain ⟨p, z, h1, h2, h3, h4, h5, q⟩ := q; exact ⟨_, op_neP hu, F, _, _, p, z, R.sub, rx, ry, h1, h2, h3, h4, h5, k _ F H _ M (Stp.refl F H M) R (.bl _) q⟩)
/-! in, not in: a thing among data -/
def inData (n : Nat) (x : D) (ys : List D) (k : Bool → Prop) : Prop := ∃ p qs, toPy x = some p ∧ toPys ys = some qs ∧ p.canLay0 = true ∧ PyData.canLayAll0 qs = true ∧ min (PyData.depthAll qs) p.depth ≤ n ∧ k (qs.any fun z => PyData.eqv z p)
@[simp] def dKey : D → Option Key
  | .int i => some (.inl i)
  | .str x => some (.inr x)
  | _ => none
def dctOf (d : D) (M : Sto) : Option (List (Key × D)) := match d with
  | .dct xs => some xs
  | .ref a => (match M a with
    | some (.dct xs) => some xs
    | _ => none)
  | _ => none
def valD (kvs : List (Key × D)) (k : Key) : Option D := (kvs.find? fun kv => decide (kv.1 = k)).map (·.2)
/-- x in y: y a list or tuple of data, or a dict -/
def gIn (n : Nat) (neg : Bool) : G2 := fun x y M Q => match seqOf y M with
  | some ys => inData n x ys fun b => Q (.bl (if neg then !b else b)) M
  | none => (match dctOf y M, dKey x with
    | some kvs, some k => Q (.bl (if neg then !(valD kvs k).isSome else (valD kvs k).isSome)) M
    | _, _ => False)
end
section
variable {K : PySem.W.Frag} {F H : Hp} {M : Sto} {v : V} {d : D}
theorem dct_ok {kvs : List (Key × D)} (R : Rst0 K F H M) (r : RelD K F v d) (h : dctOf d M = some kvs) : ∃ a vs, v = .ref a ∧ Rd H a (.dK vs) ∧ RelKv K F vs kvs := by
  cases d <;> first | (simp [dctOf] at h; done) | skip
  · cases h
    cases r with
    | dct h1 h2 => exact ⟨_, _, rfl, R.sub.rd h1, h2⟩
  · rename_i a
    cases r
    unfold dctOf at h
    dsimp only at h
    split at h
    · rename_i ys e
      cases h
      obtain ⟨_, ho, h1, h2⟩ := R.sto a _ e
      cases ho <;> first | exact False.elim h2 | skip
      exact ⟨_, _, rfl, .inl h1, h2⟩
    · cases h
theorem dKey_ok {k : Key} (r : RelD K F v d) (h : dKey d = some k) : v = kV k := by
  cases d <;> first | (simp [dKey] at h; done) | skip
  · cases h; cases r; rfl
  · cases h; cases r; rfl
theorem RelKv.val : ∀ {vs : List (Key × V)} {ds : List (Key × D)}, RelKv K F vs ds → ∀ k, (valD ds k = none ∧ valV vs k = none) ∨ ∃ d v, valD ds k = some d ∧ valV vs k = some v ∧ RelD K F v d
  | _, _, .nil, k => .inl ⟨rfl, rfl⟩
  | _, _, .cons (k := j) (v := v) (d := d) (vs := vs) (ds := ds) h r, k => by
    by_cases e : j = k
    · exact .inr ⟨d, v, by simp [valD, List.find?_cons, e], by simp [valV, List.find?_cons, e], h⟩
    · have a : valD ((j, d) :: ds) k = valD ds k := by simp [valD, List.find?_cons, e]
      have b : valV ((j, v) :: vs) k = valV vs k := by simp [valV, List.find?_cons, e]
      rw [a, b]
      exact RelKv.val r k
end
section
variable {X : Cx}
theorem dget_of {K : PySem.W.Frag} {F H : Hp} {a : Addr} {vs : List (Key × V)} {ds : List (Key × D)} {k : Key} (h : Rd H a (.dK vs)) (r : RelKv K F vs ds) : ∃ o, DGet H a (kV k) o ∧ o.isSome = (valD ds k).isSome := by
  refine ⟨valV vs k, .inl ⟨_, _, h, rfl, rfl⟩, ?_⟩
  rcases r.val k with ⟨h1, h2⟩ | ⟨d, v, h1, h2, _⟩
  · rw [h1, h2]; rfl
  · rw [h1, h2]; rfl
/-- in and not in of the model, data or dicts -/
def rInP (K : PySem.W.Frag) (n : Nat) (neg : Bool) : R2 := fun x y H Q =>
  (∃ F d p a vs ds qs, Ext F H ∧ RelD K F x d ∧ toPy d = some p ∧ y = .ref a ∧ (H a = some (.lst vs) ∨ SqT K H a vs) ∧ RelDs K F vs ds ∧ toPys ds = some qs ∧ p.canLay0 = true ∧ PyData.canLayAll0 qs = true ∧ min (PyData.depthAll qs) p.depth ≤ n ∧
    Q (.bl (if neg then !(qs.any fun z => PyData.eqv z p) else qs.any fun z => PyData.eqv z p)) H) ∨
  ∃ a o, y = .ref a ∧ DGet H a x o ∧ Q (.bl (if neg then !o.isSome else o.isSome)) H
theorem op_inP {n : Nat} (hu : X.A.units + (n + 2) < cLine) : OpR X (compareOp .In) (rInP X.K n false) := by
  intro pins s σ H x y v u Q I rx ry h
  rcases h with ⟨F, d, p, a, vs, ds, qs, ex, rd, hp, rfl, hs, rs, hq, cp, cq, hn, k⟩ | ⟨a, o, rfl, g, k⟩
  · cases ry
    obtain ⟨as, r1, _⟩ := reads_of I ex d p x v hp rd rx
    rcases hs with hs | hs
    · obtain ⟨its, rv, ⟨ob, m, ho, hc, _, hd⟩, _⟩ := I.list (SqL.of hs)
      obtain ⟨bs, r2, _⟩ := readsAll_of I ex ds qs vs its hq rs rv
      exact SeqAt.in_list_reads (.list ho hc hd r2) r1 cq cp (by omega) ⟨.bl _, H, I, rfl, k⟩
    · obtain ⟨its, rv, ⟨ob, ho, hc, m, hd⟩, _⟩ := I.tuple hs
      obtain ⟨bs, r2, _⟩ := readsAll_of I ex ds qs vs its hq rs rv
      exact SeqAt.in_tuple_reads (.tuple ho hc hd r2) r1 cq cp (by omega) ⟨.bl _, H, I, rfl, k⟩
  · cases ry
    exact d_in (by omega) I g rx fun s' I' => ⟨.bl _, H, I', rfl, k⟩
theorem op_notInP {n : Nat} (hu : X.A.units + (n + 2) < cLine) : OpR X (compareOp .NotIn) (rInP X.K n true) := by
  intro pins s σ H x y v u Q I rx ry h
  rcases h with ⟨F, d, p, a, vs, ds, qs, ex, rd, hp, rfl, hs, rs, hq, cp, cq, hn, k⟩ | ⟨a, o, rfl, g, k⟩
  · cases ry
    obtain ⟨as, r1, _⟩ := reads_of I ex d p x v hp rd rx
    rcases hs with hs | hs
    · obtain ⟨its, rv, ⟨ob, m, ho, hc, _, hd⟩, _⟩ := I.list (SqL.of hs)
      obtain ⟨bs, r2, _⟩ := readsAll_of I ex ds qs vs its hq rs rv
      exact SeqAt.notIn_list_reads (.list ho hc hd r2) r1 cq cp (by omega) ⟨.bl _, H, I, rfl, k⟩
    · obtain ⟨its, rv, ⟨ob, ho, hc, m, hd⟩, _⟩ := I.tuple hs
      obtain ⟨bs, r2, _⟩ := readsAll_of I ex ds qs vs its hq rs rv
      exact SeqAt.notIn_tuple_reads (.tuple ho hc hd r2) r1 cq cp (by omega) ⟨.bl _, H, I, rfl, k⟩
  · cases ry
    exact d_notIn (by omega) I g rx fun s' I' => ⟨.bl _, H, I', rfl, k⟩
theorem in_ref {n : Nat} {neg : Bool} {f : Value → Value → Sem Value} (ho : OpR X f (rInP X.K n neg)) : OpD X f (gIn n neg) := fun F H M x y d e Qd Q R rx ry q k => by
  unfold gIn at q
  split at q
  · rename_i ys hy
    obtain ⟨a, vs, rfl, hs, rs⟩ := seq_ok R ry hy
    obtain ⟨p, qs, h1, h2, h3, h4, h5, q⟩ := q
    exact ⟨_, ho, .inl ⟨F, d, p, a, vs, ys, qs, R.sub, rx, h1, rfl, hs, rs, h2, h3, h4, h5, k _ F H _ M (Stp.refl F H M) R (.bl _) q⟩⟩
  · split at q
    · rename_i kvs kk hd hk
      obtain ⟨a, vs, rfl, hs, rs⟩ := dct_ok R ry hd
      have ek := dKey_ok rx hk
      subst ek
      obtain ⟨o, g, e1⟩ := dget_of (k := kk) hs rs
      exact ⟨_, ho, .inr ⟨a, o, rfl, g, by rw [e1]; exact k _ F H _ M (Stp.refl F H M) R (.bl _) q⟩⟩
    · exact q.elim
theorem od_in {n : Nat} (hu : X.A.units + (n + 2) < cLine) : OpD X (compareOp .In) (gIn n false) := in_ref (op_inP hu)
theorem od_notIn {n : Nat} (hu : X.A.units + (n + 2) < cLine) : OpD X (compareOp .NotIn) (gIn n true) := in_ref (op_notInP hu)

/-! ### subscripts -/
def gIx : G2 := fun x y M Q => match x, y with
  | .str z, .int i => z.length ≤ sizeLine ∧ (match atI z.cps.toList i with
    | some c => Q (.str ⟨#[c]⟩) M
    | none => False)
  | x, .int i => (match seqOf x M with
    | some xs => (match atI xs i with
      | some d => Q d M
      | none => False)
    | none => False)
  | _, _ => False
def rIxAny (X : Cx) : R2 := fun x y H Q => ∃ r, IxR X r ∧ r x y H Q
theorem ix_any : IxR X (rIxAny X) := fun value slice pins s σ H x y v u Q I rx ry ⟨r, h, q⟩ hs => h value slice pins s σ H x y v u Q I rx ry q hs
theorem atI_rel {K : PySem.W.Frag} {F : Hp} {xs : List V} {ds : List D} {i : Int} {d : D} (r : RelDs K F xs ds) (h : atI ds i = some d) : ∃ v, atI xs i = some v ∧ RelD K F v d := by
  unfold atI at h ⊢
  rw [r.length]
  cases e : ixN ds.length i with
  | none => rw [e] at h; cases h
  | some j =>
    rw [e] at h
    exact r.get (i := j) h
theorem de_ix {a b : Expr} {pos : Pos} {ta tb : DTE} (ha : DE X a ta) (hb : DE X b tb) (hs : PlainIx b := by exact fun _ _ => rfl) : DE X (.Subscript a b pos) (dOp gIx ta tb) := by
  obtain ⟨u, pu, ru⟩ := ha.ex
  obtain ⟨w, pw, rw'⟩ := hb.ex
  refine ⟨_, pe_ix ix_any pu pw hs, fun F H σ τ M Qd Q R q k => ?_⟩
  refine ru F H σ τ M _ _ R q fun v F1 H1 d M1 e1 R1 r1 q1 => ?_
  refine rw' F1 H1 σ τ M1 _ _ R1 q1 fun v' F2 H2 d' M2 e2 R2 r2 q2 => ?_
  have r1' := r1.mono e2.ext
  unfold gIx at q2
  split at q2
  · rename_i z i
    obtain ⟨hz, q2⟩ := q2
    split at q2
    · rename_i c hc
      cases r1'
      cases r2
      exact ⟨_, ix_str, z, i, c, rfl, rfl, hz, hc, k _ F2 H2 _ M2 (e1.trans e2) R2 (.str _) q2⟩
    · exact q2.elim
  · rename_i i _
    cases r2
    split at q2
    · rename_i xs hx
      split at q2
      · rename_i d0 hd
        obtain ⟨p, vs, rfl, hs2, rs⟩ := seq_ok R2.heap r1' hx
        obtain ⟨v0, h0, rd⟩ := atI_rel rs hd
        have fin := k v0 F2 H2 d0 M2 (e1.trans e2) R2 rd q2
        rcases hs2 with hs2 | hs2
        · exact ⟨_, ix_list, p, vs, i, v0, rfl, rfl, SqL.of hs2, h0, fin⟩
        · exact ⟨_, ix_tup, p, vs, i, v0, rfl, rfl, hs2, h0, fin⟩
      · exact q2.elim
    · exact q2.elim
  · exact q2.elim
/-- d[k], k there -/
@[simp] def gIxD : G2 := fun x y M Q => match dctOf x M, dKey y with
  | some kvs, some k => (match valD kvs k with
    | some d => Q d M
    | none => False)
  | _, _ => False
theorem de_ixD {a b : Expr} {pos : Pos} {ta tb : DTE} (hu : X.A.units + 1 < cLine) (ha : DE X a ta) (hb : DE X b tb) (hs : NoSl b := by exact fun _ _ => rfl) : DE X (.Subscript a b pos) (dOp gIxD ta tb) := by
  obtain ⟨u, pu, ru⟩ := ha.ex
  obtain ⟨w, pw, rw'⟩ := hb.ex
  refine ⟨_, pe_dget hu pu pw hs, fun F H σ τ M Qd Q R q k => ?_⟩
  refine ru F H σ τ M _ _ R q fun v F1 H1 d M1 e1 R1 r1 q1 => ?_
  refine rw' F1 H1 σ τ M1 _ _ R1 q1 fun v' F2 H2 d' M2 e2 R2 r2 q2 => ?_
  have r1' := r1.mono e2.ext
  unfold gIxD at q2
  split at q2
  · rename_i kvs kk hd hk
    obtain ⟨p, vs, rfl, hs2, rs⟩ := dct_ok R2.heap r1' hd
    have ek := dKey_ok r2 hk
    subst ek
    rcases rs.val kk with ⟨h1, _⟩ | ⟨d0, v0, h1, h2, rd⟩
    · rw [h1] at q2; exact q2.elim
    · rw [h1] at q2
      exact ⟨p, v0, rfl, .inl ⟨vs, kk, hs2, rfl, h2.symm⟩, k v0 F2 H2 d0 M2 (e1.trans e2) R2 rd q2⟩
  · exact q2.elim

/-! ### slices -/
abbrev DTO := DSt → Sto → (Option Int → Sto → Prop) → Prop
structure DO (X : Cx) (e : Option Expr) (t : DTO) : Prop where
  ex : ∃ to, PO X e to ∧ ∀ (F H : Hp) (σ : L2.St) (τ : DSt) (M : Sto) (Qd : Option Int → Sto → Prop) (Q : Option Int → Hp → Prop), Rst X.K F H σ τ M → t τ M Qd →
    (∀ o F' H' M', Stp F H M F' H' M' → Rst X.K F' H' σ τ M' → Qd o M' → Q o H') → to σ H Q
@[simp] def dNoPart : DTO := fun _ M Q => Q none M
@[simp] def dPart (t : DTE) : DTO := fun τ M Q => t τ M fun d M1 => match d with
  | .int i => Q (some i) M1
  | _ => False
theorem do_none : DO X none dNoPart := ⟨_, po_none, fun F H σ τ M Qd Q R q k => k none F H M (Stp.refl F H M) R q⟩
theorem do_some {e : Expr} {t : DTE} (h : DE X e t) : DO X (some e) (dPart t) := by
  obtain ⟨u, pu, ru⟩ := h.ex
  refine ⟨_, po_some pu, fun F H σ τ M Qd Q R q k => ?_⟩
  refine ru F H σ τ M _ _ R q fun v F1 H1 d M1 e1 R1 r1 q1 => ?_
  cases d <;> first | exact False.elim q1 | skip
  cases r1
  exact ⟨_, rfl, k _ F1 H1 M1 e1 R1 q1⟩
/-- the items of xs[lo:hi] -/
def cutL {α : Type} (xs : List α) (lo hi : Option Int) : List α := (xs.drop (HT.sIx xs.length 0 lo)).take (HT.sIx xs.length xs.length hi - HT.sIx xs.length 0 lo)
theorem RelDs.cut {K : PySem.W.Frag} {F : Hp} {xs : List V} {ds : List D} (r : RelDs K F xs ds) (lo hi : Option Int) : RelDs K F (cutV xs lo hi) (cutL ds lo hi) := by
  unfold cutV cutL
  rw [r.length]
  exact (r.drop _).take _
def gCut (x : D) (lo hi : Option Int) (M : Sto) (Q : DK) : Prop := match x with
  | .tup xs => Q (.tup (cutL xs lo hi)) M
  | .rol xs => Q (.lst (cutL xs lo hi)) M
  | x => (match lstOf x M with
    | some xs => Q (.lst (cutL xs lo hi)) M
    | none => False)
@[simp] def dSl (t : DTE) (tl th : DTO) : DTE := fun τ M Q => t τ M fun x M1 => tl τ M1 fun lo M2 => th τ M2 fun hi M3 => gCut x lo hi M3 Q
def rSlAny (X : Cx) : V → Option Int → Option Int → Hp → VK → Prop := fun x lo hi H Q => ∃ r, SlR X r ∧ r x lo hi H Q
theorem sl_any : SlR X (rSlAny X) := fun pins s σ H x v vl vu lo hi sl Q I rx hs pl pu ⟨r, h, q⟩ => h pins s σ H x v vl vu lo hi sl Q I rx hs pl pu q
theorem cut_ok {F H : Hp} {M : Sto} {x : V} {d : D} {lo hi : Option Int} {Qd : DK} {Q : VK} (R : Rst0 X.K F H M) (r : RelD X.K F x d) (q : gCut d lo hi M Qd)
    (k : ∀ v F' H' z M', Stp F H M F' H' M' → Rst0 X.K F' H' M' → RelD X.K F' v z → Qd z M' → Q v H') : rSlAny X x lo hi H Q := by
  have asL : ∀ {a : Addr} {vs : List V} {xs : List D}, SqL X.K H a vs → RelDs X.K F vs xs → Qd (.lst (cutL xs lo hi)) M → rSlAny X (.ref a) lo hi H Q := fun {a vs xs} h1 h2 q => by
    refine ⟨_, sl_list, a, vs, rfl, h1, fun p hp => ?_⟩
    obtain ⟨e2, R2⟩ := R.frozen (o := .lst (cutV vs lo hi)) hp
    exact k _ _ _ _ M e2 R2 (.lst upd_same ((h2.cut lo hi).mono e2.ext)) q
  unfold gCut at q
  split at q
  · rename_i xs
    cases id r with
    | @tup a vs _ h1 h2 =>
      refine ⟨_, sl_tupA, a, vs, rfl, R.sub.sqT h1, ?_⟩
      have hz := h2.length
      have whole : HT.sIx vs.length 0 lo = 0 ∧ HT.sIx vs.length vs.length hi = vs.length → Q (.ref a) H := fun ⟨z1, z2⟩ => by
        have : cutL xs lo hi = xs := by
          unfold cutL
          rw [← hz, z1, z2, List.drop_zero, Nat.sub_zero, hz, List.take_length]
        rw [this] at q
        exact k _ F H _ M (Stp.refl F H M) R r q
      have part : ∀ p, H p = none → Q (.ref p) (upd H p (.tup (cutV vs lo hi))) := fun p hp => by
        obtain ⟨e2, R2⟩ := R.frozen (o := .tup (cutV vs lo hi)) hp
        exact k _ _ _ _ M e2 R2 (.tup (SqT.of upd_same) ((h2.cut lo hi).mono e2.ext)) q
      first
        | exact ⟨whole, fun _ => part⟩
        | exact ⟨whole, part⟩
  · cases r with
    | rol h1 h2 => exact asL (R.sub.sqL h1) h2 q
  · split at q
    · rename_i xs hx
      obtain ⟨a, vs, rfl, h1, h2⟩ := lst_ok R r hx
      exact asL (SqL.of h1) h2 q
    · exact q.elim
theorem de_sl {e : Expr} {lo hi : Option Expr} {p2 pos : Pos} {t : DTE} {tl th : DTO} (he : DE X e t) (hl : DO X lo tl) (hh : DO X hi th) : DE X (.Subscript e (.Slice lo hi none p2) pos) (dSl t tl th) := by
  obtain ⟨u, pu, ru⟩ := he.ex
  obtain ⟨ul, pl, rl⟩ := hl.ex
  obtain ⟨uh, ph, rh⟩ := hh.ex
  refine ⟨_, pe_slice sl_any pu pl ph, fun F H σ τ M Qd Q R q k => ?_⟩
  refine ru F H σ τ M _ _ R q fun v F1 H1 d M1 e1 R1 r1 q1 => ?_
  refine rl F1 H1 σ τ M1 _ _ R1 q1 fun o F2 H2 M2 e2 R2 q2 => ?_
  refine rh F2 H2 σ τ M2 _ _ R2 q2 fun o' F3 H3 M3 e3 R3 q3 => ?_
  exact cut_ok R3.heap (r1.mono (e2.trans e3).ext) q3 fun v4 F4 H4 z M4 e4 R4 r4 q4 => k v4 F4 H4 z M4 (((e1.trans e2).trans e3).trans e4) (R3.mono e4.ext R4) r4 q4
end
end DL

/-! DQ: built-in calls, methods, stores over trees. -/
namespace DL
open PySem PySem.Spec PyProof.Rows L2

/-! ### a call of a built-in, by values -/
def rCallAny (X : Cx) (f : Value) : List V → Hp → VK → Prop := fun xs H Q => ∃ r, CallR X f r ∧ r xs H Q
theorem call_any {X : Cx} (f : Value) : CallR X f (rCallAny X f) := fun pins s σ H xs us Q I r ⟨rr, h, q⟩ => h pins s σ H xs us Q I r q
abbrev GC := List D → Sto → DK → Prop
def CallD (X : Cx) (f : Value) (g : GC) : Prop :=
  ∀ (F H : Hp) (M : Sto) (xs : List V) (ds : List D) (Qd : DK) (Q : VK), Rst0 X.K F H M → RelDs X.K F xs ds → g ds M Qd →
    (∀ v F' H' z M', Stp F H M F' H' M' → Rst0 X.K F' H' M' → RelD X.K F' v z → Qd z M' → Q v H') → rCallAny X f xs H Q
@[simp] def dCB (g : GC) (t : DTA) : DTE := fun τ M Q => t τ M fun ds M1 => g ds M1 Q
section
variable {X : Cx} {x : Str} {p pos : Pos} {e : Expr} {es : List Expr} {t : DTA} {bid T : String} {g : GC}
theorem ref_cb {f : Value} {u : TA} (hc : CallD X f g) (ru : RefA X.K u t) : RefE X.K (tCB (rCallAny X f) u) (dCB g t) := fun F H σ τ M Qd Q R q k => by
  refine ru F H σ τ M _ _ R q fun vs F1 H1 ds M1 e1 R1 r1 q1 => ?_
  exact hc F1 H1 M1 vs ds Qd Q R1.heap r1 q1 fun v F2 H2 z M2 e2 R2 r2 q2 => k v F2 H2 z M2 (e1.trans e2) (R1.mono e2.ext R2) r2 q2
theorem de_callB (hc : CallD X (.builtin bid) g) (hm : X.mg x = none) (ha : DA X (e :: es) t) (hv : bootBuiltins x = some (.builtin bid) := by decide +kernel) (hg : Gl X x := by rfl) (hn : x ≠ "__name__" := by decide) (hdb : (x == ("__debug__" : Str)) = false := by decide)
    (he : starEach (e :: es) X.env = (false, eval e X.env) :: starEach es X.env := by rfl) (hpl : (backTo pos (starEach es X.env)).any (·.1) = false := by rfl) : DE X (.Call (.Name x p) (e :: es) [] pos) (dCB g t) := by
  obtain ⟨u, pu, ru⟩ := ha.ex
  exact ⟨_, pe_callB (call_any _) hg hm hv pu hn hdb he hpl, ref_cb hc ru⟩
theorem de_callTy (hc : CallD X (.type T) g) (hm : X.mg x = none) (ha : DA X (e :: es) t) (hv : bootBuiltins x = some (.type T) := by decide +kernel) (hg : Gl X x := by rfl) (hn : x ≠ "__name__" := by decide) (hdb : (x == ("__debug__" : Str)) = false := by decide)
    (he : starEach (e :: es) X.env = (false, eval e X.env) :: starEach es X.env := by rfl) (hpl : (backTo pos (starEach es X.env)).any (·.1) = false := by rfl) : DE X (.Call (.Name x p) (e :: es) [] pos) (dCB g t) := by
  obtain ⟨u, pu, ru⟩ := ha.ex
  exact ⟨_, pe_callTy (call_any _) hg hm hv pu hn hdb he hpl, ref_cb hc ru⟩

/-! ### len, abs, int, list, tuple, max, min, str, repr -/
def gLen : GC := fun ds M Q => match ds with
  | [.str z] => z.length ≤ sizeLine ∧ Q (.int z.length) M
  | [x] => (match seqOf x M with
    | some xs => Q (.int xs.length) M
    | none => False)
  | _ => False
theorem cd_len : CallD X (.builtin "len") gLen := fun F H M xs ds Qd Q R r q k => by
  unfold gLen at q
  split at q
  · cases r with
    | cons r1 r2 =>
      cases r1; cases r2
      exact ⟨_, call_len_str, _, rfl, q.1, k _ F H _ M (Stp.refl F H M) R (.int _) q.2⟩
  · split at q
    · rename_i ys hy
      cases r with
      | cons r1 r2 =>
        cases r2
        obtain ⟨a, vs, rfl, hs, rs⟩ := seq_ok R r1 hy
        refine ⟨_, call_len_seq, a, vs, rfl, ?_, by rw [rs.length]; exact k _ F H _ M (Stp.refl F H M) R (.int _) q⟩
        rcases hs with hs | hs
        · exact .inl (SqL.of hs)
        · exact .inr hs
    · exact q.elim
  · exact q.elim
def dctLen (x : D) (M : Sto) : Option Nat := (dctOf x M).map (·.length)
@[simp] def gAbs : GC := fun ds M Q => match ds with
  | [.int i] => Q (.int (if i < 0 then -i else i)) M
  | _ => False
theorem cd_abs : CallD X (.builtin "abs") gAbs := fun F H M xs ds Qd Q R r q k => by
  unfold gAbs at q
  split at q
  · cases r with
    | cons r1 r2 =>
      cases r1; cases r2
      exact ⟨_, call_abs, _, rfl, k _ F H _ M (Stp.refl F H M) R (.int _) q⟩
  · exact q.elim
@[simp] def gInt : GC := fun ds M Q => match ds with
  | [.int i] => Q (.int i) M
  | _ => False
theorem cd_int : CallD X (.type "int") gInt := fun F H M xs ds Qd Q R r q k => by
  unfold gInt at q
  split at q
  · cases r with
    | cons r1 r2 =>
      cases r1; cases r2
      exact ⟨_, call_int1, .inl ⟨_, rfl, k _ F H _ M (Stp.refl F H M) R (.int _) q⟩⟩
  · exact q.elim
@[simp] def gStr : GC := fun ds M Q => match ds with
  | [.int i] => i.natAbs.log2 < 1920 ∧ Q (.str (toString i)) M
  | _ => False
theorem cd_str : CallD X (.type "str") gStr := fun F H M xs ds Qd Q R r q k => by
  unfold gStr at q
  split at q
  · cases r with
    | cons r1 r2 =>
      cases r1; cases r2
      exact ⟨_, call_str_int, _, rfl, q.1, k _ F H _ M (Stp.refl F H M) R (.str _) q.2⟩
  · exact q.elim
def gMax2 : GC := fun ds M Q => match ds with
  | [.int i, .int j] => Q (.int (if j > i then j else i)) M
  | _ => False
theorem cd_max2 (hc : X.calm = true) : CallD X (.builtin "max") gMax2 := fun F H M xs ds Qd Q R r q k => by
  unfold gMax2 at q
  split at q
  · cases r with
    | cons r1 r2 => cases r2 with
      | cons r2 r3 =>
        cases r1; cases r2; cases r3
        exact ⟨_, call_max2 hc, _, _, rfl, k _ F H _ M (Stp.refl F H M) R (.int _) q⟩
  · exact q.elim
/-- list(x), tuple(x): frozen; list(x) that may change -/
def gListOf : GC := fun ds M Q => match ds with
  | [x] => (match seqOf x M with
    | some xs => Q (.lst xs) M
    | none => False)
  | _ => False
def gListOfM : GC := fun ds M Q => match ds with
  | [x] => (match seqOf x M with
    | some xs => ∀ p, M p = none → Q (.ref p) (M.upd p (.lst xs))
    | none => False)
  | _ => False
def gTupOf : GC := fun ds M Q => match ds with
  | [x] => (match seqOf x M with
    | some xs => Q (.tup xs) M
    | none => False)
  | _ => False
theorem cd_list : CallD X (.type "list") gListOf := fun F H M xs ds Qd Q R r q k => by
  unfold gListOf at q
  split at q
  · split at q
    · rename_i ys hy
      cases r with
      | cons r1 r2 =>
        cases r2
        obtain ⟨a, vs, rfl, hs, rs⟩ := seq_ok R r1 hy
        refine ⟨_, call_list_of, a, vs, rfl, ?_, fun p hp => ?_⟩
        · rcases hs with hs | hs
          · exact .inl (SqL.of hs)
          · exact .inr hs
        · obtain ⟨e2, R2⟩ := R.frozen (o := .lst vs) hp
          exact k _ _ _ _ M e2 R2 (.lst upd_same (rs.mono e2.ext)) q
    · exact q.elim
  · exact q.elim
theorem cd_listM : CallD X (.type "list") gListOfM := fun F H M xs ds Qd Q R r q k => by
  unfold gListOfM at q
  split at q
  · split at q
    · rename_i ys hy
      cases r with
      | cons r1 r2 =>
        cases r2
        obtain ⟨a, vs, rfl, hs, rs⟩ := seq_ok R r1 hy
        refine ⟨_, call_list_of, a, vs, rfl, ?_, fun p hp => ?_⟩
        · rcases hs with hs | hs
          · exact .inl (SqL.of hs)
          · exact .inr hs
        · obtain ⟨e2, R2⟩ := R.fresh (o := .lst vs) (u := .lst ys) hp rs
          exact k _ _ _ (.ref p) _ e2 R2 (.ref p) (q p (R.free hp).2)
    · exact q.elim
  · exact q.elim
theorem cd_tuple : CallD X (.type "tuple") gTupOf := fun F H M xs ds Qd Q R r q k => by
  match ds, r, q with
  | [x0], .cons (v := v0) r1 .nil, q =>
    have q : (match seqOf x0 M with | some xs => Qd (.tup xs) M | none => False) := q
    split at q
    · rename_i ys hy
      have asL : lstOf x0 M = some ys → rCallAny X (.type "tuple") [v0] H Q := fun h => by
        obtain ⟨a, vs, rfl, hs, rs⟩ := lst_ok R r1 h
        refine ⟨_, call_tuple_of, a, vs, rfl, .inl ⟨SqL.of hs, fun p hp => ?_⟩⟩
        obtain ⟨e2, R2⟩ := R.frozen (o := .tup vs) hp
        exact k _ _ _ _ M e2 R2 (.tup (SqT.of upd_same) (rs.mono e2.ext)) q
      cases x0 with
      | tup zs =>
        cases hy
        cases r1 with
        | tup h1 h2 => exact ⟨_, call_tuple_of, _, _, rfl, .inr ⟨R.sub.sqT h1, k _ F H _ M (Stp.refl F H M) R (.tup h1 h2) q⟩⟩
      | ptp zs =>
        cases hy
        cases r1 with
        | ptp h1 _ h2 => exact ⟨_, call_tuple_of, _, _, rfl, .inr ⟨.inl (.inr ⟨_, R.sub _ _ h1⟩), k _ F H _ M (Stp.refl F H M) R (.tup (.inl (.inr ⟨_, h1⟩)) h2) q⟩⟩
      | _ => exact asL hy
    · exact q.elim
  | [], _, q => exact q.elim
  | _ :: _ :: _, _, q => exact q.elim
/-- repr of data -/
def gRepr (n : Nat) : GC := fun ds M Q => match ds with
  | [x] => ∃ p, toPy x = some p ∧ p.showable = true ∧ (p.hasDict = false ∨ noLst x = true) ∧ p.depth ≤ n ∧ p.shown.length ≤ sizeLine ∧ Q (.str p.shown) M
  | _ => False
def rReprP (K : PySem.W.Frag) (n : Nat) : List V → Hp → VK → Prop := fun xs H Q => ∃ F d p x, xs = [x] ∧ Ext F H ∧ RelD K F x d ∧ toPy d = some p ∧ p.showable = true ∧ (p.hasDict = false ∨ noLst d = true) ∧ p.depth ≤ n ∧ p.shown.length ≤ sizeLine ∧ Q (.str p.shown) H
theorem cr_reprP {n : Nat} (hgd : X.A.guards = some []) (hu : X.A.units + (n + 2) < cLine) : CallR X (.builtin "repr") (rReprP X.K n) := by
  intro pins s σ H xs us Q I r h
  obtain ⟨F, d, p, x, rfl, ex, rd, hp, hs, hdict, hn, hz, q⟩ := h
  obtain ⟨u, rfl, ru⟩ := vals1 r
  have big : ∀ a, u = .ref a → wpAny (model X.prog X.w) X.A (call (.builtin "repr") [u]) (EP X pins σ Q) X.xe s := by
    intro a e
    subst e
    obtain ⟨as, rr, hno⟩ := reads_of I ex d p x (.ref a) hp rd ru
    refine repr_of_reads' rr hs ?_ hgd (by omega) (fun _ _ z => z) ?_ hz
    · intro z
      rcases hdict with w | w
      · rw [w] at z; cases z
      · exact hno w
    · intro h' t tk hk
      exact ⟨.str p.shown, H, I.kept hk, ⟨_, rfl⟩, q⟩
  cases rd with
  | non => cases ru; cases hp; exact PySem.P.repr_of_none ⟨.str _, H, I.tok _, ⟨_, rfl⟩, (by simpa only [PyData.shown] using q)⟩
  | bl b => cases ru; cases hp; exact PySem.P.repr_of_bool ⟨.str _, H, I.tok _, ⟨_, rfl⟩, (by simpa only [PyData.shown] using q)⟩
  | int i =>
    obtain ⟨t, rfl⟩ := ru
    cases hp
    have hs' : i.natAbs.log2 < 1920 := by simpa [PyData.showable] using hs
    exact PySem.P.repr_of_int hs' ⟨.str _, H, I.tok _, ⟨_, rfl⟩, (by simpa only [PyData.shown] using q)⟩
  | str z =>
    obtain ⟨t, rfl⟩ := ru
    cases hp
    exact PySem.P.repr_of_str ⟨.str _, H, I.tok _, ⟨_, rfl⟩, (by simpa only [PyData.shown] using q)⟩ (by simpa only [PyData.shown] using hz)
  | tup _ _ => cases ru; exact big _ rfl
  | lst _ _ => cases ru; exact big _ rfl
  | rol _ _ => cases hp
  | ptp _ _ _ => cases hp
  | dct _ _ => cases ru; exact big _ rfl
  | ref _ => cases hp
  | ty _ => cases hp
  | ins _ _ => cases hp
theorem cd_repr {n : Nat} (hgd : X.A.guards = some []) (hu : X.A.units + (n + 2) < cLine) : CallD X (.builtin "repr") (gRepr n) := fun F H M xs ds Qd Q R r q k => by
  unfold gRepr at q
  split at q
  · obtain ⟨p, h1, h2, h3, h4, h5, q⟩ := q
    cases r with
    | cons r1 r2 =>
      cases r2
      exact ⟨_, cr_reprP hgd hu, F, _, p, _, rfl, R.sub, r1, h1, h2, h3, h4, h5, k _ F H _ M (Stp.refl F H M) R (.str _) q⟩
  · exact q.elim

/-! ### all, any of lists of flags -/
def blsOf : List D → Option (List Bool)
  | [] => some []
  | .bl b :: r => (blsOf r).map (b :: ·)
  | _ :: _ => none
theorem bls_ok {K : PySem.W.Frag} {F : Hp} : ∀ {vs : List V} {ds : List D} {bs : List Bool}, RelDs K F vs ds → blsOf ds = some bs → vs = bs.map V.bl
  | _, _, _, .nil, h => by cases h; rfl
  | _, _, _, .cons (d := d) h1 h2, h => by
    cases d <;> first | (simp [blsOf] at h; done) | skip
    rename_i vs ds b
    unfold blsOf at h
    cases e : blsOf ds with
    | none => rw [e] at h; cases h
    | some cs =>
      rw [e] at h
      cases h
      cases h1
      rw [bls_ok h2 e, List.map_cons]
@[simp] def gAll : GC := fun ds M Q => match ds with
  | [x] => (match lstOf x M with
    | some xs => (match blsOf xs with
      | some bs => Q (.bl (bs.all id)) M
      | none => False)
    | none => False)
  | _ => False
@[simp] def gAny : GC := fun ds M Q => match ds with
  | [x] => (match lstOf x M with
    | some xs => (match blsOf xs with
      | some bs => Q (.bl (bs.any id)) M
      | none => False)
    | none => False)
  | _ => False
theorem cd_all (hc : X.calm = true) : CallD X (.builtin "all") gAll := fun F H M xs ds Qd Q R r q k => by
  unfold gAll at q
  split at q
  · split at q
    · rename_i ys hy
      split at q
      · rename_i bs hb
        cases r with
        | cons r1 r2 =>
          cases r2
          obtain ⟨a, vs, rfl, hs, rs⟩ := lst_ok R r1 hy
          have e := bls_ok rs hb
          subst e
          exact ⟨_, cr_all hc, a, bs, rfl, SqL.of hs, k _ F H _ M (Stp.refl F H M) R (.bl _) q⟩
      · exact q.elim
    · exact q.elim
  · exact q.elim
theorem cd_any (hc : X.calm = true) : CallD X (.builtin "any") gAny := fun F H M xs ds Qd Q R r q k => by
  unfold gAny at q
  split at q
  · split at q
    · rename_i ys hy
      split at q
      · rename_i bs hb
        cases r with
        | cons r1 r2 =>
          cases r2
          obtain ⟨a, vs, rfl, hs, rs⟩ := lst_ok R r1 hy
          have e := bls_ok rs hb
          subst e
          exact ⟨_, cr_any hc, a, bs, rfl, SqL.of hs, k _ F H _ M (Stp.refl F H M) R (.bl _) q⟩
      · exact q.elim
    · exact q.elim
  · exact q.elim

/-! ### {}: a dict that may change, or stays empty -/
@[simp] def dDictM : DTE := fun _ M Q => ∀ p, M p = none → Q (.ref p) (M.upd p (.dct []))
@[simp] def dDict : DTE := fun _ M Q => Q (.dct []) M
theorem de_dictM : DE X (.Dict [] [] pos) dDictM := ⟨_, pe_dnewK, fun F H σ τ M Qd Q R q k p hp => by
  obtain ⟨e2, R2⟩ := R.heap.fresh (o := .dK []) (u := .dct []) hp .nil
  exact k _ _ _ (.ref p) _ e2 (R.mono e2.ext R2) (.ref p) (q p (R.heap.free hp).2)⟩
theorem de_dict : DE X (.Dict [] [] pos) dDict := ⟨_, pe_dnewK, fun F H σ τ M Qd Q R q k p hp => by
  obtain ⟨e2, R2⟩ := R.heap.frozen (o := .dK []) hp
  exact k _ _ _ (.dct []) M e2 (R.mono e2.ext R2) (.dct (.inl upd_same) .nil) q⟩
end

/-! ### stores: xs[i] = v, d[k] = v -/
section
variable {X : Cx} {o i value : Expr} {pos pos' : Pos} {td ti tv : DTE}
def putD (kvs : List (Key × D)) (k : Key) (v : D) : List (Key × D) :=
  if (kvs.any fun kv => decide (kv.1 = k)) = true then kvs.map (fun kv => if kv.1 = k then (kv.1, v) else kv) else kvs ++ [(k, v)]
theorem RelKv.keys {K : PySem.W.Frag} {F : Hp} : ∀ {vs : List (Key × V)} {ds : List (Key × D)}, RelKv K F vs ds → vs.map (·.1) = ds.map (·.1)
  | _, _, .nil => rfl
  | _, _, .cons _ r => by rw [List.map_cons, List.map_cons, RelKv.keys r]
theorem RelKv.length {K : PySem.W.Frag} {F : Hp} {vs : List (Key × V)} {ds : List (Key × D)} (r : RelKv K F vs ds) : vs.length = ds.length := by
  have := congrArg List.length r.keys
  simpa using this
theorem RelKv.snoc {K : PySem.W.Frag} {F : Hp} {k : Key} {v : V} {d : D} (h : RelD K F v d) : ∀ {vs : List (Key × V)} {ds : List (Key × D)}, RelKv K F vs ds → RelKv K F (vs ++ [(k, v)]) (ds ++ [(k, d)])
  | _, _, .nil => .cons h .nil
  | _, _, .cons g r => .cons g (RelKv.snoc h r)
theorem RelKv.upd {K : PySem.W.Frag} {F : Hp} {k : Key} {v : V} {d : D} (h : RelD K F v d) : ∀ {vs : List (Key × V)} {ds : List (Key × D)}, RelKv K F vs ds → RelKv K F (vs.map fun kv => if kv.1 = k then (kv.1, v) else kv) (ds.map fun kv => if kv.1 = k then (kv.1, d) else kv)
  | _, _, .nil => .nil
  | _, _, .cons (k := j) g r => by
    rw [List.map_cons, List.map_cons]
    by_cases e : j = k
    · rw [if_pos e, if_pos e]; exact .cons h (RelKv.upd h r)
    · rw [if_neg e, if_neg e]; exact .cons g (RelKv.upd h r)
theorem RelKv.put {K : PySem.W.Frag} {F : Hp} {k : Key} {v : V} {d : D} {vs : List (Key × V)} {ds : List (Key × D)} (h : RelD K F v d) (r : RelKv K F vs ds) : RelKv K F (putK vs k v) (putD ds k d) := by
  have e : (vs.any fun kv => decide (kv.1 = k)) = ds.any fun kv => decide (kv.1 = k) := by
    have : ∀ {vs : List (Key × V)} {ds : List (Key × D)}, RelKv K F vs ds → (vs.any fun kv => decide (kv.1 = k)) = ds.any fun kv => decide (kv.1 = k) := by
      intro vs
      induction vs with
      | nil => intro ds r; cases r; rfl
      | cons x xs ih => intro ds r; cases r with
        | cons g r => simp only [List.any_cons, ih r]
    exact this r
  unfold putK putD
  rw [e]
  split
  · exact r.upd h
  · exact r.snoc h
/-- the value first, then the object, then the place -/
@[simp] def dPutL (td ti tv : DTE) : DTS := fun E τ M => tv τ M fun v M1 => td τ M1 fun x M2 => ti τ M2 fun y M3 => match x, y with
  | .ref p, .int i => (match M3 p with
    | some (.lst xs) => (match ixN xs.length i with
      | some j => E.nx τ (M3.upd p (.lst (xs.set j v)))
      | none => False)
    | _ => False)
  | _, _ => False
@[simp] def dPutK (td ti tv : DTE) : DTS := fun E τ M => tv τ M fun v M1 => td τ M1 fun x M2 => ti τ M2 fun y M3 => match x, dKey y with
  | .ref p, some k => (match M3 p with
    | some (.dct kvs) => kvs.length < sizeLine ∧ E.nx τ (M3.upd p (.dct (putD kvs k v)))
    | _ => False)
  | _, _ => False
theorem ds_putL (ho : DE X o td) (hi : DE X i ti) (hv : DE X value tv)
    (ha : ∀ v, assign (.Subscript o i pos') X.env v = (do
      let ov ← holding [v] (eval o X.env)
      let iv ← holding [v, ov] (eval i X.env)
      standAt pos'
      holding [v, ov, iv] (setItem ov iv v)
      release [v, ov, iv] []) := by intro _; rfl) (hs : swapsWithSole [.Subscript o i pos'] value pos.line X.env = pure false := by rfl) (hw : swappedStores [.Subscript o i pos'] value X.env = pure none := by rfl)
    (h1 : (assignEach [.Subscript o i pos'] X.env).map (·.2) = [assign (.Subscript o i pos') X.env] := by rfl) : DS X (.Assign [.Subscript o i pos'] value pos) (dPutL td ti tv) := by
  obtain ⟨uo, po, ro⟩ := ho.ex
  obtain ⟨ui, pi, ri⟩ := hi.ex
  obtain ⟨uv, pv', rv⟩ := hv.ex
  refine ⟨_, ps_asg pv' (pg_sub po pi set_list ha) hs hw h1, fun F H σ τ M D E R q r => ?_⟩
  refine rv F H σ τ M _ _ R q fun v F1 H1 d M1 e1 R1 r1 q1 => ?_
  refine ro F1 H1 σ τ M1 _ _ R1 q1 fun x F2 H2 dx M2 e2 R2 r2 q2 => ?_
  refine ri F2 H2 σ τ M2 _ _ R2 q2 fun y F3 H3 dy M3 e3 R3 r3 q3 => ?_
  cases dx <;> first | exact False.elim q3 | skip
  cases dy <;> first | exact False.elim q3 | skip
  rename_i p j0
  cases r2
  cases r3
  dsimp only at q3
  split at q3
  · rename_i xs hp
    split at q3
    · rename_i j hj
      obtain ⟨_, hob, hh, hr⟩ := R3.heap.sto p _ hp
      cases hob <;> first | exact False.elim hr | skip
      rename_i vs
      have hr' : RelDs X.K F3 vs xs := hr
      refine ⟨p, vs, j0, j, rfl, rfl, hh, by rw [hr'.length]; exact hj, ?_⟩
      obtain ⟨e4, R4⟩ := R3.heap.write (o := .lst (vs.set j v)) (u := .lst (xs.set j d)) hp (hr'.set j (r1.mono (e2.trans e3).ext))
      exact r.nx _ _ _ _ _ (((e1.trans e2).trans e3).trans e4) (R3.mono e4.ext R4) q3
    · exact q3.elim
  · exact q3.elim
theorem ds_putK (hu : X.A.units + 1 < cLine) (ho : DE X o td) (hi : DE X i ti) (hv : DE X value tv) (hs : swapsWith value (some (.Subscript o i pos')) pos.line X.env = pure false := by rfl) : DS X (.Assign [.Subscript o i pos'] value pos) (dPutK td ti tv) := by
  obtain ⟨uo, po, ro⟩ := ho.ex
  obtain ⟨ui, pi, ri⟩ := hi.ex
  obtain ⟨uv, pv', rv⟩ := hv.ex
  refine ⟨_, ps_dput hu po pi pv' hs, fun F H σ τ M D E R q r => ?_⟩
  refine rv F H σ τ M _ _ R q fun v F1 H1 d M1 e1 R1 r1 q1 => ?_
  refine ro F1 H1 σ τ M1 _ _ R1 q1 fun x F2 H2 dx M2 e2 R2 r2 q2 => ?_
  refine ri F2 H2 σ τ M2 _ _ R2 q2 fun y F3 H3 dy M3 e3 R3 r3 q3 => ?_
  cases dx <;> first | exact False.elim q3 | skip
  rename_i p
  cases r2
  cases hk : dKey dy with
  | none => rw [hk] at q3; exact q3.elim
  | some kk =>
    rw [hk] at q3
    dsimp only at q3
    have ek := dKey_ok r3 hk
    subst ek
    split at q3
    · rename_i kvs hp
      obtain ⟨hz, q3⟩ := q3
      obtain ⟨_, hob, hh, hr⟩ := R3.heap.sto p _ hp
      cases hob <;> first | exact False.elim hr | skip
      rename_i vs
      have hr' : RelKv X.K F3 vs kvs := hr
      obtain ⟨e4, R4⟩ := R3.heap.write (o := .dK (putK vs kk v)) (u := .dct (putD kvs kk d)) hp (hr'.put (r1.mono (e2.trans e3).ext))
      exact ⟨p, _, rfl, DPut.k hh (by rw [hr'.length]; exact hz), r.nx _ _ _ _ _ (((e1.trans e2).trans e3).trans e4) (R3.mono e4.ext R4) q3⟩
    · exact q3.elim
end

/-! ### methods of lists -/
section
variable {X : Cx} {o e : Expr} {apos cpos : Pos} {to te : DTE}
@[simp] def dAppend (to te : DTE) : DTE := fun τ M Q => to τ M fun x M1 => match x with
  | .ref p => (∃ xs, M1 p = some (.lst xs)) ∧ te τ M1 fun y M2 => (match M2 p with
    | some (.lst xs) => xs.length < sizeLine ∧ Q .non (M2.upd p (.lst (xs ++ [y])))
    | _ => False)
  | _ => False
theorem de_append (ho : DE X o to) (he : DE X e te)
    (hbase : attributeBase o "append" X.env (eval o X.env) = eval o X.env := by rfl)
    (hfew : ((backTo cpos (starEach [e] X.env)).all (fun x => !x.1) && (backToKw cpos (keywordEach [] X.env)).all (fun x => x.1.isSome)
      && decide ([e].length + ([] : List Keyword).length + (if ([] : List Keyword).isEmpty then 0 else 1) < 30)) = true := by rfl)
    (hline : (apos.endLine == cpos.line) = true := by rfl) (hs : starEach [e] X.env = (false, eval e X.env) :: starEach [] X.env := by rfl) (hplain : (backTo cpos (starEach [] X.env)).any (·.1) = false := by rfl) :
    DE X (.Call (.Attribute o "append" apos) [e] [] cpos) (dAppend to te) := by
  obtain ⟨uo, po, ro⟩ := ho.ex
  obtain ⟨ue, pe, re⟩ := he.ex
  refine ⟨_, pe_bm PySem.F.plainAttrs_list PySem.F.slot_list_append PySem.F.type_list_append mt_append po (pa_cons pe pa_nil hs) hbase hfew hline hs hplain, fun F H σ τ M Qd Q R q k => ?_⟩
  refine ro F H σ τ M _ _ R q fun v F1 H1 d M1 e1 R1 r1 q1 => ?_
  cases d <;> first | exact False.elim q1 | skip
  rename_i p
  cases r1
  obtain ⟨⟨xs0, h0⟩, q1⟩ := q1
  obtain ⟨_, ho0, hh0, hr0⟩ := R1.heap.sto p _ h0
  cases ho0 <;> first | exact False.elim hr0 | skip
  refine ⟨Or.inl ⟨rfl, _, SqL.of hh0⟩, ?_⟩
  refine re F1 H1 σ τ M1 _ _ R1 q1 fun y F2 H2 dy M2 e2 R2 r2 q2 => ?_
  split at q2
  · rename_i xs hp
    obtain ⟨_, hob, hh, hr⟩ := R2.heap.sto p _ hp
    cases hob <;> first | exact False.elim hr | skip
    rename_i vs
    have hr' : RelDs X.K F2 vs xs := hr
    refine ⟨p, vs, y, rfl, rfl, hh, by rw [hr'.length]; exact q2.1, ?_⟩
    obtain ⟨e4, R4⟩ := R2.heap.write (o := .lst (vs ++ [y])) (u := .lst (xs ++ [dy])) hp (hr'.append (.cons r2 .nil))
    exact k _ _ _ .non _ ((e1.trans e2).trans e4) (R2.mono e4.ext R4) .non q2.2
  · exact q2.elim
/-- xs.pop(i) -/
@[simp] def dPopAt (to te : DTE) : DTE := fun τ M Q => to τ M fun x M1 => match x with
  | .ref p => (∃ xs, M1 p = some (.lst xs)) ∧ te τ M1 fun y M2 => (match y, M2 p with
    | .int i, some (.lst xs) => 0 ≤ i ∧ i < 2 ^ 63 ∧ (match xs[i.toNat]? with
      | some d => Q d (M2.upd p (.lst (xs.eraseIdx i.toNat)))
      | none => False)
    | _, _ => False)
  | _ => False
theorem de_popAt (ho : DE X o to) (he : DE X e te)
    (hbase : attributeBase o "pop" X.env (eval o X.env) = eval o X.env := by rfl)
    (hfew : ((backTo cpos (starEach [e] X.env)).all (fun x => !x.1) && (backToKw cpos (keywordEach [] X.env)).all (fun x => x.1.isSome)
      && decide ([e].length + ([] : List Keyword).length + (if ([] : List Keyword).isEmpty then 0 else 1) < 30)) = true := by rfl)
    (hline : (apos.endLine == cpos.line) = true := by rfl) (hs : starEach [e] X.env = (false, eval e X.env) :: starEach [] X.env := by rfl) (hplain : (backTo cpos (starEach [] X.env)).any (·.1) = false := by rfl) :
    DE X (.Call (.Attribute o "pop" apos) [e] [] cpos) (dPopAt to te) := by
  obtain ⟨uo, po, ro⟩ := ho.ex
  obtain ⟨ue, pe, re⟩ := he.ex
  refine ⟨_, pe_bm PySem.F.plainAttrs_list PySem.F.slot_list_pop PySem.F.type_list_pop mt_popAt po (pa_cons pe pa_nil hs) hbase hfew hline hs hplain, fun F H σ τ M Qd Q R q k => ?_⟩
  refine ro F H σ τ M _ _ R q fun v F1 H1 d M1 e1 R1 r1 q1 => ?_
  cases d <;> first | exact False.elim q1 | skip
  rename_i p
  cases r1
  obtain ⟨⟨xs0, h0⟩, q1⟩ := q1
  obtain ⟨_, ho0, hh0, hr0⟩ := R1.heap.sto p _ h0
  cases ho0 <;> first | exact False.elim hr0 | skip
  refine ⟨Or.inl ⟨rfl, _, SqL.of hh0⟩, ?_⟩
  refine re F1 H1 σ τ M1 _ _ R1 q1 fun y F2 H2 dy M2 e2 R2 r2 q2 => ?_
  split at q2
  · rename_i i xs hp
    obtain ⟨g0, g1, q2⟩ := q2
    split at q2
    · rename_i d hd
      obtain ⟨_, hob, hh, hr⟩ := R2.heap.sto p _ hp
      cases hob <;> first | exact False.elim hr | skip
      rename_i vs
      have hr' : RelDs X.K F2 vs xs := hr
      obtain ⟨v, hv, rv⟩ := hr'.get hd
      cases r2
      have hl : i.toNat < vs.length := (List.getElem?_eq_some_iff.mp hv).1
      refine ⟨p, vs, i, i.toNat, v, rfl, rfl, hh, by omega, g1, seqIndex_of g0 (by omega), hv, ?_⟩
      obtain ⟨e4, R4⟩ := R2.heap.write (o := .lst (vs.eraseIdx i.toNat)) (u := .lst (xs.eraseIdx i.toNat)) hp (hr'.eraseIdx i.toNat)
      exact k _ _ _ d _ ((e1.trans e2).trans e4) (R2.mono e4.ext R4) (rv.mono e4.ext) q2
    · exact q2.elim
  · exact q2.elim
end
end DL

/-! DR: more ways of walking; slices backwards; extend, pop; dicts' get, setdefault. -/
namespace DL
open PySem PySem.Spec PyProof.Rows L2
section
variable {X : Cx} {tg l : Expr} {t : DTE}
/-- a list or a tuple is walked -/
def iAnySeq (K : PySem.W.Frag) (tl : TE) : TI := fun σ H R => tl σ H fun x H1 => ∃ a, x = .ref a ∧ (((∃ xs, SqL K H1 a xs) ∧ R (Itl K a) H1) ∨ ((∃ xs, SqT K H1 a xs) ∧ R (Itt K a) H1))
theorem pi_anySeq {tl : TE} (hl : PE X l tl) : PI X tg l (iAnySeq X.K tl) := by
  constructor
  intro pins s σ H R I h
  refine thn (hl.run pins s σ H _ I h) ?_
  rintro v s1 ⟨x, H1, I1, r1, a, e, q⟩
  subst e
  cases r1
  have newIt : ∀ b ∈ [s1.heap.objs.size], FpOk X pins H1 b := by
    intro b hb
    rw [List.mem_singleton] at hb
    subst hb
    exact I1.fpOk (Nat.le_refl _) (I1.hok.fresh (Nat.le_refl _))
  have keepAll : ∀ (o : Obj) (b : Addr) (u : Obj), s1.heap.get? b = some u → (s1.heap.push o).get? b = some u := fun o b u z => Heap.get?_push_of_some _ z
  rcases q with ⟨⟨xs, hq⟩, q⟩ | ⟨⟨xs, hq⟩, q⟩
  · obtain ⟨its, rv, p, hz⟩ := I1.list hq
    apply wpAny_pyIter_list p.isList
    exact ⟨s1.heap.objs.size, [s1.heap.objs.size], _, Itl X.K a, H1, rfl, I1.kept (t' := s1.toks) (keepAll _), turn_list a _, ⟨_, Heap.get?_push_size _ rfl, rfl, rfl⟩, newIt, q⟩
  · obtain ⟨its, rv, p, hz⟩ := I1.tuple hq
    apply wpAny_pyIter_tuple (show s1.heap.IsTuple a its.toArray from p)
    exact ⟨s1.heap.objs.size, [s1.heap.objs.size], _, Itt X.K a, H1, rfl, I1.kept (t' := s1.toks) (keepAll _), turn_tuple a _, ⟨_, Heap.get?_push_size _ rfl, rfl, rfl⟩, newIt, q⟩
theorem di_seq (hl : DE X l t) : DI X tg l (iSeq t) := by
  obtain ⟨u, pu, ru⟩ := hl.ex
  refine ⟨_, pi_anySeq pu, fun F H σ τ M Qd Q R q k => ?_⟩
  refine ru F H σ τ M _ _ R q fun v F1 H1 d M1 e1 R1 r1 q1 => ?_
  cases d <;> first | exact False.elim q1 | skip
  · cases r1 with
    | tup hs rs => exact ⟨_, rfl, .inr ⟨⟨_, R1.heap.sub.sqT hs⟩, k _ F1 H1 _ M1 e1 R1 (itd_tup hs rs) q1⟩⟩
  · cases r1 with
    | lst hs rs => exact ⟨_, rfl, .inl ⟨⟨_, SqL.of (R1.heap.sub _ _ hs)⟩, k _ F1 H1 _ M1 e1 R1 (itd_list (SqL.of hs) rs) q1⟩⟩
  · cases r1 with
    | ptp hs _ rs => exact ⟨_, rfl, .inr ⟨⟨_, .inl (.inr ⟨_, R1.heap.sub _ _ hs⟩)⟩, k _ F1 H1 _ M1 e1 R1 (itd_tup (.inl (.inr ⟨_, hs⟩)) rs) q1⟩⟩
end

/-! ### x[::-1] of lists and tuples -/
theorem sliceApplied_back {prog : Program} {w : World} {A : Around} {E : Value → Shared → Prop} {s : Shared} {sl : Addr} {vl vu vs : Value} {n : Nat} {Q : Int × Int × Nat → Shared → Prop}
    (hs : s.heap.IsSliceOf sl vl vu vs) (pl : IsPart vl none) (pu : IsPart vu none) (ps : IsPart vs (some (-1))) (h : Q ((n : Int) - 1, -1, n) s) : wpAny (model prog w) A (Builtin.Slice.sliceApplied (.ref sl) (pure (n : Int))) Q E s := by
  obtain ⟨os, hos, hcs, hds⟩ := id hs
  have e2 : Builtin.Slice.sliceAdjust none none (-1) (n : Int) = ((n : Int) - 1, -1) := rfl
  have e3 : Builtin.Slice.slicePlaces ((n : Int) - 1) (-1) (-1) = n := by
    unfold Builtin.Slice.slicePlaces
    rw [if_neg (by decide)]
    by_cases h0 : n = 0
    · subst h0; rfl
    · rw [if_pos (by omega)]
      have : ((n : Int) - 1 - -1 - 1) / (- -1) + 1 = n := by
        rw [show (- -1 : Int) = 1 from rfl, Int.ediv_one]; omega
      rw [this, Int.toNat_natCast]
  unfold Builtin.Slice.sliceApplied Builtin.Slice.sliceFields
  apply wpAny_bind
  apply wpAny_bind
  apply wpAny_field hos hds (x := vl) rfl
  apply wpAny_bind
  apply wpAny_field hos hds (x := vu) rfl
  apply wpAny_bind
  apply wpAny_field hos hds (x := vs) rfl
  apply wpAny_pure
  apply wpAny_bind
  apply HT.slicePart_ ps
  show wpAny _ _ (if ((-1 : Int) == 0) = true then _ else _) _ _ s
  rw [if_neg (by decide)]
  apply wpAny_bind
  apply HT.slicePart_ pl
  apply wpAny_bind
  apply HT.slicePart_ pu
  apply wpAny_bind
  apply wpAny_pure
  show wpAny _ _ (match Builtin.Slice.sliceAdjust none none (-1) (n : Int) with | (lo, hi) => pure (lo, (-1 : Int), Builtin.Slice.slicePlaces lo hi (-1))) _ _ s
  rw [e2]
  show wpAny _ _ (pure ((n : Int) - 1, (-1 : Int), Builtin.Slice.slicePlaces ((n : Int) - 1) (-1) (-1))) _ _ s
  rw [e3]
  exact wpAny_pure h
theorem filterMap_as {α β : Type} {f : α → Option β} {g : α → β} : ∀ {l : List α}, (∀ m ∈ l, f m = some (g m)) → l.filterMap f = l.map g
  | [], _ => rfl
  | x :: r, h => by
    rw [List.filterMap_cons, h x (by simp), List.map_cons, filterMap_as fun m hm => h m (by simp [hm])]
theorem back_list {α : Type} [Inhabited α] (xs : List α) : ((List.range xs.length).map fun m => xs.getD (xs.length - 1 - m) default) = xs.reverse := by
  apply List.ext_getElem?
  intro i
  rw [List.getElem?_map]
  by_cases hi : i < xs.length
  · rw [List.getElem?_range hi, List.getElem?_reverse hi]
    have hlt : xs.length - 1 - i < xs.length := by omega
    simp [List.getD, List.getElem?_eq_getElem hlt]
  · rw [List.getElem?_eq_none (by simpa using hi), List.getElem?_eq_none (by simpa using hi)]
    rfl
theorem pick_back (xs : List Value) : ((List.range xs.length).filterMap fun (m : Nat) => xs.toArray[(((xs.length : Int) - 1) + (m : Int) * (-1)).toNat]?) = xs.reverse := by
  rw [← back_list xs]
  apply filterMap_as
  intro m hm
  have hm' : m < xs.length := by simpa using hm
  have e : (((xs.length : Int) - 1) + (m : Int) * (-1)).toNat = xs.length - 1 - m := by omega
  rw [e]
  have hlt : xs.length - 1 - m < xs.length := by omega
  simp [List.getElem?_eq_getElem hlt, List.getD]
theorem getItem_tuple_back {prog : Program} {w : World} {A : Around} {E : Value → Shared → Prop} {s : Shared} {t sl : Addr} {its : List Value} {vl vu vs : Value} {Q : Value → Shared → Prop} (ht : IsTup s.heap t its.toArray)
    (hs : s.heap.IsSliceOf sl vl vu vs) (pl : IsPart vl none) (pu : IsPart vu none) (ps : IsPart vs (some (-1))) (hz : its.length ≤ sizeLine)
    (h : Q (.ref s.heap.objs.size) { s with heap := s.heap.push { cls := .type "tuple", data := .seq its.reverse.toArray } }) : wpAny (model prog w) A (getItem (.ref t) (.ref sl)) Q E s := by
  obtain ⟨os, hos, hcs, hds⟩ := id hs
  have hTs : s.TypeIs (.ref sl) "slice" := ⟨os, hos, hcs⟩
  have hok : sizeOk (.seq its.reverse.toArray) := by
    show its.reverse.toArray.size ≤ sizeLine
    rw [List.size_toArray, List.length_reverse]; exact hz
  unfold getItem
  try with_reducible apply wpAny_holding
  first | (apply wpAny_bind; apply wpAny_pure) | skip
  apply wpAny_bind
  apply wpAny_sequenceKey ht.typeIs (by decide)
  apply wpAny_bind
  apply wpAny_callSpecial?_slot (name := Str.ofString "__getitem__") ht.typeIs PyProof.Rows.slot_tuple_getitem
  refine wpAny_call_entry PyProof.Rows.slot_tuple_getitem ht.typeIs entry_tuple_getitem ?_ (args_tuple_getitem _ _)
  show wpAny _ _ (Builtin.Tuple.tupleItemsOf (.ref t) >>= _) _ _ s
  apply wpAny_bind
  apply tupleItemsOf_ ht
  apply wpAny_bind
  apply wpAny_typeOf hTs
  rw [if_pos (by decide)]
  apply wpAny_bind
  apply sliceApplied_back hs pl pu ps
  have hno : ¬ (((its.toArray.size : Int) - 1 == 0 && (-1 : Int) == 1 && its.toArray.size == its.toArray.size) = true) := by
    intro z
    rw [Bool.and_eq_true, Bool.and_eq_true] at z
    exact absurd z.1.2 (by decide)
  show wpAny _ _ (if ((its.toArray.size : Int) - 1 == 0 && (-1 : Int) == 1 && its.toArray.size == its.toArray.size) = true then _ else _) _ _ s
  rw [if_neg hno]
  have ep : ((List.range its.toArray.size).filterMap fun (m : Nat) => its.toArray[(((its.toArray.size : Int) - 1) + (m : Int) * (-1)).toNat]?) = its.reverse := pick_back its
  rw [ep]
  first
    | exact wpAny_bind (m := Builtin.Tuple.tupleExact _) (wpAny_newObj_type (wpAny_pure ⟨_, rfl, wpAny_pure h⟩) hok)
    | exact wpAny_bind (m := Builtin.Tuple.tupleExact _) (wpAny_newObj_type (wpAny_bind (wpAny_pure (wpAny_pure ⟨_, rfl, wpAny_pure h⟩))) hok)
    | exact wpAny_bind (wpAny_bind (m := Builtin.Tuple.tupleExact _) (wpAny_newObj_type (wpAny_pure (wpAny_pure ⟨_, rfl, wpAny_pure h⟩)) hok))
    | exact wpAny_bind (wpAny_bind (m := Builtin.Tuple.tupleExact _) (wpAny_newObj_type (wpAny_pure ⟨_, rfl, wpAny_pure h⟩) hok))
theorem slicePick_back (its : List Value) : slicePick its.toArray none none (some (-1)) = its.reverse.toArray := by
  unfold slicePick
  have e : sliceBounds none none (some (-1)) its.toArray.size = ((its.length : Int) - 1, -1, -1) := rfl
  rw [e]
  have e2 : sliceRange ((its.length : Int) - 1) (-1) (-1) = (List.range its.length).map fun (m : Nat) => (its.length - 1 - m : Nat) := by
    unfold sliceRange
    have c : (if (-1 : Int) > 0 then (if (its.length : Int) - 1 < -1 then (-1 - ((its.length : Int) - 1) + -1 - 1) / -1 else 0) else (if (its.length : Int) - 1 > -1 then ((its.length : Int) - 1 - -1 - -1 - 1) / (- -1) else 0)) = (its.length : Int) := by
      rw [if_neg (by decide), show (- -1 : Int) = 1 from rfl, Int.ediv_one]
      split <;> omega
    dsimp only
    rw [c, Int.toNat_natCast]
    apply List.map_congr_left
    intro m hm
    have hm' : m < its.length := by simpa using hm
    omega
  rw [e2, List.filterMap_map, ← back_list its]
  congr 1
  apply filterMap_as
  intro m hm
  have hm' : m < its.length := by simpa using hm
  have hlt : its.length - 1 - m < its.length := by omega
  simp [List.getElem?_eq_getElem hlt, List.getD]
section
variable {X : Cx} {e : Expr} {k : Nat} {p1 p2 p3 pos : Pos}
def tBack (K : PySem.W.Frag) (te : TE) : TE := fun σ H Q => te σ H fun x H1 => ∃ a xs, x = .ref a ∧ ((SqL K H1 a xs ∧ ∀ p, H1 p = none → Q (.ref p) (upd H1 p (.lst xs.reverse))) ∨ (SqT K H1 a xs ∧ ∀ p, H1 p = none → Q (.ref p) (upd H1 p (.tup xs.reverse))))
theorem pe_back {te : TE} (he : PE X e te) : PE X (.Subscript e (.Slice none none (some (.UnaryOp .USub (.Constant (.int 1) k p1) p2)) p3) pos) (tBack X.K te) := by
  constructor
  intro pins s σ H Q I h
  apply Subscript_
  refine thn (he.run pins s σ H _ I h) ?_
  rintro v s1 ⟨x, H1, I1, r1, a, xs, ex, q1⟩
  subst ex
  cases r1
  have step : PO X (some (.UnaryOp .USub (.Constant (.int 1) k p1) p2)) (tPart (tUn (rU fun i => .int (-i)) (tC (.int 1)))) := po_some (pe_un un_neg pe_int)
  apply wpAny_Slice
  refine thn (po_none.run pins s1 σ H1 (fun o H2 => o = none ∧ H2 = H1) I1 ⟨rfl, rfl⟩) ?_
  rintro vl s2 ⟨l, H2, I2, pl, el, e2⟩
  subst el e2
  refine thn (po_none.run pins s2 σ H2 (fun o H3 => o = none ∧ H3 = H2) I2 ⟨rfl, rfl⟩) ?_
  rintro vu s3 ⟨u, H3, I3, pu, eu, e3⟩
  subst eu e3
  refine thn (step.run pins s3 σ H3 (fun o H4 => o = some (-1) ∧ H4 = H3) I3 ⟨1, rfl, _, rfl, rfl, rfl⟩) ?_
  rintro vs s4 ⟨st, H4, I4, ps, es, e4⟩
  subst es e4
  have I5 : Inv X pins σ H4 { s4 with heap := s4.heap.push { cls := .type "slice", data := .fields #[vl, vu, vs] } } := I4.kept (t' := s4.toks) fun b ob z => Heap.get?_push_of_some _ z
  have hsl := Heap.IsSliceOf.new s4.heap vl vu vs
  rcases q1 with ⟨hs, q1⟩ | ⟨hs, q1⟩
  · obtain ⟨its, r, pl', hz⟩ := I5.list hs
    refine tail_any (ops := [.ref a, .ref s4.heap.objs.size]) pl'.isList.typeIs slot_list_getitem.lookup ?_ (by with_unfolding_all rfl)
    refine wpAny_getItem_list_slice pl'.isList hsl pl pu ps (by simp) ?_ (by rw [List.size_toArray, ← r.length]; exact hz)
    rw [slicePick_back]
    have I6 := I5.laid (t' := s4.toks) (a := (s4.heap.push { cls := .type "slice", data := .fields #[vl, vu, vs] }).objs.size) (o := .lst xs.reverse) (h' := (s4.heap.push { cls := .type "slice", data := .fields #[vl, vu, vs] }).push { cls := .type "list", data := .seq its.reverse.toArray }) (fun b ob z => Heap.get?_push_of_some _ z) (Nat.le_refl _) ⟨by rw [List.length_reverse]; exact hz, _, 0, r.reverse, Heap.get?_push_size _ rfl⟩
    exact ⟨.ref _, _, I6, rfl, q1 _ (I5.hok.fresh (Nat.le_refl _))⟩
  · obtain ⟨its, r, pl', hz⟩ := I5.tuple hs
    refine tail_any (ops := [.ref a, .ref s4.heap.objs.size]) pl'.typeIs PyProof.Rows.slot_tuple_getitem.lookup ?_ (by with_unfolding_all rfl)
    refine getItem_tuple_back pl' hsl pl pu ps (by rw [← r.length]; exact hz) ?_
    have I6 := I5.laid (t' := s4.toks) (a := (s4.heap.push { cls := .type "slice", data := .fields #[vl, vu, vs] }).objs.size) (o := .tup xs.reverse) (h' := (s4.heap.push { cls := .type "slice", data := .fields #[vl, vu, vs] }).push { cls := .type "tuple", data := .seq its.reverse.toArray }) (fun b ob z => Heap.get?_push_of_some _ z) (Nat.le_refl _) ⟨by rw [List.length_reverse]; exact hz, _, r.reverse, IsTup.new _ _⟩
    exact ⟨.ref _, _, I6, rfl, q1 _ (I5.hok.fresh (Nat.le_refl _))⟩
@[simp] def dBack (t : DTE) : DTE := fun τ M Q => t τ M fun x M1 => match x with
  | .tup xs => Q (.tup xs.reverse) M1
  | x => (match lstOf x M1 with
    | some xs => Q (.lst xs.reverse) M1
    | none => False)
theorem de_back {t : DTE} (he : DE X e t) : DE X (.Subscript e (.Slice none none (some (.UnaryOp .USub (.Constant (.int 1) k p1) p2)) p3) pos) (dBack t) := by
  obtain ⟨u, pu, ru⟩ := he.ex
  refine ⟨_, pe_back pu, fun F H σ τ M Qd Q R q k => ?_⟩
  refine ru F H σ τ M _ _ R q fun v F1 H1 d M1 e1 R1 r1 q1 => ?_
  split at q1
  · cases r1 with
    | tup hs rs =>
      refine ⟨_, _, rfl, .inr ⟨R1.heap.sub.sqT hs, fun p hp => ?_⟩⟩
      obtain ⟨e2, R2⟩ := R1.heap.frozen (o := .tup _) hp
      exact k _ _ _ _ M1 (e1.trans e2) (R1.mono e2.ext R2) (.tup (SqT.of upd_same) (rs.reverse.mono e2.ext)) q1
  · split at q1
    · rename_i xs hx
      obtain ⟨a, vs, rfl, hs, rs⟩ := lst_ok R1.heap r1 hx
      refine ⟨_, _, rfl, .inl ⟨SqL.of hs, fun p hp => ?_⟩⟩
      obtain ⟨e2, R2⟩ := R1.heap.frozen (o := .lst _) hp
      exact k _ _ _ _ M1 (e1.trans e2) (R1.mono e2.ext R2) (.lst upd_same (rs.reverse.mono e2.ext)) q1
    · exact q1.elim
end
end DL

/-! DS: isinstance; dicts; pop, extend; a, b, c = ..; zip; list(range(..)); sorted; ghost steps. -/
namespace DL
open PySem PySem.Spec PyProof.Rows L2

/-! ### isinstance -/
@[simp] def tyName (d : D) (M : Sto) : Option String := match d with
  | .non => some "NoneType"
  | .bl _ => some "bool"
  | .int _ => some "int"
  | .str _ => some "str"
  | .tup _ => some "tuple"
  | .lst _ => some "list"
  | .dct _ => some "dict"
  | .ref a => (match M a with
    | some (.lst _) => some "list"
    | some (.dct _) => some "dict"
    | _ => none)
  | _ => none
@[simp] def gIsi : GC := fun ds M Q => match ds with
  | [x, .ty n] => (match tyName x M with
    | some t => (match kitB t n with
      | some b => Q (.bl b) M
      | none => False)
    | none => False)
  | _ => False
theorem tyX_ok {K : PySem.W.Frag} {F H : Hp} {M : Sto} {v : V} {d : D} {t : String} (R : Rst0 K F H M) (r : RelD K F v d) (h : tyName d M = some t) : TyX K H v (.type t) := by
  cases d <;> first | (simp [tyName] at h; done) | skip
  · cases h; cases r; exact .base .non
  · cases h; cases r; exact .base (.bl _)
  · cases h; cases r; exact .base (.int _)
  · cases h; cases r; exact .base (.str _)
  · cases h
    cases r with
    | tup h1 h2 =>
      rcases R.sub.sqT h1 with (e | ⟨o, e⟩) | ⟨o, its, n, e, c, _⟩
      · exact .base (.tup e)
      · exact .fTuple e
      · exact .kTuple e c
  · cases h
    cases r with
    | lst h1 h2 => exact .base (.lst (R.sub _ _ h1))
  · cases h
    cases r with
    | dct h1 h2 =>
      rcases R.sub.rd h1 with e | ⟨o, e⟩
      · exact .base (.dK e)
      · exact .fDict e
  · rename_i a
    cases r
    unfold tyName at h
    dsimp only at h
    split at h
    · rename_i ys e
      cases h
      obtain ⟨_, ho, h1, h2⟩ := R.sto a _ e
      cases ho <;> first | exact False.elim h2 | skip
      exact .base (.lst h1)
    · rename_i ys e
      cases h
      obtain ⟨_, ho, h1, h2⟩ := R.sto a _ e
      cases ho <;> first | exact False.elim h2 | skip
      exact .base (.dK h1)
    · cases h
section
variable {X : Cx}
theorem cd_isi : CallD X (.builtin "isinstance") gIsi := fun F H M xs ds Qd Q R r q k => by
  unfold gIsi at q
  split at q
  · rename_i x n
    split at q
    · rename_i t ht
      split at q
      · rename_i b hb
        cases r with
        | cons r1 r2 => cases r2 with
          | cons r2 r3 =>
            cases r3; cases r2
            exact ⟨_, call_isi, _, _, _, _, b, rfl, .ty n, tyX_ok R r1 ht, kit_ty hb, k _ F H _ M (Stp.refl F H M) R (.bl _) q⟩
      · exact q.elim
    · exact q.elim
  · exact q.elim

/-! ### d.get(k, x), d.setdefault(k, x), d.clear(), len(d), dict(d), dict(pairs) -/
variable {o e f : Expr} {apos cpos pos : Pos} {to te tf : DTE}
@[simp] def dDGet2 (to te tf : DTE) : DTE := fun τ M Q => to τ M fun x M1 => (dctOf x M1).isSome = true ∧ te τ M1 fun y M2 => tf τ M2 fun z M3 => match dctOf x M3, dKey y with
  | some kvs, some k => (match valD kvs k with
    | some d => Q d M3
    | none => Q z M3)
  | _, _ => False
theorem de_dget2 (hu : X.A.units + 1 < cLine) (ho : DE X o to) (he : DE X e te) (hf : DE X f tf) (m : M2 X o "get" apos e f cpos := by exact ⟨rfl, rfl, rfl, rfl⟩) : DE X (.Call (.Attribute o "get" apos) [e, f] [] cpos) (dDGet2 to te tf) := by
  obtain ⟨uo, po, ro⟩ := ho.ex
  obtain ⟨ue, pe, re⟩ := he.ex
  obtain ⟨uf, pf, rf⟩ := hf.ex
  refine ⟨_, pe_dget2 hu po pe pf m, fun F H σ τ M Qd Q R q k => ?_⟩
  refine ro F H σ τ M _ _ R q fun v F1 H1 d M1 e1 R1 r1 q1 => ?_
  obtain ⟨hd, q1⟩ := q1
  obtain ⟨kvs0, hd⟩ := Option.isSome_iff_exists.mp hd
  obtain ⟨a, vs0, rfl, hh, _⟩ := dct_ok R1.heap r1 hd
  refine ⟨a, rfl, .inl ⟨_, hh⟩, ?_⟩
  refine re F1 H1 σ τ M1 _ _ R1 q1 fun y F2 H2 dy M2 e2 R2 r2 q2 => ?_
  refine rf F2 H2 σ τ M2 _ _ R2 q2 fun z F3 H3 dz M3 e3 R3 r3 q3 => ?_
  split at q3
  · rename_i kvs kk hk hy
    have r2' := dKey_ok r2 hy
    subst r2'
    obtain ⟨a', vs, e, hs, rs⟩ := dct_ok R3.heap (r1.mono (e2.trans e3).ext) hk
    cases e
    rcases rs.val kk with ⟨h1, h2⟩ | ⟨d0, v0, h1, h2, rd⟩
    · rw [h1] at q3
      refine ⟨valV vs kk, .inl ⟨_, _, hs, rfl, rfl⟩, ?_⟩
      rw [h2]
      exact k z F3 H3 dz M3 ((e1.trans e2).trans e3) R3 r3 q3
    · rw [h1] at q3
      refine ⟨valV vs kk, .inl ⟨_, _, hs, rfl, rfl⟩, ?_⟩
      rw [h2]
      exact k v0 F3 H3 d0 M3 ((e1.trans e2).trans e3) R3 rd q3
  · exact q3.elim
@[simp] def dDSetd (to te tf : DTE) : DTE := fun τ M Q => to τ M fun x M1 => (dctOf x M1).isSome = true ∧ te τ M1 fun y M2 => tf τ M2 fun z M3 => match x, dKey y with
  | .ref p, some k => (match M3 p with
    | some (.dct kvs) => kvs.length < sizeLine ∧ (match valD kvs k with
      | some d => Q d M3
      | none => Q z (M3.upd p (.dct (putD kvs k z))))
    | _ => False)
  | _, _ => False
theorem de_dsetd (ho : DE X o to) (he : DE X e te) (hf : DE X f tf) (m : M2 X o "setdefault" apos e f cpos := by exact ⟨rfl, rfl, rfl, rfl⟩) : DE X (.Call (.Attribute o "setdefault" apos) [e, f] [] cpos) (dDSetd to te tf) := by
  obtain ⟨uo, po, ro⟩ := ho.ex
  obtain ⟨ue, pe, re⟩ := he.ex
  obtain ⟨uf, pf, rf⟩ := hf.ex
  refine ⟨_, pe_dsetd po pe pf m, fun F H σ τ M Qd Q R q k => ?_⟩
  refine ro F H σ τ M _ _ R q fun v F1 H1 d M1 e1 R1 r1 q1 => ?_
  obtain ⟨hd, q1⟩ := q1
  obtain ⟨kvs0, hd⟩ := Option.isSome_iff_exists.mp hd
  obtain ⟨a, vs0, rfl, hh, _⟩ := dct_ok R1.heap r1 hd
  refine ⟨a, rfl, .inl ⟨_, hh⟩, ?_⟩
  refine re F1 H1 σ τ M1 _ _ R1 q1 fun y F2 H2 dy M2 e2 R2 r2 q2 => ?_
  refine rf F2 H2 σ τ M2 _ _ R2 q2 fun z F3 H3 dz M3 e3 R3 r3 q3 => ?_
  cases d <;> first | exact False.elim q3 | skip
  rename_i p
  cases r1
  cases hk : dKey dy with
  | none => rw [hk] at q3; exact q3.elim
  | some kk =>
    rw [hk] at q3
    dsimp only at q3
    have ek := dKey_ok r2 hk
    subst ek
    split at q3
    · rename_i kvs hp
      obtain ⟨hz, q3⟩ := q3
      obtain ⟨_, hob, hh3, hr⟩ := R3.heap.sto a _ hp
      cases hob <;> first | exact False.elim hr | skip
      rename_i vs
      have hr' : RelKv X.K F3 vs kvs := hr
      refine ⟨vs, kk, hh3, rfl, by rw [hr'.length]; exact hz, fun v0 hv => ?_, fun hv => ?_⟩
      · rcases hr'.val kk with ⟨_, h2⟩ | ⟨d0, v1, h1, h2, rd⟩
        · rw [h2] at hv; cases hv
        · rw [h2] at hv; cases hv
          rw [h1] at q3
          exact k v0 F3 H3 d0 M3 ((e1.trans e2).trans e3) R3 rd q3
      · rcases hr'.val kk with ⟨h1, _⟩ | ⟨d0, v1, _, h2, _⟩
        · rw [h1] at q3
          obtain ⟨e4, R4⟩ := R3.heap.write (o := .dK (putK vs kk z)) (u := .dct (putD kvs kk dz)) hp (hr'.put r3)
          exact k z F3 _ dz _ (((e1.trans e2).trans e3).trans e4) (R3.mono e4.ext R4) (r3.mono e4.ext) q3
        · rw [h2] at hv; cases hv
    · exact q3.elim
@[simp] def dClear (to : DTE) : DTE := fun τ M Q => to τ M fun x M1 => match x with
  | .ref p => (match M1 p with
    | some (.dct _) => Q .non (M1.upd p (.dct []))
    | _ => False)
  | _ => False
theorem de_clear (ho : DE X o to) (hbase : attributeBase o "clear" X.env (eval o X.env) = eval o X.env := by rfl) (hline : (apos.endLine == cpos.line) = true := by rfl) : DE X (.Call (.Attribute o "clear" apos) [] [] cpos) (dClear to) := by
  obtain ⟨uo, po, ro⟩ := ho.ex
  refine ⟨_, pe_dclear po hbase hline, fun F H σ τ M Qd Q R q k => ?_⟩
  refine ro F H σ τ M _ _ R q fun v F1 H1 d M1 e1 R1 r1 q1 => ?_
  cases d <;> first | exact False.elim q1 | skip
  rename_i p
  cases r1
  dsimp only at q1
  split at q1
  · rename_i kvs hp
    obtain ⟨_, hob, hh, hr⟩ := R1.heap.sto p _ hp
    cases hob <;> first | exact False.elim hr | skip
    rename_i vs
    obtain ⟨e2, R2⟩ := R1.heap.write (o := .dK []) (u := .dct []) hp RelKv.nil
    exact ⟨.inr (.inr (.inl ⟨rfl, .inl ⟨_, hh⟩⟩)), p, vs, rfl, rfl, hh, k _ _ _ .non _ (e1.trans e2) (R1.mono e2.ext R2) .non q1⟩
  · exact q1.elim
@[simp] def gLenD : GC := fun ds M Q => match ds with
  | [x] => (match dctOf x M with
    | some kvs => Q (.int kvs.length) M
    | none => False)
  | _ => False
theorem call_lenDR : CallR X (.builtin "len") (fun xs H Q => ∃ a kvs, xs = [V.ref a] ∧ Rd H a (.dK kvs) ∧ Q (.int kvs.length) H) := by
  intro pins s σ H xs us Q I r h
  obtain ⟨a, kvs, rfl, ha, q⟩ := h
  obtain ⟨u, rfl, ru⟩ := vals1 r
  cases ru
  exact d_len I ha fun t s' I' => ⟨.int kvs.length, H, I', ⟨t, rfl⟩, q⟩
theorem cd_lenD : CallD X (.builtin "len") gLenD := fun F H M xs ds Qd Q R r q k => by
  unfold gLenD at q
  split at q
  · split at q
    · rename_i kvs hy
      cases r with
      | cons r1 r2 =>
        cases r2
        obtain ⟨a, vs, rfl, hs, rs⟩ := dct_ok R r1 hy
        exact ⟨_, call_lenDR, a, vs, rfl, hs, by rw [rs.length]; exact k _ F H _ M (Stp.refl F H M) R (.int _) q⟩
    · exact q.elim
  · exact q.elim
/-- dict(d): a copy that may change -/
@[simp] def gDictM : GC := fun ds M Q => match ds with
  | [x] => (match dctOf x M with
    | some kvs => ∀ p, M p = none → Q (.ref p) (M.upd p (.dct kvs))
    | none => False)
  | _ => False
theorem cd_dictM : CallD X (.type "dict") gDictM := fun F H M xs ds Qd Q R r q k => by
  unfold gDictM at q
  split at q
  · split at q
    · rename_i kvs hy
      cases r with
      | cons r1 r2 =>
        cases r2
        obtain ⟨a, vs, rfl, hs, rs⟩ := dct_ok R r1 hy
        refine ⟨_, call_dictD, a, vs, rfl, hs, fun p hp => ?_⟩
        obtain ⟨e2, R2⟩ := R.fresh (o := .dK vs) (u := .dct kvs) hp rs
        exact k _ _ _ (.ref p) _ e2 R2 (.ref p) (q p (R.free hp).2)
    · exact q.elim
  · exact q.elim
/-- dict(d): a copy that stays -/
@[simp] def gDictC : GC := fun ds M Q => match ds with
  | [x] => (match dctOf x M with
    | some kvs => Q (.dct kvs) M
    | none => False)
  | _ => False
theorem cd_dictC : CallD X (.type "dict") gDictC := fun F H M xs ds Qd Q R r q k => by
  unfold gDictC at q
  split at q
  · split at q
    · rename_i kvs hy
      cases r with
      | cons r1 r2 =>
        cases r2
        obtain ⟨a, vs, rfl, hs, rs⟩ := dct_ok R r1 hy
        refine ⟨_, call_dictD, a, vs, rfl, hs, fun p hp => ?_⟩
        obtain ⟨e2, R2⟩ := R.frozen (o := .dK vs) hp
        exact k _ _ _ (.dct kvs) M e2 R2 (.dct (.inl upd_same) (RelKv.mono e2.ext rs)) q
    · exact q.elim
  · exact q.elim
/-- pairs (key, value) -/
def pairsOf : List D → Option (List (Key × D))
  | [] => some []
  | .tup [a, b] :: r => (match dKey a, pairsOf r with
    | some k, some kvs => some ((k, b) :: kvs)
    | _, _ => none)
  | _ :: _ => none
def mergeD (kvs more : List (Key × D)) : List (Key × D) := more.foldl (fun acc kv => putD acc kv.1 kv.2) kvs
theorem RelKv.merge {K : PySem.W.Frag} {F : Hp} : ∀ {ms : List (Key × V)} {ns : List (Key × D)} {vs : List (Key × V)} {ds : List (Key × D)}, RelKv K F ms ns → RelKv K F vs ds → RelKv K F (mergeK vs ms) (mergeD ds ns)
  | _, _, _, _, .nil, r => r
  | _, _, _, _, .cons (k := k) h t, r => by
    have z := RelKv.merge t (r.put (k := k) h)
    exact z
theorem pairs_rel {K : PySem.W.Frag} {F : Hp} : ∀ {ds : List D} {vs : List V} {ns : List (Key × D)}, RelDs K F vs ds → pairsOf ds = some ns →
    ∃ (ps : List Addr) (ms : List (Key × V)), vs = ps.map V.ref ∧ Paired (fun p kv => SqT K F p [kV kv.1, kv.2]) ps ms ∧ RelKv K F ms ns
  | [], _, _, .nil, h => by cases h; exact ⟨[], [], rfl, .nil, .nil⟩
  | .tup [a, b] :: r, _, ns, .cons (v := v) h1 h2, h => by
    unfold pairsOf at h
    cases hk : dKey a with
    | none => rw [hk] at h; cases h
    | some k =>
      rw [hk] at h
      cases hp : pairsOf r with
      | none => rw [hp] at h; cases h
      | some kvs =>
        rw [hp] at h
        cases h
        obtain ⟨ps, ms, e, pr, rr⟩ := pairs_rel h2 hp
        cases h1 with
        | tup hs rs =>
          cases rs with
          | cons ra rb => cases rb with
            | cons rb rc =>
              cases rc
              have ek := dKey_ok ra hk
              subst ek
              exact ⟨_ :: ps, (k, _) :: ms, by rw [e]; rfl, .cons hs pr, .cons rb rr⟩
  | .non :: _, _, _, _, h => nomatch h
  | .bl _ :: _, _, _, _, h => nomatch h
  | .int _ :: _, _, _, _, h => nomatch h
  | .str _ :: _, _, _, _, h => nomatch h
  | .lst _ :: _, _, _, _, h => nomatch h
  | .dct _ :: _, _, _, _, h => nomatch h
  | .ref _ :: _, _, _, _, h => nomatch h
  | .ty _ :: _, _, _, _, h => nomatch h
  | .ins _ _ :: _, _, _, _, h => nomatch h
  | .rol _ :: _, _, _, _, h => nomatch h
  | .ptp _ :: _, _, _, _, h => nomatch h
  | .tup [] :: _, _, _, _, h => nomatch h
  | .tup [_] :: _, _, _, _, h => nomatch h
  | .tup (_ :: _ :: _ :: _) :: _, _, _, _, h => nomatch h
/-- dict(list or tuple of pairs), frozen -/
@[simp] def gDictP : GC := fun ds M Q => match ds with
  | [x] => (match lstOf x M with
    | some ys => (match pairsOf ys with
      | some kvs => Q (.dct (mergeD [] kvs)) M
      | none => False)
    | none => False)
  | _ => False
theorem paired_mono {K : PySem.W.Frag} {F H : Hp} (e : Ext F H) : ∀ {ps : List Addr} {ms : List (Key × V)}, Paired (fun p kv => SqT K F p [kV kv.1, kv.2]) ps ms → Paired (fun p kv => SqT K H p [kV kv.1, kv.2]) ps ms
  | _, _, .nil => .nil
  | _, _, .cons h t => .cons (e.sqT h) (paired_mono e t)
theorem cd_dictP (hc : X.calm = true) : CallD X (.type "dict") gDictP := fun F H M xs ds Qd Q R r q k => by
  unfold gDictP at q
  split at q
  · split at q
    · rename_i ys hy
      split at q
      · rename_i kvs hk
        cases r with
        | cons r1 r2 =>
          cases r2
          obtain ⟨a, vs, rfl, hs, rs⟩ := lst_ok R r1 hy
          obtain ⟨ps, ms, rfl, pr, rk⟩ := pairs_rel rs hk
          refine ⟨_, call_dictP hc, a, ps, ms, rfl, SqL.of hs, paired_mono R.sub pr, fun p hp => ?_⟩
          obtain ⟨e2, R2⟩ := R.frozen (o := .dK (mergeK [] ms)) hp
          exact k _ _ _ (.dct (mergeD [] kvs)) M e2 R2 (.dct (.inl upd_same) (RelKv.mono e2.ext (rk.merge .nil))) q
      · exact q.elim
    · exact q.elim
  · exact q.elim
end
end DL

/-! DT: pop, extend; a, b, c = ..; zip, enumerate; list(range(..)); sorted; freezing a name; {k: v}. -/
namespace DL
open PySem PySem.Spec PyProof.Rows L2
section
variable {X : Cx} {o e f : Expr} {apos cpos pos : Pos} {to te tf : DTE}
/-- xs.pop() -/
@[simp] def dPop (to : DTE) : DTE := fun τ M Q => to τ M fun x M1 => match x with
  | .ref p => (match M1 p with
    | some (.lst xs) => (match xs.getLast? with
      | some d => Q d (M1.upd p (.lst xs.dropLast))
      | none => False)
    | _ => False)
  | _ => False
theorem RelDs.dropLast {K : PySem.W.Frag} {F : Hp} {vs : List V} {ds : List D} (r : RelDs K F vs ds) : RelDs K F vs.dropLast ds.dropLast := by
  rw [List.dropLast_eq_take, List.dropLast_eq_take, r.length]
  exact r.take _
theorem de_pop (ho : DE X o to) (hbase : attributeBase o "pop" X.env (eval o X.env) = eval o X.env := by rfl) (hline : (apos.endLine == cpos.line) = true := by rfl) : DE X (.Call (.Attribute o "pop" apos) [] [] cpos) (dPop to) := by
  obtain ⟨uo, po, ro⟩ := ho.ex
  refine ⟨_, pe_bm0 PySem.F.plainAttrs_list PySem.F.slot_list_pop PySem.F.type_list_pop mt_pop po hbase hline, fun F H σ τ M Qd Q R q k => ?_⟩
  refine ro F H σ τ M _ _ R q fun v F1 H1 d M1 e1 R1 r1 q1 => ?_
  cases d <;> first | exact False.elim q1 | skip
  rename_i p
  cases r1
  dsimp only at q1
  split at q1
  · rename_i xs hp
    split at q1
    · rename_i d hd
      obtain ⟨_, hob, hh, hr⟩ := R1.heap.sto p _ hp
      cases hob <;> first | exact False.elim hr | skip
      rename_i vs
      have hr' : RelDs X.K F1 vs xs := hr
      rw [List.getLast?_eq_getElem?] at hd
      obtain ⟨v, hv, rv⟩ := hr'.get hd
      obtain ⟨e2, R2⟩ := R1.heap.write (o := .lst vs.dropLast) (u := .lst xs.dropLast) hp hr'.dropLast
      refine ⟨Or.inl ⟨rfl, _, SqL.of hh⟩, p, vs, v, rfl, rfl, hh, by rw [hr'.length]; exact hv, ?_⟩
      exact k _ _ _ d _ (e1.trans e2) (R1.mono e2.ext R2) (rv.mono e2.ext) q1
    · exact q1.elim
  · exact q1.elim
@[simp] def dExtend (to te : DTE) : DTE := fun τ M Q => to τ M fun x M1 => match x with
  | .ref p => (∃ xs, M1 p = some (.lst xs)) ∧ te τ M1 fun y M2 => (match M2 p, lstOf y M2 with
    | some (.lst xs), some ys => xs.length + ys.length ≤ sizeLine ∧ Q .non (M2.upd p (.lst (xs ++ ys)))
    | _, _ => False)
  | _ => False
theorem de_extend (ho : DE X o to) (he : DE X e te)
    (hbase : attributeBase o "extend" X.env (eval o X.env) = eval o X.env := by rfl)
    (hfew : ((backTo cpos (starEach [e] X.env)).all (fun x => !x.1) && (backToKw cpos (keywordEach [] X.env)).all (fun x => x.1.isSome)
      && decide ([e].length + ([] : List Keyword).length + (if ([] : List Keyword).isEmpty then 0 else 1) < 30)) = true := by rfl)
    (hline : (apos.endLine == cpos.line) = true := by rfl) (hs : starEach [e] X.env = (false, eval e X.env) :: starEach [] X.env := by rfl) (hplain : (backTo cpos (starEach [] X.env)).any (·.1) = false := by rfl) :
    DE X (.Call (.Attribute o "extend" apos) [e] [] cpos) (dExtend to te) := by
  obtain ⟨uo, po, ro⟩ := ho.ex
  obtain ⟨ue, pe, re⟩ := he.ex
  refine ⟨_, pe_bm PySem.F.plainAttrs_list PySem.F.slot_list_extend PySem.F.type_list_extend mt_extend po (pa_cons pe pa_nil hs) hbase hfew hline hs hplain, fun F H σ τ M Qd Q R q k => ?_⟩
  refine ro F H σ τ M _ _ R q fun v F1 H1 d M1 e1 R1 r1 q1 => ?_
  cases d <;> first | exact False.elim q1 | skip
  rename_i p
  cases r1
  obtain ⟨⟨xs0, h0⟩, q1⟩ := q1
  obtain ⟨_, ho0, hh0, hr0⟩ := R1.heap.sto p _ h0
  cases ho0 <;> first | exact False.elim hr0 | skip
  refine ⟨Or.inl ⟨rfl, _, SqL.of hh0⟩, ?_⟩
  refine re F1 H1 σ τ M1 _ _ R1 q1 fun y F2 H2 dy M2 e2 R2 r2 q2 => ?_
  split at q2
  · rename_i xs ys hp hy
    obtain ⟨_, hob, hh, hr⟩ := R2.heap.sto p _ hp
    cases hob <;> first | exact False.elim hr | skip
    rename_i vs
    have hr' : RelDs X.K F2 vs xs := hr
    obtain ⟨b, ws, rfl, hb, rb⟩ := lst_ok R2.heap r2 hy
    refine ⟨p, b, vs, ws, rfl, rfl, hh, hb, by rw [hr'.length, rb.length]; exact q2.1, ?_⟩
    obtain ⟨e4, R4⟩ := R2.heap.write (o := .lst (vs ++ ws)) (u := .lst (xs ++ ys)) hp (hr'.append rb)
    exact k _ _ _ .non _ ((e1.trans e2).trans e4) (R2.mono e4.ext R4) .non q2.2
  · exact q2.elim

/-! ### a, b, c = x, y, z -/
@[simp] def dPar3 (i j l : Nat) (ta tb tc : DTE) : DTS := fun D τ M => ta τ M fun v M1 => tb τ M1 fun w M2 => tc τ M2 fun u M3 => D.nx (((τ.set i (some v)).set j (some w)).set l (some u)) M3
theorem ds_par3 {i j l : Nat} {x y z : Str} {a b c : Expr} {ta tb tc : DTE} {px py pz pt : Pos} {kt k2 pt2} (hc : X.calm = true) (hN : X.N.Nodup) (ha : DE X a ta) (hb : DE X b tb) (hd : DE X c tc) (hi : X.N[i]? = some x := by rfl) (hj : X.N[j]? = some y := by rfl) (hl : X.N[l]? = some z := by rfl)
    (hij : i ≠ j := by decide) (hil : i ≠ l := by decide) (hjl : j ≠ l := by decide)
    (hx : X.env.scope.names.lookup x = some .local := by rfl) (hy : X.env.scope.names.lookup y = some .local := by rfl) (hz : X.env.scope.names.lookup z = some .local := by rfl)
    (hw : swappedStores [.Tuple [.Name x px, .Name y py, .Name z pz] kt pt] (.Tuple [a, b, c] k2 pt2) X.env = pure (some [x, y, z]) := by rfl)
    (hs : swapsWithSole [.Tuple [.Name x px, .Name y py, .Name z pz] kt pt] (.Tuple [a, b, c] k2 pt2) pos.line X.env = pure false := by rfl)
    (h1 : starEach [a, b, c] X.env = (false, eval a X.env) :: starEach [b, c] X.env := by rfl) (h2 : starEach [b, c] X.env = (false, eval b X.env) :: starEach [c] X.env := by rfl) (h3 : starEach [c] X.env = (false, eval c X.env) :: starEach [] X.env := by rfl) :
    DS X (.Assign [.Tuple [.Name x px, .Name y py, .Name z pz] kt pt] (.Tuple [a, b, c] k2 pt2) pos) (dPar3 i j l ta tb tc) := by
  obtain ⟨u, pu, ru⟩ := ha.ex
  obtain ⟨w, pw, rw'⟩ := hb.ex
  obtain ⟨w3, pw3, rw3⟩ := hd.ex
  refine ⟨_, ps_par3 hc hN hi hj hl hij hil hjl hx hy hz (pa_cons pu (pa_cons pw (pa_cons pw3 pa_nil h3) h2) h1) hw hs, fun F H σ τ M D E R q r => ?_⟩
  refine ru F H σ τ M _ _ R q fun v F1 H1 d M1 e1 R1 r1 q1 => ?_
  refine rw' F1 H1 σ τ M1 _ _ R1 q1 fun v' F2 H2 d' M2 e2 R2 r2 q2 => ?_
  refine rw3 F2 H2 σ τ M2 _ _ R2 q2 fun v3 F3 H3 d3 M3 e3 R3 r3 q3 => ?_
  exact ⟨v, v', v3, rfl, r.nx F3 H3 _ _ M3 ((e1.trans e2).trans e3) (((R3.set i (r1.mono (e2.trans e3).ext)).set j (r2.mono e3.ext)).set l r3) q3⟩

/-! ### a name's object is frozen, ahead of a statement -/
def dFzV (i : Nat) (t : DTS) : DTS := fun D τ M => match τ[i]? with
  | some (some (.ref a)) => (match M a with
    | some (.lst xs) => t D (τ.set i (some (.lst xs))) (M.del a)
    | some (.dct kvs) => t D (τ.set i (some (.dct kvs))) (M.del a)
    | _ => False)
  | _ => False
theorem dss_fz {sts : List Stmt} {t : DTS} (i : Nat) (h : DSs X sts t) : DSs X sts (dFzV i t) := by
  obtain ⟨u, pu, ru⟩ := h.ex
  refine ⟨u, pu, fun F H σ τ M D E R q r => ?_⟩
  unfold dFzV at q
  split at q
  · rename_i a hi
    have hlen : i < τ.length := (List.getElem?_eq_some_iff.mp hi).1
    obtain ⟨v, hv, rv⟩ := R.slots.get i _ hi
    cases rv
    have hs : σ.set i (some (.ref a)) = σ := by
      apply List.ext_getElem?
      intro j
      by_cases e : i = j
      · subst e
        rw [List.getElem?_set_self (by rw [R.slots.len]; exact hlen), hv]
      · rw [List.getElem?_set_ne e]
    split at q
    · rename_i xs hp
      obtain ⟨ho, h1, h2, e2, e3, R2⟩ := R.heap.freeze hp
      cases ho <;> first | exact False.elim h2 | skip
      have R3 := (Rst.mono R e2 R2).set i (RelD.lst (K := X.K) upd_same (RelDs.mono e2 h2))
      rw [hs] at R3
      exact ru _ H σ _ _ D E R3 q (r.mono e3)
    · rename_i kvs hp
      obtain ⟨ho, h1, h2, e2, e3, R2⟩ := R.heap.freeze hp
      cases ho <;> first | exact False.elim h2 | skip
      have R3 := (Rst.mono R e2 R2).set i (RelD.dct (K := X.K) (.inl upd_same) (RelKv.mono e2 h2))
      rw [hs] at R3
      exact ru _ H σ _ _ D E R3 q (r.mono e3)
    · exact q.elim
  · exact q.elim

/-! ### list(range(..)) -/
@[simp] def dRg1 (t : DTE) : DSt → Sto → (Int → Int → Sto → Prop) → Prop := fun τ M Q => t τ M fun d M1 => match d with
  | .int j => Q 0 j M1
  | _ => False
@[simp] def dRg2 (t u : DTE) : DSt → Sto → (Int → Int → Sto → Prop) → Prop := fun τ M Q => t τ M fun d M1 => u τ M1 fun x M2 => match d, x with
  | .int i, .int j => Q i j M2
  | _, _ => False
@[simp] def dLstRg (t : DSt → Sto → (Int → Int → Sto → Prop) → Prop) : DTE := fun τ M Q => t τ M fun i j M1 => RgOk i j ∧ Q (.lst (rangeD i (j - i).toNat)) M1
theorem rel_rg {K : PySem.W.Frag} {F : Hp} (i j : Int) : RelDs K F (rgV i j) (rangeD i (j - i).toNat) := by
  unfold rgV rangeD
  generalize (j - i).toNat = n
  generalize List.range n = l
  induction l with
  | nil => exact .nil
  | cons k r ih => exact .cons (.int _) ih
theorem de_listRg2 {a b : Expr} {p p2 p3 : Pos} (hc : X.calm = true) (hm : X.mg "list" = none) (hm2 : X.mg "range" = none) (ha : DE X a te) (hb : DE X b tf) (hg : Gl X "list" := by rfl) (hg2 : Gl X "range" := by rfl)
    (na : starEach [a, b] X.env = (false, eval a X.env) :: starEach [b] X.env := by rfl) (nb : starEach [b] X.env = (false, eval b X.env) :: starEach [] X.env := by rfl) (hp : (backTo p3 (starEach [b] X.env)).any (·.1) = false := by rfl)
    (nc : starEach [.Call (.Name "range" p2) [a, b] [] p3] X.env = (false, eval (.Call (.Name "range" p2) [a, b] [] p3) X.env) :: starEach [] X.env := by rfl) :
    DE X (.Call (.Name "list" p) [.Call (.Name "range" p2) [a, b] [] p3] [] pos) (dLstRg (dRg2 te tf)) := by
  obtain ⟨ua, pa, ra⟩ := ha.ex
  obtain ⟨ub, pb, rb⟩ := hb.ex
  refine ⟨_, pe_listRg hc hg hm (prg_2 hg2 hm2 pa pb na nb hp) nc, fun F H σ τ M Qd Q R q k => ?_⟩
  refine ra F H σ τ M _ _ R q fun v F1 H1 d M1 e1 R1 r1 q1 => ?_
  refine rb F1 H1 σ τ M1 _ _ R1 q1 fun v' F2 H2 d' M2 e2 R2 r2 q2 => ?_
  cases d <;> cases d' <;> first | exact False.elim q2 | skip
  rename_i i j
  cases r1; cases r2
  refine ⟨i, j, rfl, rfl, q2.1, fun p' hp' => ?_⟩
  obtain ⟨e3, R3⟩ := R2.heap.frozen (o := .lst (rgV i j)) hp'
  exact k _ _ _ _ M2 ((e1.trans e2).trans e3) (R2.mono e3.ext R3) (.lst upd_same (rel_rg i j)) q2.2

/-! ### {k: v, ..}, as many as 15 -/
@[simp] def dPairs : List (DTE × DTE) → DSt → Sto → (List (D × D) → Sto → Prop) → Prop
  | [], _, M, Q => Q [] M
  | (tk, tv) :: r, τ, M, Q => tk τ M fun x M1 => tv τ M1 fun y M2 => dPairs r τ M2 fun ps M3 => Q ((x, y) :: ps) M3
/-- the pairs as a dict -/
@[simp] def keysOf : List (D × D) → Option (List (Key × D))
  | [] => some []
  | (a, b) :: r => (match dKey a, keysOf r with
    | some k, some kvs => some ((k, b) :: kvs)
    | _, _ => none)
@[simp] def dDisp (trs : List (DTE × DTE)) : DTE := fun τ M Q => dPairs trs τ M fun ps M1 => match keysOf ps with
  | some kvs => kvs.length ≤ 15 ∧ Q (.dct (mergeD [] kvs)) M1
  | none => False
structure DPs (X : Cx) (pos : Pos) (keys : List (Option Expr)) (values : List Expr) (trs : List (DTE × DTE)) : Prop where
  ex : ∃ us, PPs X pos keys values us ∧ ∀ (F H : Hp) (σ : L2.St) (τ : DSt) (M : Sto) (Qd : List (D × D) → Sto → Prop) (Q : List (V × V) → Hp → Prop), Rst X.K F H σ τ M → dPairs trs τ M Qd →
    (∀ vs ws F' H' ds es M', vs.length = ws.length → ds.length = es.length → Stp F H M F' H' M' → Rst X.K F' H' σ τ M' → RelDs X.K F' vs ds → RelDs X.K F' ws es → Qd (ds.zip es) M' → Q (vs.zip ws) H') → tPairs us σ H Q
theorem dps_nil : DPs X pos [] [] [] := ⟨[], pps_nil, fun F H σ τ M Qd Q R q k => k [] [] F H [] [] M rfl rfl (Stp.refl F H M) R .nil .nil q⟩
theorem dps_cons {k v : Expr} {ks : List (Option Expr)} {vs : List Expr} {tk tv : DTE} {trs : List (DTE × DTE)} (hk : DE X k tk) (hv : DE X v tv) (hr : DPs X pos ks vs trs) : DPs X pos (some k :: ks) (v :: vs) ((tk, tv) :: trs) := by
  obtain ⟨uk, pk, rk⟩ := hk.ex
  obtain ⟨uv, pv', rv⟩ := hv.ex
  obtain ⟨us, ps, rs⟩ := hr.ex
  refine ⟨(uk, uv) :: us, pps_cons pk pv' ps, fun F H σ τ M Qd Q R q kk => ?_⟩
  refine rk F H σ τ M _ _ R q fun x F1 H1 dx M1 e1 R1 r1 q1 => ?_
  refine rv F1 H1 σ τ M1 _ _ R1 q1 fun y F2 H2 dy M2 e2 R2 r2 q2 => ?_
  refine rs F2 H2 σ τ M2 _ _ R2 q2 fun vs ws F3 H3 ds es M3 l1 l2 e3 R3 r3 r4 q3 => ?_
  exact kk (x :: vs) (y :: ws) F3 H3 (dx :: ds) (dy :: es) M3 (by simp [l1]) (by simp [l2]) ((e1.trans e2).trans e3) R3 (.cons (r1.mono (e2.trans e3).ext) r3) (.cons (r2.mono e3.ext) r4) q3
theorem keys_rel {K : PySem.W.Frag} {F : Hp} : ∀ (ds es : List D) {vs ws : List V} {kvs : List (Key × D)}, vs.length = ws.length → ds.length = es.length → RelDs K F vs ds → RelDs K F ws es → keysOf (ds.zip es) = some kvs →
    ∃ ms : List (Key × V), vs.zip ws = ms.map (fun kv => (kV kv.1, kv.2)) ∧ RelKv K F ms kvs
  | [], es, vs, ws, kvs, l1, l2, h1, h2, h => by
    cases h1; cases h; exact ⟨[], rfl, .nil⟩
  | d :: ds, [], vs, ws, kvs, l1, l2, h1, h2, h => by simp at l2
  | d :: ds, g :: es, vs0, ws0, kvs, l1, l2, hv, hw, h => by
    cases hv with
    | @cons v vs _ _ h1 h2 =>
    cases hw with
    | @cons w ws _ _ g1 g2 =>
    rw [List.zip_cons_cons] at h
    unfold keysOf at h
    cases hk : dKey d with
    | none => rw [hk] at h; cases h
    | some k =>
      rw [hk] at h
      cases hp : keysOf (ds.zip es) with
      | none => rw [hp] at h; cases h
      | some kv2 =>
        rw [hp] at h; cases h
        obtain ⟨ms, e, rr⟩ := keys_rel ds es (by simpa using l1) (by simpa using l2) h2 g2 hp
        have ek := dKey_ok h1 hk
        subst ek
        exact ⟨(k, w) :: ms, by rw [List.zip_cons_cons, e]; rfl, .cons g1 rr⟩
theorem de_disp {keys : List (Option Expr)} {values : List Expr} {trs : List (DTE × DTE)} (h : DPs X pos keys values trs) (hall : keys.all (·.isSome) = true := by rfl) (hl : keys.length = values.length := by rfl) (h0 : keys ≠ [] := by exact List.cons_ne_nil _ _)
    (h15 : keys.length ≤ 15 := by decide) : DE X (.Dict keys values pos) (dDisp trs) := by
  obtain ⟨us, ps, rs⟩ := h.ex
  refine ⟨_, pe_disp ps hall hl h0 h15, fun F H σ τ M Qd Q R q k p hp => ?_⟩
  obtain ⟨hf, hm⟩ := R.heap.free hp
  refine rs F _ σ τ M _ _ ⟨R.heap.side hm hf _, R.slots⟩ q fun vs ws F1 H1 ds es M1 l1 l2 e1 R1 r1 r2 q1 => ?_
  obtain ⟨h1, m1, f1⟩ := e1.kp p _ upd_same hm
  split at q1
  · rename_i kvs hk
    obtain ⟨ms, e, rr⟩ := keys_rel ds es l1 l2 r1 r2 hk
    refine ⟨h1, ms, e, by rw [rr.length]; exact q1.1, ?_⟩
    have s1 : Stp F H M F1 (upd H1 p (.dK (mergeK [] ms))) M1 := by
      have a : Stp F H M F (upd H p (.dK [])) M := (Stp.refl F H M).side hp _
      exact (a.trans e1).side hp _
    have R2 := R1.heap.side m1 (f1 hf) (.dK (mergeK [] ms))
    obtain ⟨x2, s2, R3⟩ := R2.adopt s1 upd_same m1 (f1 hf) hp
    exact k (.ref p) _ _ (.dct (mergeD [] kvs)) M1 s2 (R.mono s2.ext R3) (.dct (.inl upd_same) (RelKv.mono x2 (rr.merge .nil))) q1.2
  · exact q1.elim
end

/-! ### zip, enumerate of a list -/
def zipD (xs ys : List D) : List D := (xs.zip ys).map fun p => .tup [p.1, p.2]
theorem zipD_get {xs ys : List D} {i : Nat} {d : D} (h : (zipD xs ys)[i]? = some d) : ∃ x y, xs[i]? = some x ∧ ys[i]? = some y ∧ d = .tup [x, y] := by
  unfold zipD at h
  rw [List.getElem?_map] at h
  cases q : (xs.zip ys)[i]? with
  | none => rw [q] at h; cases h
  | some p =>
    rw [q] at h
    cases h
    obtain ⟨h1, h2⟩ := List.getElem?_zip_eq_some.mp q
    exact ⟨p.1, p.2, h1, h2, rfl⟩
theorem pair_yld {K : PySem.W.Frag} {F F2 H2 : Hp} {M2 : Sto} {T : Addr} {x y : V} {dx dy : D} (e : Ext F F2) (R : Rst0 K F2 H2 M2) (hT : H2 T = none) (rx : RelD K F x dx) (ry : RelD K F y dy) :
    ∃ F3, Stp F2 H2 M2 F3 (upd H2 T (.tup [x, y])) M2 ∧ Rst0 K F3 (upd H2 T (.tup [x, y])) M2 ∧ RelD K F3 (.ref T) (.tup [dx, dy]) := by
  obtain ⟨e2, R2⟩ := R.frozen (o := .tup [x, y]) hT
  exact ⟨_, e2, R2, .tup (SqT.of upd_same) (.cons (rx.mono (e.trans e2.ext)) (.cons (ry.mono (e.trans e2.ext)) .nil))⟩
theorem itd_zipL {K : PySem.W.Frag} {F : Hp} {a b : Addr} {xs ys : List V} {ds es : List D} (h : SqL K F a xs) (g : SqL K F b ys) (r : RelDs K F xs ds) (s : RelDs K F ys es) : ItD K F (Itz K a b) (zipD ds es) where
  go := fun i F2 H2 M2 hi e R => by
    have hi' : i < ds.length ∧ i < es.length := by simp [zipD] at hi; omega
    have h1 : i < xs.length := by rw [r.length]; exact hi'.1
    have h2 : i < ys.length := by rw [s.length]; exact hi'.2
    exact ⟨xs, ys, xs[i], ys[i], sqL_fix h e R, sqL_fix g e R, List.getElem?_eq_getElem h1, List.getElem?_eq_getElem h2⟩
  yld := fun i F2 H2 M2 d x H' hd e R y => by
    obtain ⟨T, u, w, rfl, hT, rfl, y1, y2⟩ := y
    obtain ⟨dx, dy, g1, g2, rfl⟩ := zipD_get hd
    obtain ⟨v1, p1, q1⟩ := r.get g1
    obtain ⟨v2, p2, q2⟩ := s.get g2
    have z1 := y1 xs (sqL_fix h e R)
    have z2 := y2 ys (sqL_fix g e R)
    rw [p1] at z1; rw [p2] at z2
    cases z1; cases z2
    exact pair_yld e R hT q1 q2
  stop := fun F2 H2 M2 e R => ⟨xs, ys, sqL_fix h e R, sqL_fix g e R, by rw [r.length, s.length]; simp [zipD]; omega⟩
theorem itd_zipT {K : PySem.W.Frag} {F : Hp} {a b : Addr} {xs ys : List V} {ds es : List D} (h : SqT K F a xs) (g : SqT K F b ys) (r : RelDs K F xs ds) (s : RelDs K F ys es) : ItD K F (RZ.ItzT K a b) (zipD ds es) where
  go := fun i F2 H2 M2 hi e R => by
    have hi' : i < ds.length ∧ i < es.length := by simp [zipD] at hi; omega
    have h1 : i < xs.length := by rw [r.length]; exact hi'.1
    have h2 : i < ys.length := by rw [s.length]; exact hi'.2
    exact ⟨xs, ys, xs[i], ys[i], (e.trans R.sub).sqT h, (e.trans R.sub).sqT g, List.getElem?_eq_getElem h1, List.getElem?_eq_getElem h2⟩
  yld := fun i F2 H2 M2 d x H' hd e R y => by
    obtain ⟨T, u, w, rfl, hT, rfl, y1, y2⟩ := y
    obtain ⟨dx, dy, g1, g2, rfl⟩ := zipD_get hd
    obtain ⟨v1, p1, q1⟩ := r.get g1
    obtain ⟨v2, p2, q2⟩ := s.get g2
    have z1 := y1 xs ((e.trans R.sub).sqT h)
    have z2 := y2 ys ((e.trans R.sub).sqT g)
    rw [p1] at z1; rw [p2] at z2
    cases z1; cases z2
    exact pair_yld e R hT q1 q2
  stop := fun F2 H2 M2 e R => ⟨xs, ys, (e.trans R.sub).sqT h, (e.trans R.sub).sqT g, by rw [r.length, s.length]; simp [zipD]; omega⟩
/-- two lists, or two tuples -/
def zipI (x y : D) (M : Sto) : Option (List D) := match x, y with
  | .tup xs, .tup ys => some (zipD xs ys)
  | .lst xs, .lst ys => some (zipD xs ys)
  | _, _ => none
@[simp] def iZip (t u : DTE) : DTI := fun τ M Q => t τ M fun x M1 => u τ M1 fun y M2 => match zipI x y M2 with
  | some zs => Q zs M2
  | none => False
section
variable {X : Cx} {e e2 : Expr} {p pos tpos : Pos} {elts : List Expr} {kk : Nat} {te tu : DTE}
theorem di_zip (hm : X.mg "zip" = none) (ha : DE X e te) (hb : DE X e2 tu) (hg : Gl X "zip" := by rfl)
    (hs : starEach [e, e2] X.env = (false, eval e X.env) :: starEach [e2] X.env := by rfl) (hs2 : starEach [e2] X.env = (false, eval e2 X.env) :: starEach [] X.env := by rfl) (hpl : (backTo pos (starEach [e2] X.env)).any (·.1) = false := by rfl) :
    DI X (.Tuple elts kk tpos) (.Call (.Name "zip" p) [e, e2] [] pos) (iZip te tu) := by
  obtain ⟨ua, pa, ra⟩ := ha.ex
  obtain ⟨ub, pb, rb⟩ := hb.ex
  refine ⟨_, RZ.pi_zipA hg hm (pa_cons pa (pa_cons pb pa_nil hs2) hs) hs hpl, fun F H σ τ M Qd Q R q k => ?_⟩
  refine ra F H σ τ M _ _ R q fun v F1 H1 d M1 e1 R1 r1 q1 => ?_
  refine rb F1 H1 σ τ M1 _ _ R1 q1 fun v' F2 H2 d' M2 e2 R2 r2 q2 => ?_
  have r1' := r1.mono e2.ext
  split at q2
  · rename_i zs hz
    cases d <;> cases d' <;> first | (simp [zipI] at hz; done) | skip
    · cases hz
      cases r1' with
      | tup h1 s1 => cases r2 with
        | tup h2 s2 => exact ⟨_, _, _, _, rfl, .inr ⟨R2.heap.sub.sqT h1, R2.heap.sub.sqT h2, k _ F2 H2 _ M2 (e1.trans e2) R2 (itd_zipT h1 h2 s1 s2) q2⟩⟩
    · cases hz
      cases r1' with
      | lst h1 s1 => cases r2 with
        | lst h2 s2 => exact ⟨_, _, _, _, rfl, .inl ⟨SqL.of (R2.heap.sub _ _ h1), SqL.of (R2.heap.sub _ _ h2), k _ F2 H2 _ M2 (e1.trans e2) R2 (itd_zipL (SqL.of h1) (SqL.of h2) s1 s2) q2⟩⟩
  · exact q2.elim
end
end DL

/-! DU: sorted of ints, of a dict's int keys; enumerate of tuples; list(zip(..)). -/
namespace DL
open PySem PySem.Spec PyProof.Rows L2
section
variable {X : Cx}
/-! ### sorted -/
def rSortDK : List V → Hp → VK → Prop := fun xs H Q => ∃ (a : Addr) (kvs : List (Key × V)) (ks : List Int), xs = [.ref a] ∧ Rd H a (.dK kvs) ∧ kvs.map (·.1) = ks.map Sum.inl ∧
  ∀ (ys : List Int) (p : Addr), ys.Perm ks → ys.Pairwise (· ≤ ·) → H p = none → Q (.ref p) (upd H p (.lst (ys.map V.int)))
/-- a dict's int keys, however many -/
theorem cr_sortedDK (hcalm : X.calm = true) : CallR X (.builtin "sorted") rSortDK := by
  intro pins s σ H xs us Q I r q
  obtain ⟨a, kvs, ks, ex, hd, hks, q⟩ := q
  subst ex
  obtain ⟨u, eu, rx⟩ := vals1 r
  subst eu
  cases rx
  obtain ⟨z, lo, vs, rel, dd⟩ := dk_rd I.hok hd
  obtain ⟨ep, hat⟩ := dd.dictAt
  have keys : vs.map (·.1) = ks.map Sum.inl := rel.keys.symm.trans hks
  have len : vs.length = ks.length := by simpa using congrArg List.length keys
  have small : vs.length ≤ sizeLine := by rw [← rel.length]; exact z
  refine Calls.call_function_entry PyProof.Rows.kind_sorted PyProof.Rows.plain_sorted PyProof.Rows.entry_sorted (PyProof.Rows.args_sorted1 _) ?_
  unfold Builtin.«sorted»
  refine wpAny_bind (m := checkCount "sorted" 1 1 _) (wpAny_pure ?_)
  refine wpAny_bind (PySem.W.kdu_collect (A := X.A.in1) (PySem.W.kdl_dict (knd := mixKind X.prog X.w) (kvs := vs) (ep := ep) lo) (I.ok.hd hcalm) hat small fun h' tk acc hk hacc => ?_)
  have alen : acc.toList.length = ks.length := by rw [Array.length_toList, hacc.1, len]
  have hI : IntsAre acc.toList ks := ints_each alen fun j v e => by
    obtain ⟨k, x, e1, e2⟩ := hacc.2 j v (by rw [← Array.getElem?_toList]; exact e)
    have e3 : (ks.map Sum.inl)[j]? = some k := by rw [← keys, List.getElem?_map, e1]; rfl
    rw [List.getElem?_map] at e3
    cases e4 : ks[j]? with
    | none => rw [e4] at e3; cases e3
    | some y =>
      rw [e4] at e3
      have e5 : Sum.inl y = k := Option.some.inj e3
      subst e5
      rcases keyIs_shape (show keyIs (Sum.inl y) v = true from e2) with ⟨i, t, ek, ev⟩ | ⟨z, t, ek, ev⟩
      · cases ek
        exact ⟨y, t, rfl, ev⟩
      · cases ek
  have az : acc.toList.length ≤ sizeLine := by rw [alen, ← len]; exact small
  have I1 : Inv X pins σ H { s with heap := h', toks := tk } := I.kept hk
  refine wpAny_bind (wpAny_newList ?_ az)
  have hoL : (h'.push (seqObj "list" acc.toList.toArray 0)).get? h'.objs.size = some (seqObj "list" acc.toList.toArray 0) := Heap.get?_push_size _ rfl
  show wpAny _ _ _ _ _ { s with heap := h'.push (seqObj "list" acc.toList.toArray 0), toks := tk }
  refine wpAny_bind (wpAny_holding (wpAny_call_entry PyProof.Rows.slot_list_sort ⟨_, hoL, rfl⟩ PyProof.Rows.entry_list_sort
    (SrtO.list_sort_ord SrtO.swo_int (s := { s with heap := h'.push (seqObj "list" acc.toList.toArray 0), toks := tk }) hoL az (fun h2 => SrtO.ints_sortable hI h2) fun out g1 g2 => ⟨_, rfl, ?_⟩) (PyProof.Rows.args_list_sort _)))
  obtain ⟨k1, k2, k3⟩ := SrtO.ints_out hI g1 g2
  obtain ⟨e', he'⟩ := PyProof.Rows.sortedHeap_at (vs := acc.toList) (out := out.toArray) hoL
  have hlen : ((out.map SrtO.iv).map V.int).length ≤ sizeLine := by
    rw [List.length_map, k2.length_eq, ← alen]; exact az
  refine wpAny_pure ⟨_, rfl, .ref h'.objs.size, upd H h'.objs.size (.lst ((out.map SrtO.iv).map V.int)), I1.laid (t' := tk) (fun b u e => ?_) (Nat.le_refl _)
    (show ObjOk X.prog X.w _ _ _ (.lst ((out.map SrtO.iv).map V.int)) from ⟨hlen, out, e', vals_of_ints k1, he'⟩), rfl, q _ _ k2 k3 (I1.hok.fresh (Nat.le_refl _))⟩
  have hb : b < h'.objs.size := Heap.lt_size e
  rw [PyProof.Rows.sortedHeap_old (Nat.ne_of_lt hb) (by rw [size_push']; exact Nat.lt_succ_of_lt hb)]
  exact Heap.get?_push_of_some _ e
/-- ints among trees; int keys -/
def intsOf : List D → Option (List Int)
  | [] => some []
  | .int i :: r => (intsOf r).map (i :: ·)
  | _ :: _ => none
def keyInts : List (Key × D) → Option (List Int)
  | [] => some []
  | (.inl i, _) :: r => (keyInts r).map (i :: ·)
  | _ :: _ => none
theorem ints_rel {K : PySem.W.Frag} {F : Hp} : ∀ {ds : List D} {vs : List V} {ns : List Int}, RelDs K F vs ds → intsOf ds = some ns → vs = ns.map V.int
  | [], _, _, .nil, h => by cases h; rfl
  | .int i :: r, _, ns, .cons h1 h2, h => by
    unfold intsOf at h
    cases hp : intsOf r with
    | none => rw [hp] at h; cases h
    | some ms =>
      rw [hp] at h
      cases h
      cases h1
      rw [ints_rel h2 hp]
      rfl
  | .non :: _, _, _, _, h => nomatch h
  | .bl _ :: _, _, _, _, h => nomatch h
  | .tup _ :: _, _, _, _, h => nomatch h
  | .str _ :: _, _, _, _, h => nomatch h
  | .lst _ :: _, _, _, _, h => nomatch h
  | .dct _ :: _, _, _, _, h => nomatch h
  | .ref _ :: _, _, _, _, h => nomatch h
  | .ty _ :: _, _, _, _, h => nomatch h
  | .ins _ _ :: _, _, _, _, h => nomatch h
  | .rol _ :: _, _, _, _, h => nomatch h
  | .ptp _ :: _, _, _, _, h => nomatch h
theorem keyInts_eq : ∀ {kvs : List (Key × D)} {ns : List Int}, keyInts kvs = some ns → kvs.map (·.1) = ns.map Sum.inl
  | [], _, h => by cases h; rfl
  | (.inl i, d) :: r, _, h => by
    unfold keyInts at h
    cases hp : keyInts r with
    | none => rw [hp] at h; cases h
    | some ms =>
      rw [hp] at h
      cases h
      rw [List.map_cons, List.map_cons, keyInts_eq hp]
  | (.inr i, d) :: r, _, h => nomatch h
theorem rel_ints {K : PySem.W.Frag} {F : Hp} : ∀ ns : List Int, RelDs K F (ns.map V.int) (ns.map D.int)
  | [] => .nil
  | i :: r => .cons (.int i) (rel_ints r)
def gSorted : GC := fun ds M Q => match ds with
  | [x] => (match lstOf x M with
    | some xs => (match intsOf xs with
      | some ns => ∀ ms : List Int, ms.Perm ns → ms.Pairwise (· ≤ ·) → Q (.lst (ms.map D.int)) M
      | none => False)
    | none => (match dctOf x M with
      | some kvs => (match keyInts kvs with
        | some ns => ∀ ms : List Int, ms.Perm ns → ms.Pairwise (· ≤ ·) → Q (.lst (ms.map D.int)) M
        | none => False)
      | none => False))
  | _ => False
theorem cd_sorted (hc : X.calm = true) : CallD X (.builtin "sorted") gSorted := fun F H M xs ds Qd Q R r q k => by
  unfold gSorted at q
  split at q
  · cases r with
    | cons r1 r2 =>
      cases r2
      split at q
      · rename_i ys hy
        split at q
        · rename_i ns hn
          obtain ⟨a, vs, rfl, hs, rs⟩ := lst_ok R r1 hy
          have ev := ints_rel rs hn
          subst ev
          refine ⟨_, cr_sortedI, a, ns, rfl, SqL.of hs, fun ms p h1 h2 hp => ?_⟩
          obtain ⟨e2, R2⟩ := R.frozen (o := .lst (ms.map V.int)) hp
          exact k _ _ _ _ M e2 R2 (.lst upd_same (rel_ints ms)) (q ms h1 h2)
        · exact q.elim
      · split at q
        · rename_i kvs hy
          split at q
          · rename_i ns hn
            obtain ⟨a, vs, rfl, hs, rs⟩ := dct_ok R r1 hy
            refine ⟨_, cr_sortedDK hc, a, vs, ns, rfl, hs, rs.keys.trans (keyInts_eq hn), fun ms p h1 h2 hp => ?_⟩
            obtain ⟨e2, R2⟩ := R.frozen (o := .lst (ms.map V.int)) hp
            exact k _ _ _ _ M e2 R2 (.lst upd_same (rel_ints ms)) (q ms h1 h2)
          · exact q.elim
        · exact q.elim
  · exact q.elim
end

/-! ### enumerate of a list -/
def enumD (xs : List D) : List D := xs.zipIdx.map fun p => .tup [.int (p.2 : Nat), p.1]
theorem enumD_get {xs : List D} {i : Nat} {d : D} (h : (enumD xs)[i]? = some d) : ∃ x, xs[i]? = some x ∧ d = .tup [.int (i : Nat), x] := by
  unfold enumD at h
  rw [List.getElem?_map, List.getElem?_zipIdx] at h
  cases q : xs[i]? with
  | none => rw [q] at h; cases h
  | some x =>
    rw [q] at h
    simp at h
    exact ⟨x, rfl, h.symm⟩
theorem itd_enumL {K : PySem.W.Frag} {F : Hp} {a : Addr} {xs : List V} {ds : List D} (h : SqL K F a xs) (r : RelDs K F xs ds) : ItD K F (Ite K a) (enumD ds) where
  go := fun i F2 H2 M2 hi e R => by
    have hi' : i < ds.length := by simpa [enumD] using hi
    have h1 : i < xs.length := by rw [r.length]; exact hi'
    exact ⟨xs, xs[i], sqL_fix h e R, List.getElem?_eq_getElem h1⟩
  yld := fun i F2 H2 M2 d x H' hd e R y => by
    obtain ⟨T, u, rfl, hT, rfl, y1⟩ := y
    obtain ⟨dx, g1, rfl⟩ := enumD_get hd
    obtain ⟨v1, p1, q1⟩ := r.get g1
    have z1 := y1 xs (sqL_fix h e R)
    rw [p1] at z1
    cases z1
    exact pair_yld e R hT (.int _) q1
  stop := fun F2 H2 M2 e R => ⟨xs, sqL_fix h e R, by rw [r.length]; simp [enumD]⟩
/-! ### enumerate of a tuple -/
def IteT (K : PySem.W.Frag) (a : Addr) : It :=
  ⟨fun i H => ∃ (xs : List V) (x : V), SqT K H a xs ∧ xs[i]? = some x, fun i H v H' => ∃ T x, v = .ref T ∧ H T = none ∧ H' = upd H T (.tup [.int (i : Nat), x]) ∧ ∀ xs, SqT K H a xs → xs[i]? = some x, fun i H => ∃ xs : List V, SqT K H a xs ∧ xs.length ≤ i⟩
theorem turn_enumT {P : Program} {w : World} {K : PySem.W.Frag} {elts : List Expr} {kk : Nat} {tpos : Pos} (a e it : Addr) (hai : a ≠ it) (hae : a ≠ e) :
    Turn P w K (.Tuple elts kk tpos) (IteT K a) [e, it] e (fun i h => (∃ old, IsEnum h e it ((i : Nat) : Int) old) ∧ h.IsTupleIter it a i ∧ e ≠ it) where
  mem := by simp
  obj := fun i h st b hb => by
    obtain ⟨⟨old, he⟩, ⟨o, ho, hc, hd⟩, _⟩ := st
    have w : b = e ∨ b = it := by simpa using hb
    rcases w with rfl | rfl
    · exact ⟨_, he, fun v q => nomatch q⟩
    · exact ⟨o, ho, fun v q => by rw [hd] at q; cases q⟩
  keep := fun i h h' st k => let ⟨⟨old, he⟩, hi, hne⟩ := st; ⟨⟨old, k e (by simp) _ he⟩, hi.at fun o q => k it (by simp) o q, hne⟩
  item := by
    intro X hP hw hK hc i pins s σ H E I hf st hg
    subst hP hw hK
    obtain ⟨⟨old, he⟩, hit, hne⟩ := st
    obtain ⟨xs, x, hq, hx⟩ := hg
    obtain ⟨its, rv, p, hz⟩ := I.tuple hq
    obtain ⟨u, hu, ru⟩ := rv.get hx
    have lt1 : e < s.heap.objs.size := Heap.lt_size he
    have lt2 : it < s.heap.objs.size := by obtain ⟨_, q, _⟩ := hit; exact Heap.lt_size q
    have hi : i < its.toArray.size := by
      rw [List.size_toArray]
      exact (List.getElem?_eq_some_iff.mp hu).1
    refine wpAny_pyNext_enum_itemD (Draws.tuple (A := X.A.in1) (I.ok.hd hc) it a hai its.toArray) he ⟨hit, p⟩ hi hne (by simp [Ne.symm hae, hne]) fun y h' tk hy ho st' hT hsz hk => ?_
    have ey : y = u := by
      have : its.toArray[i]? = some u := by simpa using hu
      rw [this] at hy; exact (Option.some.inj hy).symm
    subst ey
    obtain ⟨hit', _⟩ := st'
    refine ⟨_, rfl, wpAny_letOwnedTupleGo_enum (s := { s with heap := h', toks := tk + 1 }) ho fun h'' he' sb => ?_⟩
    have hT2 : h''.get? s.heap.objs.size = some { cls := .type "tuple", data := .seq #[.int i tk, y] } := (sb.2 _ (Nat.ne_of_gt lt1)).trans hT
    have new : ObjOk X.prog X.w (upd H s.heap.objs.size (.tup [.int (i : Nat), x])) h'' s.heap.objs.size (.tup [.int (i : Nat), x]) :=
      ⟨by show 2 ≤ sizeLine; decide, [.int i tk, y], .cons ⟨_, rfl⟩ (.cons ru .nil), ⟨_, hT2, rfl, _, rfl⟩⟩
    have I1 : Inv X pins σ (upd H s.heap.objs.size (.tup [.int (i : Nat), x])) { s with heap := h'', toks := tk + 1 } :=
      I.turnedNew (ch := [e, it]) (fun b ob hb q => (sb.2 b (fun z => hb (by simp [z]))).trans (hk b ob (fun z => hb (by simp [z])) (fun z => hb (by simp [z])) q)) hf (Nat.le_refl _) new
    refine ⟨.ref s.heap.objs.size, _, I1, rfl, ⟨_, x, rfl, I.hok.fresh (Nat.le_refl _), rfl, fun ys hy => by rw [I.tuple_inj hy hq]; exact hx⟩, ⟨⟨y, ?_⟩, hit'.at fun o q => (sb.2 it (Ne.symm hne)).trans q, hne⟩, fun b hb => ?_⟩
    · have e1 : ((i + 1 : Nat) : Int) = (i : Int) + 1 := by omega
      rw [e1]; exact he'
    · have hb' : b < s.heap.objs.size := by
        have w : b = e ∨ b = it := by simpa using hb
        rcases w with rfl | rfl
        · exact lt1
        · exact lt2
      rw [upd_ne (Nat.ne_of_lt hb')]
      exact (hf b hb).1
  done := by
    intro X hP hw hK hc i pins s σ H E I hf st hg
    subst hP hw hK
    obtain ⟨⟨old, he⟩, hit, hne⟩ := st
    obtain ⟨xs, hq, hx⟩ := hg
    obtain ⟨its, rv, p, hz⟩ := I.tuple hq
    obtain ⟨f0, f1, f2, f3, f4, f5⟩ := hf it (by simp)
    have hl := rv.length
    have hT : s.TypeIs (.ref e) "enumerate" := ⟨_, he, rfl⟩
    unfold pyNext
    refine wpAny_bind (wpAny_attempt (wpAny_callSpecial?_slot (name := Str.ofString "__next__") hT F.slot_enumerate_next
      (wpAny_call_entry F.slot_enumerate_next hT F.entry_enumerate_next ?_ (F.args_enumerate_next_1 _))))
    show wpAny _ _ (field (.ref e) 2 >>= _) _ _ _
    refine wpAny_bind (wpAny_field he rfl (x := .ref it) rfl ?_)
    refine wpAny_bind (RZ.nextOf_tuple_end (items := its.toArray) (I.ok.hd hc) hit p (by simp; omega) fun h' x eb hx' => ?_)
    obtain ⟨o, ho, hc⟩ := hx'
    refine wpAny_bind (wpAny_isInstance (T := "StopIteration") (b := true) ⟨o, ho, hc⟩ isSubtype_stop ?_)
    exact wpAny_pure ⟨rfl, I.turned (t' := s.toks) (fun b o hb q => eb b o hb q) f0 f1 f3 f4 f5⟩
  self := fun A i s Q E st h => let ⟨⟨_, he⟩, _⟩ := st; wpAny_pyIter_enum he h
theorem meets_enumT (l : Addr) (items : Array Value) :
    Meets (Builtin.«enumerate.__new__» ⟨[.type "enumerate", .ref l], []⟩) (fun _ R s => s.heap.IsTuple l items ∧
      R (.ok (.ret (.ref (s.heap.push { cls := .type "tuple_iterator", data := .fields #[.ref l, .int 0 0] }).objs.size)))
        { s with heap := (s.heap.push { cls := .type "tuple_iterator", data := .fields #[.ref l, .int 0 0] }).push { cls := .type "enumerate", data := .fields #[.none, .bool false, .ref s.heap.objs.size, rawInt 0, .none, .none] } }) :=
  .of_wp fun prog w A R s h => by
    obtain ⟨hp, g, d, tk, os⟩ := s; obtain ⟨hl, h⟩ := h
    have hsub := sub_enumerate
    have hL : Heap.IsTuple (Shared.heap ⟨hp, g, d, tk, os⟩) l items := hl
    obtain ⟨o, ho, hc, n, hd⟩ := id hl
    obtain ⟨c, dct, dt, sl⟩ := o
    replace hc : c = .type "tuple" := hc
    replace hd : dt = .seq items n := hd
    subst hc hd
    wp_walk using AutoSeq1.wpAny_loadPart' ho
    refine wpAny_stack_any fun st => wpAny_pure ?_
    split
    · rename_i c _ _ _ _ _
      cases (c == Value.type "enumerate")
      · wp_walk using AutoSeq1.wpAny_loadPart' ho, wpAny_pyIter_tuple hL
        exact ⟨_, rfl, h⟩
      · wp_walk using AutoSeq1.wpAny_loadPart' ho, wpAny_pyIter_tuple hL
        exact ⟨_, rfl, h⟩
    · wp_walk using AutoSeq1.wpAny_loadPart' ho, wpAny_pyIter_tuple hL
      exact ⟨_, rfl, h⟩
end DL

/-! DV: enumerate of a list or tuple as it is walked; list(zip(..)). -/
namespace DL
open PySem PySem.Spec PyProof.Rows L2
section
variable {prog : Program} {w : World} {A : Around} {E : Value → Shared → Prop} {s : Shared}
theorem call_enumT {l : Addr} {items : Array Value} {Q : Value → Shared → Prop} (hL : s.heap.IsTuple l items)
    (h : ∀ h', IsEnum h' (s.heap.objs.size + 1) s.heap.objs.size 0 .none → h'.IsTupleIter s.heap.objs.size l 0 → h'.objs.size = s.heap.objs.size + 2 →
      (∀ b o, s.heap.get? b = some o → h'.get? b = some o) → Q (.ref (s.heap.objs.size + 1)) { s with heap := h' }) :
    wpAny (model prog w) A (call (.type "enumerate") [.ref l]) Q E s := by
  refine callType_new F.called_enumerate (by decide) (F.typeCall_enumerate_1 _) (F.newCall_enumerate_1 _) (fun obj => F.args_object_init_2 obj _) F.entry_enumerate_new
    (meets_enumT l items) ⟨hL, ?_⟩
  have hz : (s.heap.push { cls := .type "tuple_iterator", data := .fields #[.ref l, .int 0 0] }).objs.size = s.heap.objs.size + 1 := Heap.size_push ..
  show _ ∧ _
  rw [hz]
  have he : IsEnum ((s.heap.push { cls := .type "tuple_iterator", data := .fields #[.ref l, .int 0 0] }).push
      { cls := .type "enumerate", data := .fields #[.none, .bool false, .ref s.heap.objs.size, rawInt 0, .none, .none] }) (s.heap.objs.size + 1) s.heap.objs.size 0 .none := by
    have e := Heap.get?_push_size (s.heap.push { cls := .type "tuple_iterator", data := .fields #[.ref l, .int 0 0] })
      (o := { cls := .type "enumerate", data := .fields #[.none, .bool false, .ref s.heap.objs.size, rawInt 0, .none, .none] }) rfl
    rw [hz] at e; exact e
  refine ⟨⟨_, he, rfl⟩, h _ he ⟨_, Heap.get?_push_of_some _ (Heap.get?_push_size _ rfl), rfl, rfl⟩ (by rw [Heap.size_push, hz]) fun b o x => Heap.get?_push_of_some _ (Heap.get?_push_of_some _ x)⟩
end
/-- enumerate(x), x a list or a tuple -/
def iEnumA (K : PySem.W.Frag) (ta : TA) : TI := fun σ H R => ta σ H fun vs H1 => ∃ a xs, vs = [.ref a] ∧ ((SqL K H1 a xs ∧ R (Ite K a) H1) ∨ (SqT K H1 a xs ∧ R (IteT K a) H1))
section
variable {X : Cx} {e : Expr} {p pos tpos : Pos} {elts : List Expr} {kk : Nat} {te : DTE}
theorem pi_enumA {ta : TA} (hg : Gl X "enumerate") (hm : X.mg "enumerate" = none) (ha : PA X [e] ta) (hs : starEach [e] X.env = [(false, eval e X.env)]) :
    PI X (.Tuple elts kk tpos) (.Call (.Name "enumerate" p) [e] [] pos) (iEnumA X.K ta) := by
  refine ⟨fun pins s σ H R I h => ?_⟩
  refine Call_ (ld_blt I hg hm boot_enumerate (PyProof.Rows.callWith_type1 (thn (ha.run pos pins s σ H _ I h) fun us s1 ⟨vs, H1, I1, r1, q1⟩ => ?_) hs rfl))
  obtain ⟨a, xs, ex, q⟩ := q1
  subst ex
  cases r1 with
  | cons r rr =>
    cases rr
    cases r
    have fresh : ∀ b, b ∈ [s1.heap.objs.size + 1, s1.heap.objs.size] → FpOk X pins H1 b := fun b hb => by
      have w : b = s1.heap.objs.size + 1 ∨ b = s1.heap.objs.size := by simpa using hb
      have hle : s1.heap.objs.size ≤ b := by
        rcases w with z | z
        · rw [z]; exact Nat.le_add_right _ _
        · rw [z]; exact Nat.le_refl _
      exact I1.fpOk hle (I1.hok.fresh hle)
    rcases q with ⟨hq, q⟩ | ⟨hq, q⟩
    · obtain ⟨its, rv, p', hz⟩ := I1.list hq
      refine call_enumerate_list p'.isList fun h' he hit hsz hk => wpAny_pyIter_enum he ?_
      have I2 : Inv X pins σ H1 { s1 with heap := h' } := I1.kept (t' := s1.toks) hk
      exact ⟨s1.heap.objs.size + 1, [s1.heap.objs.size + 1, s1.heap.objs.size], _, _, H1, rfl, I2, turn_enum a (s1.heap.objs.size + 1) s1.heap.objs.size, ⟨⟨.none, he⟩, hit, Nat.succ_ne_self _⟩, fresh, q⟩
    · obtain ⟨its, rv, p', hz⟩ := I1.tuple hq
      have hlt : a < s1.heap.objs.size := by obtain ⟨o, ho, _⟩ := id p'; exact Heap.lt_size ho
      refine call_enumT (items := its.toArray) p' fun h' he hit hsz hk => wpAny_pyIter_enum he ?_
      have I2 : Inv X pins σ H1 { s1 with heap := h' } := I1.kept (t' := s1.toks) hk
      exact ⟨s1.heap.objs.size + 1, [s1.heap.objs.size + 1, s1.heap.objs.size], _, _, H1, rfl, I2, turn_enumT a (s1.heap.objs.size + 1) s1.heap.objs.size (Nat.ne_of_lt hlt) (Nat.ne_of_lt (Nat.lt_succ_of_lt hlt)), ⟨⟨.none, he⟩, hit, Nat.succ_ne_self _⟩, fresh, q⟩
theorem itd_enumT {K : PySem.W.Frag} {F : Hp} {a : Addr} {xs : List V} {ds : List D} (h : SqT K F a xs) (r : RelDs K F xs ds) : ItD K F (IteT K a) (enumD ds) where
  go := fun i F2 H2 M2 hi e R => by
    have hi' : i < ds.length := by simpa [enumD] using hi
    have h1 : i < xs.length := by rw [r.length]; exact hi'
    exact ⟨xs, xs[i], (e.trans R.sub).sqT h, List.getElem?_eq_getElem h1⟩
  yld := fun i F2 H2 M2 d x H' hd e R y => by
    obtain ⟨T, u, rfl, hT, rfl, y1⟩ := y
    obtain ⟨dx, g1, rfl⟩ := enumD_get hd
    obtain ⟨v1, p1, q1⟩ := r.get g1
    have z1 := y1 xs ((e.trans R.sub).sqT h)
    rw [p1] at z1
    cases z1
    exact pair_yld e R hT (.int _) q1
  stop := fun F2 H2 M2 e R => ⟨xs, (e.trans R.sub).sqT h, by rw [r.length]; simp [enumD]⟩
@[simp] def iEnumD (t : DTE) : DTI := fun τ M Q => t τ M fun x M1 => match x with
  | .lst xs => Q (enumD xs) M1
  | .tup xs => Q (enumD xs) M1
  | _ => False
theorem di_enum (hm : X.mg "enumerate" = none) (ha : DE X e te) (hg : Gl X "enumerate" := by rfl) (hs : starEach [e] X.env = (false, eval e X.env) :: starEach [] X.env := by rfl) (hs' : starEach [e] X.env = [(false, eval e X.env)] := by rfl) :
    DI X (.Tuple elts kk tpos) (.Call (.Name "enumerate" p) [e] [] pos) (iEnumD te) := by
  obtain ⟨ua, pa, ra⟩ := ha.ex
  refine ⟨_, pi_enumA hg hm (pa_cons pa pa_nil hs) hs', fun F H σ τ M Qd Q R q k => ?_⟩
  refine ra F H σ τ M _ _ R q fun v F1 H1 d M1 e1 R1 r1 q1 => ?_
  cases d <;> first | exact False.elim q1 | skip
  · cases r1 with
    | tup h1 s1 => exact ⟨_, _, rfl, .inr ⟨R1.heap.sub.sqT h1, k _ F1 H1 _ M1 e1 R1 (itd_enumT h1 s1) q1⟩⟩
  · cases r1 with
    | lst h1 s1 => exact ⟨_, _, rfl, .inl ⟨SqL.of (R1.heap.sub _ _ h1), k _ F1 H1 _ M1 e1 R1 (itd_enumL (SqL.of h1) s1) q1⟩⟩
end

/-! ### zip whose tuple is still out, over any two iterators -/
section
variable {prog : Program} {w : World} {A : Around} {E : Value → Shared → Prop} {s : Shared} {z TI TO i1 i2 T : Addr} {fp1 fp2 : List Addr} {n1 n2 i : Nat} {P1 P2 : Nat → Value → Prop} {St1 St2 : Nat → Heap → Prop} {f : Bool} {oT : Obj}
theorem zipH_item {Q : Value → Shared → Prop} (S : ZipSep2 z TI TO i1 i2 fp1 fp2) (D1 : Draws prog w A i1 fp1 n1 P1 St1) (D2 : Draws prog w A i2 fp2 n2 P2 St2)
    (hz : IsZipHeld s.heap z TI TO T f) (hT : s.heap.get? T = some oT) (hTI : IsTupOf2 s.heap TI (.ref i1) (.ref i2)) (st1 : St1 i s.heap) (st2 : St2 i s.heap) (hlt1 : i < n1) (hlt2 : i < n2)
    (hQ : ∀ x1 x2 h' tk, P1 i x1 → P2 i x2 → IsZipHeld h' z TI TO T true → St1 (i + 1) h' → St2 (i + 1) h' → IsTupOf2 h' s.heap.objs.size x1 x2 → h'.objs.size = s.heap.objs.size + 1 →
      (∀ c o, c ≠ z → c ≠ i1 → c ≠ i2 → s.heap.get? c = some o → h'.get? c = some o) → Q (.ref s.heap.objs.size) { s with heap := h', toks := tk }) :
    wpAny (model prog w) A (Builtin.«zip.__next__» ⟨[.ref z], []⟩) (fun fin s' => ∃ v, fin = .done (.ret v) ∧ Q v s') E s := by
  obtain ⟨hp, g, d, tk0, os⟩ := s
  show wpAny _ _ (field (.ref z) 2 >>= _) _ _ _
  refine wpAny_bind (wpAny_field hz rfl (x := .bool false) rfl ?_)
  show wpAny _ _ (field (.ref z) 3 >>= _) _ _ _
  refine wpAny_bind (wpAny_field hz rfl (x := .ref TI) rfl ?_)
  refine wpAny_bind (wpAny_seqItems hTI rfl ?_)
  show wpAny _ _ (Builtin.SmallTypes.ownedTupleIsFree (.ref z) >>= _) _ _ _
  refine wpAny_bind (wpAny_tupleHeld_zip hz hT fun g0 hz0 hs0 => ?_)
  replace hz0 : IsZipHeld g0 z TI TO T true := hz0
  replace hs0 : Heap.SameBut z hp g0 := hs0
  simp only [Bool.false_eq_true, if_false]
  refine wpAny_bind ?_
  rw [← Array.forIn_toList]
  simp only [List.forIn_cons, List.forIn_nil]
  refine wpAny_bind (wpAny_bind (wpAny_holding ?_))
  show wpAny _ _ (Builtin.SmallTypes.nextOf (.ref i1) >>= _) _ _ ⟨g0, g, d, tk0, os⟩
  refine wpAny_bind (D1.item i _ _ _ hlt1 (D1.over st1 hs0 S.zf1) fun x1 p1 tk1 hx1 sn1 hp1 => wpAny_pure ?_)
  replace hp1 : Heap.SameBut i1 g0 p1 := hp1
  refine wpAny_pure ?_
  refine wpAny_bind (wpAny_bind (wpAny_holding ?_))
  show wpAny _ _ (Builtin.SmallTypes.nextOf (.ref i2) >>= _) _ _ ⟨p1, g, d, tk1, os⟩
  refine wpAny_bind (D2.item i _ _ _ hlt2 (D2.over (D2.over st2 hs0 S.zf2) hp1 S.sep1_2) fun x2 p2 tk2 hx2 sn2 hp2 => wpAny_pure ?_)
  replace hp2 : Heap.SameBut i2 p1 p2 := hp2
  refine wpAny_pure (wpAny_pure ?_)
  show wpAny _ _ (newTuple [x1, x2] >>= _) _ _ ⟨p2, g, d, tk2, os⟩
  refine wpAny_bind (wpAny_newTuple ?_)
  have hsz : p2.objs.size = hp.objs.size := by rw [hp2.1, hp1.1, hs0.1]
  have hz2 : IsZipHeld p2 z TI TO T true := hp2.extBut _ _ S.zi2 (hp1.extBut _ _ S.zi1 hz0)
  have hk : ∀ c o, c ≠ z → c ≠ i1 → c ≠ i2 → hp.get? c = some o → p2.get? c = some o := fun c o c1 c2 c3 e => hp2.extBut _ _ c3 (hp1.extBut _ _ c2 (hs0.extBut _ _ c1 e))
  have hj1 : St1 (i + 1) p2 := D1.over sn1 hp2 S.sep2_1
  refine wpAny_pure ⟨_, rfl, ?_⟩
  show Q (.ref p2.objs.size) _
  have hpr : IsTupOf2 (p2.push { cls := .type "tuple", data := .seq #[x1, x2] }) p2.objs.size x1 x2 := Heap.get?_push_size _ rfl
  have hz4 : (p2.push { cls := .type "tuple", data := .seq #[x1, x2] }).objs.size = p2.objs.size + 1 := Heap.size_push ..
  rw [hsz] at hpr hz4 ⊢
  exact hQ x1 x2 _ tk2 hx1 hx2 (Heap.get?_push_of_some _ hz2) (D1.frame _ _ _ hj1 fun b hb o e => Heap.get?_push_of_some _ e) (D2.frame _ _ _ sn2 fun b hb o e => Heap.get?_push_of_some _ e) hpr hz4 fun c o c1 c2 c3 e => Heap.get?_push_of_some _ (hk c o c1 c2 c3 e)
theorem zipH_end {Q : Fin → Shared → Prop} (S : ZipSep2 z TI TO i1 i2 fp1 fp2) (D1 : Draws prog w A i1 fp1 n1 P1 St1) (D2 : Draws prog w A i2 fp2 n2 P2 St2)
    (hz : IsZipHeld s.heap z TI TO T f) (hT : s.heap.get? T = some oT) (hTI : IsTupOf2 s.heap TI (.ref i1) (.ref i2)) (st1 : St1 i s.heap) (st2 : St2 i s.heap) (hle1 : i ≤ n1) (hle2 : i ≤ n2) (hend : i = n1 ∨ i = n2)
    (hE : ∀ h' tk e, (∀ c o, c ≠ z → c ≠ i1 → c ≠ i2 → s.heap.get? c = some o → h'.get? c = some o) → (∃ o, h'.get? e = some o ∧ o.cls = .type "StopIteration") → E (.ref e) { s with heap := h', toks := tk }) :
    wpAny (model prog w) A (Builtin.«zip.__next__» ⟨[.ref z], []⟩) Q E s := by
  obtain ⟨hp, g, d, tk0, os⟩ := s
  show wpAny _ _ (field (.ref z) 2 >>= _) _ _ _
  refine wpAny_bind (wpAny_field hz rfl (x := .bool false) rfl ?_)
  show wpAny _ _ (field (.ref z) 3 >>= _) _ _ _
  refine wpAny_bind (wpAny_field hz rfl (x := .ref TI) rfl ?_)
  refine wpAny_bind (wpAny_seqItems hTI rfl ?_)
  show wpAny _ _ (Builtin.SmallTypes.ownedTupleIsFree (.ref z) >>= _) _ _ _
  refine wpAny_bind (wpAny_tupleHeld_zip hz hT fun g0 hz0 hs0 => ?_)
  replace hs0 : Heap.SameBut z hp g0 := hs0
  simp only [Bool.false_eq_true, if_false]
  refine wpAny_bind ?_
  rw [← Array.forIn_toList]
  simp only [List.forIn_cons, List.forIn_nil]
  refine wpAny_bind (wpAny_bind (wpAny_holding ?_))
  show wpAny _ _ (Builtin.SmallTypes.nextOf (.ref i1) >>= _) _ _ ⟨g0, g, d, tk0, os⟩
  by_cases hlt1 : i < n1
  · refine wpAny_bind (D1.item i _ _ _ hlt1 (D1.over st1 hs0 S.zf1) fun x1 p1 tk1 hx1 sn1 hp1 => wpAny_pure ?_)
    replace hp1 : Heap.SameBut i1 g0 p1 := hp1
    have hi2 : i = n2 := by omega
    refine wpAny_pure ?_
    refine wpAny_bind (wpAny_bind (wpAny_holding ?_))
    show wpAny _ _ (Builtin.SmallTypes.nextOf (.ref i2) >>= _) _ _ ⟨p1, g, d, tk1, os⟩
    refine wpAny_bind (D2.done ⟨p1, g, d, tk1, os⟩ _ _ (by rw [← hi2]; exact D2.over (D2.over st2 hs0 S.zf2) hp1 S.sep1_2) fun q e hq he => ?_)
    exact hE q tk1 e (fun c o c1 c2 c3 x => hq _ _ c3 (hp1.extBut _ _ c2 (hs0.extBut _ _ c1 x))) he
  · have hi1 : i = n1 := by omega
    refine wpAny_bind (D1.done ⟨g0, g, d, tk0, os⟩ _ _ (by rw [← hi1]; exact D1.over st1 hs0 S.zf1) fun q e hq he => ?_)
    exact hE q tk0 e (fun c o c1 c2 c3 x => hq _ _ c2 (hs0.extBut _ _ c1 x)) he
theorem nextH_item {Q : Option Value → Shared → Prop} (S : ZipSep2 z TI TO i1 i2 fp1 fp2) (D1 : Draws prog w A.in1 i1 fp1 n1 P1 St1) (D2 : Draws prog w A.in1 i2 fp2 n2 P2 St2)
    (hz : IsZipHeld s.heap z TI TO T f) (hT : s.heap.get? T = some oT) (hTI : IsTupOf2 s.heap TI (.ref i1) (.ref i2)) (st1 : St1 i s.heap) (st2 : St2 i s.heap) (hlt1 : i < n1) (hlt2 : i < n2)
    (hQ : ∀ x1 x2 h' tk, P1 i x1 → P2 i x2 → IsZipHeld h' z TI TO T true → St1 (i + 1) h' → St2 (i + 1) h' → IsTupOf2 h' s.heap.objs.size x1 x2 → h'.objs.size = s.heap.objs.size + 1 →
      (∀ c o, c ≠ z → c ≠ i1 → c ≠ i2 → s.heap.get? c = some o → h'.get? c = some o) → Q (some (.ref s.heap.objs.size)) { s with heap := h', toks := tk }) :
    wpAny (model prog w) A (pyNext (.ref z)) Q E s := by
  have hTy : s.TypeIs (.ref z) "zip" := ⟨_, hz, rfl⟩
  unfold pyNext
  exact wpAny_bind (wpAny_attempt (wpAny_callSpecial?_slot (name := Str.ofString "__next__") hTy F.slot_zip_next
    (wpAny_call_entry F.slot_zip_next hTy F.entry_zip_next
      (zipH_item S D1 D2 hz hT hTI st1 st2 hlt1 hlt2 fun x1 x2 h' tk y1 y2 b1 d1 d2 b5 b6 b7 => wpAny_pure (hQ x1 x2 h' tk y1 y2 b1 d1 d2 b5 b6 b7)) (F.args_zip_next_1 _))))
theorem nextH_end {Q : Option Value → Shared → Prop} (S : ZipSep2 z TI TO i1 i2 fp1 fp2) (D1 : Draws prog w A.in1 i1 fp1 n1 P1 St1) (D2 : Draws prog w A.in1 i2 fp2 n2 P2 St2)
    (hz : IsZipHeld s.heap z TI TO T f) (hT : s.heap.get? T = some oT) (hTI : IsTupOf2 s.heap TI (.ref i1) (.ref i2)) (st1 : St1 i s.heap) (st2 : St2 i s.heap) (hle1 : i ≤ n1) (hle2 : i ≤ n2) (hend : i = n1 ∨ i = n2)
    (hQ : ∀ h' tk, (∀ c o, c ≠ z → c ≠ i1 → c ≠ i2 → s.heap.get? c = some o → h'.get? c = some o) → Q none { s with heap := h', toks := tk }) : wpAny (model prog w) A (pyNext (.ref z)) Q E s := by
  have hTy : s.TypeIs (.ref z) "zip" := ⟨_, hz, rfl⟩
  unfold pyNext
  refine wpAny_bind (wpAny_attempt (wpAny_callSpecial?_slot (name := Str.ofString "__next__") hTy F.slot_zip_next
    (wpAny_call_entry F.slot_zip_next hTy F.entry_zip_next (zipH_end S D1 D2 hz hT hTI st1 st2 hle1 hle2 hend fun h' tk e hk he => ?_) (F.args_zip_next_1 _))))
  obtain ⟨o, ho, hc⟩ := he
  refine wpAny_bind (wpAny_isInstance (T := "StopIteration") (b := true) ⟨o, ho, hc⟩ isSubtype_stop ?_)
  exact wpAny_pure (hQ _ _ hk)
end
/-- where the zip stands while a list S is made of it -/
def LzSt (z TI TO i1 i2 S : Addr) (St1 St2 : Nat → Heap → Prop) (i : Nat) (h : Heap) : Prop :=
  IsTupOf2 h TI (.ref i1) (.ref i2) ∧ St1 i h ∧ St2 i h ∧ ((IsZip h z TI TO .none ∧ ∃ a b, IsTupOf2 h TO a b) ∨ ∃ T f oT, IsZipHeld h z TI TO T f ∧ h.get? T = some oT ∧ T ≠ z ∧ T ≠ i1 ∧ T ≠ i2 ∧ T ≠ S)
/-- the addresses of the pairs made so far -/
structure LzG (P1 P2 : Nat → Value → Prop) (lo : Addr) (h : Heap) (as : List Addr) : Prop where
  above : ∀ a ∈ as, lo ≤ a
  pairs : ∀ (j : Nat) (a : Addr), as[j]? = some a → ∃ x1 x2, P1 j x1 ∧ P2 j x2 ∧ h.get? a = some { cls := .type "tuple", data := .seq #[x1, x2] }
  apart : as.Nodup
section
variable {prog : Program} {w : World} {A : Around} {s : Shared} {R : Result → Shared → Prop} {z TI TO i1 i2 S : Addr} {fp1 fp2 : List Addr} {n1 n2 : Nat} {P1 P2 : Nat → Value → Prop} {St1 St2 : Nat → Heap → Prop}
theorem lz_loop (ZS : ZipSep2 z TI TO i1 i2 fp1 fp2) (D1 : ∀ A : Around, A.handled = none → Draws prog w A i1 fp1 n1 P1 St1) (D2 : ∀ A : Around, A.handled = none → Draws prog w A i2 fp2 n2 P2 St2) (hh : A.handled = none)
    (hSz : S ≠ z) (hST : S ≠ TO) (hS1 : S ∉ fp1) (hS2 : S ∉ fp2) (hSTI : S ≠ TI) (hn : min n1 n2 ≤ sizeLine) (res : Value) {h₁ : Heap} (lo : Addr) (hlo : ∀ c, c = z ∨ c = TO ∨ c = i1 ∨ c = i2 ∨ c = S → c < lo)
    (hR : ∀ h' tk acc c as, (∀ b o, b < lo → b ≠ S → b ≠ z → b ≠ TO → b ≠ i1 → b ≠ i2 → h₁.get? b = some o → h'.get? b = some o) → h'.get? S = some { cls := .type "list", dict := none, data := .seq acc c, slots := #[] } → as.length = min n1 n2 → LzG P1 P2 lo h' as →
      acc.toList = as.map Value.ref → R (.ok (.ret res)) { s with heap := h', toks := tk }) :
    ∀ (k i : Nat) (h : Heap) (tk c : Nat) (acc : Array Value) (as : List Addr), min n1 n2 - i = k → i ≤ min n1 n2 → LzSt z TI TO i1 i2 S St1 St2 i h → (∀ b o, b < lo → b ≠ S → b ≠ z → b ≠ TO → b ≠ i1 → b ≠ i2 → h₁.get? b = some o → h.get? b = some o) →
      h.get? S = some { cls := .type "list", dict := none, data := .seq acc c, slots := #[] } → acc.toList = as.map Value.ref → as.length = i → LzG P1 P2 lo h as → lo ≤ h.objs.size →
      codeAny (model prog w) A (.builtin "list.extend.loop" ⟨[.ref S, .ref z, res], []⟩) R { s with heap := h, toks := tk } := by
  have hS1' : S ≠ i1 := fun e => hS1 (e ▸ ZS.mem1)
  have hS2' : S ≠ i2 := fun e => hS2 (e ▸ ZS.mem2)
  have low : ∀ {a : Addr}, lo ≤ a → a ≠ z ∧ a ≠ TO ∧ a ≠ i1 ∧ a ≠ i2 ∧ a ≠ S := fun {a} ha => by
    refine ⟨?_, ?_, ?_, ?_, ?_⟩ <;> (intro e; subst e; exact absurd (hlo _ (by simp)) (Nat.not_lt.mpr ha))
  intro k
  induction k with
  | zero =>
    intro i h tk c acc as hk hi hst hkeep hS hacc hal hG hIs
    have hin : i = min n1 n2 := by omega
    obtain ⟨hTI, st1, st2, hz⟩ := hst
    refine codeAny_builtin PySem.F.entry_extend_loop ?_
    rw [Around.under_plainId PySem.F.plain_extend_loop _]
    show wpAny _ A.in1 (pyNext (.ref z) >>= _) _ _ _
    have fin : ∀ h' tk', (∀ b o, b ≠ z → b ≠ TO → b ≠ i1 → b ≠ i2 → h.get? b = some o → h'.get? b = some o) → R (.ok (.ret res)) { s with heap := h', toks := tk' } := fun h' tk' he => by
      refine hR h' tk' acc c as (fun b o h0 h1 h2 h3 h4 h5 e => he b o h2 h3 h4 h5 (hkeep b o h0 h1 h2 h3 h4 h5 e)) (he S _ hSz hST hS1' hS2' hS) (by omega) ⟨hG.above, fun j a hj => ?_, hG.apart⟩ hacc
      obtain ⟨x1, x2, e1, e2, e3⟩ := hG.pairs j a hj
      obtain ⟨l1, l2, l3, l4, _⟩ := low (hG.above a (List.mem_of_getElem? hj))
      exact ⟨x1, x2, e1, e2, he a _ l1 l2 l3 l4 e3⟩
    rcases hz with ⟨hz, a, b, hTO⟩ | ⟨T, f, oT, hz, hT, r1, r2, r3, r4⟩
    · exact wpAny_bind (wpAny_pyNext_zipD2_end (s := { s with heap := h, toks := tk }) (A := A.in1) ZS (D1 _ hh) (D2 _ hh) hz hTI hTO st1 st2 (by omega) (by omega) (by omega) fun h' tk' he => wpAny_pure (fin h' tk' he))
    · exact wpAny_bind (nextH_end (s := { s with heap := h, toks := tk }) (A := A.in1) ZS (D1 _ hh) (D2 _ hh) hz hT hTI st1 st2 (by omega) (by omega) (by omega) fun h' tk' he => wpAny_pure (fin h' tk' fun b o h2 h3 h4 h5 e => he b o h2 h4 h5 e))
  | succ k ih =>
    intro i h tk c acc as hk hi hst hkeep hS hacc hal hG hIs
    have hlt : i < min n1 n2 := by omega
    have hsz : acc.size = i := by rw [← Array.length_toList, hacc, List.length_map, hal]
    obtain ⟨hTI, st1, st2, hz⟩ := hst
    have hSl : S < h.objs.size := Heap.lt_size hS
    refine codeAny_builtin PySem.F.entry_extend_loop ?_
    rw [Around.under_plainId PySem.F.plain_extend_loop _]
    show wpAny _ A.in1 (pyNext (.ref z) >>= _) _ _ _
    have go : ∀ x1 x2 h' tk', P1 i x1 → P2 i x2 → LzSt z TI TO i1 i2 S St1 St2 (i + 1) h' → IsTupOf2 h' h.objs.size x1 x2 → h'.objs.size = h.objs.size + 1 →
        (∀ b o, b ≠ z → b ≠ TO → b ≠ i1 → b ≠ i2 → h.get? b = some o → h'.get? b = some o) →
        wpAny (model prog w) A.in1 (updateSeq S (·.push (Value.ref h.objs.size)) >>= fun _ => again (.builtin "list.extend.loop" ⟨[.ref S, .ref z, res], []⟩))
          (fun fin s' => match fin with | .done f => R (.ok f) s' | .again c' => c'.quiet = true ∧ codeAny (model prog w) A c' R s') (fun e s' => R (.error e) s') { s with heap := h', toks := tk' } := fun x1 x2 h' tk' y1 y2 st' ht hsz' hkp => by
      have hS' := hkp S _ hSz hST hS1' hS2' hS
      have up : ∀ b o, b ≠ S → h'.get? b = some o → (h'.update S (Obj.mapSeq (·.push (Value.ref h.objs.size)))).get? b = some o := fun b o hb e => (Heap.get?_update_other _ _ (Ne.symm hb)).trans e
      have lnew : lo ≤ h.objs.size := hIs
      refine wpAny_bind ?_
      refine wpAny_updateSeq hS' rfl (wpAny_pure ⟨plainId_quiet PySem.F.plain_extend_loop _, ih (i + 1) _ tk' _ (acc.push (Value.ref h.objs.size)) (as ++ [h.objs.size]) (by omega) (by omega) ?_
        (fun b o h0 h1 h2 h3 h4 h5 e => up b o h1 (hkp b o h2 h3 h4 h5 (hkeep b o h0 h1 h2 h3 h4 h5 e))) (Heap.get?_update_self _ hS' rfl) (by rw [Array.toList_push, hacc, List.map_append]; rfl) (by rw [List.length_append, hal]; rfl) ⟨?_, ?_, ?_⟩ ?_⟩) (by rw [hsz]; omega) (by show (acc.push (Value.ref h.objs.size)).size ≤ sizeLine + 1; rw [Array.size_push, hsz]; omega)
      · obtain ⟨hTI', st1', st2', hz'⟩ := st'
        refine ⟨up _ _ (Ne.symm hSTI) hTI', (D1 A hh).frame _ _ _ st1' fun b hb o e => up b o (fun q => hS1 (q ▸ hb)) e, (D2 A hh).frame _ _ _ st2' fun b hb o e => up b o (fun q => hS2 (q ▸ hb)) e, ?_⟩
        rcases hz' with ⟨hz', a, b, hTO'⟩ | ⟨T, f, oT, hz', hT, r1, r2, r3, r4⟩
        · exact .inl ⟨up _ _ (Ne.symm hSz) hz', a, b, up _ _ (Ne.symm hST) hTO'⟩
        · exact .inr ⟨T, f, oT, up _ _ (Ne.symm hSz) hz', up _ _ r4 hT, r1, r2, r3, r4⟩
      · intro a ha
        rcases List.mem_append.mp ha with ha | ha
        · exact hG.above a ha
        · rw [List.mem_singleton.mp ha]; exact hIs
      · intro j b hj
        rcases Nat.lt_trichotomy j as.length with h1 | h1 | h1
        · rw [List.getElem?_append_left h1] at hj
          obtain ⟨u1, u2, e1, e2, e3⟩ := hG.pairs j b hj
          obtain ⟨l1, l2, l3, l4, l5⟩ := low (hG.above b (List.mem_of_getElem? hj))
          exact ⟨u1, u2, e1, e2, up b _ l5 (hkp b _ l1 l2 l3 l4 e3)⟩
        · subst h1
          have hb : h.objs.size = b := by simpa using hj
          subst hb
          exact ⟨x1, x2, by rw [hal]; exact y1, by rw [hal]; exact y2, up _ _ (Nat.ne_of_gt hSl) ht⟩
        · have hnone : (as ++ [h.objs.size])[j]? = none := List.getElem?_eq_none (by rw [List.length_append, List.length_singleton]; omega)
          rw [hnone] at hj; cases hj
      · refine List.nodup_append.mpr ⟨hG.apart, by simp, fun a ha b hb => ?_⟩
        rw [List.mem_singleton.mp hb]
        obtain ⟨j, hj⟩ := List.mem_iff_getElem?.mp ha
        obtain ⟨_, _, _, _, e⟩ := hG.pairs j a hj
        exact Nat.ne_of_lt (Heap.lt_size e)
      · have e : (h'.update S (Obj.mapSeq (·.push (Value.ref h.objs.size)))).get? h.objs.size = _ := up _ _ (Nat.ne_of_gt hSl) ht
        exact Nat.le_trans hIs (Nat.le_of_lt (Heap.lt_size e))
    have n1' : h.objs.size ≠ i1 := let ⟨_, e⟩ := (D1 A hh).live _ _ st1; Nat.ne_of_gt (Heap.lt_size e)
    have n2' : h.objs.size ≠ i2 := let ⟨_, e⟩ := (D2 A hh).live _ _ st2; Nat.ne_of_gt (Heap.lt_size e)
    rcases hz with ⟨hz, a, b, hTO⟩ | ⟨T, f, oT, hz, hT, r1, r2, r3, r4⟩
    · refine wpAny_bind (wpAny_pyNext_zipD2_item (s := { s with heap := h, toks := tk }) (A := A.in1) ZS (D1 _ hh) (D2 _ hh) hz hTI hTO st1 st2 (by omega) (by omega) fun x1 x2 h' tk' y1 y2 a1 a2 a3 a4 a5 a6 hkp => ?_)
      exact go x1 x2 h' tk' y1 y2 ⟨hkp _ _ ZS.TIz ZS.TITO ZS.TIi1 ZS.TIi2 hTI, a3, a4, .inr ⟨h.objs.size, false, _, a1, a5, Nat.ne_of_gt (Heap.lt_size hz), n1', n2', Nat.ne_of_gt hSl⟩⟩ a5 a6 hkp
    · refine wpAny_bind (nextH_item (s := { s with heap := h, toks := tk }) (A := A.in1) ZS (D1 _ hh) (D2 _ hh) hz hT hTI st1 st2 (by omega) (by omega) fun x1 x2 h' tk' y1 y2 a1 a3 a4 a5 a6 hkp => ?_)
      exact go x1 x2 h' tk' y1 y2 ⟨hkp _ _ ZS.TIz ZS.TIi1 ZS.TIi2 hTI, a3, a4, .inr ⟨T, true, oT, a1, hkp _ _ r1 r2 r3 hT, r1, r2, r3, r4⟩⟩ a5 a6 fun b o c1 _ c3 c4 e => hkp b o c1 c3 c4 e
end
end DL

/-! DW: list(zip(..)), the call. -/
namespace DL
open PySem PySem.Spec PyProof.Rows L2
theorem zip_no_len : typeLookup (.type "zip") "__len__" = pure none := by rw [typeLookup_type, builtinLookup_eq_fast]; kernel_rfl
theorem zip_no_hint : typeLookup (.type "zip") "__length_hint__" = pure none := by rw [typeLookup_type, builtinLookup_eq_fast]; kernel_rfl
section
variable {prog : Program} {w : World} {A : Around} {E : Value → Shared → Prop} {s : Shared} {z TI TO i1 i2 : Addr} {fp1 fp2 : List Addr} {n1 n2 : Nat} {P1 P2 : Nat → Value → Prop} {St1 St2 : Nat → Heap → Prop}
theorem lz_extend {R : Result → Shared → Prop} (ZS : ZipSep2 z TI TO i1 i2 fp1 fp2) (D1 : ∀ A : Around, A.handled = none → Draws prog w A i1 fp1 n1 P1 St1) (D2 : ∀ A : Around, A.handled = none → Draws prog w A i2 fp2 n2 P2 St2) (hh : A.handled = none)
    (hz : IsZip s.heap z TI TO .none) (hTI : IsTupOf2 s.heap TI (.ref i1) (.ref i2)) (hTO : ∃ a b, IsTupOf2 s.heap TO a b) (st1 : St1 0 s.heap) (st2 : St2 0 s.heap) (hn : min n1 n2 ≤ sizeLine)
    (S : Addr) (hSz : S ≠ z) (hST : S ≠ TO) (hS1 : S ∉ fp1) (hS2 : S ∉ fp2) (hSTI : S ≠ TI) (hlo : ∀ c, c = z ∨ c = TO ∨ c = i1 ∨ c = i2 ∨ c = S → c < s.heap.objs.size) (res : Value) (c₀ : Nat) (hS : s.heap.get? S = some { cls := .type "list", data := .seq #[] c₀ })
    (hR : ∀ h' tk acc c as, (∀ b o, b ≠ S → b ≠ z → b ≠ TO → b ≠ i1 → b ≠ i2 → s.heap.get? b = some o → h'.get? b = some o) → h'.get? S = some { cls := .type "list", dict := none, data := .seq acc c, slots := #[] } → as.length = min n1 n2 → LzG P1 P2 s.heap.objs.size h' as →
      acc.toList = as.map Value.ref → R (.ok (.ret res)) { s with heap := h', toks := tk }) :
    wpAny (model prog w) A.in1 (Builtin.List.listExtendWith (.ref S) (.ref z) res)
      (fun fin s' => match fin with | .done f => R (.ok f) s' | .again c' => c'.quiet = true ∧ codeAny (model prog w) A c' R s') (fun e s' => R (.error e) s') s := by
  have hT : s.TypeIs (.ref z) "zip" := ⟨_, hz, rfl⟩
  unfold Builtin.List.listExtendWith
  refine wpAny_bind (wpAny_typeOf hT ?_)
  have q1 : Builtin.List.listSameRef (.ref S) (.ref z) = false := by simp [Builtin.List.listSameRef, hSz]
  have q2 : (Value.type "zip" == Value.type "list") = false := by decide
  have q3 : (Value.type "zip" == Value.type "tuple") = false := by decide
  simp only [q1, q2, q3, Bool.or_false, Bool.false_eq_true, if_false]
  refine wpAny_bind (wpAny_pyIter_zip hz ?_)
  refine wpAny_bind (wpAny_holding ?_)
  unfold Builtin.List.listLengthHint
  refine wpAny_bind (wpAny_specialOf hT zip_no_len ?_)
  show wpAny _ A.in1 (specialOf (Value.ref z) (Str.ofString "__length_hint__") >>= _) _ _ _
  refine wpAny_bind (wpAny_specialOf hT zip_no_hint ?_)
  refine wpAny_pure ?_
  show wpAny _ A.in1 (rule "list.extend.makes-room" >>= fun _ => Builtin.List.listTouch (.ref S) >>= fun _ =>
    again (.builtin "list.extend.loop" ⟨[.ref S, .ref z, res], []⟩)) _ _ _
  refine wpAny_bind (wpAny_rule ?_)
  refine wpAny_bind ?_
  show wpAny _ A.in1 (updateSeq S (·.push .none) >>= fun _ => updateSeq S (·.pop)) _ _ _
  refine wpAny_bind (wpAny_updateSeq hS rfl ?_)
  have hS₂ := Heap.get?_update_self (Obj.mapSeq (·.push Value.none)) hS rfl
  refine wpAny_updateSeq (hz := by seq_fits) hS₂ rfl ?_
  have hS₃ := Heap.get?_update_self (Obj.mapSeq (·.pop)) hS₂ rfl
  have up : ∀ b o, b ≠ S → s.heap.get? b = some o → ((s.heap.update S (Obj.mapSeq (·.push Value.none))).update S (Obj.mapSeq (·.pop))).get? b = some o :=
    fun b o hb e => (Heap.get?_update_other _ _ (Ne.symm hb)).trans ((Heap.get?_update_other _ _ (Ne.symm hb)).trans e)
  obtain ⟨a, b, hTO⟩ := hTO
  refine wpAny_pure ⟨plainId_quiet F.plain_extend_loop _, lz_loop ZS D1 D2 hh hSz hST hS1 hS2 hSTI hn res (h₁ := s.heap) s.heap.objs.size hlo ?_ (min n1 n2) 0 _ _ _ _ [] (Nat.sub_zero _) (Nat.zero_le _)
    ⟨up _ _ (Ne.symm hSTI) hTI, (D1 A hh).frame _ _ _ st1 fun b hb o e => up b o (fun q => hS1 (q ▸ hb)) e, (D2 A hh).frame _ _ _ st2 fun b hb o e => up b o (fun q => hS2 (q ▸ hb)) e, .inl ⟨up _ _ (Ne.symm hSz) hz, a, b, up _ _ (Ne.symm hST) hTO⟩⟩
    (fun b o _ h1 _ _ _ _ e => up b o h1 e) hS₃ rfl rfl ⟨(fun _ ha => nomatch ha), (fun j a hj => by simp at hj), List.nodup_nil⟩ (by simp [Heap.size_update])⟩
  intro h' tk acc c as hk hS' hl hG hacc
  exact hR h' tk acc c as (fun b o h1 h2 h3 h4 h5 e => hk b o (Heap.lt_size e) h1 h2 h3 h4 h5 e) hS' hl hG hacc
theorem lz_init {R : Result → Shared → Prop} (ZS : ZipSep2 z TI TO i1 i2 fp1 fp2) (D1 : ∀ A : Around, A.handled = none → Draws prog w A i1 fp1 n1 P1 St1) (D2 : ∀ A : Around, A.handled = none → Draws prog w A i2 fp2 n2 P2 St2) (hh : A.handled = none)
    (hz : IsZip s.heap z TI TO .none) (hTI : IsTupOf2 s.heap TI (.ref i1) (.ref i2)) (hTO : ∃ a b, IsTupOf2 s.heap TO a b) (st1 : St1 0 s.heap) (st2 : St2 0 s.heap) (hn : min n1 n2 ≤ sizeLine)
    (S : Addr) (hSz : S ≠ z) (hST : S ≠ TO) (hS1 : S ∉ fp1) (hS2 : S ∉ fp2) (hSTI : S ≠ TI) (hlo : ∀ c, c = z ∨ c = TO ∨ c = i1 ∨ c = i2 ∨ c = S → c < s.heap.objs.size) (hS : s.heap.get? S = some { cls := .type "list", data := .seq #[] })
    (hR : ∀ h' tk acc c as, (∀ b o, b ≠ S → b ≠ z → b ≠ TO → b ≠ i1 → b ≠ i2 → s.heap.get? b = some o → h'.get? b = some o) → h'.get? S = some { cls := .type "list", dict := none, data := .seq acc c, slots := #[] } → as.length = min n1 n2 → LzG P1 P2 s.heap.objs.size h' as →
      acc.toList = as.map Value.ref → R (.ok (.ret .none)) { s with heap := h', toks := tk }) :
    wpAny (model prog w) A.in1 (Builtin.«list.__init__» ⟨[.ref S, .ref z], []⟩)
      (fun fin s' => match fin with | .done f => R (.ok f) s' | .again c' => c'.quiet = true ∧ codeAny (model prog w) A c' R s') (fun e s' => R (.error e) s') s := by
  show wpAny _ _ (do let old ← Builtin.List.listItems (.ref S); Builtin.List.listUpdate (.ref S) (fun _ => #[]); letGo old.toList.reverse; Builtin.List.listExtendWith (.ref S) (.ref z) .none) _ _ s
  refine wpAny_bind ?_
  unfold Builtin.List.listItems
  refine wpAny_bind (wpAny_seqItems hS rfl (wpAny_pure ?_))
  show wpAny _ _ (updateSeq S (fun _ => #[]) >>= fun _ => letGo (#[] : Array Value).toList.reverse >>= fun _ => Builtin.List.listExtendWith (.ref S) (.ref z) .none) _ _ s
  refine wpAny_bind (wpAny_updateSeq hS rfl ?_)
  have hS₂ := Heap.get?_update_self (Obj.mapSeq (fun _ => (#[] : Array Value))) hS rfl
  have up : ∀ b o, b ≠ S → s.heap.get? b = some o → (s.heap.update S (Obj.mapSeq (fun _ => (#[] : Array Value)))).get? b = some o :=
    fun b o hb e => (Heap.get?_update_other _ _ (Ne.symm hb)).trans e
  refine wpAny_bind (wpAny_letGo ?_)
  obtain ⟨a, b, hTO⟩ := hTO
  have ez : (s.heap.update S (Obj.mapSeq (fun _ => (#[] : Array Value)))).objs.size = s.heap.objs.size := Heap.size_update ..
  refine lz_extend ZS D1 D2 hh (up _ _ (Ne.symm hSz) hz) (up _ _ (Ne.symm hSTI) hTI) ⟨a, b, up _ _ (Ne.symm hST) hTO⟩ ((D1 A hh).frame _ _ _ st1 fun b hb o e => up b o (fun q => hS1 (q ▸ hb)) e) ((D2 A hh).frame _ _ _ st2 fun b hb o e => up b o (fun q => hS2 (q ▸ hb)) e) hn S hSz hST hS1 hS2 hSTI
    (fun c hc => by show c < (s.heap.update S (Obj.mapSeq (fun _ => (#[] : Array Value)))).objs.size; rw [ez]; exact hlo c hc) .none _ hS₂ fun h' tk acc c as hk hS' hl hG hacc => ?_
  have hG' : LzG P1 P2 (s.heap.update S (Obj.mapSeq (fun _ => (#[] : Array Value)))).objs.size h' as := hG
  rw [ez] at hG'
  exact hR h' tk acc c as (fun b o h1 h2 h3 h4 h5 e => hk b o h1 h2 h3 h4 h5 (up b o h1 e)) hS' hl hG' hacc
theorem lz_call {Q : Value → Shared → Prop} (ZS : ZipSep2 z TI TO i1 i2 fp1 fp2) (D1 : ∀ A : Around, A.handled = none → Draws prog w A i1 fp1 n1 P1 St1) (D2 : ∀ A : Around, A.handled = none → Draws prog w A i2 fp2 n2 P2 St2) (hh : A.handled = none)
    (hz : IsZip s.heap z TI TO .none) (hTI : IsTupOf2 s.heap TI (.ref i1) (.ref i2)) (hTO : ∃ a b, IsTupOf2 s.heap TO a b) (st1 : St1 0 s.heap) (st2 : St2 0 s.heap) (hn : min n1 n2 ≤ sizeLine) (hf1 : ∀ b ∈ fp1, b < s.heap.objs.size) (hf2 : ∀ b ∈ fp2, b < s.heap.objs.size)
    (hQ : ∀ h' tk acc c as, (∀ b o, b ≠ z → b ≠ TO → b ≠ i1 → b ≠ i2 → s.heap.get? b = some o → h'.get? b = some o) → h'.get? s.heap.objs.size = some { cls := .type "list", dict := none, data := .seq acc c, slots := #[] } → as.length = min n1 n2 → LzG P1 P2 (s.heap.objs.size + 1) h' as →
      acc.toList = as.map Value.ref → Q (.ref s.heap.objs.size) { s with heap := h', toks := tk }) :
    wpAny (model prog w) A (call (.type "list") [.ref z]) Q E s := by
  obtain ⟨a, b, hTO⟩ := hTO
  have lz : z < s.heap.objs.size := Heap.lt_size hz
  have lTI : TI < s.heap.objs.size := Heap.lt_size hTI
  have lTO : TO < s.heap.objs.size := Heap.lt_size hTO
  refine callType_codes (Q₁ := fun obj s₁ => obj = .ref s.heap.objs.size ∧ s₁ = { s with heap := s.heap.push { cls := .type "list", data := .seq #[] } }) PySem.F.called_list (PySem.F.typeCall_list_1 _) PySem.F.entry_list_init
    (code_list_new _ ⟨rfl, rfl⟩) fun obj s₁ h₁ => ?_
  obtain ⟨rfl, rfl⟩ := h₁
  have hS : (s.heap.push { cls := .type "list", data := .seq #[] }).get? s.heap.objs.size = some { cls := .type "list", data := .seq #[] } := Heap.get?_push_size _ rfl
  have ez : (s.heap.push { cls := .type "list", data := .seq #[] }).objs.size = s.heap.objs.size + 1 := Heap.size_push ..
  refine ⟨⟨_, hS, rfl⟩, PySem.F.args_list_init_2 _ _, lz_init (A := A.in1) ZS D1 D2 hh (Heap.get?_push_of_some _ hz) (Heap.get?_push_of_some _ hTI) ⟨a, b, Heap.get?_push_of_some _ hTO⟩ ((D1 A hh).frame _ _ _ st1 fun b hb o e => Heap.get?_push_of_some _ e) ((D2 A hh).frame _ _ _ st2 fun b hb o e => Heap.get?_push_of_some _ e) hn
    s.heap.objs.size (Nat.ne_of_gt lz) (Nat.ne_of_gt lTO) (fun q => Nat.lt_irrefl _ (hf1 _ q)) (fun q => Nat.lt_irrefl _ (hf2 _ q)) (Nat.ne_of_gt lTI) (fun c hc => ?_) hS (fun h' tk acc c as hk hS' hl hG hacc => ?_)⟩
  · show c < (s.heap.push { cls := .type "list", data := .seq #[] }).objs.size
    rw [ez]
    rcases hc with rfl | rfl | rfl | rfl | rfl
    · exact Nat.lt_succ_of_lt lz
    · exact Nat.lt_succ_of_lt lTO
    · exact Nat.lt_succ_of_lt (hf1 _ ZS.mem1)
    · exact Nat.lt_succ_of_lt (hf2 _ ZS.mem2)
    · exact Nat.lt_succ_self _
  · have hG' : LzG P1 P2 (s.heap.push { cls := .type "list", data := .seq #[] }).objs.size h' as := hG
    rw [ez] at hG'
    exact ⟨rfl, hQ h' tk acc c as (fun b o h2 h3 h4 h5 e => hk b o (Nat.ne_of_lt (Heap.lt_size e)) h2 h3 h4 h5 (Heap.get?_push_of_some _ e)) hS' hl hG' hacc⟩
end
end DL

/-! DX: list(zip(a, b)) over trees. -/
namespace DL
open PySem PySem.Spec PyProof.Rows L2
/-- new pairs at as -/
def updTs (H : Hp) : List Addr → List (V × V) → Hp
  | a :: as, p :: ps => updTs (upd H a (.tup [p.1, p.2])) as ps
  | _, _ => H
theorem updTs_keep : ∀ {as : List Addr} {ps : List (V × V)} {H : Hp} {b : Addr}, b ∉ as → updTs H as ps b = H b
  | [], _, _, _, _ => by unfold updTs; rfl
  | _ :: _, [], _, _, _ => by unfold updTs; rfl
  | a :: as, p :: ps, H, b, h => by
    unfold updTs
    rw [updTs_keep (fun z => h (by simp [z])), upd_ne (fun z => h (by simp [z]))]
section
variable {X : Cx} {pins : List (Addr × Obj)} {σ : L2.St} {t' : Nat}
theorem inv_many : ∀ (as : List Addr) (ps : List (V × V)) (qs : List (Value × Value)) {H : Hp} {s : Shared} {h' : Heap}, L2.Inv X pins σ H s → as.Nodup → as.length = ps.length → as.length = qs.length →
    (∀ b u, s.heap.get? b = some u → h'.get? b = some u) → (∀ a ∈ as, s.heap.get? a = none ∧ H a = none) → (∀ (j : Nat) (a : Addr) (p : V × V) (q : Value × Value), as[j]? = some a → ps[j]? = some p → qs[j]? = some q → RelV p.1 q.1 ∧ RelV p.2 q.2 ∧ h'.get? a = some { cls := .type "tuple", data := .seq #[q.1, q.2] }) →
    L2.Inv X pins σ (updTs H as ps) { s with heap := h', toks := t' }
  | [], _, _, H, s, h', I, _, _, _, k, _, _ => by unfold updTs; exact I.kept k
  | _ :: _, [], _, _, _, _, _, _, l, _, _, _, _ => by simp at l
  | _ :: _, _ :: _, [], _, _, _, _, _, _, l, _, _, _ => by simp at l
  | a :: as, p :: ps, q :: qs, H, s, h', I, nd, l1, l2, k, fr, at' => by
    obtain ⟨na, nd⟩ := List.nodup_cons.mp nd
    obtain ⟨G, g1, g2⟩ := restrict h' fun b => (s.heap.get? b).isSome || decide (b = a)
    obtain ⟨r1, r2, ha⟩ := at' 0 a p q rfl rfl rfl
    obtain ⟨f1, f2⟩ := fr a (by simp)
    have ga : G.get? a = some { cls := .type "tuple", data := .seq #[q.1, q.2] } := by rw [g1 a (by simp)]; exact ha
    have gk : ∀ b u, s.heap.get? b = some u → G.get? b = some u := fun b u e => by rw [g1 b (by simp [e])]; exact k b u e
    have gs : ∀ b u, G.get? b = some u → h'.get? b = some u := fun b u e => by
      cases c : ((s.heap.get? b).isSome || decide (b = a)) with
      | true => rw [g1 b c] at e; exact e
      | false => rw [g2 b c] at e; cases e
    have I1 : L2.Inv X pins σ (upd H a (.tup [p.1, p.2])) { s with heap := G, toks := t' } :=
      I.laidN gk f1 f2 ⟨by show 2 ≤ sizeLine; decide, [q.1, q.2], .cons r1 (.cons r2 .nil), ⟨_, ga, rfl, _, rfl⟩⟩
    have IH := inv_many as ps qs (h' := h') I1 nd (by simpa using l1) (by simpa using l2) gs (fun b hb => ?_) (fun j b p' q' e1 e2 e3 => at' (j + 1) b p' q' e1 e2 e3)
    · exact IH
    · obtain ⟨f3, f4⟩ := fr b (by simp [hb])
      have hba : b ≠ a := fun z => na (z ▸ hb)
      exact ⟨g2 b (by simp [f3, hba]), by rw [upd_ne hba]; exact f4⟩
end
/-- zip(a, b) has been made: of two lists or two tuples -/
def Zipped (X : Cx) (pins : List (Addr × Obj)) (σ : L2.St) (H : Hp) (xs ys : List V) (v : Value) (s : Shared) : Prop :=
  ∃ (z TI TO i1 i2 : Addr) (fp1 fp2 : List Addr) (us ws : List Value) (St1 St2 : Nat → Heap → Prop), v = .ref z ∧ L2.Inv X pins σ H s ∧ Vals xs us ∧ Vals ys ws ∧ us.length ≤ sizeLine ∧ ZipSep2 z TI TO i1 i2 fp1 fp2 ∧
    (∀ A : Around, A.handled = none → Draws X.prog X.w A i1 fp1 us.length (fun i x => us[i]? = some x) St1) ∧ (∀ A : Around, A.handled = none → Draws X.prog X.w A i2 fp2 ws.length (fun i x => ws[i]? = some x) St2) ∧
    IsZip s.heap z TI TO .none ∧ IsTupOf2 s.heap TI (.ref i1) (.ref i2) ∧ (∃ a b, IsTupOf2 s.heap TO a b) ∧ St1 0 s.heap ∧ St2 0 s.heap ∧ (∀ b ∈ fp1, b < s.heap.objs.size) ∧ (∀ b ∈ fp2, b < s.heap.objs.size) ∧ ∀ b ∈ [z, TI, TO, i1, i2], FpOk X pins H b
section
variable {X : Cx} {e e2 : Expr} {p p2 p3 pos : Pos}
theorem zip_made {ta : TA} (hg : Gl X "zip") (hm : X.mg "zip" = none) (ha : PA X [e, e2] ta)
    (hs : starEach [e, e2] X.env = (false, eval e X.env) :: starEach [e2] X.env) (hpl : (backTo pos (starEach [e2] X.env)).any (·.1) = false)
    (pins : List (Addr × Obj)) (s : Shared) (σ : L2.St) (H : Hp) (Q : List V → List V → Hp → Prop) (I : L2.Inv X pins σ H s)
    (h : ta σ H fun vs H1 => ∃ a b xs ys, vs = [.ref a, .ref b] ∧ ((SqL X.K H1 a xs ∧ SqL X.K H1 b ys) ∨ (SqT X.K H1 a xs ∧ SqT X.K H1 b ys)) ∧ Q xs ys H1) :
    wpAny (model X.prog X.w) X.A (eval (.Call (.Name "zip" p) [e, e2] [] pos) X.env) (fun v s' => ∃ H1 xs ys, Zipped X pins σ H1 xs ys v s' ∧ Q xs ys H1) X.xe s := by
  refine Call_ (ld_blt I hg hm PyProof.Rows.boot_zip (PyProof.Rows.callWith_type1 (thn (ha.run pos pins s σ H _ I h) fun us s1 ⟨vs, H1, I1, r1, q1⟩ => ?_) hs hpl))
  obtain ⟨a, b, xs, ys, ex, hq, q⟩ := q1
  subst ex
  cases r1 with
  | cons r rr => cases rr with
    | cons r' rr =>
      cases rr; cases r; cases r'
      have fresh5 : ∀ c, c ∈ [s1.heap.objs.size + 4, s1.heap.objs.size + 2, s1.heap.objs.size + 3, s1.heap.objs.size, s1.heap.objs.size + 1] → FpOk X pins H1 c := fun c hcm => by
        have hle : s1.heap.objs.size ≤ c := by
          rcases (by simpa using hcm : c = s1.heap.objs.size + 4 ∨ c = s1.heap.objs.size + 2 ∨ c = s1.heap.objs.size + 3 ∨ c = s1.heap.objs.size ∨ c = s1.heap.objs.size + 1) with z | z | z | z | z
          · rw [z]; exact Nat.le_add_right _ _
          · rw [z]; exact Nat.le_add_right _ _
          · rw [z]; exact Nat.le_add_right _ _
          · rw [z]; exact Nat.le_refl _
          · rw [z]; exact Nat.le_add_right _ _
        exact I1.fpOk hle (I1.hok.fresh hle)
      rcases hq with ⟨hqx, hqy⟩ | ⟨hqx, hqy⟩
      · obtain ⟨its, rv, q1, z1⟩ := I1.list hqx
        obtain ⟨its2, rv2, q2, z2⟩ := I1.list hqy
        have l1 : a < s1.heap.objs.size := q1.lt
        have l2 : b < s1.heap.objs.size := q2.lt
        refine call_zip_2 q1.isList q2.isList fun h' hz hTI hTO h1 h2 hsz hk => ⟨H1, xs, ys, ?_, q⟩
        have I2 : L2.Inv X pins σ H1 { s1 with heap := h' } := I1.kept (t' := s1.toks) hk
        refine ⟨_, _, _, _, _, [s1.heap.objs.size, a], [s1.heap.objs.size + 1, b], its, its2, fun i h => h.IsListIter s1.heap.objs.size a i ∧ h.IsList a its.toArray, fun i h => h.IsListIter (s1.heap.objs.size + 1) b i ∧ h.IsList b its2.toArray, rfl, I2, rv, rv2, by rw [← rv.length]; exact z1, zip_sep2 (by simpa using l1) (by simpa using l2),
          fun A hh => by simpa using Draws.list (prog := X.prog) (w := X.w) (A := A) hh s1.heap.objs.size a (Nat.ne_of_lt l1) its.toArray, fun A hh => by simpa using Draws.list (prog := X.prog) (w := X.w) (A := A) hh (s1.heap.objs.size + 1) b (Nat.ne_of_lt (Nat.lt_succ_of_lt l2)) its2.toArray,
          hz, hTI, ⟨_, _, hTO⟩, ⟨h1, q1.isList.at fun o e => hk _ o e⟩, ⟨h2, q2.isList.at fun o e => hk _ o e⟩, fun c hc => ?_, fun c hc => ?_, fresh5⟩
        · show c < h'.objs.size
          rw [hsz]
          rcases (by simpa using hc : c = s1.heap.objs.size ∨ c = a) with z | z
          · rw [z]; exact Nat.lt_add_of_pos_right (by decide)
          · rw [z]; exact Nat.lt_add_right _ l1
        · show c < h'.objs.size
          rw [hsz]
          rcases (by simpa using hc : c = s1.heap.objs.size + 1 ∨ c = b) with z | z
          · rw [z]; exact Nat.add_lt_add_left (by decide) _
          · rw [z]; exact Nat.lt_add_right _ l2
      · obtain ⟨its, rv, q1, z1⟩ := I1.tuple hqx
        obtain ⟨its2, rv2, q2, z2⟩ := I1.tuple hqy
        have l1 : a < s1.heap.objs.size := by obtain ⟨o1, ho1, _⟩ := id q1; exact Heap.lt_size ho1
        have l2 : b < s1.heap.objs.size := by obtain ⟨o1, ho1, _⟩ := id q2; exact Heap.lt_size ho1
        refine RZ.call_zipT (show s1.heap.IsTuple a its.toArray from q1) (show s1.heap.IsTuple b its2.toArray from q2) fun h' hz hTI hTO h1 h2 hsz hk => ⟨H1, xs, ys, ?_, q⟩
        have I2 : L2.Inv X pins σ H1 { s1 with heap := h' } := I1.kept (t' := s1.toks) hk
        refine ⟨_, _, _, _, _, [s1.heap.objs.size, a], [s1.heap.objs.size + 1, b], its, its2, fun i h => h.IsTupleIter s1.heap.objs.size a i ∧ h.IsTuple a its.toArray, fun i h => h.IsTupleIter (s1.heap.objs.size + 1) b i ∧ h.IsTuple b its2.toArray, rfl, I2, rv, rv2, by rw [← rv.length]; exact z1, zip_sep2 (by simpa using l1) (by simpa using l2),
          fun A hh => by simpa using Draws.tuple (prog := X.prog) (w := X.w) (A := A) hh s1.heap.objs.size a (Nat.ne_of_lt l1) its.toArray, fun A hh => by simpa using Draws.tuple (prog := X.prog) (w := X.w) (A := A) hh (s1.heap.objs.size + 1) b (Nat.ne_of_lt (Nat.lt_succ_of_lt l2)) its2.toArray,
          hz, hTI, ⟨_, _, hTO⟩, ⟨h1, Heap.IsTuple.at q1 fun o e => hk _ o e⟩, ⟨h2, Heap.IsTuple.at q2 fun o e => hk _ o e⟩, fun c hc => ?_, fun c hc => ?_, fresh5⟩
        · show c < h'.objs.size
          rw [hsz]
          rcases (by simpa using hc : c = s1.heap.objs.size ∨ c = a) with z | z
          · rw [z]; exact Nat.lt_add_of_pos_right (by decide)
          · rw [z]; exact Nat.lt_add_right _ l1
        · show c < h'.objs.size
          rw [hsz]
          rcases (by simpa using hc : c = s1.heap.objs.size + 1 ∨ c = b) with z | z
          · rw [z]; exact Nat.add_lt_add_left (by decide) _
          · rw [z]; exact Nat.lt_add_right _ l2
/-- list(zip(a, b)) -/
def tLstZip (K : PySem.W.Frag) (ta : TA) : TE := fun σ H Q => ta σ H fun vs H1 => ∃ a b xs ys, vs = [.ref a, .ref b] ∧ ((SqL K H1 a xs ∧ SqL K H1 b ys) ∨ (SqT K H1 a xs ∧ SqT K H1 b ys)) ∧
  ∀ (as : List Addr) (q : Addr), as.Nodup → as.length = (xs.zip ys).length → (∀ c ∈ as, H1 c = none) → H1 q = none → q ∉ as → Q (.ref q) (upd (updTs H1 as (xs.zip ys)) q (.lst (as.map V.ref)))
theorem pe_listZip {ta : TA} (hc : X.calm = true) (hg : Gl X "list") (hm : X.mg "list" = none) (hg2 : Gl X "zip") (hm2 : X.mg "zip" = none) (ha : PA X [e, e2] ta)
    (hs : starEach [e, e2] X.env = (false, eval e X.env) :: starEach [e2] X.env) (hpl : (backTo p3 (starEach [e2] X.env)).any (·.1) = false)
    (na : starEach [.Call (.Name "zip" p2) [e, e2] [] p3] X.env = (false, eval (.Call (.Name "zip" p2) [e, e2] [] p3) X.env) :: starEach [] X.env) :
    PE X (.Call (.Name "list" p) [.Call (.Name "zip" p2) [e, e2] [] p3] [] pos) (tLstZip X.K ta) := by
  refine ⟨fun pins s σ H Q I h => ?_⟩
  refine Call_ (ld_blt I hg hm boot_list (PyProof.Rows.callWith_type1 (args_cons (thn (zip_made hg2 hm2 ha hs hpl pins s σ H (fun xs ys H1 => ∀ (as : List Addr) (q : Addr), as.Nodup → as.length = (xs.zip ys).length → (∀ c ∈ as, H1 c = none) → H1 q = none → q ∉ as → Q (.ref q) (upd (updTs H1 as (xs.zip ys)) q (.lst (as.map V.ref)))) I h) fun v s1 ⟨H1, xs, ys, hz, q⟩ => args_nil ?_) na) na))
  obtain ⟨z, TI, TO, i1, i2, fp1, fp2, us, ws, St1, St2, rfl, I1, rv, rv2, zz, ZS, D1, D2, hz, hTI, hTO, st1, st2, hf1, hf2, fp⟩ := hz
  refine lz_call ZS D1 D2 (I1.ok.hd hc) hz hTI hTO st1 st2 (Nat.le_trans (Nat.min_le_left _ _) zz) hf1 hf2 fun h' tk acc c as hk hS hl hG hacc => ?_
  have len : as.length = (xs.zip ys).length := by rw [hl, List.length_zip, rv.length, rv2.length]
  have len2 : as.length = (us.zip ws).length := by rw [hl, List.length_zip]
  obtain ⟨G, g1, g2⟩ := restrict h' fun b => decide (b < s1.heap.objs.size)
  have gs : ∀ b u, G.get? b = some u → h'.get? b = some u := fun b u e => by
    cases c : decide (b < s1.heap.objs.size) with
    | true => rw [g1 b c] at e; exact e
    | false => rw [g2 b c] at e; cases e
  have IG : L2.Inv X pins σ H1 { s1 with heap := G, toks := tk } := I1.turnedL (ch := [z, TI, TO, i1, i2]) (fun b o hb e => by
    rw [g1 b (decide_eq_true (Heap.lt_size e))]
    exact hk b o (fun x => hb (by simp [x])) (fun x => hb (by simp [x])) (fun x => hb (by simp [x])) (fun x => hb (by simp [x])) e) fp
  have new : ∀ b, s1.heap.objs.size ≤ b → G.get? b = none ∧ H1 b = none := fun b hb => ⟨g2 b (decide_eq_false (Nat.not_lt.mpr hb)), I1.hok.fresh hb⟩
  have IM : L2.Inv X pins σ (updTs H1 as (xs.zip ys)) { s1 with heap := h', toks := tk } := inv_many (s := { s1 with heap := G, toks := tk }) as (xs.zip ys) (us.zip ws) IG hG.apart len len2 gs (fun b hb => new b (Nat.le_of_succ_le (hG.above b hb))) fun j b pr q' e1 e2 e3 => by
    obtain ⟨x1, x2, y1, y2, y3⟩ := hG.pairs j b e1
    obtain ⟨a1, a2⟩ := List.getElem?_zip_eq_some.mp e2
    obtain ⟨b1, b2⟩ := List.getElem?_zip_eq_some.mp e3
    rw [b1] at y1; rw [b2] at y2
    cases y1; cases y2
    obtain ⟨u1, c1, c2⟩ := rv.get a1
    obtain ⟨u2, d1, d2⟩ := rv2.get a2
    rw [b1] at c1; rw [b2] at d1
    cases c1; cases d1
    exact ⟨c2, d2, y3⟩
  have nq : s1.heap.objs.size ∉ as := fun hm' => absurd (hG.above _ hm') (Nat.not_succ_le_self _)
  obtain ⟨G2, k1, k2⟩ := restrict h' fun b => !decide (b = s1.heap.objs.size)
  have IM2 : L2.Inv X pins σ (updTs H1 as (xs.zip ys)) { s1 with heap := G2, toks := tk } := by
    refine inv_many (s := { s1 with heap := G, toks := tk }) as (xs.zip ys) (us.zip ws) IG hG.apart len len2 (fun b u e => ?_) (fun b hb => new b (Nat.le_of_succ_le (hG.above b hb))) fun j b pr q' e1 e2 e3 => ?_
    · have hb : b ≠ s1.heap.objs.size := fun x => by subst x; rw [(new _ (Nat.le_refl _)).1] at e; cases e
      rw [k1 b (by simp [hb])]
      exact gs b u e
    · have hb : b ≠ s1.heap.objs.size := fun x => nq (x ▸ List.mem_of_getElem? e1)
      rw [k1 b (by simp [hb])]
      obtain ⟨x1, x2, y1, y2, y3⟩ := hG.pairs j b e1
      obtain ⟨a1, a2⟩ := List.getElem?_zip_eq_some.mp e2
      obtain ⟨b1, b2⟩ := List.getElem?_zip_eq_some.mp e3
      rw [b1] at y1; rw [b2] at y2
      cases y1; cases y2
      obtain ⟨u1, c1, c2⟩ := rv.get a1
      obtain ⟨u2, d1, d2⟩ := rv2.get a2
      rw [b1] at c1; rw [b2] at d1
      cases c1; cases d1
      exact ⟨c2, d2, y3⟩
  have va : Vals (as.map V.ref) acc.toList := by
    rw [hacc]
    clear hG hacc hl len len2 IM IM2 nq
    induction as with
    | nil => exact .nil
    | cons a r ih => exact .cons rfl ih
  have hlen : (as.map V.ref).length ≤ sizeLine := by
    rw [List.length_map, hl]; exact Nat.le_trans (Nat.min_le_left _ _) zz
  have IL : L2.Inv X pins σ (upd (updTs H1 as (xs.zip ys)) s1.heap.objs.size (.lst (as.map V.ref))) { s1 with heap := h', toks := tk } :=
    IM2.laidN (t' := tk) (fun b u e => by
      cases c : (!decide (b = s1.heap.objs.size)) with
      | true => rw [k1 b c] at e; exact e
      | false => rw [k2 b c] at e; cases e) (k2 _ (by simp)) (by rw [updTs_keep nq]; exact I1.hok.fresh (Nat.le_refl _)) ⟨hlen, acc.toList, c, va, by rw [Array.toArray_toList]; exact hS⟩
  exact ⟨.ref s1.heap.objs.size, _, IL, rfl, q as s1.heap.objs.size hG.apart len (fun b hb => (new b (Nat.le_of_succ_le (hG.above b hb))).2) (I1.hok.fresh (Nat.le_refl _)) nq⟩
end
/-! ### over trees -/
section
variable {K : PySem.W.Frag}
theorem frozenTs : ∀ (as : List Addr) {xs ys : List V} {ds es : List D} {F H : Hp} {M : Sto}, Rst0 K F H M → RelDs K F xs ds → RelDs K F ys es → as.Nodup → as.length = (xs.zip ys).length → (∀ c ∈ as, H c = none) →
    ∃ F', Stp F H M F' (updTs H as (xs.zip ys)) M ∧ Rst0 K F' (updTs H as (xs.zip ys)) M ∧ RelDs K F' (as.map V.ref) (zipD ds es)
  | [], xs, ys, ds, es, F, H, M, R, rx, ry, _, l, _ => by
    refine ⟨F, by unfold updTs; exact Stp.refl F H M, by unfold updTs; exact R, ?_⟩
    have : (zipD ds es) = [] := by
      apply List.eq_nil_of_length_eq_zero
      simp only [zipD, List.length_map, List.length_zip]
      rw [List.length_zip, rx.length, ry.length] at l
      exact l.symm
    rw [this]; exact .nil
  | a :: as, [], ys, ds, es, F, H, M, R, rx, ry, _, l, _ => by simp at l
  | a :: as, x :: xs, [], ds, es, F, H, M, R, rx, ry, _, l, _ => by simp at l
  | a :: as, x :: xs, y :: ys, _, _, F, H, M, R, .cons (d := dx) (ds := ds) rx rxs, .cons (d := dy) (ds := es) ry rys, nd, l, fr => by
    obtain ⟨na, nd⟩ := List.nodup_cons.mp nd
    obtain ⟨e1, R1⟩ := R.frozen (o := .tup [x, y]) (fr a (by simp))
    obtain ⟨F2, e2, R2, r2⟩ := frozenTs as R1 (RelDs.mono e1.ext rxs) (RelDs.mono e1.ext rys) nd (by simpa using l) (fun c hc => by rw [upd_ne (show c ≠ a from fun z => na (by rw [← z]; exact hc))]; exact fr c (by simp [hc]))
    rw [List.zip_cons_cons]
    unfold updTs
    have rt : RelD K F2 (.ref a) (.tup [dx, dy]) := .tup (e2.ext.sqT (SqT.of upd_same)) (.cons (rx.mono (e1.ext.trans e2.ext)) (.cons (ry.mono (e1.ext.trans e2.ext)) .nil))
    exact ⟨F2, e1.trans e2, R2, .cons rt r2⟩
end
/-- frozen; may change -/
@[simp] def dLstZip (t u : DTE) : DTE := fun τ M Q => t τ M fun x M1 => u τ M1 fun y M2 => match zipI x y M2 with
  | some zs => Q (.lst zs) M2
  | none => False
@[simp] def dLstZipM (t u : DTE) : DTE := fun τ M Q => t τ M fun x M1 => u τ M1 fun y M2 => match zipI x y M2 with
  | some zs => ∀ p, M2 p = none → Q (.ref p) (M2.upd p (.lst zs))
  | none => False
section
variable {X : Cx} {e e2 : Expr} {p p2 p3 pos : Pos} {te tu : DTE}
theorem zipI_ok {K : PySem.W.Frag} {F H : Hp} {M : Sto} {v v' : V} {d d' : D} {zs : List D} (R : Rst0 K F H M) (r1 : RelD K F v d) (r2 : RelD K F v' d') (h : zipI d d' M = some zs) :
    ∃ a b xs ys ds es, v = .ref a ∧ v' = .ref b ∧ ((SqL K H a xs ∧ SqL K H b ys) ∨ (SqT K H a xs ∧ SqT K H b ys)) ∧ RelDs K F xs ds ∧ RelDs K F ys es ∧ zs = zipD ds es := by
  cases d <;> cases d' <;> first | (simp [zipI] at h; done) | skip
  · cases h
    cases r1 with
    | tup h1 s1 => cases r2 with
      | tup h2 s2 => exact ⟨_, _, _, _, _, _, rfl, rfl, .inr ⟨R.sub.sqT h1, R.sub.sqT h2⟩, s1, s2, rfl⟩
  · cases h
    cases r1 with
    | lst h1 s1 => cases r2 with
      | lst h2 s2 => exact ⟨_, _, _, _, _, _, rfl, rfl, .inl ⟨SqL.of (R.sub _ _ h1), SqL.of (R.sub _ _ h2)⟩, s1, s2, rfl⟩
theorem de_listZip (hc : X.calm = true) (hm : X.mg "list" = none) (hm2 : X.mg "zip" = none) (ha : DE X e te) (hb : DE X e2 tu) (hg : Gl X "list" := by rfl) (hg2 : Gl X "zip" := by rfl)
    (hs : starEach [e, e2] X.env = (false, eval e X.env) :: starEach [e2] X.env := by rfl) (hs2 : starEach [e2] X.env = (false, eval e2 X.env) :: starEach [] X.env := by rfl) (hpl : (backTo p3 (starEach [e2] X.env)).any (·.1) = false := by rfl)
    (na : starEach [.Call (.Name "zip" p2) [e, e2] [] p3] X.env = (false, eval (.Call (.Name "zip" p2) [e, e2] [] p3) X.env) :: starEach [] X.env := by rfl) :
    DE X (.Call (.Name "list" p) [.Call (.Name "zip" p2) [e, e2] [] p3] [] pos) (dLstZip te tu) := by
  obtain ⟨ua, pa, ra⟩ := ha.ex
  obtain ⟨ub, pb, rb⟩ := hb.ex
  refine ⟨_, pe_listZip hc hg hm hg2 hm2 (pa_cons pa (pa_cons pb pa_nil hs2) hs) hs hpl na, fun F H σ τ M Qd Q R q k => ?_⟩
  refine ra F H σ τ M _ _ R q fun v F1 H1 d M1 e1 R1 r1 q1 => ?_
  refine rb F1 H1 σ τ M1 _ _ R1 q1 fun v' F2 H2 d' M2 e2 R2 r2 q2 => ?_
  split at q2
  · rename_i zs hz
    obtain ⟨a, b, xs, ys, ds, es, rfl, rfl, hq, s1, s2, rfl⟩ := zipI_ok R2.heap (r1.mono e2.ext) r2 hz
    refine ⟨a, b, xs, ys, rfl, hq, fun as q nd l fr hq0 nq => ?_⟩
    obtain ⟨F3, e3, R3, r3⟩ := frozenTs as R2.heap s1 s2 nd l fr
    have hp : (updTs H2 as (xs.zip ys)) q = none := by rw [updTs_keep nq]; exact hq0
    obtain ⟨e4, R4⟩ := R3.frozen (o := .lst (as.map V.ref)) hp
    exact k _ _ _ _ M2 (((e1.trans e2).trans e3).trans e4) (R2.mono (e3.trans e4).ext R4) (.lst upd_same (RelDs.mono e4.ext r3)) q2
  · exact q2.elim
theorem de_listZipM (hc : X.calm = true) (hm : X.mg "list" = none) (hm2 : X.mg "zip" = none) (ha : DE X e te) (hb : DE X e2 tu) (hg : Gl X "list" := by rfl) (hg2 : Gl X "zip" := by rfl)
    (hs : starEach [e, e2] X.env = (false, eval e X.env) :: starEach [e2] X.env := by rfl) (hs2 : starEach [e2] X.env = (false, eval e2 X.env) :: starEach [] X.env := by rfl) (hpl : (backTo p3 (starEach [e2] X.env)).any (·.1) = false := by rfl)
    (na : starEach [.Call (.Name "zip" p2) [e, e2] [] p3] X.env = (false, eval (.Call (.Name "zip" p2) [e, e2] [] p3) X.env) :: starEach [] X.env := by rfl) :
    DE X (.Call (.Name "list" p) [.Call (.Name "zip" p2) [e, e2] [] p3] [] pos) (dLstZipM te tu) := by
  obtain ⟨ua, pa, ra⟩ := ha.ex
  obtain ⟨ub, pb, rb⟩ := hb.ex
  refine ⟨_, pe_listZip hc hg hm hg2 hm2 (pa_cons pa (pa_cons pb pa_nil hs2) hs) hs hpl na, fun F H σ τ M Qd Q R q k => ?_⟩
  refine ra F H σ τ M _ _ R q fun v F1 H1 d M1 e1 R1 r1 q1 => ?_
  refine rb F1 H1 σ τ M1 _ _ R1 q1 fun v' F2 H2 d' M2 e2 R2 r2 q2 => ?_
  split at q2
  · rename_i zs hz
    obtain ⟨a, b, xs, ys, ds, es, rfl, rfl, hq, s1, s2, rfl⟩ := zipI_ok R2.heap (r1.mono e2.ext) r2 hz
    refine ⟨a, b, xs, ys, rfl, hq, fun as q nd l fr hq0 nq => ?_⟩
    obtain ⟨F3, e3, R3, r3⟩ := frozenTs as R2.heap s1 s2 nd l fr
    have hp : (updTs H2 as (xs.zip ys)) q = none := by rw [updTs_keep nq]; exact hq0
    obtain ⟨e4, R4⟩ := R3.fresh (o := .lst (as.map V.ref)) (u := .lst (zipD ds es)) hp r3
    exact k _ _ _ (.ref q) _ (((e1.trans e2).trans e3).trans e4) (R2.mono (e3.trans e4).ext R4) (.ref q) (q2 q (R3.free hp).2)
  · exact q2.elim
end
end DL

/-! DY: forgetting what is not needed any more; a value frozen or not, as its user likes. -/
namespace DL
open PySem PySem.Spec PyProof.Rows L2
theorem Stp.down {F H F1 H1 : Hp} {M M1 M2 : Sto} (x : Stp F H M2 F1 H1 M1) (h : M2.le M) : Stp F H M F1 H1 M1 := by
  refine ⟨x.ext, fun a o e m => ?_, x.al⟩
  refine x.kp a o e ?_
  cases q : M2 a with
  | none => rfl
  | some u => rw [h a u q] at m; cases m
section
variable {X : Cx} {e : Expr} {sts : List Stmt}
def dWk (t : DTS) : DTS := fun D τ M => ∃ M2, M2.le M ∧ t D τ M2
theorem dss_wk {t : DTS} (h : DSs X sts t) : DSs X sts (dWk t) := by
  obtain ⟨u, pu, ru⟩ := h.ex
  refine ⟨u, pu, fun F H σ τ M D E R q r => ?_⟩
  obtain ⟨M2, l, q⟩ := q
  refine ru F H σ τ M2 D E ⟨R.heap.less l, R.slots⟩ q ⟨fun F' H' σ' τ' M' s => r.nx F' H' σ' τ' M' (s.down l), fun F' H' σ' τ' M' s => r.bk F' H' σ' τ' M' (s.down l), fun F' H' σ' τ' M' s => r.ct F' H' σ' τ' M' (s.down l), fun v F' H' d M' s => r.rt v F' H' d M' (s.down l)⟩
@[simp] def dFrzQ (t : DTE) : DTE := fun τ M Q => t τ M fun d M1 => Q d M1 ∨ frz Q d M1
theorem de_frzQ {t : DTE} (h : DE X e t) : DE X e (dFrzQ t) := by
  obtain ⟨u, pu, ru⟩ := h.ex
  refine ⟨u, pu, fun F H σ τ M Qd Q R q k => ?_⟩
  refine ru F H σ τ M _ _ R q fun v F1 H1 d M1 e1 R1 r1 q1 => ?_
  rcases q1 with q1 | q1
  · exact k v F1 H1 d M1 e1 R1 r1 q1
  · obtain ⟨F2, d', M2, e2, R2, r2, q2⟩ := frz_ok R1 r1 q1
    exact k v F2 H1 d' M2 (e1.trans e2) R2 r2 q2
/-! ### a tuple of which it is known that nothing hangs at it; dict(tuple of pairs) -/
variable {es : List Expr} {pos : Pos}
def tTupP (t : TA) : TE := fun σ H Q => t σ H fun xs H1 => xs.length ≤ sizeLine ∧ ∀ p o, o.dict = none → H1 p = none → Q (.ref p) (upd H1 p (.frz o (.tup xs)))
theorem pe_tupP {x1} {t : TA} (h : PA X es t) : PE X (.Tuple es x1 pos) (tTupP t) := by
  refine ⟨fun pins s σ H Q I hq => ?_⟩
  refine wpAny_Tuple_spliced (thn (h.run pos pins s σ H _ I hq) fun us s1 ⟨xs, H1, I1, r, z, q⟩ => ⟨by rw [← r.length]; exact z, ?_⟩)
  have hf : H1 s1.heap.objs.size = none := I1.hok.fresh (Nat.le_refl _)
  refine ⟨.ref s1.heap.objs.size, upd H1 s1.heap.objs.size (.frz { cls := .type "tuple", data := .seq us.toArray } (.tup xs)), I1.laid (t' := s1.toks) (fun b u e => Heap.get?_push_of_some _ e) (Nat.le_refl _) ?_, rfl, q _ _ rfl hf⟩
  exact ⟨Heap.get?_push_size _ rfl, z, us, r, ⟨_, Heap.get?_push_size _ rfl, rfl, _, rfl⟩⟩
@[simp] def dTupP (t : DTA) : DTE := fun τ M Q => t τ M fun xs M1 => xs.length ≤ sizeLine ∧ Q (.ptp xs) M1
theorem de_tupP {t : DTA} {x1} (h : DA X es t) : DE X (.Tuple es x1 pos) (dTupP t) := by
  obtain ⟨u, pu, ru⟩ := h.ex
  refine ⟨tTupP u, pe_tupP pu, fun F H σ τ M Qd Q R q k => ?_⟩
  refine ru F H σ τ M _ _ R q fun vs F1 H1 ds M1 e1 R1 r1 ⟨z, q1⟩ => ⟨by rw [r1.length]; exact z, fun p o ho hp => ?_⟩
  obtain ⟨e2, R2⟩ := R1.heap.frozen (o := .frz o (.tup vs)) hp
  exact k (.ref p) _ _ (.ptp ds) M1 (e1.trans e2) (R1.mono e2.ext R2) (.ptp upd_same ho (r1.mono e2.ext)) q1
def rDictPT (K : PySem.W.Frag) : List V → Hp → VK → Prop := fun xs H Q => ∃ (a : Addr) (o : Obj) (ps : List Addr) (kvs : List (Key × V)), xs = [.ref a] ∧ H a = some (.frz o (.tup (ps.map V.ref))) ∧ o.dict = none ∧ Paired (fun p kv => SqT K H p [kV kv.1, kv.2]) ps kvs ∧
    ∀ p, H p = none → Q (.ref p) (upd H p (.dK (mergeK [] kvs)))
theorem call_dictPT (hcalm : X.calm = true) : CallR X (.type "dict") (rDictPT X.K) := by
  intro pins s σ H xs us Q I r q
  obtain ⟨a, o, ps, kvs, ex, hq, hod, hp, q⟩ := q
  subst ex
  obtain ⟨u, eu, rx⟩ := vals1 r
  subst eu
  cases rx
  obtain ⟨ho, hz, its, rv, o', ho', hc, n, hdat⟩ := (show ObjOk X.prog X.w H s.heap a (.frz o (.tup (ps.map V.ref))) from I.hok a _ hq)
  rw [ho] at ho'
  cases ho'
  have ei := refs_at rv
  subst ei
  rw [List.length_map] at hz
  obtain ⟨prs, rel, hl, hpr⟩ := pairs_of I hp
  -- the pairs as values
  obtain ⟨vps, hvl, hvp⟩ : ∃ vps : List (Value × Value), vps.length = prs.length ∧ ∀ (j : Nat) (qq : Value × Value), vps[j]? = some qq → ∃ (b : Addr) (kv : Key × Value), ps[j]? = some b ∧ prs[j]? = some kv ∧ qq.2 = kv.2 ∧ IsTup s.heap b #[qq.1, qq.2] ∧ keyIs kv.1 qq.1 = true := by
    have mk : ∀ (j : Fin prs.length), ∃ vv : Value × Value, ∃ (b : Addr), ps[j.1]? = some b ∧ vv.2 = prs[j.1].2 ∧ IsTup s.heap b #[vv.1, vv.2] ∧ keyIs prs[j.1].1 vv.1 = true := fun j => by
      obtain ⟨b, u, e1, e2, e3⟩ := hpr j.1 prs[j.1] (List.getElem?_eq_getElem j.2)
      exact ⟨(u, prs[j.1].2), b, e1, rfl, e2, e3⟩
    refine ⟨List.ofFn fun j => Classical.choose (mk j), List.length_ofFn, fun j qq e => ?_⟩
    rw [List.getElem?_ofFn] at e
    split at e
    · rename_i hj
      cases e
      obtain ⟨b, e1, e2, e3, e4⟩ := Classical.choose_spec (mk ⟨j, hj⟩)
      exact ⟨b, prs[j], e1, List.getElem?_eq_getElem hj, e2, e3, e4⟩
    · cases e
  have P := PairArg.tuple (prog := X.prog) (w := X.w) a (ps.map Value.ref).toArray (fun j => ps.getD j 0) vps
  refine PySem.call_dict_pairs (knd := mixKind X.prog X.w) (kvs := prs) (n := vps.length) P (I.ok.hd hcalm) ⟨⟨o, n, ho, hc, hod, hdat⟩, ?_, fun j k v e => ?_⟩ ⟨hvl.symm, fun i key v e => ?_⟩ (by rw [hvl, hl]; exact hz) fun h' tk hd' hk => ?_
  · rw [List.size_toArray, List.length_map, hvl, hl]
  · obtain ⟨b, kv, e1, e2, e3, e4, e5⟩ := hvp j _ e
    have eb : ps.getD j 0 = b := by rw [List.getD_eq_getElem?_getD, e1]; rfl
    refine ⟨by simp [e1], ?_⟩
    show PairAt s.heap (ps.getD j 0) k v
    rw [eb]
    exact .inl e4
  · obtain ⟨b, kv, e1, e2, e3, e4, e5⟩ := hvp i _ e
    refine ⟨kv.1, ?_, e5⟩
    rw [e2, show v = kv.2 from e3]
  · have hm : (s.heap.objs.size == sysModules) = false := beq_eq_false_iff_ne.mpr (Nat.ne_of_gt I.big)
    have hz2 : (mergeK [] kvs).length ≤ sizeLine := by
      have h1 := length_mergeK kvs []
      have h2 : kvs.length = prs.length := Paired.length rel
      rw [List.length_nil] at h1
      omega
    exact ⟨.ref s.heap.objs.size, upd H s.heap.objs.size (.dK (mergeK [] kvs)), I.laid (t' := tk) (fun b u e => hk b u (by simp) e) (Nat.le_refl _)
      (show ObjOk X.prog X.w _ _ _ (.dK (mergeK [] kvs)) from ⟨hz2, hm, _, rel.merge .nil, hd'⟩), rfl, q _ (I.hok.fresh (Nat.le_refl _))⟩
/-- dict(tuple of pairs), frozen -/
@[simp] def gDictPT : GC := fun ds M Q => match ds with
  | [.ptp ys] => (match pairsOf ys with
    | some kvs => Q (.dct (mergeD [] kvs)) M
    | none => False)
  | _ => False
theorem cd_dictPT (hc : X.calm = true) : CallD X (.type "dict") gDictPT := fun F H M xs ds Qd Q R r q k => by
  unfold gDictPT at q
  split at q
  · split at q
    · rename_i kvs hk
      cases r with
      | cons r1 r2 =>
        cases r2
        cases r1 with
        | ptp hs ho rs =>
          obtain ⟨ps, ms, rfl, pr, rk⟩ := pairs_rel rs hk
          refine ⟨_, call_dictPT hc, _, _, ps, ms, rfl, R.sub _ _ hs, ho, paired_mono R.sub pr, fun p hp => ?_⟩
          obtain ⟨e2, R2⟩ := R.frozen (o := .dK (mergeK [] ms)) hp
          exact k _ _ _ (.dct (mergeD [] kvs)) M e2 R2 (.dct (.inl upd_same) (RelKv.mono e2.ext (rk.merge .nil))) q
    · exact q.elim
  · exact q.elim
/-- an expression's junk is forgotten -/
def dWkE (t : DTE) : DTE := fun τ M Q => ∃ M2, M2.le M ∧ t τ M2 Q
end
end DL

/-! EA: x[:0:-1] of a tuple that is not empty. -/
namespace DL
open PySem PySem.Spec PyProof.Rows L2
theorem sliceApplied_backTail {prog : Program} {w : World} {A : Around} {E : Value → Shared → Prop} {s : Shared} {sl : Addr} {vl vu vs : Value} {n : Nat} {Q : Int × Int × Nat → Shared → Prop}
    (hs : s.heap.IsSliceOf sl vl vu vs) (pl : IsPart vl none) (pu : IsPart vu (some 0)) (ps : IsPart vs (some (-1))) (h : Q ((n : Int), -1, n) s) : wpAny (model prog w) A (Builtin.Slice.sliceApplied (.ref sl) (pure ((n + 1 : Nat) : Int))) Q E s := by
  obtain ⟨os, hos, hcs, hds⟩ := id hs
  have e2 : Builtin.Slice.sliceAdjust none (some 0) (-1) ((n + 1 : Nat) : Int) = ((n : Int), 0) := by
    unfold Builtin.Slice.sliceAdjust
    simp
    omega
  have e3 : Builtin.Slice.slicePlaces (n : Int) 0 (-1) = n := by
    unfold Builtin.Slice.slicePlaces
    rw [if_neg (by decide)]
    by_cases h0 : n = 0
    · subst h0; rfl
    · rw [if_pos (by omega)]
      have : ((n : Int) - 0 - 1) / (- -1) + 1 = n := by
        rw [show (- -1 : Int) = 1 from rfl, Int.ediv_one]; omega
      rw [this, Int.toNat_natCast]
  unfold Builtin.Slice.sliceApplied Builtin.Slice.sliceFields
  apply wpAny_bind
  apply wpAny_bind
  apply wpAny_field hos hds (x := vl) rfl
  apply wpAny_bind
  apply wpAny_field hos hds (x := vu) rfl
  apply wpAny_bind
  apply wpAny_field hos hds (x := vs) rfl
  apply wpAny_pure
  apply wpAny_bind
  apply HT.slicePart_ ps
  show wpAny _ _ (if ((-1 : Int) == 0) = true then _ else _) _ _ s
  rw [if_neg (by decide)]
  apply wpAny_bind
  apply HT.slicePart_ pl
  apply wpAny_bind
  apply HT.slicePart_ pu
  apply wpAny_bind
  apply wpAny_pure
  show wpAny _ _ (match Builtin.Slice.sliceAdjust none (some 0) (-1) ((n + 1 : Nat) : Int) with | (lo, hi) => pure (lo, (-1 : Int), Builtin.Slice.slicePlaces lo hi (-1))) _ _ s
  rw [e2]
  show wpAny _ _ (pure ((n : Int), (-1 : Int), Builtin.Slice.slicePlaces (n : Int) 0 (-1))) _ _ s
  rw [e3]
  exact wpAny_pure h
theorem pick_backTail (x : Value) (xs : List Value) : ((List.range xs.length).filterMap fun (m : Nat) => (x :: xs).toArray[((xs.length : Int) + (m : Int) * (-1)).toNat]?) = xs.reverse := by
  rw [← back_list xs]
  apply filterMap_as
  intro m hm
  have hm' : m < xs.length := by simpa using hm
  have e : ((xs.length : Int) + (m : Int) * (-1)).toNat = (xs.length - 1 - m) + 1 := by omega
  rw [e]
  have hlt : xs.length - 1 - m < xs.length := by omega
  simp [List.getElem?_eq_getElem hlt, List.getD]
theorem getItem_tuple_backTail {prog : Program} {w : World} {A : Around} {E : Value → Shared → Prop} {s : Shared} {t sl : Addr} {x : Value} {its : List Value} {vl vu vs : Value} {Q : Value → Shared → Prop} (ht : IsTup s.heap t (x :: its).toArray)
    (hs : s.heap.IsSliceOf sl vl vu vs) (pl : IsPart vl none) (pu : IsPart vu (some 0)) (ps : IsPart vs (some (-1))) (hz : its.length ≤ sizeLine)
    (h : Q (.ref s.heap.objs.size) { s with heap := s.heap.push { cls := .type "tuple", data := .seq its.reverse.toArray } }) : wpAny (model prog w) A (getItem (.ref t) (.ref sl)) Q E s := by
  obtain ⟨os, hos, hcs, hds⟩ := id hs
  have hTs : s.TypeIs (.ref sl) "slice" := ⟨os, hos, hcs⟩
  have hok : sizeOk (.seq its.reverse.toArray) := by
    show its.reverse.toArray.size ≤ sizeLine
    rw [List.size_toArray, List.length_reverse]; exact hz
  unfold getItem
  try with_reducible apply wpAny_holding
  first | (apply wpAny_bind; apply wpAny_pure) | skip
  apply wpAny_bind
  apply wpAny_sequenceKey ht.typeIs (by decide)
  apply wpAny_bind
  apply wpAny_callSpecial?_slot (name := Str.ofString "__getitem__") ht.typeIs PyProof.Rows.slot_tuple_getitem
  refine wpAny_call_entry PyProof.Rows.slot_tuple_getitem ht.typeIs entry_tuple_getitem ?_ (args_tuple_getitem _ _)
  show wpAny _ _ (Builtin.Tuple.tupleItemsOf (.ref t) >>= _) _ _ s
  apply wpAny_bind
  apply tupleItemsOf_ ht
  apply wpAny_bind
  apply wpAny_typeOf hTs
  rw [if_pos (by decide)]
  apply wpAny_bind
  have esz : (x :: its).toArray.size = its.length + 1 := by simp
  rw [esz]
  apply sliceApplied_backTail hs pl pu ps
  have hno : ¬ (((its.length : Int) == 0 && (-1 : Int) == 1 && its.length == its.length + 1) = true) := by
    intro z
    rw [Bool.and_eq_true, Bool.and_eq_true] at z
    exact absurd z.1.2 (by decide)
  show wpAny _ _ (if ((its.length : Int) == 0 && (-1 : Int) == 1 && its.length == its.length + 1) = true then _ else _) _ _ s
  rw [if_neg hno]
  have ep : ((List.range its.length).filterMap fun (m : Nat) => (x :: its).toArray[((its.length : Int) + (m : Int) * (-1)).toNat]?) = its.reverse := pick_backTail x its
  rw [ep]
  first
    | exact wpAny_bind (m := Builtin.Tuple.tupleExact _) (wpAny_newObj_type (wpAny_pure ⟨_, rfl, wpAny_pure h⟩) hok)
    | exact wpAny_bind (m := Builtin.Tuple.tupleExact _) (wpAny_newObj_type (wpAny_bind (wpAny_pure (wpAny_pure ⟨_, rfl, wpAny_pure h⟩))) hok)
    | exact wpAny_bind (wpAny_bind (m := Builtin.Tuple.tupleExact _) (wpAny_newObj_type (wpAny_pure (wpAny_pure ⟨_, rfl, wpAny_pure h⟩)) hok))
    | exact wpAny_bind (wpAny_bind (m := Builtin.Tuple.tupleExact _) (wpAny_newObj_type (wpAny_pure ⟨_, rfl, wpAny_pure h⟩) hok))
section
variable {X : Cx} {e : Expr} {k kz : Nat} {p0 p1 p2 p3 pos : Pos}
def tBackTail (K : PySem.W.Frag) (te : TE) : TE := fun σ H Q => te σ H fun x H1 => ∃ a y xs, x = .ref a ∧ SqT K H1 a (y :: xs) ∧ ∀ p, H1 p = none → Q (.ref p) (upd H1 p (.tup xs.reverse))
theorem pe_backTail {te : TE} (he : PE X e te) : PE X (.Subscript e (.Slice none (some (.Constant (.int 0) kz p0)) (some (.UnaryOp .USub (.Constant (.int 1) k p1) p2)) p3) pos) (tBackTail X.K te) := by
  constructor
  intro pins s σ H Q I h
  apply Subscript_
  refine thn (he.run pins s σ H _ I h) ?_
  rintro v s1 ⟨x, H1, I1, r1, a, y, xs, ex, hs, q1⟩
  subst ex
  cases r1
  have step : PO X (some (.UnaryOp .USub (.Constant (.int 1) k p1) p2)) (tPart (tUn (rU fun i => .int (-i)) (tC (.int 1)))) := po_some (pe_un un_neg pe_int)
  have upper : PO X (some (.Constant (.int 0) kz p0)) (tPart (tC (.int 0))) := po_some pe_int
  apply wpAny_Slice
  refine thn (po_none.run pins s1 σ H1 (fun o H2 => o = none ∧ H2 = H1) I1 ⟨rfl, rfl⟩) ?_
  rintro vl s2 ⟨l, H2, I2, pl, el, e2⟩
  subst el e2
  refine thn (upper.run pins s2 σ H2 (fun o H3 => o = some 0 ∧ H3 = H2) I2 ⟨0, rfl, rfl, rfl⟩) ?_
  rintro vu s3 ⟨u, H3, I3, pu, eu, e3⟩
  subst eu e3
  refine thn (step.run pins s3 σ H3 (fun o H4 => o = some (-1) ∧ H4 = H3) I3 ⟨1, rfl, _, rfl, rfl, rfl⟩) ?_
  rintro vs s4 ⟨st, H4, I4, ps, es, e4⟩
  subst es e4
  have I5 : Inv X pins σ H4 { s4 with heap := s4.heap.push { cls := .type "slice", data := .fields #[vl, vu, vs] } } := I4.kept (t' := s4.toks) fun b ob z => Heap.get?_push_of_some _ z
  have hsl := Heap.IsSliceOf.new s4.heap vl vu vs
  obtain ⟨its, r, pl', hz⟩ := I5.tuple hs
  cases r with
  | cons r0 rr =>
    rename_i z zs
    have hl := rr.length
    simp only [List.length_cons] at hz
    refine tail_any (ops := [.ref a, .ref s4.heap.objs.size]) pl'.typeIs PyProof.Rows.slot_tuple_getitem.lookup ?_ (by with_unfolding_all rfl)
    refine getItem_tuple_backTail pl' hsl pl pu ps (by omega) ?_
    have I6 := I5.laid (t' := s4.toks) (a := (s4.heap.push { cls := .type "slice", data := .fields #[vl, vu, vs] }).objs.size) (o := .tup xs.reverse) (h' := (s4.heap.push { cls := .type "slice", data := .fields #[vl, vu, vs] }).push { cls := .type "tuple", data := .seq zs.reverse.toArray }) (fun b ob z => Heap.get?_push_of_some _ z) (Nat.le_refl _) ⟨by rw [List.length_reverse]; omega, _, (show Vals _ _ from rr).reverse, IsTup.new _ _⟩
    exact ⟨.ref _, _, I6, rfl, q1 _ (I5.hok.fresh (Nat.le_refl _))⟩
@[simp] def dBackTail (t : DTE) : DTE := fun τ M Q => t τ M fun x M1 => match x with
  | .tup (_ :: xs) => Q (.tup xs.reverse) M1
  | _ => False
theorem de_backTail {t : DTE} (he : DE X e t) : DE X (.Subscript e (.Slice none (some (.Constant (.int 0) kz p0)) (some (.UnaryOp .USub (.Constant (.int 1) k p1) p2)) p3) pos) (dBackTail t) := by
  obtain ⟨u, pu, ru⟩ := he.ex
  refine ⟨_, pe_backTail pu, fun F H σ τ M Qd Q R q k => ?_⟩
  refine ru F H σ τ M _ _ R q fun v F1 H1 d M1 e1 R1 r1 q1 => ?_
  split at q1
  · cases r1 with
    | tup hs rs =>
      cases rs with
      | cons r0 rr =>
        refine ⟨_, _, _, rfl, R1.heap.sub.sqT hs, fun p hp => ?_⟩
        obtain ⟨e2, R2⟩ := R1.heap.frozen (o := .tup _) hp
        exact k _ _ _ _ M1 (e1.trans e2) (R1.mono e2.ext R2) (.tup (SqT.of upd_same) (rr.reverse.mono e2.ext)) q1
  · exact q1.elim
end
end DL

/-! EB: for k in d, d a dict that stays: it is locked while the loop runs. -/
namespace DL
open PySem PySem.Spec PyProof.Rows L2
/-- F' has what F has, but a dict may be locked or unlocked -/
structure Swp (F F' : Hp) : Prop where
  rd : ∀ b u, (∀ p kvs, u ≠ .frz p (.dK kvs)) → Rd F b u → Rd F' b u
  eq : ∀ b o, F b = some o → (∀ kvs, o ≠ .dK kvs) → (∀ p kvs, o ≠ .frz p (.dK kvs)) → F' b = some o
theorem Swp.sqL {K : PySem.W.Frag} {F F' : Hp} {a : Addr} {xs : List V} (e : Swp F F') (h : SqL K F a xs) : SqL K F' a xs := by
  rcases h with h | h
  · exact Or.inl (e.rd _ _ (fun _ _ z => nomatch z) h)
  · exact Or.inr h
theorem Swp.sqT {K : PySem.W.Frag} {F F' : Hp} {a : Addr} {xs : List V} (e : Swp F F') (h : SqT K F a xs) : SqT K F' a xs := by
  rcases h with h | h
  · exact Or.inl (e.rd _ _ (fun _ _ z => nomatch z) h)
  · exact Or.inr h
theorem Swp.lst {F F' : Hp} {a : Addr} {xs : List V} (e : Swp F F') (h : F a = some (.lst xs)) : F' a = some (.lst xs) := e.eq _ _ h (fun _ z => nomatch z) fun _ _ z => nomatch z
theorem Swp.ptp {F F' : Hp} {a : Addr} {o : Obj} {xs : List V} (e : Swp F F') (h : F a = some (.frz o (.tup xs))) : F' a = some (.frz o (.tup xs)) := e.eq _ _ h (fun _ z => nomatch z) fun _ _ z => nomatch z
theorem Swp.ins {F F' : Hp} {a C dx : Addr} {fs : List (Str × V)} (e : Swp F F') (h : F a = some (.ins C dx fs)) : F' a = some (.ins C dx fs) := e.eq _ _ h (fun _ z => nomatch z) fun _ _ z => nomatch z
theorem Swp.dct {F F' : Hp} {a : Addr} {kvs : List (Key × V)} (e : Swp F F') (h : Rd F a (.dK kvs)) : Rd F' a (.dK kvs) := e.rd _ _ (fun _ _ z => nomatch z) h
mutual
theorem RelD.swp {K : PySem.W.Frag} {F F' : Hp} (e : Swp F F') : ∀ {v : V} {d : D}, RelD K F v d → RelD K F' v d
  | _, _, .non => .non
  | _, _, .bl b => .bl b
  | _, _, .int i => .int i
  | _, _, .str s => .str s
  | _, _, .tup h r => .tup (e.sqT h) (RelDs.swp e r)
  | _, _, .lst h r => .lst (e.lst h) (RelDs.swp e r)
  | _, _, .rol h r => .rol (e.sqL h) (RelDs.swp e r)
  | _, _, .ptp h n r => .ptp (e.ptp h) n (RelDs.swp e r)
  | _, _, .dct h r => .dct (e.dct h) (RelKv.swp e r)
  | _, _, .ref a => .ref a
  | _, _, .ty n => .ty n
  | _, _, .ins h r => .ins (e.ins h) (RelFs.swp e r)
theorem RelDs.swp {K : PySem.W.Frag} {F F' : Hp} (e : Swp F F') : ∀ {v : List V} {d : List D}, RelDs K F v d → RelDs K F' v d
  | _, _, .nil => .nil
  | _, _, .cons h r => .cons (RelD.swp e h) (RelDs.swp e r)
theorem RelKv.swp {K : PySem.W.Frag} {F F' : Hp} (e : Swp F F') : ∀ {v : List (Key × V)} {d : List (Key × D)}, RelKv K F v d → RelKv K F' v d
  | _, _, .nil => .nil
  | _, _, .cons h r => .cons (RelD.swp e h) (RelKv.swp e r)
theorem RelFs.swp {K : PySem.W.Frag} {F F' : Hp} (e : Swp F F') : ∀ {v : List (Str × V)} {d : List (Str × D)}, RelFs K F v d → RelFs K F' v d
  | _, _, .nil => .nil
  | _, _, .cons h r => .cons (RelD.swp e h) (RelFs.swp e r)
end
theorem RelO.swp {K : PySem.W.Frag} {F F' : Hp} (e : Swp F F') {h : HO} {o : MO} (r : RelO K F h o) : RelO K F' h o := by
  cases h <;> cases o <;> first | exact False.elim r | skip
  · exact RelDs.swp e r
  · exact RelKv.swp e r
  · exact ⟨r.1, RelFs.swp e r.2⟩
theorem Swp.lock {F : Hp} {a : Addr} {vs : List (Key × V)} (h : F a = some (.dK vs)) (o : Obj) : Swp F (upd F a (.frz o (.dK vs))) := by
  refine ⟨fun b u n0 r => ?_, fun b p e n1 n2 => ?_⟩
  · by_cases hb : b = a
    · subst hb
      rcases r with r | ⟨p, r⟩
      · rw [h] at r; cases r; exact .inr ⟨_, upd_same⟩
      · rw [h] at r; cases r
    · unfold Rd; rw [upd_ne hb]; exact r
  · by_cases hb : b = a
    · subst hb; rw [h] at e; cases e; exact absurd rfl (n1 _)
    · rw [upd_ne hb]; exact e
theorem Swp.unlock {F : Hp} {a : Addr} {vs : List (Key × V)} {o : Obj} (h : F a = some (.frz o (.dK vs))) : Swp F (upd F a (.dK vs)) := by
  refine ⟨fun b u n0 r => ?_, fun b p e n1 n2 => ?_⟩
  · by_cases hb : b = a
    · subst hb
      rcases r with r | ⟨p, r⟩
      · rw [h] at r
        cases r
        exact absurd rfl (n0 _ _)
      · rw [h] at r; cases r; exact .inl upd_same
    · unfold Rd; rw [upd_ne hb]; exact r
  · by_cases hb : b = a
    · subst hb; rw [h] at e; cases e; exact absurd rfl (n2 _ _)
    · rw [upd_ne hb]; exact e
theorem RelSl.swp {K : PySem.W.Frag} {F F' : Hp} {σ : L2.St} {τ : DSt} (e : Swp F F') (r : RelSl K F σ τ) : RelSl K F' σ τ := ⟨r.len, fun i d h => by
  obtain ⟨v, h1, h2⟩ := r.get i d h
  exact ⟨v, h1, h2.swp e⟩⟩
/-- the thing at a, there already, is written otherwise on both sides -/
theorem Rst0.swp {K : PySem.W.Frag} {F H : Hp} {M : Sto} {a : Addr} {u w : HO} (R : Rst0 K F H M) (h : F a = some u) (e : Swp F (upd F a w)) : Rst0 K (upd F a w) (upd H a w) M := by
  refine ⟨fun b o q => ?_, fun b o q => ?_⟩
  · by_cases hb : b = a
    · subst hb; rw [upd_same] at q ⊢; exact q
    · rw [upd_ne hb] at q ⊢; exact R.sub b o q
  · obtain ⟨h1, ho, h2, h3⟩ := R.sto b o q
    have hb : b ≠ a := by intro z; subst z; rw [h] at h1; cases h1
    exact ⟨by rw [upd_ne hb]; exact h1, ho, by rw [upd_ne hb]; exact h2, h3.swp e⟩
/-- what comes of the locked dict, unlocked -/
theorem Stp.unlock {F H F2 H2 : Hp} {M M2 : Sto} {a : Addr} {u w : HO} (h : F a = some u) (hs : Ext F H) (hm : M a = none) (e : Stp (upd F a w) (upd H a w) M F2 H2 M2) : Stp F H M (upd F2 a u) (upd H2 a u) M2 := by
  refine ⟨fun b o q => ?_, fun b o q n => ?_, fun b q => ?_⟩
  · by_cases hb : b = a
    · subst hb; rw [h] at q; cases q; exact upd_same
    · rw [upd_ne hb]; exact e.ext b o (by rw [upd_ne hb]; exact q)
  · by_cases hb : b = a
    · subst hb
      have q' := hs _ _ h
      rw [q'] at q; cases q
      obtain ⟨_, z, _⟩ := e.kp b w upd_same n
      exact ⟨upd_same, z, fun z => by rw [h] at z; cases z⟩
    · obtain ⟨z1, z2, z3⟩ := e.kp b o (by rw [upd_ne hb]; exact q) n
      refine ⟨by rw [upd_ne hb]; exact z1, z2, fun z => ?_⟩
      rw [upd_ne hb]
      exact z3 (by rw [upd_ne hb]; exact z)
  · by_cases hb : b = a
    · subst hb; rw [upd_same] at q; cases q
    · rw [upd_ne hb] at q
      have z := e.al b q
      rw [upd_ne hb] at z; exact z
/-- the loop, when it is known what walks -/
theorem for_core {K : PySem.W.Frag} {gg : TG} {g : DTG} {bb : TS} {tb : DTS} (rg : RefG K gg g) (rb : RefS K bb tb) {J : It} {F H F1 H1 : Hp} {M M1 : Sto} {σ : L2.St} {τ : DSt} {Dn : DEnds} {E : Ends} {ds : List D}
    (e1 : Stp F H M F1 H1 M1) (R1 : Rst K F1 H1 σ τ M1) (hJ : ItD K F1 J ds) (q1 : loopD g tb Dn ds τ M1) (r : RefD K F H M Dn E) :
    ∃ W : Nat → Nat → L2.St → Hp → Prop, (∃ m, W 0 m σ H1) ∧ ∀ i m σ H, W i m σ H →
      (J.stop i H ∧ E.nx σ H) ∨ (J.go i H ∧ ∃ N : L2.St → Hp → Prop, (∀ σ' H', N σ' H' → ∃ m', m' < m ∧ W (i + 1) m' σ' H') ∧ ∀ x H', J.yld i H x H' → gg x σ H' fun σ2 H2 => bb { E with nx := N, ct := N, bk := E.nx } σ2 H2) := by
  refine ⟨fun i m σ' H' => m = ds.length - i ∧ i ≤ ds.length ∧ ∃ F' τ' M', Stp F H M F' H' M' ∧ Ext F1 F' ∧ Rst K F' H' σ' τ' M' ∧ loopD g tb Dn (ds.drop i) τ' M', ⟨ds.length, by simp, Nat.zero_le _, F1, τ, M1, e1, Ext.refl _, R1, by simpa using q1⟩, ?_⟩
  rintro i m σ2 H2 ⟨rfl, hil, F2, τ2, M2, e2, x2, R2, q2⟩
  by_cases hlt : i < ds.length
  · obtain ⟨d, hd⟩ : ∃ d, ds[i]? = some d := ⟨ds[i], List.getElem?_eq_getElem hlt⟩
    rw [drop_cons hd] at q2
    refine .inr ⟨hJ.go i F2 H2 M2 hlt x2 R2.heap, fun σ' H' => ∃ F' τ' M', Stp F H M F' H' M' ∧ Ext F1 F' ∧ Rst K F' H' σ' τ' M' ∧ loopD g tb Dn (ds.drop (i + 1)) τ' M', fun σ' H' z => ⟨ds.length - (i + 1), by omega, rfl, hlt, z⟩, fun x H' y => ?_⟩
    obtain ⟨F3, e3, R3, r3⟩ := hJ.yld i F2 H2 M2 d x H' hd x2 R2.heap y
    refine rg F3 H' σ2 τ2 M2 x d _ _ (R2.mono e3.ext R3) r3 q2 fun F4 H4 σ4 τ4 M4 e4 R4 q4 => ?_
    have s4 : Stp F H M F4 H4 M4 := (e2.trans e3).trans e4
    have x4 : Ext F1 F4 := (x2.trans e3.ext).trans e4.ext
    have go : ∀ F' H' σ' τ' M', Stp F4 H4 M4 F' H' M' → Rst K F' H' σ' τ' M' → loopD g tb Dn (ds.drop (i + 1)) τ' M' → ∃ F' τ' M', Stp F H M F' H' M' ∧ Ext F1 F' ∧ Rst K F' H' σ' τ' M' ∧ loopD g tb Dn (ds.drop (i + 1)) τ' M' :=
      fun F' H' σ' τ' M' e' R' q' => ⟨F', τ', M', s4.trans e', x4.trans e'.ext, R', q'⟩
    exact rb F4 H4 σ4 τ4 M4 _ _ R4 q4 ⟨go, fun F' H' σ' τ' M' e' R' z => r.nx F' H' σ' τ' M' (s4.trans e') R' z, go, fun v F' H' d M' e' R' rd z => r.rt v F' H' d M' (s4.trans e') R' rd z⟩
  · have e : i = ds.length := by omega
    subst e
    rw [List.drop_length] at q2
    exact .inl ⟨hJ.stop F2 H2 M2 x2 R2.heap, r.nx F2 H2 σ2 τ2 M2 e2 R2 q2⟩
def keyT : Key → D
  | .inl i => .int i
  | .inr s => .str s
theorem keyT_rel {K : PySem.W.Frag} {F : Hp} (k : Key) : RelD K F (kV k) (keyT k) := by
  cases k with
  | inl i => exact .int i
  | inr s => exact .str s
theorem RelKv.at {K : PySem.W.Frag} {F : Hp} : ∀ {vs : List (Key × V)} {ds : List (Key × D)}, RelKv K F vs ds → ∀ {i : Nat} {k : Key} {v : V}, vs[i]? = some (k, v) → ∃ d, ds[i]? = some (k, d)
  | _, _, .nil, i, k, v, h => by simp at h
  | _, _, .cons h r, 0, k, v, e => by simp at e; obtain ⟨rfl, rfl⟩ := e; exact ⟨_, rfl⟩
  | _, _, .cons h r, i + 1, k, v, e => by
    obtain ⟨d, h1⟩ := RelKv.at r (i := i) (k := k) (v := v) (by simpa using e)
    exact ⟨d, by simpa using h1⟩
theorem itd_keys {K : PySem.W.Frag} {F : Hp} {a : Addr} {o : Obj} {vs : List (Key × V)} {kvs : List (Key × D)} (h : F a = some (.frz o (.dK vs))) (r : RelKv K F vs kvs) : ItD K F (Itk a o vs) (kvs.map fun kv => keyT kv.1) where
  go := fun i F2 H2 M2 hi e R => ⟨R.sub _ _ (e _ _ h), by rw [r.length]; simpa using hi⟩
  yld := fun i F2 H2 M2 d x H' hd e R y => by
    obtain ⟨rfl, k, v, h1, rfl⟩ := y
    obtain ⟨d', h2⟩ := r.at h1
    rw [List.getElem?_map, h2] at hd
    cases hd
    exact ⟨F2, Stp.refl _ _ _, R, keyT_rel k⟩
  stop := fun F2 H2 M2 e R => ⟨R.sub _ _ (e _ _ h), by rw [r.length]; simp⟩
/-- for k in the dict of slot i -/
def dForKeys (i : Nat) (g : DTG) (tb : DTS) : DTS := fun E τ M => match τ[i]? with
  | some (some (.dct kvs)) => loopD g tb E (kvs.map fun kv => keyT kv.1) τ M
  | _ => False
def tOr (t u : TS) : TS := fun D σ H => t D σ H ∨ u D σ H
theorem ps_or {X : Cx} {st : Stmt} {t u : TS} (h1 : PS X st t) (h2 : PS X st u) : PS X st (tOr t u) := by
  refine ⟨fun pins s σ H D I h => ?_⟩
  rcases h with h | h
  · exact h1.run pins s σ H D I h
  · exact h2.run pins s σ H D I h
theorem ds_forKeys {X : Cx} {tg : Expr} {body : List Stmt} {g : DTG} {tb : DTS} {pos ps : Pos} {x : Str} (i : Nat) (hp : PassesOwn (model X.prog X.w) X.A X.env X.xe) (hc : X.calm = true) (hg : DG X tg g) (hb : DSs X body tb)
    (hN : X.N[i]? = some x := by rfl) (hv : Vis X.env.scope x := by first | exact Or.inl rfl | exact Or.inr (Or.inl rfl) | exact Or.inr (Or.inr rfl)) (hd : (x == ("__debug__" : Str)) = false := by decide)
    (hcd : (x == ("__classdict__" : Str)) = false := by decide)
    (hs : ∀ y, foldedSetIterable (.Name x ps) X.env y = pure y := by intro _; rfl) : DS X (.For tg (.Name x ps) body [] pos) (dForKeys i g tb) := by
  obtain ⟨gg, pg, rg⟩ := hg.ex
  obtain ⟨bb, pb, rb⟩ := hb.ex
  have P := ps_for (pos := pos) hp hc (pi_keys (pe_var (pos := ps) hN hv hd hcd)) pg pb hs
  refine ⟨_, ps_or (ps_lock P) P, fun F H σ τ M D E R q r => ?_⟩
  unfold dForKeys at q
  split at q
  · rename_i kvs hi
    obtain ⟨v, hv1, rv⟩ := R.slots.get i _ hi
    cases rv with
    | @dct a vs _ h1 h2 =>
      rcases h1 with h1 | ⟨o, h1⟩
      · left
        refine ⟨a, .dK vs, R.heap.sub _ _ h1, trivial, fun o => ?_⟩
        have sw := Swp.lock h1 o
        have hm : M a = none := by
          cases z : M a with
          | none => rfl
          | some u => have w := (R.heap.sto a u z).1; rw [h1] at w; cases w
        have R' : Rst X.K (upd F a (.frz o (.dK vs))) (upd H a (.frz o (.dK vs))) σ τ M := ⟨R.heap.swp h1 sw, R.slots.swp sw⟩
        have back : ∀ {F2 H2 : Hp} {M2 : Sto}, Stp (upd F a (.frz o (.dK vs))) (upd H a (.frz o (.dK vs))) M F2 H2 M2 → Rst0 X.K F2 H2 M2 → H2 a = some (.frz o (.dK vs)) ∧ Swp F2 (upd F2 a (.dK vs)) ∧ Stp F H M (upd F2 a (.dK vs)) (upd H2 a (.dK vs)) M2 ∧ Rst0 X.K (upd F2 a (.dK vs)) (upd H2 a (.dK vs)) M2 := by
          intro F2 H2 M2 e R2
          have h3 : F2 a = some (.frz o (.dK vs)) := e.ext _ _ upd_same
          exact ⟨R2.sub _ _ h3, Swp.unlock h3, Stp.unlock h1 R.heap.sub hm e, R2.swp h3 (Swp.unlock h3)⟩
        refine ⟨_, hv1, a, o, ?_, .inl ⟨vs, upd_same, ?_⟩⟩
        · rfl
        · refine for_core rg rb (Stp.refl _ _ _) R' (itd_keys upd_same (h2.swp sw)) q ⟨?_, ?_, ?_, ?_⟩
          · intro F2 H2 σ2 τ2 M2 e R2 z
            obtain ⟨z1, z2, z3, z4⟩ := back e R2.heap
            exact ⟨z1, r.nx _ _ σ2 τ2 M2 z3 ⟨z4, R2.slots.swp z2⟩ z⟩
          · intro F2 H2 σ2 τ2 M2 e R2 z
            obtain ⟨z1, z2, z3, z4⟩ := back e R2.heap
            exact ⟨z1, r.bk _ _ σ2 τ2 M2 z3 ⟨z4, R2.slots.swp z2⟩ z⟩
          · intro F2 H2 σ2 τ2 M2 e R2 z
            obtain ⟨z1, z2, z3, z4⟩ := back e R2.heap
            exact ⟨z1, r.ct _ _ σ2 τ2 M2 z3 ⟨z4, R2.slots.swp z2⟩ z⟩
          · intro v F2 H2 d M2 e R2 rd z
            obtain ⟨z1, z2, z3, z4⟩ := back e R2
            exact ⟨z1, r.rt v _ _ d M2 z3 z4 (rd.swp z2) z⟩
      · right
        exact ⟨_, hv1, a, o, rfl, .inl ⟨vs, R.heap.sub _ _ h1, for_core rg rb (Stp.refl _ _ _) R (itd_keys h1 h2) q r⟩⟩
  · exact q.elim
/-- x[::-1] of a list, a list that may change -/
@[simp] def dBackM (t : DTE) : DTE := fun τ M Q => t τ M fun x M1 => match lstOf x M1 with
  | some xs => ∀ p, M1 p = none → Q (.ref p) (M1.upd p (.lst xs.reverse))
  | none => False
section
variable {X : Cx} {e : Expr} {pos p1 p2 p3 : Pos}
theorem de_backM {k : Nat} {t : DTE} (he : DE X e t) : DE X (.Subscript e (.Slice none none (some (.UnaryOp .USub (.Constant (.int 1) k p1) p2)) p3) pos) (dBackM t) := by
  obtain ⟨u, pu, ru⟩ := he.ex
  refine ⟨_, pe_back pu, fun F H σ τ M Qd Q R q k => ?_⟩
  refine ru F H σ τ M _ _ R q fun v F1 H1 d M1 e1 R1 r1 q1 => ?_
  split at q1
  · rename_i xs hx
    obtain ⟨a, vs, rfl, hs, rs⟩ := lst_ok R1.heap r1 hx
    refine ⟨_, _, rfl, .inl ⟨SqL.of hs, fun p hp => ?_⟩⟩
    obtain ⟨e2, R2⟩ := R1.heap.fresh (o := .lst _) (u := .lst xs.reverse) hp rs.reverse
    exact k _ _ _ (.ref p) _ (e1.trans e2) (R1.mono e2.ext R2) (.ref p) (q1 p (R1.heap.free hp).2)
  · exact q1.elim
end
end DL

/-! EC: a list takes a tuple's parts. -/
namespace DL
open PySem PySem.Spec PyProof.Rows L2
theorem list_extend_tup (l : Addr) (items : Array Value) (n : Nat) (b : Addr) (items2 : Array Value) (n2 : Nat) (dct : Option Addr) (sl : Array (Option Value)) (hs0 : ¬(!items.isEmpty && Builtin.List.listTooLong (items.size + items2.size)) = true) (hs1 : items.size ≤ sizeLine) (hs2 : items.size + items2.size ≤ sizeLine + 1) :
    Meets (Builtin.«list.extend» ⟨[.ref l, .ref b], []⟩) (fun _ R s => s.heap.get? l = some { cls := .type "list", dict := none, data := .seq items n, slots := #[] } ∧ s.heap.get? b = some { cls := .type "tuple", dict := dct, data := .seq items2 n2, slots := sl } ∧ R (.ok (.ret Value.none)) { s with heap := s.heap.update l (Obj.mapSeq fun x => x ++ items2), toks := s.toks }) :=
  .of_wp fun prog w A R s h => by
    obtain ⟨hp, g, d, tk, os⟩ := s; obtain ⟨hl, hb, h⟩ := h; have f1 := AutoSeq1.idx_int; have f2 := AutoSeq1.sub_tuple_tuple; have f3 := AutoSeq1.sub_list_list; have f4 := AutoSeq1.sub_tuple_list; have f5 := AutoSeq1.sub_list_tuple
    have hz' : (items ++ items2).size ≤ sizeLine + 1 := by rw [Array.size_append]; exact hs2
    wp_walk using (wpAny_updateSeq hl rfl (hz := hs1) (_hz' := hz')), AutoSeq1.wpAny_loadPart' hl, AutoSeq1.wpAny_loadPart' hb; exact ⟨_, rfl, h⟩
section
variable {X : Cx} {o e : Expr} {apos cpos : Pos} {to te : DTE}
def rExtendT (K : PySem.W.Frag) : V → List V → Hp → VK → Prop := fun x vs H Q => ∃ l b xs zs, x = .ref l ∧ vs = [.ref b] ∧ H l = some (.lst xs) ∧ SqT K H b zs ∧ xs.length + zs.length ≤ sizeLine ∧ Q .non (upd H l (.lst (xs ++ zs)))
theorem mt_extendT : MtM X "list.extend" (rExtendT X.K) := by
  intro pins s σ H x vs v us Q I rx rv h
  obtain ⟨l, b, xs, zs, rfl, rfl, hH, hB, hz, q⟩ := h
  cases rx
  obtain ⟨u, rfl, ru⟩ := rv.one
  cases ru
  obtain ⟨z, its, n, r, hl, e⟩ := I.lstM hH
  obtain ⟨its2, r2, ⟨ob, ho, hc, n2, hd⟩, z2⟩ := I.tuple hB
  obtain ⟨c, dct, dt, sl⟩ := ob
  replace hc : c = .type "tuple" := hc
  replace hd : dt = .seq its2.toArray n2 := hd
  subst hc hd
  have hl2 := r2.length
  have hsz : its.toArray.size + its2.toArray.size ≤ sizeLine := by rw [List.size_toArray, List.size_toArray]; omega
  have hlong : ¬ (!its.toArray.isEmpty && Builtin.List.listTooLong (its.toArray.size + its2.toArray.size)) = true := by
    rw [notLongL hsz, Bool.and_false]
    exact Bool.false_ne_true
  refine call_meets F.slot_list_extend ⟨_, e, rfl⟩ F.entry_list_extend (F.args_list_extend_2 _ _)
    (list_extend_tup l its.toArray n b its2.toArray n2 dct sl hlong (by rw [List.size_toArray]; omega) (by omega)) ⟨e, ho, ?_⟩
  refine ⟨.non, _, I.lset (its' := its ++ its2) hH e (by simp) (r.append r2) ?_, rfl, q⟩
  rw [List.length_append]
  omega
/-- l.extend(t), t a tuple -/
@[simp] def dExtendT (to te : DTE) : DTE := fun τ M Q => to τ M fun x M1 => match x with
  | .ref p => (∃ xs, M1 p = some (.lst xs)) ∧ te τ M1 fun y M2 => (match M2 p, y with
    | some (.lst xs), .tup ys => xs.length + ys.length ≤ sizeLine ∧ Q .non (M2.upd p (.lst (xs ++ ys)))
    | _, _ => False)
  | _ => False
theorem de_extendT (ho : DE X o to) (he : DE X e te)
    (hbase : attributeBase o "extend" X.env (eval o X.env) = eval o X.env := by rfl)
    (hfew : ((backTo cpos (starEach [e] X.env)).all (fun x => !x.1) && (backToKw cpos (keywordEach [] X.env)).all (fun x => x.1.isSome)
      && decide ([e].length + ([] : List Keyword).length + (if ([] : List Keyword).isEmpty then 0 else 1) < 30)) = true := by rfl)
    (hline : (apos.endLine == cpos.line) = true := by rfl) (hs : starEach [e] X.env = (false, eval e X.env) :: starEach [] X.env := by rfl) (hplain : (backTo cpos (starEach [] X.env)).any (·.1) = false := by rfl) :
    DE X (.Call (.Attribute o "extend" apos) [e] [] cpos) (dExtendT to te) := by
  obtain ⟨uo, po, ro⟩ := ho.ex
  obtain ⟨ue, pe, re⟩ := he.ex
  refine ⟨_, pe_bm PySem.F.plainAttrs_list PySem.F.slot_list_extend PySem.F.type_list_extend mt_extendT po (pa_cons pe pa_nil hs) hbase hfew hline hs hplain, fun F H σ τ M Qd Q R q k => ?_⟩
  refine ro F H σ τ M _ _ R q fun v F1 H1 d M1 e1 R1 r1 q1 => ?_
  cases d <;> first | exact False.elim q1 | skip
  rename_i p
  cases r1
  obtain ⟨⟨xs0, h0⟩, q1⟩ := q1
  obtain ⟨_, ho0, hh0, hr0⟩ := R1.heap.sto p _ h0
  cases ho0 <;> first | exact False.elim hr0 | skip
  refine ⟨Or.inl ⟨rfl, _, SqL.of hh0⟩, ?_⟩
  refine re F1 H1 σ τ M1 _ _ R1 q1 fun y F2 H2 dy M2 e2 R2 r2 q2 => ?_
  split at q2
  · rename_i xs ys hp
    obtain ⟨_, hob, hh, hr⟩ := R2.heap.sto p _ hp
    cases hob <;> first | exact False.elim hr | skip
    rename_i vs
    have hr' : RelDs X.K F2 vs xs := hr
    cases r2 with
    | tup hb rb =>
      refine ⟨p, _, vs, _, rfl, rfl, hh, R2.heap.sub.sqT hb, by rw [hr'.length, rb.length]; exact q2.1, ?_⟩
      obtain ⟨e4, R4⟩ := R2.heap.write (o := .lst (vs ++ _)) (u := .lst (xs ++ ys)) hp (hr'.append rb)
      exact k _ _ _ .non _ ((e1.trans e2).trans e4) (R2.mono e4.ext R4) .non q2.2
  · exact q2.elim
end
end DL

/-! SA: sets whose members are tuples of numbers, texts, None and such tuples (fewer than 64 of them). -/
namespace DL
open PySem PySem.Spec PyProof.Rows L2
/-- the tuple at a is the key k -/
abbrev Nk (h : Heap) (k : NestedKey) (a : Addr) : Prop := NestedIs h k (.ref a) ∧ k.depth ≤ 8
theorem all_in {h : Heap} {N : Nat} : ∀ {ks : List NestedKey} {vs : List Value}, NestedAll h ks vs → NestedKey.depthAll ks ≤ N → ∀ v ∈ vs, ∃ k, NestedIs h k v ∧ k.depth ≤ N
  | _, _, .nil, _, v, hv => by cases hv
  | _, _, .cons a b, hd, v, hv => by
    simp only [NestedKey.depthAll] at hd
    rcases List.mem_cons.mp hv with e | hv
    · exact ⟨_, e ▸ a, by omega⟩
    · exact all_in b (by omega) v hv
theorem nk_grow {h h' : Heap} {k : NestedKey} {a : Addr} (x : Nk h k a) (g : ∀ b o, h.get? b = some o → h'.get? b = some o) : Nk h' k a := ⟨NestedIs.at (fun b o _ _ e _ => g b o e) k _ x.1, x.2⟩
theorem nk_but {h h' : Heap} {k : NestedKey} {a S : Addr} {o : Obj} {es : Array (Int × Value)} {ep : Nat} {t : SetTable} (x : Nk h k a) (ho : h.get? S = some o) (hd : o.data = .set es ep t) (g : Heap.SameBut S h h') : Nk h' k a :=
  ⟨NestedIs.at (fun b o' vs n e d => by
    have : b ≠ S := by
      rintro rfl
      rw [ho] at e; cases e
      rw [hd] at d; cases d
    exact (g.2 b this).trans e) k _ x.1, x.2⟩
section
variable {P : Program} {w : World} {A : Around} {E : Value → Shared → Prop} {s : Shared}
theorem not_stmt : ∀ (n : Nat) (k : NestedKey) (v : Value) (Q : Bool → Shared → Prop), NestedIs s.heap k v → k.depth ≤ n → Q false s → wpAny (model P w) A (ofAClassStatement n v) Q E s
  | n, _, _, Q, .none, _, q => by cases n <;> exact wpAny_pure q
  | n, _, _, Q, .bool _, _, q => by cases n <;> exact wpAny_pure q
  | n, _, _, Q, .int _ _, _, q => by cases n <;> exact wpAny_pure q
  | n, _, _, Q, .text _ _, _, q => by cases n <;> exact wpAny_pure q
  | 0, .tup ks, _, Q, .tup _ _ _ _, hn, _ => by simp [NestedKey.depth] at hn
  | n + 1, .tup ks, .ref b, Q, .tup (o := o) (vs := vs) ho hc hd hk, hn, q => by
    simp only [NestedKey.depth] at hn
    have hT : s.TypeIs (.ref b) "tuple" := ⟨o, ho, hc⟩
    have mem := all_in (N := n) hk (by omega)
    unfold ofAClassStatement
    refine wpAny_bind (wpAny_typeOf hT ?_)
    dsimp only
    have e : (("tuple" : String) == "tuple") = true := by decide
    simp only [e, if_true]
    try refine wpAny_bind (wpAny_pure ?_)
    try simp only [Bool.not_true, Bool.false_eq_true, if_false]
    show wpAny _ _ (seqItems? (.ref b) >>= _) _ _ s
    refine wpAny_bind (wpAny_seqItems ho hd ?_)
    dsimp only
    refine wpAny_bind ?_
    show wpAny _ _ (forIn vs _ _) _ _ s
    rw [← Array.forIn_toList]
    refine wpAny_forIn_list _ (fun l r s' => s = s' ∧ r.1 = none ∧ ∀ v ∈ l, v ∈ vs.toList) _ ?_ ?_ _ _ ⟨rfl, rfl, fun _ h => h⟩
    · rintro v l r s' ⟨rfl, hr, hl⟩
      obtain ⟨k', x, d⟩ := mem v (hl v List.mem_cons_self)
      refine wpAny_bind (not_stmt n k' v _ x d ?_)
      simp only [Bool.false_eq_true, if_false]
      exact wpAny_pure ⟨rfl, rfl, fun u hu => hl u (List.mem_cons_of_mem _ hu)⟩
    · rintro ⟨r1, r2⟩ s' ⟨rfl, hr, _⟩
      simp only at hr
      subst hr
      exact wpAny_pure q
theorem by_some : ∀ (n : Nat) (k : NestedKey) (v : Value) (Q : Bool → Shared → Prop), NestedIs s.heap k v → (∀ b, Q b s) → wpAny (model P w) A (hashByValue n v) Q E s
  | n, _, _, Q, .none, q => by cases n <;> exact wpAny_pure (q _)
  | n, _, _, Q, .bool _, q => by cases n <;> exact wpAny_pure (q _)
  | n, _, _, Q, .int _ _, q => by cases n <;> exact wpAny_pure (q _)
  | n, _, _, Q, .text _ _, q => by cases n <;> exact wpAny_pure (q _)
  | 0, .tup ks, .ref b, Q, .tup _ _ _ _, q => by exact wpAny_pure (q _)
  | n + 1, .tup ks, .ref b, Q, .tup (o := o) (vs := vs) ho hc hd hk, q => by
    have hT : s.TypeIs (.ref b) "tuple" := ⟨o, ho, hc⟩
    have mem := all_in (N := NestedKey.depthAll ks) hk (Nat.le_refl _)
    unfold hashByValue
    refine wpAny_bind (wpAny_specialOf hT F.slot_tuple_hash.lookup ?_)
    show wpAny _ _ (seqItems? (.ref b) >>= _) _ _ s
    refine wpAny_bind (wpAny_seqItems ho hd ?_)
    refine wpAny_bind ?_
    show wpAny _ _ (forIn vs _ _) _ _ s
    rw [← Array.forIn_toList]
    refine wpAny_forIn_list _ (fun l r s' => s = s' ∧ r.1 = none ∧ ∀ v ∈ l, v ∈ vs.toList) _ ?_ ?_ _ _ ⟨rfl, rfl, fun _ h => h⟩
    · rintro v l r s' ⟨rfl, hr, hl⟩
      obtain ⟨k', x, _⟩ := mem v (hl v List.mem_cons_self)
      refine wpAny_bind (by_some n k' v _ x fun b => ?_)
      cases b with
      | true =>
        simp only [Bool.not_true, Bool.false_eq_true, if_false]
        exact wpAny_pure ⟨rfl, rfl, fun u hu => hl u (List.mem_cons_of_mem _ hu)⟩
      | false =>
        simp only [Bool.not_false, if_true]
        exact wpAny_pure (wpAny_pure (q _))
    · rintro ⟨r1, r2⟩ s' ⟨rfl, hr, _⟩
      simp only at hr
      subst hr
      exact wpAny_pure (q _)
/-- looking for one of them shows nothing -/
theorem unseen {x : Addr} {k : NestedKey} (hx : Nk s.heap k x) {ys : List Value} (hy : ∀ y ∈ ys, ∃ c k', y = Value.ref c ∧ Nk s.heap k' c) {Q : Bool → Shared → Prop} (q : Q false s) : wpAny (model P w) A (searchCouldBeSeen (.ref x) ys) Q E s := by
  unfold searchCouldBeSeen
  refine wpAny_bind ?_
  refine wpAny_forIn_list _ (fun l r s' => s' = s ∧ r.1 = none ∧ ∀ v ∈ l, v ∈ ys) _ ?_ ?_ _ _ ⟨rfl, rfl, fun _ h => h⟩
  · rintro v l r s' ⟨rfl, hr, hl⟩
    obtain ⟨c, k', rfl, hc⟩ := hy v (hl v List.mem_cons_self)
    have go : ∀ u ∈ l, u ∈ ys := fun u hu => hl u (List.mem_cons_of_mem _ hu)
    dsimp only
    by_cases same : (x == c || (carriedByValue (.ref x) && carriedByValue (.ref c))) = true
    · exact wp_if_pos same (wpAny_pure ⟨rfl, rfl, go⟩)
    · refine wp_if_neg same (wpAny_bind (quiet_key k _ 8 s' hx.1 hx.2 _ _ _ ?_))
      simp only [Bool.not_true, Bool.false_eq_true, if_false]
      refine wpAny_bind (quiet_key k' _ 8 s' hc.1 hc.2 _ _ _ ?_)
      simp only [Bool.not_true, Bool.false_eq_true, if_false]
      refine wpAny_bind (not_stmt 8 k _ _ hx.1 hx.2 ?_)
      simp only [Bool.false_eq_true, if_false]
      refine wpAny_bind (not_stmt 8 k' _ _ hc.1 hc.2 ?_)
      simp only [Bool.false_eq_true, if_false]
      exact wpAny_pure ⟨rfl, rfl, go⟩
  · rintro ⟨r1, r2⟩ s' ⟨rfl, hr, _⟩
    simp only at hr
    subst hr
    exact wpAny_pure q
end
/-! ### the set at S of the tuples L; κ says which key stands where -/
abbrev rowK (w : World) (κ : Addr → NestedKey) (a : Addr) : Int × Value := ((κ a).hash w, .ref a)
structure SetN (w : World) (κ : Addr → NestedKey) (h : Heap) (S : Addr) (L : List Addr) (es : Array (Int × Value)) (ep : Nat) (t : SetTable) : Prop where
  ob : ∃ o, h.get? S = some o ∧ o.ExactSet ∧ o.data = .set es ep t
  rows : es.toList = L.map (rowK w κ)
  tab : TabOk t (L.map fun a => (κ a).hash w)
  nd : (L.map κ).Nodup
  key : ∀ a ∈ L, Nk h (κ a) a
  led : w.params.followText "set-order" = true ∨ t.led = true
  room : L.length * 5 < t.mask * 3
  few : L.length < 64
theorem rows_size {w : World} {κ : Addr → NestedKey} {L : List Addr} {es : Array (Int × Value)} (h : es.toList = L.map (rowK w κ)) : es.size = L.length := by
  rw [← Array.length_toList, h, List.length_map]
theorem rows_at {w : World} {κ : Addr → NestedKey} {L : List Addr} {es : Array (Int × Value)} (h : es.toList = L.map (rowK w κ)) {i : Nat} {a : Addr} (e : L[i]? = some a) : es[i]? = some (rowK w κ a) := by
  rw [← Array.getElem?_toList, h, List.getElem?_map, e]; rfl
theorem fits_of {t : SetTable} {n : Nat} (h1 : t.place.size = n) (h2 : t.dummies = #[]) (h3 : n ≤ t.mask) : t.fits n = true := by
  have e : t.fill = n := by unfold SetTable.fill; rw [h2, h1]; rfl
  simp [SetTable.fits, e, h1, h3]
section
variable {P : Program} {w : World} {A : Around} {E : Value → Shared → Prop} {s : Shared} {κ : Addr → NestedKey} {S : Addr} {L : List Addr} {es : Array (Int × Value)} {ep : Nat} {t : SetTable}
theorem SetN.fits (R : SetN w κ s.heap S L es ep t) : t.fits es.size = true := by
  have h1 := R.tab.sz
  have h2 := rows_size R.rows
  have h3 := R.room
  rw [List.length_map] at h1
  exact fits_of (by omega) R.tab.dm (by omega)
theorem probe_clear (m : Nat) : ∀ (n : Nat) (p : SetTable.Probe), p.dummy = none → (nth m p n).dummy = none
  | 0, _, h => h
  | n + 1, p, h => probe_clear m n (adv m p) (by unfold adv; split <;> exact h)
/-- where the way of hash h stands after c steps -/
abbrev onWay (m : Nat) (h : Int) (c : Nat) : SetTable.Probe := nth m (runAt m (SetTable.bits h % (m + 1)) (SetTable.bits h)) c
theorem onWay_add (m : Nat) (h : Int) (c q : Nat) : nth m (onWay m h c) q = onWay m h (c + q) := (nth_add m c _ q).symm
/-- the search, from the c-th step of the way on; K is the first empty place -/
theorem seek (R : SetN w κ s.heap S L es ep t) {x : Addr} {k : NestedKey} (hx : Nk s.heap k x) (hu : A.units + 8 < cLine) {K : Nat} (hKf : K < 10 * SetTable.turns t.mask)
    (hK : way t.mask (k.hash w) K ∉ t.place.toList) (hKb : ∀ c, c < K → way t.mask (k.hash w) c ∈ t.place.toList) {Q : SetFound → Shared → Prop}
    (yes : k ∈ L.map κ → Q (.there none) s) (no : k ∉ L.map κ → Q (.free (way t.mask (k.hash w) K) false) s) :
    ∀ (f c : Nat) (stand : Option SetTable.Probe), stand.getD (t.probeStart (k.hash w)) = onWay t.mask (k.hash w) c → c ≤ K → K - c < f →
      (∀ (i : Nat) b, L[i]? = some b → κ b = k → ∃ c', c ≤ c' ∧ c' < K ∧ t.place.toList[i]? = some (way t.mask (k.hash w) c')) →
      wpAny (model P w) A (setSearchFrom S (.ref x) (k.hash w) true f stand) Q E s := by
  intro f
  induction f with
  | zero => intro c _ _ _ hf; exact absurd hf (Nat.not_lt_zero _)
  | succ f ih =>
    intro c stand hst hc hf later
    obtain ⟨o, ho, _, hd⟩ := R.ob
    have gone : ¬ t.gaveWay = true := by
      unfold SetTable.gaveWay
      rw [mask_odd R.tab.mok]; decide
    have jw : ∀ q, (nth t.mask (onWay t.mask (k.hash w) c) q).j = way t.mask (k.hash w) (c + q) := fun q => congrArg SetTable.Probe.j (onWay_add _ _ _ _)
    have hashAt : ∀ (i : Nat) b, L[i]? = some b → (es[i]?.map (·.1)).getD 0 = (κ b).hash w := fun i b e => by rw [rows_at R.rows e]; rfl
    have spec := go_spec t R.tab.ris R.tab.dm (fun i => (es[i]?.map (·.1)).getD 0) (k.hash w) (10 * SetTable.turns t.mask) (K - c) (onWay t.mask (k.hash w) c) (probe_clear _ _ _ rfl) (by omega)
      (fun q hq => by rw [jw]; exact hKb _ (by omega)) (by rw [jw, show c + (K - c) = K by omega]; exact hK)
    rw [setSearchFrom_succ]
    refine wpAny_bind (wpAny_setState_of ho hd R.fits ?_)
    dsimp only
    refine wp_if_neg gone ?_
    try refine wpAny_bind (wpAny_pure ?_)
    rcases spec with ⟨q, i, hq, hi, _, before, found⟩ | ⟨before, found⟩
    · -- one of the same hash
      rw [jw] at hi
      have hp : t.probe (fun i => (es[i]?.map (·.1)).getD 0) (k.hash w) (stand.getD (t.probeStart (k.hash w))) = some (.candidate (way t.mask (k.hash w) (c + q)) i (onWay t.mask (k.hash w) (c + (q + 1)))) := by
        rw [hst, ← jw, ← onWay_add]; exact found
      have hiL : i < L.length := by
        have h1 := (List.getElem?_eq_some_iff.mp hi).1
        have h2 := R.tab.sz
        rw [List.length_map] at h2
        rw [Array.length_toList] at h1
        omega
      obtain ⟨b, hb⟩ : ∃ b, L[i]? = some b := ⟨L[i], List.getElem?_eq_getElem hiL⟩
      have bL : b ∈ L := List.mem_of_getElem? hb
      have live : t.slot (way t.mask (k.hash w) (c + q)) = .live i := slot_live R.tab.ris hi
      have rest : wpAny (model P w) A (searchRest S (.ref x) (k.hash w) true f es t (way t.mask (k.hash w) (c + q)) i (onWay t.mask (k.hash w) (c + (q + 1)))) Q E s := by
        unfold searchRest
        rw [rows_at R.rows hb]
        dsimp only
        refine wpAny_bind (wpAny_holding ((nestedKind P w).eqBool hu (R.key b bL) hx ?_))
        refine wpAny_bind (wpAny_setState_of ho hd R.fits ?_)
        dsimp only
        by_cases eq : κ b = k
        · exact wp_if_pos (by simp [eq]) (wpAny_pure (yes (List.mem_map.mpr ⟨b, bL, eq⟩)))
        · refine wp_if_neg (by simp [eq]) ?_
          try refine wpAny_bind (wpAny_pure ?_)
          rw [sameMem]
          simp only [if_true, live, rows_at R.rows hb]
          refine wpAny_bind (wpAny_isSame_ref_self (wpAny_bind (wpAny_pure ?_)))
          simp only [if_true]
          refine wp_if_neg (by simp [eq]) (ih (c + (q + 1)) _ rfl (by omega) (by omega) fun i0 b0 h0 e0 => ?_)
          obtain ⟨c', a1, a2, a3⟩ := later i0 b0 h0 e0
          have h1 : ¬ c' < c + q := fun z => before (c' - c) i0 (by omega) (by rw [jw, show c + (c' - c) = c' by omega]; exact a3) ((hashAt i0 b0 h0).trans (by rw [e0]))
          have h2 : c' ≠ c + q := by
            rintro rfl
            have s0 := slot_live R.tab.ris a3
            rw [live] at s0
            injection s0 with s0
            subst s0
            rw [hb] at h0; cases h0
            exact eq e0
          exact ⟨c', by omega, a2, a3⟩
      rw [hp]
      dsimp only
      by_cases hl : t.led = true
      · refine wp_if_neg (by simp [hl]) ?_
        try refine wpAny_bind (wpAny_pure ?_)
        exact rest
      · refine wp_if_pos (by simp [hl]) (wpAny_bind (unseen hx (fun y hy => ?_) ?_))
        · obtain ⟨e, he, rfl⟩ := List.mem_map.mp hy
          have h1 : e ∈ es := by
            have : e ∈ es ∧ e.1 = k.hash w := by simpa using he
            exact this.1
          have h2 : e ∈ es.toList := by simpa using h1
          rw [R.rows] at h2
          obtain ⟨a, ha, rfl⟩ := List.mem_map.mp h2
          exact ⟨a, κ a, rfl, R.key a ha⟩
        · refine wp_if_neg (by decide) ?_
          try refine wpAny_bind (wpAny_pure ?_)
          exact rest
    · -- the empty place
      have hp : t.probe (fun i => (es[i]?.map (·.1)).getD 0) (k.hash w) (stand.getD (t.probeStart (k.hash w))) = some (.empty (way t.mask (k.hash w) K) none) := by
        have : way t.mask (k.hash w) K = (nth t.mask (onWay t.mask (k.hash w) c) (K - c)).j := by rw [jw, show c + (K - c) = K by omega]
        rw [hst, this]; exact found
      rw [hp]
      dsimp only
      refine wpAny_pure (no fun hm => ?_)
      obtain ⟨b, hb, e⟩ := List.mem_map.mp hm
      obtain ⟨i, hi⟩ := List.getElem?_of_mem hb
      obtain ⟨c', a1, a2, a3⟩ := later i b hi e
      exact before (c' - c) i (by omega) (by rw [jw, show c + (c' - c) = c' by omega]; exact a3) ((hashAt i b hi).trans (by rw [e]))
theorem seek_all (R : SetN w κ s.heap S L es ep t) {x : Addr} {k : NestedKey} (hx : Nk s.heap k x) (hu : A.units + 8 < cLine) {Q : SetFound → Shared → Prop} (yes : k ∈ L.map κ → Q (.there none) s)
    (no : ∀ K, k ∉ L.map κ → way t.mask (k.hash w) K ∉ t.place.toList → (∀ c, c < K → way t.mask (k.hash w) c ∈ t.place.toList) → Q (.free (way t.mask (k.hash w) K) false) s) :
    wpAny (model P w) A (setSearch S (.ref x) (k.hash w) true) Q E s := by
  have hr := R.room
  obtain ⟨K, hKf, hK, hKb⟩ := R.tab.first (by rw [List.length_map]; omega) (k.hash w)
  have : 10 * SetTable.turns t.mask ≤ 1420 := by
    unfold SetTable.turns
    rcases R.tab.mok with e | e | e <;> omega
  unfold setSearch
  refine seek R hx hu hKf hK hKb yes (fun h => no K h hK hKb) 100000 0 none rfl (Nat.zero_le _) (by omega) fun i b hb e => ?_
  have h1 : (L.map fun a => (κ a).hash w)[i]? = some (k.hash w) := by rw [List.getElem?_map, hb, ← e]; rfl
  have h2 : i < t.place.toList.length := by
    have := R.tab.sz
    rw [List.length_map] at this
    have := (List.getElem?_eq_some_iff.mp hb).1
    rw [Array.length_toList]; omega
  obtain ⟨c, hc, ec⟩ := R.tab.before hK h1 (List.getElem?_eq_getElem h2)
  exact ⟨c, Nat.zero_le _, hc, by rw [List.getElem?_eq_getElem h2, ec]⟩
/-! ### the table laid anew -/
theorem pick_all {α : Type} (L : List α) : (List.range L.length).filterMap (fun i => L[i]?) = L := by
  have some_of : ∀ n, n ≤ L.length → (List.range n).filterMap (fun i => L[i]?) = L.take n := by
    intro n hn
    induction n with
    | zero => simp
    | succ n ih =>
      have h := ih (by omega)
      have hl : L[n]? = some (L[n]'(by omega)) := List.getElem?_eq_getElem (by omega)
      rw [List.range_succ, List.filterMap_append, h, List.take_add_one, hl]
      simp [hl]
  rw [some_of _ (Nat.le_refl _), List.take_length]
theorem pick_rows {w : World} {κ : Addr → NestedKey} {L : List Addr} {es : Array (Int × Value)} (h : es.toList = L.map (rowK w κ)) {order : Array Nat} (hp : order.toList.Perm (List.range L.length)) :
    ∃ L2 : List Addr, (order.filterMap (es[·]?)).toList = L2.map (rowK w κ) ∧ L2.Perm L ∧ L2.map (fun a => (κ a).hash w) = order.toList.map fun i => (es.map (·.1)).getD i 0 := by
  refine ⟨order.toList.filterMap fun i => L[i]?, ?_, ?_, ?_⟩
  · rw [Array.toList_filterMap, List.map_filterMap]
    congr 1
    funext i
    cases e : L[i]? with
    | some a => rw [rows_at h e]; rfl
    | none =>
      have : es[i]? = none := by
        rw [Array.getElem?_eq_none_iff, rows_size h]
        exact List.getElem?_eq_none_iff.mp e
      rw [this]; rfl
  · have := hp.filterMap fun i => L[i]?
    rw [pick_all] at this
    exact this
  · rw [List.map_filterMap]
    have lt : ∀ i ∈ order.toList, i < L.length := fun i hi => List.mem_range.mp (hp.mem_iff.mp hi)
    revert lt
    generalize order.toList = l
    intro lt
    induction l with
    | nil => rfl
    | cons i l ih =>
      have hi := lt i (by simp)
      have e : L[i]? = some (L[i]) := List.getElem?_eq_getElem hi
      have e2 := rows_at h e
      rw [List.filterMap_cons_some (b := (κ L[i]).hash w) (by rw [e]; rfl), List.map_cons, ih fun j hj => lt j (by simp [hj])]
      congr 1
      simp [Array.getD_eq_getD_getElem?, Array.getElem?_map, e2]
/-- the table laid anew, larger -/
theorem lay_anew {o : Obj} (ho : s.heap.get? S = some o) (hex : o.ExactSet) (hd : o.data = .set es ep t) (rows : es.toList = L.map (rowK w κ)) (hsz : t.place.size = es.size) (hdm : t.dummies = #[]) (hfl : es.size ≤ t.mask) (nd : (L.map κ).Nodup)
    (key : ∀ a ∈ L, Nk s.heap (κ a) a) (ld : w.params.followText "set-order" = true ∨ t.led = true) (few : L.length < 64) {wanted M : Nat} (hw : SetTable.sizeAbove wanted - 1 = M) (hM : MaskOk M) (hw2 : SetTable.sizeAbove wanted ≤ 128) (hn : L.length * 5 < M * 3)
    {Q : Unit → Shared → Prop} (q : ∀ h' L' es' ep' t', Heap.SameBut S s.heap h' → SetN w κ h' S L' es' ep' t' → L'.Perm L → Q () { s with heap := h' }) : wpAny (model P w) A (setRelay S wanted) Q E s := by
  have hsl := rows_size rows
  obtain ⟨t', order, e, hp, T, em, el, _, _⟩ := relaid_ok t (hs := es.map (·.1)) (wanted := wanted) hw hM (by rw [Array.size_map, hsl]; omega)
  rw [Array.size_map, hsl] at hp
  obtain ⟨L2, r1, r2, r3⟩ := pick_rows rows hp
  rw [← r3] at T
  have hs2 : (order.filterMap (es[·]?)).size = es.size := by rw [rows_size r1, r2.length_eq, hsl]
  rw [setRelay_eq]
  refine wpAny_bind (wpAny_setState_of ho hd (fits_of hsz hdm hfl) ?_)
  dsimp only
  refine wp_if_neg (by rw [sizeLine_eq]; omega) ?_
  try refine wpAny_bind (wpAny_pure ?_)
  rw [e]
  dsimp only
  refine wpAny_bind (wp_if_neg (by rw [hs2]; simp) ?_)
  try refine wpAny_bind (wpAny_pure ?_)
  refine wpAny_pure ?_
  dsimp only
  refine wpAny_storeSet_of ho hd ?_ (by rw [hs2, hsl, sizeLine_eq]; omega)
  have sb : Heap.SameBut S s.heap (s.heap.update S (Obj.putSet (order.filterMap (es[·]?)) t')) := Heap.SameBut.update ..
  exact q _ L2 _ (ep + 1) t' sb ⟨⟨_, store_at ho hd, ⟨hex.1, hex.2.1, hex.2.2⟩, rfl⟩, r1, T, (r2.map κ).nodup_iff.mpr nd, fun a ha => nk_but (key a (r2.mem_iff.mp ha)) ho hd sb, by rw [el]; exact ld, by rw [r2.length_eq, em]; exact hn, by rw [r2.length_eq]; exact few⟩ r2
/-- one more -/
theorem put_one (R : SetN w κ s.heap S L es ep t) {x : Addr} (hx : Nk s.heap (κ x) x) (hu : A.units + 8 < cLine) (hfew : L.length + 1 < 64) {Q : Bool → Shared → Prop}
    (q : ∀ b h' L' es' ep' t', Heap.SameBut S s.heap h' → SetN w κ h' S L' es' ep' t' → (κ x ∈ L.map κ → L' = L) → (κ x ∉ L.map κ → L'.Perm (x :: L)) → Q b { s with heap := h' }) :
    wpAny (model P w) A (setAddHashed S (.ref x) ((κ x).hash w)) Q E s := by
  obtain ⟨o, ho, hex, hd⟩ := R.ob
  have hsl := rows_size R.rows
  have hroom := R.room
  unfold setAddHashed
  refine wpAny_holding ?_
  rw [show (100000 : Nat) = 99999 + 1 from rfl, setAddHashedIn_succ]
  refine wpAny_bind (wpAny_setState_of ho hd R.fits ?_)
  dsimp only
  refine wp_if_neg (by simp [byScan, Value.scannable]) ?_
  try refine wpAny_bind (wpAny_pure ?_)
  refine wpAny_bind (seek_all R hx hu (fun hm => ?_) fun K hm hK hb => ?_)
  · exact wpAny_pure (q false s.heap L es ep t (Heap.SameBut.refl S s.heap) R (fun _ => rfl) fun z => absurd hm z)
  · dsimp only
    refine wpAny_bind (wpAny_setState_of ho hd R.fits ?_)
    dsimp only
    obtain ⟨q1, _, q3, q4, q5, _, _, _, q9⟩ := R.tab.put hK hb
    -- whatever the hash says of it
    have rest : ∀ t1 : SetTable, (∃ pl, t1 = { (t.put (way t.mask ((κ x).hash w) K)).1 with plain := pl }) →
        wpAny (model P w) A (do
          storeSet S (SetTable.insertAt es (t.put (way t.mask ((κ x).hash w) K)).2 ((κ x).hash w, .ref x)) t1
          if !false && t1.tooFull then setRelay S (SetTable.grown (es.size + 1))
          return true) Q E s := by
      rintro t1 ⟨pl, et⟩
      have m1 : t1.mask = t.mask := by rw [et]; exact q4
      have l1 : t1.led = t.led := by rw [et]; exact q5
      have T1 : TabOk t1 ((L.map fun a => (κ a).hash w).take (SetTable.below t.place (way t.mask ((κ x).hash w) K)) ++ (κ x).hash w :: (L.map fun a => (κ a).hash w).drop (SetTable.below t.place (way t.mask ((κ x).hash w) K))) := by
        rw [et]; exact ⟨q3.ris, q3.dm, q3.sz, q3.mok, q3.bd, q3.reach⟩
      have f1 : t1.fill = (L.map fun a => (κ a).hash w).length + 1 := by rw [et]; exact q9
      clear et
      rw [q1]
      generalize SetTable.below t.place (way t.mask ((κ x).hash w) K) = p at T1 ⊢
      have hin : (SetTable.insertAt es p ((κ x).hash w, Value.ref x)).toList = (L.take p ++ x :: L.drop p).map (rowK w κ) := by
        rw [SetTable.toList_insertAt, R.rows, List.map_append, List.map_cons, List.map_take, List.map_drop]
      have pm : (L.take p ++ x :: L.drop p).Perm (x :: L) := by
        have := List.perm_middle (a := x) (l₁ := L.take p) (l₂ := L.drop p)
        rwa [List.take_append_drop] at this
      have T2 : TabOk t1 ((L.take p ++ x :: L.drop p).map fun a => (κ a).hash w) := by
        rw [List.map_append, List.map_cons, List.map_take, List.map_drop]; exact T1
      have n1 : ((L.take p ++ x :: L.drop p).map κ).Nodup := by
        refine (pm.map κ).nodup_iff.mpr ?_
        rw [List.map_cons]
        exact List.nodup_cons.mpr ⟨hm, R.nd⟩
      have len : (L.take p ++ x :: L.drop p).length = L.length + 1 := pm.length_eq
      generalize SetTable.insertAt es p ((κ x).hash w, Value.ref x) = es1 at hin ⊢
      generalize L.take p ++ x :: L.drop p = L1 at hin pm T2 n1 len
      have z1 := rows_size hin
      refine wpAny_bind (wpAny_storeSet_of ho hd ?_ (by rw [z1, len, sizeLine_eq]; omega))
      have sb : Heap.SameBut S s.heap (s.heap.update S (Obj.putSet es1 t1)) := Heap.SameBut.update ..
      have ho1 := store_at (es' := es1) (t' := t1) ho hd
      generalize s.heap.update S (Obj.putSet es1 t1) = h1 at sb ho1 ⊢
      have key1 : ∀ a ∈ L1, Nk h1 (κ a) a := fun a ha => by
        rcases List.mem_cons.mp (pm.mem_iff.mp ha) with e | ha
        · rw [e]; exact nk_but hx ho hd sb
        · exact nk_but (R.key a ha) ho hd sb
      have ld1 : w.params.followText "set-order" = true ∨ t1.led = true := by rw [l1]; exact R.led
      have full : t1.tooFull = decide ((L.length + 1) * 5 ≥ t1.mask * 3) := by
        unfold SetTable.tooFull
        rw [f1, List.length_map]
      by_cases hf : t1.tooFull = true
      · have hfull : (L.length + 1) * 5 ≥ t1.mask * 3 := by rw [full] at hf; exact of_decide_eq_true hf
        have pz : t1.place.size = es1.size := by rw [T2.sz, List.length_map, z1]
        have which : (t.mask = 7 ∧ L.length = 4) ∨ (t.mask = 31 ∧ L.length = 18) := by
          rcases R.tab.mok with e | e | e
          · exact .inl ⟨e, by rw [m1, e] at hfull; rw [e] at hroom; omega⟩
          · exact .inr ⟨e, by rw [m1, e] at hfull; rw [e] at hroom; omega⟩
          · exfalso; rw [m1, e] at hfull; omega
        have more : ∀ M, SetTable.sizeAbove (SetTable.grown (L.length + 1)) - 1 = M → MaskOk M → SetTable.sizeAbove (SetTable.grown (L.length + 1)) ≤ 128 → (L.length + 1) * 5 < M * 3 →
            wpAny (model P w) A (setRelay S (SetTable.grown (L.length + 1))) (fun _ s' => wpAny (model P w) A (pure true) Q E s') E { s with heap := h1 } := fun M a1 a2 a3 a4 =>
          lay_anew (s := { s with heap := h1 }) ho1 ⟨hex.1, hex.2.1, hex.2.2⟩ rfl hin pz T2.dm (by rw [z1, len, m1]; rcases which with ⟨e, e2⟩ | ⟨e, e2⟩ <;> omega) n1 key1 ld1 (by omega) a1 a2 a3 (by omega)
            fun h2 L2 es2 ep2 t2 sb2 R2 pm2 => wpAny_pure (q true h2 L2 es2 ep2 t2 (sb.trans sb2) R2 (fun z => absurd z hm) fun _ => pm2.trans pm)
        rw [hsl]
        have go : wpAny (model P w) A (setRelay S (SetTable.grown (L.length + 1))) (fun _ s' => wpAny (model P w) A (pure true) Q E s') E { s with heap := h1 } := by
          rcases which with ⟨_, e⟩ | ⟨_, e⟩
          · exact more 31 (by rw [e, size_20]) (.inr (.inl rfl)) (by rw [e, size_20]; decide) (by omega)
          · exact more 127 (by rw [e, size_76]) (.inr (.inr rfl)) (by rw [e, size_76]; decide) (by omega)
        first
          | exact wpAny_bind (wp_if_pos (by simp [hf]) go)
          | exact wp_if_pos (by simp [hf]) (wpAny_bind go)
      · have end_ : wpAny (model P w) A (pure true) Q E { s with heap := h1 } := wpAny_pure (q true h1 L1 es1 (ep + 1) t1 sb ⟨⟨_, ho1, ⟨hex.1, hex.2.1, hex.2.2⟩, rfl⟩, hin, T2, n1, key1, ld1, (by
          rw [full, decide_eq_true_eq] at hf
          omega), by omega⟩ (fun z => absurd z hm) fun _ => pm)
        first
          | exact wp_if_neg (by simp [hf]) end_
          | exact wpAny_bind (wp_if_neg (by simp [hf]) (wpAny_pure end_))
    have any : ∀ b : Bool, wpAny (model P w) A (do
          let t1 := if b then (t.put (way t.mask ((κ x).hash w) K)).1 else { (t.put (way t.mask ((κ x).hash w) K)).1 with plain := false }
          storeSet S (SetTable.insertAt es (t.put (way t.mask ((κ x).hash w) K)).2 ((κ x).hash w, .ref x)) t1
          if !false && t1.tooFull then setRelay S (SetTable.grown (es.size + 1))
          return true) Q E s := fun b => by
      cases b with
      | true => exact rest _ ⟨(t.put (way t.mask ((κ x).hash w) K)).1.plain, rfl⟩
      | false => exact rest _ ⟨false, rfl⟩
    by_cases hpl : (t.put (way t.mask ((κ x).hash w) K)).1.plain = true
    · first
        | exact wpAny_bind (wp_if_pos hpl (by_some 8 _ _ _ hx.1 any))
        | exact wp_if_pos hpl (wpAny_bind (by_some 8 _ _ _ hx.1 any))
    · first
        | exact wpAny_bind (wp_if_neg hpl (wpAny_pure (any true)))
        | exact wp_if_neg hpl (any true)
        | exact wp_if_neg hpl (wpAny_bind (wpAny_pure (any true)))
end
end DL

/-! SB: set(xs) of a list of such tuples; sorted of it. -/
namespace DL
open PySem PySem.Spec PyProof.Rows L2
/-- what came in of the first i -/
structure Met (κ : Addr → NestedKey) (as : List Addr) (i : Nat) (L : List Addr) : Prop where
  sub : ∀ a ∈ L, a ∈ as.take i
  all : ∀ a ∈ as.take i, κ a ∈ L.map κ
  len : L.length ≤ i
theorem Met.next {κ : Addr → NestedKey} {as L L' : List Addr} {i : Nat} {x : Addr} (g : Met κ as i L) (h : as[i]? = some x) (c1 : κ x ∈ L.map κ → L' = L) (c2 : κ x ∉ L.map κ → L'.Perm (x :: L)) : Met κ as (i + 1) L' := by
  have tk : as.take (i + 1) = as.take i ++ [x] := by rw [List.take_add_one, h]; rfl
  by_cases c : κ x ∈ L.map κ
  · rw [c1 c]
    refine ⟨fun a ha => by rw [tk]; exact List.mem_append_left _ (g.sub a ha), fun a ha => ?_, Nat.le_succ_of_le g.len⟩
    rw [tk] at ha
    rcases List.mem_append.mp ha with ha | ha
    · exact g.all a ha
    · rw [List.mem_singleton.mp ha]; exact c
  · have p := c2 c
    refine ⟨fun a ha => ?_, fun a ha => ?_, by rw [p.length_eq]; exact Nat.succ_le_succ g.len⟩
    · rw [tk]
      rcases List.mem_cons.mp (p.mem_iff.mp ha) with e | ha
      · rw [e]; simp
      · exact List.mem_append_left _ (g.sub a ha)
    · rw [(p.map κ).mem_iff, List.map_cons]
      rw [tk] at ha
      rcases List.mem_append.mp ha with ha | ha
      · exact List.mem_cons_of_mem _ (g.all a ha)
      · rw [List.mem_singleton.mp ha]; simp
theorem SetN.move {w : World} {κ : Addr → NestedKey} {h h' : Heap} {S : Addr} {L : List Addr} {es : Array (Int × Value)} {ep : Nat} {t : SetTable} (R : SetN w κ h S L es ep t) (hS : ∀ o, h.get? S = some o → h'.get? S = some o) (hk : ∀ a ∈ L, Nk h' (κ a) a) : SetN w κ h' S L es ep t := by
  obtain ⟨o, ho, r⟩ := R.ob
  exact { R with ob := ⟨o, hS o ho, r⟩, key := hk }
theorem set_empty {w : World} {κ : Addr → NestedKey} {h : Heap} {S : Addr} (ho : h.get? S = some { cls := .type "set", dict := none, data := .set #[] 0 (.fresh 0 0 (!w.params.followText "set-order")) }) : SetN w κ h S [] #[] 0 (.fresh 0 0 (!w.params.followText "set-order")) := by
  refine ⟨⟨_, ho, ⟨rfl, rfl, rfl⟩, rfl⟩, rfl, ⟨List.Pairwise.nil, rfl, rfl, .inl rfl, fun x hx => (by cases hx), fun i h j hi => (by simp at hi)⟩, List.nodup_nil, fun _ z => (by cases z), ?_, ?_, ?_⟩
  · show _ ∨ (!w.params.followText "set-order") = true
    cases w.params.followText "set-order" <;> simp
  · show 0 * 5 < 7 * 3
    decide
  · show 0 < 64
    decide
section
variable {P : Program} {w : World} {A : Around} {E : Value → Shared → Prop} {s : Shared} {κ : Addr → NestedKey}
/-- the loop of set.update, over what walks -/
theorem update_loop {I S : Addr} {fp wr : List Addr} {G : Array GenState → Array GenState → Prop} {Pv : Nat → Value → Prop} {St : Nat → Shared → Prop} {R : Result → Shared → Prop} {as : List Addr} (W : WalksS P w A.in1 I fp wr G as.length Pv St) (hSf : S ∉ fp)
    (few : as.length < 64) (hval : ∀ i v, Pv i v → ∃ a, as[i]? = some a ∧ v = .ref a) (h0 : Heap) (hk : ∀ a ∈ as, Nk h0 (κ a) a) (hS0 : h0.get? S = none) (hw0 : ∀ b ∈ wr, h0.get? b = none) (hu : A.in1.units + 8 < cLine) :
    ∀ (j i : Nat) (s : Shared), i + j = as.length → St i s → (∀ b o, h0.get? b = some o → s.heap.get? b = some o) → (∃ L es ep t, SetN w κ s.heap S L es ep t ∧ Met κ as i L) →
      (∀ s' L es ep t, Moved (S :: wr) G s s' → SetN w κ s'.heap S L es ep t → Met κ as as.length L → (∀ b o, h0.get? b = some o → s'.heap.get? b = some o) → R (.ok (.ret .none)) s') →
      codeAny (model P w) A (.builtin "set.update.loop" ⟨[.ref S, .ref I], []⟩) R s := by
  have out : S ∉ wr := fun h => hSf (W.sub _ h)
  have wider : ∀ b ∈ wr, b ∈ S :: wr := fun b hb => List.mem_cons_of_mem _ hb
  have still : ∀ {s s' : Shared}, Moved wr G s s' → (∀ b o, h0.get? b = some o → s.heap.get? b = some o) → ∀ b o, h0.get? b = some o → s'.heap.get? b = some o := fun hm k b o e =>
    hm.heap b o (fun hb => by rw [hw0 b hb] at e; cases e) (k b o e)
  intro j
  induction j with
  | zero =>
    intro i s hij hst k0 ⟨L, es, ep, t, hS, g⟩ hR
    obtain rfl : i = as.length := by omega
    refine codeAny_builtin F.entry_set_update_loop ?_
    rw [Around.under_plainId F.plain_set_update_loop _]
    show wpAny _ A.in1 (pyNext (.ref I) >>= _) _ _ s
    refine wpAny_bind (W.done s _ _ hst fun s' hm => ?_)
    have k1 := still hm k0
    exact wpAny_pure (hR s' L es ep t (hm.mono wider) (hS.move (fun o e => hm.heap S o out e) fun a ha => nk_grow (hk a (List.mem_of_mem_take (g.sub a ha))) k1) g k1)
  | succ j ih =>
    intro i s hij hst k0 ⟨L, es, ep, t, hS, g⟩ hR
    refine codeAny_builtin F.entry_set_update_loop ?_
    rw [Around.under_plainId F.plain_set_update_loop _]
    show wpAny _ A.in1 (pyNext (.ref I) >>= _) _ _ s
    refine wpAny_bind (W.item i s _ _ (by omega) hst fun v s' hP hst' hm => ?_)
    obtain ⟨x, hx0, rfl⟩ := hval i v hP
    have k1 := still hm k0
    have hx : Nk s'.heap (κ x) x := nk_grow (hk x (List.mem_of_getElem? hx0)) k1
    show wpAny _ A.in1 (holding [Value.ref x] (setAdd S (.ref x)) >>= _) _ _ s'
    refine wpAny_bind (wpAny_holding ?_)
    unfold setAdd
    refine wpAny_holding (wpAny_bind ((nestedKind P w).pyHash hu hx ?_))
    refine put_one (s := { s' with toks := s'.toks + (κ x).draws }) (hS.move (fun o e => hm.heap S o out e) fun a ha => nk_grow (hk a (List.mem_of_mem_take (g.sub a ha))) k1) hx hu (by have := g.len; omega) fun b h' L' es' ep' t' hsb hS2 c1 c2 => ?_
    have k2 : ∀ b o, h0.get? b = some o → h'.get? b = some o := fun b o e => (hsb.2 b (fun z => by rw [z, hS0] at e; cases e)).trans (k1 b o e)
    refine wpAny_pure ⟨plainId_quiet F.plain_set_update_loop _, ih (i + 1) _ (by omega) (W.frame _ s' _ _ hst' (Nat.le_add_right _ _) fun b hb o e => ?_) k2 ⟨L', es', ep', t', hS2, g.next hx0 c1 c2⟩ fun s2 L2 es2 ep2 t2 hm2 hS3 g2 k3 => ?_⟩
    · exact (hsb.2 b (fun z => hSf (z ▸ hb))).trans e
    · refine hR s2 L2 es2 ep2 t2 (Moved.trans W.gtrans ((hm.mono wider).then_heap (Nat.le_add_right _ _) fun b o hb e => ?_) hm2) hS3 g2 k3
      exact (hsb.2 b (fun z => hb (z ▸ List.mem_cons_self))).trans e
/-- a new set -/
abbrev noSet (w : World) : Obj := { cls := .type "set", dict := none, data := .set #[] 0 (.fresh 0 0 (!w.params.followText "set-order")) }
/-- set(xs) -/
theorem call_setN {l : Addr} {items : Array Value} {as : List Addr} {Q : Value → Shared → Prop} (hh : A.handled = none) (hl : s.heap.IsList l items) (hit : items.toList = as.map Value.ref) (hk : ∀ a ∈ as, Nk s.heap (κ a) a) (few : as.length < 64) (hu : A.units + 11 < cLine)
    (q : ∀ (h' : Heap) (tk : Nat) L es ep t, SetN w κ h' s.heap.objs.size L es ep t → Met κ as as.length L → (∀ b o, s.heap.get? b = some o → h'.get? b = some o) → Q (.ref s.heap.objs.size) { s with heap := h', toks := tk }) :
    wpAny (model P w) A (call (.type "set") [.ref l]) Q E s := by
  have isz : items.size = as.length := by rw [← Array.length_toList, hit, List.length_map]
  have lS : l < s.heap.objs.size := by obtain ⟨o, ho, _⟩ := hl; exact Heap.lt_size ho
  have fresh : ∀ b, s.heap.objs.size ≤ b → s.heap.get? b = none := fun b hb => by
    cases e : s.heap.get? b with
    | none => rfl
    | some o => exact absurd (Nat.lt_of_lt_of_le (Heap.lt_size e) hb) (Nat.lt_irrefl _)
  obtain ⟨c, tl, hmro⟩ := F.called_set.mro
  have hmade := F.called_set.made
  have hsub := F.called_set.sub
  refine wpAny_call (codeAny_of_tree ?_)
  show wpAny _ _ (callAny (.type "set") _) _ _ _
  refine wpAny_pure ⟨Code.quiet_builtin _ (by decide +kernel), codeAny_builtin F.entry_type_call ?_⟩
  rw [Around.under_plain (weight_type_call_type "set" [.ref l] []) rfl]
  have h1 := F.called_set.notType
  have h2 := F.called_set.canCreate
  have hct := F.typeCall_set_1 (.ref l)
  repeat (any_goals (first | assumption | wp_step))
  refine codeAny_mono (code_set_led1 (.ref l) (E := E) (Q₁ := fun obj s₁ => obj = .ref s.heap.objs.size ∧ s₁ = { s with heap := s.heap.push (noSet w) }) ⟨rfl, rfl⟩) fun r s₁ hr => ?_
  cases r with
  | error e => exact hr
  | ok fl =>
    cases fl with
    | ret obj =>
      obtain ⟨rfl, rfl⟩ := hr
      have gS : (s.heap.push (noSet w)).get? s.heap.objs.size = some (noSet w) := Heap.get?_push_size _ rfl
      have tS : Shared.TypeIs { s with heap := s.heap.push (noSet w) } (.ref s.heap.objs.size) "set" := ⟨_, gS, rfl⟩
      have hli := F.called_set.init.lookup
      have hbi := F.called_set.init.bind (.ref s.heap.objs.size)
      repeat (any_goals (first | assumption | wp_step))
      refine codeAny_mono (codeAny_call_builtin (R := wants (fun r s₂ => r = .none ∧ ∃ h' tk L es ep t, s₂ = { s with heap := h', toks := tk } ∧ SetN w κ h' s.heap.objs.size L es ep t ∧ Met κ as as.length L ∧
          (∀ b o, s.heap.get? b = some o → h'.get? b = some o)) E) F.called_set.init.plain F.entry_set_init (check_set_init_1 tS ?_)) fun r₂ s₂ hr₂ => ?_
      · obtain ⟨ol, hol, hcl, nl, hdl⟩ := hl
        obtain ⟨ocls, odict, odata, oslots⟩ := ol
        simp only at hcl hdl
        subst hcl; subst hdl
        have hol' : (s.heap.push (noSet w)).get? l = some { cls := .type "list", dict := odict, data := .seq items nl, slots := oslots } := Heap.get?_push_of_some _ hol
        have hsls := F.sub_list_set
        have hslf := F.sub_list_frozenset
        have hne : (Value.type "list" == Value.type "dict") = false := by decide
        have hl1 : (s.heap.push (noSet w)).IsList l items := ⟨_, hol', rfl, nl, rfl⟩
        unfold Builtin.«set.__init__» noKeywords Builtin.Frozenset.updateFrom
        generalize hPI : pyIter = PI
        wp_walk
        subst hPI
        refine wpAny_pyIter_list hl1 ?_
        refine wpAny_bind (wpAny_runValue ?_)
        have hz1 : (s.heap.push (noSet w)).objs.size = s.heap.objs.size + 1 := Heap.size_push ..
        have W := (Walks.list (prog := P) (w := w) (A := A.in1.in1.in1) (by simp [hh]) (s.heap.push (noSet w)).objs.size l (by rw [hz1]; exact Nat.ne_of_lt (Nat.lt_succ_of_lt lS)) items).toS
        rw [isz] at W
        have get : (((s.heap.push (noSet w)).push { cls := .type "list_iterator", data := .fields #[.ref l, .int 0 0] })).get? s.heap.objs.size = some (noSet w) := Heap.get?_push_of_some _ gS
        refine update_loop (κ := κ) (as := as) W (S := s.heap.objs.size) (by rw [hz1]; simp only [List.mem_cons, List.not_mem_nil, or_false, not_or]; exact ⟨Nat.ne_of_lt (Nat.lt_succ_self _), Nat.ne_of_gt lS⟩) few (fun i v hv => ?_) s.heap hk (fresh _ (Nat.le_refl _)) (fun b hb => fresh b (by
            rw [List.mem_singleton.mp hb, hz1]
            exact Nat.le_succ _)) (show A.units + 3 + 8 < cLine by omega) as.length 0 _ (by omega) ⟨⟨_, Heap.get?_push_size _ rfl, rfl, rfl⟩, (hl1.push _)⟩ (fun b o e => Heap.get?_push_of_some _ (Heap.get?_push_of_some _ e))
          ⟨[], #[], 0, _, set_empty get, ⟨fun _ h => (by cases h), fun _ h => (by simp at h), Nat.le_refl _⟩⟩ ?_
        · have e : items.toList[i]? = some v := by rw [Array.getElem?_toList]; exact hv
          rw [hit, List.getElem?_map] at e
          cases z : as[i]? with
          | none => rw [z] at e; cases e
          | some a => rw [z] at e; exact ⟨a, rfl, (Option.some.inj e).symm⟩
        · intro s' L es ep t hm hS' g' k
          obtain ⟨h', g2, d', tk', os'⟩ := s'
          have e1 : g2 = s.gens := hm.gens
          have e2 : d' = s.drawn := hm.drawn
          have e3 : os' = s.os := hm.os
          subst e1 e2 e3
          refine wpAny_pure ?_
          show wpAny _ _ (ret Value.none) _ _ _
          exact wpAny_pure ⟨rfl, h', tk', L, es, ep, t, rfl, hS', g', k⟩
      · cases r₂ with
        | error e => exact hr₂
        | ok fl₂ =>
          cases fl₂ with
          | ret r =>
            obtain ⟨rfl, h', tk, L, es, ep, t, rfl, hS', g', k⟩ := hr₂
            repeat (any_goals (first | assumption | wp_step))
            exact q _ _ _ _ _ _ hS' g' k
          | _ => exact hr₂.elim
    | _ => exact hr.elim
/-- an address is one tuple alone -/
theorem key_one {h : Heap} {κ : Addr → NestedKey} {L : List Addr} (nd : (L.map κ).Nodup) : L.Nodup := List.Pairwise.of_map κ (fun _ _ hne e => hne (congrArg κ e)) nd
/-- sorted(S): enc says as what data each tuple reads -/
theorem sorted_setN {S : Addr} {L : List Addr} {es : Array (Int × Value)} {ep : Nat} {t : SetTable} {Q : Value → Shared → Prop} {enc : Addr → PyData} (R : SetN w κ s.heap S L es ep t) (hh : A.handled = none)
    (rd : ∀ a ∈ L, Reads s.heap (.ref a) (enc a) []) (al : ∀ a ∈ L, ∀ b ∈ L, PySem.W.alike (enc a) (enc b) = true) (hk : ∀ a ∈ L, ∃ x r, enc a = .tuple (x :: r)) (hu : ∀ a ∈ L, A.units + 2 + (enc a).depth < cLine)
    (q : ∀ s' p (out : Array Value) (c : Nat) (L' : List Addr), (∀ b o, s.heap.get? b = some o → s'.heap.get? b = some o) → s'.gens = s.gens → s'.os = s.os → s.heap.objs.size ≤ p →
      s'.heap.get? p = some (seqObj "list" out c) → out.toList = L'.map Value.ref → L'.Perm L → L'.Pairwise (fun a b => PySem.W.dataLe false enc a b = true) → Q (.ref p) s') :
    wpAny (model P w) A (call (.builtin "sorted") [.ref S]) Q E s := by
  obtain ⟨o, ho, hex, hd⟩ := R.ob
  have hsz := rows_size R.rows
  have few := R.few
  refine Calls.call_function_entry kind_sorted plain_sorted entry_sorted (args_sorted1 _) ?_
  unfold Builtin.«sorted»
  refine wpAny_bind (m := checkCount "sorted" 1 1 _) (wpAny_pure ?_)
  refine wpAny_bind (collect_set (A := A.in1) hh ⟨o, ho, hex.1, hd⟩ R.fits (by unfold scanBound; omega) R.tab.ris R.led fun s1 vs k1 hz g1 o1 pm => ?_)
  have e1 : es.toList.map (·.2) = L.map Value.ref := by rw [R.rows, List.map_map]; rfl
  rw [e1] at pm
  obtain ⟨L1, e2, e3⟩ : ∃ L1 : List Addr, L1.Perm L ∧ vs = L1.map Value.ref := by
    obtain ⟨L1, a1, a2⟩ := perm_lift Value.ref pm L rfl
    exact ⟨L1, a1, a2.symm⟩
  subst e3
  have l1 : L1.length < 64 := by rw [e2.length_eq]; exact few
  refine wpAny_bind (wpAny_newList ?_ (by rw [List.length_map, sizeLine_eq]; omega))
  have hoL : (s1.heap.push (seqObj "list" (L1.map Value.ref).toArray 0)).get? s1.heap.objs.size = some (seqObj "list" (L1.map Value.ref).toArray 0) := Heap.get?_push_size _ rfl
  have er : ∀ l : List Addr, (∀ a ∈ l, a ∈ L) → PySem.W.EachIs (fun v b => ∃ as, Reads (s1.heap.push (seqObj "list" (L1.map Value.ref).toArray 0)) v (enc b) as ∧ s1.heap.objs.size ∉ as) (l.map Value.ref) l := by
    intro l
    induction l with
    | nil => intro _; exact .nil
    | cons a l ih => intro hl; exact .cons ⟨[], PyProof.Rows.Reads.keeps (fun b u e => Heap.get?_push_of_some _ (k1 b u e)) (rd a (hl a (by simp))), by simp⟩ (ih fun b hb => hl b (by simp [hb]))
  have ee : ∀ l : List Addr, PySem.W.EachIs (fun v b => v = Value.ref b) (l.map Value.ref) l := by
    intro l
    induction l with
    | nil => exact .nil
    | cons a l ih => exact .cons rfl ih
  have inL : ∀ a ∈ L1, a ∈ L := fun a ha => e2.mem_iff.mp ha
  refine wpAny_bind (wpAny_holding (PySem.W.list_sort_data (s := { s1 with heap := s1.heap.push (seqObj "list" (L1.map Value.ref).toArray 0) }) (R := fun v b => v = Value.ref b) (enc := enc) (bs := L1) hoL (ee L1) (er L1 inL) ?_ ?_ (by rw [sizeLine_eq]; omega) ?_ fun out z1 z2 => ?_))
  · intro d hd' d' hd2
    obtain ⟨a, ha, rfl⟩ := List.mem_map.mp hd'
    obtain ⟨b, hb, rfl⟩ := List.mem_map.mp hd2
    exact al a (inL a ha) b (inL b hb)
  · refine .inl fun d hd' => ?_
    obtain ⟨a, ha, rfl⟩ := List.mem_map.mp hd'
    exact hk a (inL a ha)
  · intro b hb
    have := hu b (inL b hb)
    show A.units + 1 + 1 + (enc b).depth < cLine
    omega
  · have e4 : out = (L1.mergeSort (PySem.W.dataLe false enc)).map Value.ref := by
      have : ∀ (o : List Value) (l : List Addr), PySem.W.EachIs (fun v b => v = Value.ref b) o l → o = l.map Value.ref := by
        intro o l h
        induction h with
        | nil => rfl
        | cons h1 _ ih => rw [h1, ih]; rfl
      exact this _ _ z2
    have pm2 : (L1.mergeSort (PySem.W.dataLe false enc)).Perm L1 := List.mergeSort_perm _ _
    have pw : (L1.mergeSort (PySem.W.dataLe false enc)).Pairwise fun a b => PySem.W.dataLe false enc a b = true := PySem.W.sort_pairwise (PySem.W.sortLe_total _ false _) L1
    obtain ⟨c, hc⟩ := sortedHeap_at (vs := L1.map Value.ref) (out := out.toArray) hoL
    refine wpAny_pure ⟨_, rfl, q _ s1.heap.objs.size out.toArray c _ (fun b u e => ?_) g1 o1 hz hc (by rw [e4]) (pm2.trans e2) pw⟩
    have z := k1 b u e
    have hlt := Heap.lt_size z
    show (sortedHeap (s1.heap.push (seqObj "list" (L1.map Value.ref).toArray 0)) s1.heap.objs.size (L1.map Value.ref) out.toArray).get? b = some u
    rw [sortedHeap_old (Nat.ne_of_lt hlt) (by rw [size_push']; exact Nat.lt_succ_of_lt hlt)]
    exact Heap.get?_push_of_some _ z
end
end DL

/-! SC: sorted(set(xs)) over trees. -/
namespace DL
open PySem PySem.Spec PyProof.Rows L2
mutual
/-- the key that a tree is -/
def nkD : D → Option NestedKey
  | .int i => some (.num i)
  | .str s => some (.text s)
  | .non => some .none
  | .tup xs => (nkDs xs).map .tup
  | .bl _ => none
  | .lst _ => none
  | .dct _ => none
  | .ref _ => none
  | .ty _ => none
  | .ins _ _ => none
  | .rol _ => none
  | .ptp _ => none
def nkDs : List D → Option (List NestedKey)
  | [] => some []
  | d :: r => match nkD d, nkDs r with
    | some k, some ks => some (k :: ks)
    | _, _ => none
end
theorem nkDs_cons {d : D} {r : List D} {ks : List NestedKey} (h : nkDs (d :: r) = some ks) : ∃ k l, nkD d = some k ∧ nkDs r = some l ∧ ks = k :: l := by
  unfold nkDs at h
  split at h
  · rename_i k l h1 h2
    cases h
    exact ⟨k, l, h1, h2, rfl⟩
  · cases h
theorem nkD_tup {xs : List D} {k : NestedKey} (h : nkD (.tup xs) = some k) : ∃ ks, nkDs xs = some ks ∧ k = .tup ks := by
  unfold nkD at h
  cases e : nkDs xs with
  | none => rw [e] at h; cases h
  | some ks => rw [e] at h; cases h; exact ⟨ks, rfl, rfl⟩
mutual
theorem nkD_inj : ∀ {d e : D} {k : NestedKey}, nkD d = some k → nkD e = some k → d = e
  | .int i, e, k, h1, h2 => by
    simp only [nkD, Option.some.injEq] at h1; subst h1
    cases e <;> first | (simp [nkD] at h2; done) | skip
    · simp [nkD] at h2; rw [h2]
  | .str i, e, k, h1, h2 => by
    simp only [nkD, Option.some.injEq] at h1; subst h1
    cases e <;> first | (simp [nkD] at h2; done) | skip
    · simp [nkD] at h2; rw [h2]
  | .non, e, k, h1, h2 => by
    simp only [nkD, Option.some.injEq] at h1; subst h1
    cases e <;> first | (simp [nkD] at h2; done) | skip
    · rfl
  | .tup xs, e, k, h1, h2 => by
    obtain ⟨ks, a1, rfl⟩ := nkD_tup h1
    cases e <;> first | (simp [nkD] at h2; done) | skip
    obtain ⟨ls, a2, z⟩ := nkD_tup h2
    cases z
    rw [nkDs_inj a1 a2]
  | .bl _, _, _, h1, _ => by simp [nkD] at h1
  | .lst _, _, _, h1, _ => by simp [nkD] at h1
  | .dct _, _, _, h1, _ => by simp [nkD] at h1
  | .ref _, _, _, h1, _ => by simp [nkD] at h1
  | .ty _, _, _, h1, _ => by simp [nkD] at h1
  | .ins _ _, _, _, h1, _ => by simp [nkD] at h1
  | .rol _, _, _, h1, _ => by simp [nkD] at h1
  | .ptp _, _, _, h1, _ => by simp [nkD] at h1
theorem nkDs_inj : ∀ {ds es : List D} {ks : List NestedKey}, nkDs ds = some ks → nkDs es = some ks → ds = es
  | [], [], _, _, _ => rfl
  | [], e :: es, ks, h1, h2 => by
    obtain ⟨k, l, _, _, rfl⟩ := nkDs_cons h2
    simp [nkDs] at h1
  | d :: ds, [], ks, h1, h2 => by
    obtain ⟨k, l, _, _, rfl⟩ := nkDs_cons h1
    simp [nkDs] at h2
  | d :: ds, e :: es, ks, h1, h2 => by
    obtain ⟨k, l, a1, a2, rfl⟩ := nkDs_cons h1
    obtain ⟨k', l', b1, b2, z⟩ := nkDs_cons h2
    cases z
    rw [nkD_inj a1 b1, nkDs_inj a2 b2]
end
mutual
theorem nk_py : ∀ {d : D} {k : NestedKey}, nkD d = some k → toPy d = some k.data ∧ noLst d = true ∧ k.data.depth = k.depth
  | .int i, k, h => by simp only [nkD, Option.some.injEq] at h; subst h; exact ⟨rfl, rfl, rfl⟩
  | .str i, k, h => by simp only [nkD, Option.some.injEq] at h; subst h; exact ⟨rfl, rfl, rfl⟩
  | .non, k, h => by simp only [nkD, Option.some.injEq] at h; subst h; exact ⟨rfl, rfl, rfl⟩
  | .tup xs, k, h => by
    obtain ⟨ks, a, rfl⟩ := nkD_tup h
    obtain ⟨z1, z2, z3⟩ := nks_py a
    exact ⟨by simp [toPy, z1, NestedKey.data], by simpa [noLst] using z2, by simp [NestedKey.data, PyData.depth, NestedKey.depth, z3]⟩
  | .bl _, _, h => by simp [nkD] at h
  | .lst _, _, h => by simp [nkD] at h
  | .dct _, _, h => by simp [nkD] at h
  | .ref _, _, h => by simp [nkD] at h
  | .ty _, _, h => by simp [nkD] at h
  | .ins _ _, _, h => by simp [nkD] at h
  | .rol _, _, h => by simp [nkD] at h
  | .ptp _, _, h => by simp [nkD] at h
theorem nks_py : ∀ {ds : List D} {ks : List NestedKey}, nkDs ds = some ks → toPys ds = some (NestedKey.datas ks) ∧ noLsts ds = true ∧ PyData.depthAll (NestedKey.datas ks) = NestedKey.depthAll ks
  | [], _, h => by simp only [nkDs, Option.some.injEq] at h; subst h; exact ⟨rfl, rfl, rfl⟩
  | d :: ds, _, h => by
    obtain ⟨k, l, a1, a2, rfl⟩ := nkDs_cons h
    obtain ⟨z1, z2, z3⟩ := nk_py a1
    obtain ⟨y1, y2, y3⟩ := nks_py a2
    exact ⟨by simp [toPys, z1, y1, NestedKey.datas], by simp [noLsts, z2, y2], by simp [NestedKey.datas, PyData.depthAll, NestedKey.depthAll, z3, y3]⟩
end
section
variable {X : Cx} {pins : List (Addr × Obj)} {σ : L2.St} {F H : Hp} {s : Shared}
mutual
theorem nk_of (I : Inv X pins σ H s) (e : Ext F H) : ∀ (d : D) (k : NestedKey) (v : V) (u : Value), nkD d = some k → RelD X.K F v d → RelV v u → NestedIs s.heap k u
  | .int i, k, v, u, h, r, q => by simp only [nkD, Option.some.injEq] at h; subst h; cases r; obtain ⟨t, rfl⟩ := q; exact .int i t
  | .str i, k, v, u, h, r, q => by simp only [nkD, Option.some.injEq] at h; subst h; cases r; obtain ⟨t, rfl⟩ := q; exact .text i t
  | .non, k, v, u, h, r, q => by simp only [nkD, Option.some.injEq] at h; subst h; cases r; cases q; exact .none
  | .tup xs, k, v, u, h, r, q => by
    obtain ⟨ks, a, rfl⟩ := nkD_tup h
    cases r with
    | tup hs rs =>
      cases q
      obtain ⟨its, rv, ⟨o, ho, hc, n, hd⟩, _⟩ := I.tuple (e.sqT hs)
      exact .tup ho hc hd (by simpa using nks_of I e xs ks _ its a rs rv)
  | .bl _, _, _, _, h, _, _ => by simp [nkD] at h
  | .lst _, _, _, _, h, _, _ => by simp [nkD] at h
  | .dct _, _, _, _, h, _, _ => by simp [nkD] at h
  | .ref _, _, _, _, h, _, _ => by simp [nkD] at h
  | .ty _, _, _, _, h, _, _ => by simp [nkD] at h
  | .ins _ _, _, _, _, h, _, _ => by simp [nkD] at h
  | .rol _, _, _, _, h, _, _ => by simp [nkD] at h
  | .ptp _, _, _, _, h, _, _ => by simp [nkD] at h
theorem nks_of (I : Inv X pins σ H s) (e : Ext F H) : ∀ (ds : List D) (ks : List NestedKey) (vs : List V) (us : List Value), nkDs ds = some ks → RelDs X.K F vs ds → Vals vs us → NestedAll s.heap ks us
  | [], ks, vs, us, h, r, q => by simp only [nkDs, Option.some.injEq] at h; subst h; cases r; cases q; exact .nil
  | d :: ds, ks, vs, us, h, r, q => by
    obtain ⟨k, l, a1, a2, rfl⟩ := nkDs_cons h
    cases r with
    | cons r1 r2 => cases q with
      | cons q1 q2 => exact .cons (nk_of I e d k _ _ a1 r1 q1) (nks_of I e ds l _ _ a2 r2 q2)
end
mutual
theorem nk_reads (I : Inv X pins σ H s) (e : Ext F H) : ∀ (d : D) (k : NestedKey) (v : V) (u : Value), nkD d = some k → RelD X.K F v d → RelV v u → Reads s.heap u k.data []
  | .int i, k, v, u, h, r, q => by simp only [nkD, Option.some.injEq] at h; subst h; cases r; obtain ⟨t, rfl⟩ := q; exact .int i t
  | .str i, k, v, u, h, r, q => by simp only [nkD, Option.some.injEq] at h; subst h; cases r; obtain ⟨t, rfl⟩ := q; exact .str i t
  | .non, k, v, u, h, r, q => by simp only [nkD, Option.some.injEq] at h; subst h; cases r; cases q; exact .none
  | .tup xs, k, v, u, h, r, q => by
    obtain ⟨ks, a, rfl⟩ := nkD_tup h
    cases r with
    | tup hs rs =>
      cases q
      obtain ⟨its, rv, ⟨o, ho, hc, n, hd⟩, _⟩ := I.tuple (e.sqT hs)
      exact .tuple ho hc hd (by simpa using nks_reads I e xs ks _ its a rs rv)
  | .bl _, _, _, _, h, _, _ => by simp [nkD] at h
  | .lst _, _, _, _, h, _, _ => by simp [nkD] at h
  | .dct _, _, _, _, h, _, _ => by simp [nkD] at h
  | .ref _, _, _, _, h, _, _ => by simp [nkD] at h
  | .ty _, _, _, _, h, _, _ => by simp [nkD] at h
  | .ins _ _, _, _, _, h, _, _ => by simp [nkD] at h
  | .rol _, _, _, _, h, _, _ => by simp [nkD] at h
  | .ptp _, _, _, _, h, _, _ => by simp [nkD] at h
theorem nks_reads (I : Inv X pins σ H s) (e : Ext F H) : ∀ (ds : List D) (ks : List NestedKey) (vs : List V) (us : List Value), nkDs ds = some ks → RelDs X.K F vs ds → Vals vs us → ReadsAll s.heap us (NestedKey.datas ks) []
  | [], ks, vs, us, h, r, q => by simp only [nkDs, Option.some.injEq] at h; subst h; cases r; cases q; exact .nil
  | d :: ds, ks, vs, us, h, r, q => by
    obtain ⟨k, l, a1, a2, rfl⟩ := nkDs_cons h
    cases r with
    | cons r1 r2 => cases q with
      | cons q1 q2 => exact .cons (nk_reads I e d k _ _ a1 r1 q1) (nks_reads I e ds l _ _ a2 r2 q2)
end
end
/-- the set at S, without its tuples -/
def SetQ (w : World) (κ : Addr → NestedKey) (h : Heap) (S : Addr) (L : List Addr) : Prop := ∃ (es : Array (Int × Value)) (ep : Nat) (t : SetTable), (∃ o, h.get? S = some o ∧ o.ExactSet ∧ o.data = .set es ep t) ∧ es.toList = L.map (rowK w κ) ∧ TabOk t (L.map fun a => (κ a).hash w) ∧ (L.map κ).Nodup ∧
  (w.params.followText "set-order" = true ∨ t.led = true) ∧ L.length * 5 < t.mask * 3 ∧ L.length < 64
def SetNO (w : World) (κ : Addr → NestedKey) (S : Addr) (L : List Addr) : HO := .ext fun h => SetQ w κ h S L
theorem SetN.q {w : World} {κ : Addr → NestedKey} {h : Heap} {S : Addr} {L : List Addr} {es : Array (Int × Value)} {ep : Nat} {t : SetTable} (R : SetN w κ h S L es ep t) : SetQ w κ h S L := ⟨es, ep, t, R.ob, R.rows, R.tab, R.nd, R.led, R.room, R.few⟩
theorem SetQ.n {w : World} {κ : Addr → NestedKey} {h : Heap} {S : Addr} {L : List Addr} (R : SetQ w κ h S L) (k : ∀ a ∈ L, Nk h (κ a) a) : ∃ es ep t, SetN w κ h S L es ep t := by
  obtain ⟨es, ep, t, a, b, c, d, e, f, g⟩ := R
  exact ⟨es, ep, t, a, b, c, d, k, e, f, g⟩
theorem setNO_ok {P : Program} {w : World} {H : Hp} {h : Heap} {κ : Addr → NestedKey} {S : Addr} {L : List Addr} (R : SetQ w κ h S L) : ObjOk P w H h S (SetNO w κ S L) := by
  obtain ⟨es, ep, t, ⟨o, ho, r⟩, z⟩ := id R
  refine ⟨R, ⟨o, ho⟩, fun h1 h2 p k => ?_⟩
  obtain ⟨es', ep', t', ⟨o', ho', r'⟩, z'⟩ := (show SetQ w κ h1 S L from p)
  exact ⟨es', ep', t', ⟨o', k o' ho', r'⟩, z'⟩
theorem refs_vals : ∀ {as : List Addr} {us : List Value}, Vals (as.map V.ref) us → us = as.map Value.ref
  | [], _, .nil => rfl
  | a :: as, _, .cons r t => by
    cases r
    rw [refs_vals t]; rfl
theorem vals_refs : ∀ as : List Addr, Vals (as.map V.ref) (as.map Value.ref)
  | [] => .nil
  | _ :: as => .cons rfl (vals_refs as)
section
variable {X : Cx}
def rSetN (K : PySem.W.Frag) (w : World) : List V → Hp → VK → Prop := fun xs H Q => ∃ (F : Hp) (l : Addr) (as : List Addr) (ds : List D), Ext F H ∧ xs = [V.ref l] ∧ SqL K H l (as.map V.ref) ∧ RelDs K F (as.map V.ref) ds ∧ (∀ d ∈ ds, ∃ k, nkD d = some k ∧ k.depth ≤ 8) ∧ as.length < 64 ∧
  ∀ p L κ, H p = none → (∀ a ∈ L, a ∈ as) → (∀ a ∈ as, κ a ∈ L.map κ) → (L.map κ).Nodup → L.length < 64 → (∀ a d, RelD K F (.ref a) d → a ∈ as → d ∈ ds → nkD d = some (κ a)) → Q (.ref p) (upd H p (SetNO w κ p L))
theorem RelDs.at_mem {K : PySem.W.Frag} {F : Hp} {vs : List V} {ds : List D} (r : RelDs K F vs ds) : ∀ v ∈ vs, ∃ d ∈ ds, RelD K F v d := by
  intro v hv
  obtain ⟨i, hi⟩ := List.getElem?_of_mem hv
  obtain ⟨d, h1, h2⟩ := r.getV hi
  exact ⟨d, List.mem_of_getElem? h1, h2⟩
theorem cr_setN (hc : X.calm = true) (hu : X.A.units + 11 < cLine) : CallR X (.type "set") (rSetN X.K X.w) := by
  intro pins s σ H xs us Q I r h
  obtain ⟨F, l, as, ds, ex, rfl, hl, hr, hk, few, q⟩ := h
  rw [Vals.ref1 r]
  obtain ⟨its, rv, pl, hz⟩ := I.list hl
  have hn : H s.heap.objs.size = none := I.hok.fresh (Nat.le_refl _)
  have key : ∀ a ∈ as, ∀ d ∈ ds, RelD X.K F (.ref a) d → ∃ k, nkD d = some k ∧ Nk s.heap k a := fun a ha d hd rd => by
    obtain ⟨k, h1, h2⟩ := hk d hd
    exact ⟨k, h1, nk_of I ex d k _ (.ref a) h1 rd rfl, h2⟩
  let κ : Addr → NestedKey := fun a => open Classical in if z : ∃ k, Nk s.heap k a then z.choose else .none
  have κe : ∀ a k, Nk s.heap k a → κ a = k := fun a k z => by
    have w : ∃ k, Nk s.heap k a := ⟨k, z⟩
    have : κ a = w.choose := dif_pos w
    rw [this]
    exact NestedIs.inj _ _ _ w.choose_spec.1 z.1
  have κk : ∀ a ∈ as, Nk s.heap (κ a) a := fun a ha => by
    obtain ⟨d, hd, rd⟩ := hr.at_mem (.ref a) (List.mem_map.mpr ⟨a, ha, rfl⟩)
    obtain ⟨k, _, z⟩ := key a ha d hd rd
    rw [κe a k z]; exact z
  refine call_setN (P := X.prog) (w := X.w) (κ := κ) (as := as) (I.ok.hd hc) pl.isList (by simpa using refs_vals rv) κk few hu fun h' tk L es ep t R g k => ?_
  refine ⟨.ref s.heap.objs.size, upd H s.heap.objs.size (SetNO X.w κ s.heap.objs.size L), I.laid (t' := tk) k (Nat.le_refl _) (setNO_ok R.q), rfl, q _ L κ hn (fun a ha => ?_) (fun a ha => ?_) R.nd R.few fun a d rd ha hd => ?_⟩
  · exact List.mem_of_mem_take (g.sub a ha)
  · exact g.all a (by rw [List.take_length]; exact ha)
  · obtain ⟨k, h1, h2⟩ := key a ha d hd rd
    rw [κe a k h2]; exact h1
def rSortN (K : PySem.W.Frag) (w : World) : List V → Hp → VK → Prop := fun vs H Q => ∃ (F : Hp) (S : Addr) (L : List Addr) (κ : Addr → NestedKey), Ext F H ∧ vs = [V.ref S] ∧ H S = some (SetNO w κ S L) ∧ (∀ a ∈ L, ∃ d, RelD K F (.ref a) d ∧ nkD d = some (κ a) ∧ (κ a).depth ≤ 8) ∧
  (∀ a ∈ L, ∀ b ∈ L, PySem.W.alike (κ a).data (κ b).data = true) ∧ (∀ a ∈ L, ∃ x r, (κ a).data = .tuple (x :: r)) ∧
  ∀ (L' : List Addr) (p : Addr), L'.Perm L → L'.Pairwise (fun a b => PySem.W.dataLe false (fun a => (κ a).data) a b = true) → H p = none → Q (.ref p) (upd H p (.lst (L'.map V.ref)))
theorem cr_sortN (hc : X.calm = true) (hu : X.A.units + 11 < cLine) : CallR X (.builtin "sorted") (rSortN X.K X.w) := by
  intro pins s σ H vs us Q I r h
  obtain ⟨F, S, L, κ, ex, rfl, ha, hk, al, tu, q⟩ := h
  have R0 : SetQ X.w κ s.heap S L := (I.hok S _ ha).1
  have key : ∀ a ∈ L, Nk s.heap (κ a) a := fun a m => by
    obtain ⟨d, rd, h1, h2⟩ := hk a m
    exact ⟨nk_of I ex d _ _ (.ref a) h1 rd rfl, h2⟩
  obtain ⟨es, ep, t, R⟩ := R0.n key
  rw [Vals.ref1 r]
  refine sorted_setN (enc := fun a => (κ a).data) R (I.ok.hd hc) (fun a m => ?_) al tu (fun a m => ?_) fun s' p out c L' k g o hp hg hout pm pw => ?_
  · obtain ⟨d, rd, h1, h2⟩ := hk a m
    exact nk_reads I ex d _ _ (.ref a) h1 rd rfl
  · obtain ⟨d, rd, h1, h2⟩ := hk a m
    obtain ⟨z1, z2, z3⟩ := nk_py h1
    rw [z3]; omega
  · have few : L'.length < 64 := by rw [pm.length_eq]; exact R.few
    have hn : H p = none := I.hok.fresh hp
    have hv : Vals (L'.map V.ref) out.toList := by rw [hout]; exact vals_refs L'
    have J : Inv X pins σ (upd H p (.lst (L'.map V.ref))) { s with heap := s'.heap, gens := s'.gens, drawn := s'.drawn, toks := s'.toks } :=
      I.call (ch := []) (Un.laid k hp hn) (I.hok.laid k hp ⟨by rw [List.length_map, sizeLine_eq]; omega, out.toList, c, hv, hg⟩) (by rw [g]; exact I.bare) (fun _ z => nomatch z)
    have e : s' = { s with heap := s'.heap, gens := s'.gens, drawn := s'.drawn, toks := s'.toks } := by
      cases s'; cases s; cases o; rfl
    rw [e]
    exact ⟨.ref p, _, J, rfl, q L' p pm pw hn⟩
end
end DL

/-! SD: the reading of sorted(set(xs)). -/
namespace DL
open PySem PySem.Spec PyProof.Rows L2
theorem Rst0.extra {K : PySem.W.Frag} {F H : Hp} {M : Sto} {p : Addr} (r : Rst0 K F H M) {o : HO} (h : H p = none) : Stp F H M F (upd H p o) M ∧ Rst0 K F (upd H p o) M := by
  refine ⟨⟨Ext.refl F, fun b u e n => ⟨by rw [upd_ne (ne_of_none e h)]; exact e, n, fun z => z⟩, upd_al⟩, fun b u e => ?_, fun b u e => ?_⟩
  · have := r.sub b u e
    rw [upd_ne (ne_of_none this h)]; exact this
  · obtain ⟨h1, ho, h2, h3⟩ := r.sto b u e
    exact ⟨h1, ho, by rw [upd_ne (ne_of_none h2 h)]; exact h2, h3⟩
def pyD (d : D) : PyData := (toPy d).getD .none
/-- things that a set can have and sorted can sort -/
structure SetOk (xs : List D) : Prop where
  few : xs.length < 64
  key : ∀ d ∈ xs, ∃ k, nkD d = some k ∧ k.depth ≤ 8
  al : ∀ d ∈ xs, ∀ e ∈ xs, PySem.W.alike (pyD d) (pyD e) = true
  tup : ∀ d ∈ xs, ∃ x r, d = .tup (x :: r)
abbrev leD (x y : D) : Bool := PySem.W.dataLe false pyD x y
/-- ys: the things of xs, each once, ascending -/
structure SortedSet (xs ys : List D) : Prop where
  mem : ∀ y, y ∈ ys ↔ y ∈ xs
  nd : ys.Nodup
  le : ys.Pairwise fun x y => leD x y = true
def dSortSet (t : DTE) : DTE := fun τ M Q => t τ M fun x M1 => match lstOf x M1 with
  | some xs => SetOk xs ∧ ∀ ys, SortedSet xs ys → Q (.lst ys) M1
  | none => False
theorem refs_of {K : PySem.W.Frag} {F : Hp} : ∀ {vs : List V} {ds : List D}, RelDs K F vs ds → (∀ d ∈ ds, ∃ x r, d = .tup (x :: r)) → ∃ as : List Addr, vs = as.map V.ref
  | _, _, .nil, _ => ⟨[], rfl⟩
  | _, _, .cons (d := d) h r, t => by
    obtain ⟨as, e⟩ := refs_of r fun d hd => t d (by simp [hd])
    obtain ⟨x, y, z⟩ := t d (by simp)
    subst z
    cases h with
    | tup _ _ => exact ⟨_ :: as, by rw [List.map_cons, e]⟩
theorem trees_of {K : PySem.W.Frag} {F : Hp} {κ : Addr → NestedKey} {ds : List D} : ∀ {L : List Addr}, (∀ a ∈ L, ∃ d ∈ ds, RelD K F (.ref a) d ∧ nkD d = some (κ a)) → ∃ ys, RelDs K F (L.map V.ref) ys ∧ (∀ y ∈ ys, y ∈ ds) ∧ ys.map nkD = L.map fun a => some (κ a)
  | [], _ => ⟨[], .nil, by simp, rfl⟩
  | a :: L, h => by
    obtain ⟨ys, r, m, e⟩ := trees_of (L := L) fun b hb => h b (by simp [hb])
    obtain ⟨d, hd, rd, hk⟩ := h a (by simp)
    refine ⟨d :: ys, .cons rd r, fun y hy => ?_, by rw [List.map_cons, List.map_cons, e, hk]⟩
    rcases List.mem_cons.mp hy with rfl | hy
    · exact hd
    · exact m y hy
theorem dataLe_map {α β : Type} (f : α → β) (g : β → PyData) (x y : α) : PySem.W.dataLe false (fun a => g (f a)) x y = PySem.W.dataLe false g (f x) (f y) := rfl
section
variable {X : Cx} {e : Expr} {t : DTE}
theorem de_sortSet {p1 p2 q1 q2 : Pos} (hc : X.calm = true) (hu : X.A.units + 11 < cLine) (he : DE X e t) (m1 : X.mg "sorted" = none) (m2 : X.mg "set" = none)
    (v1 : bootBuiltins "sorted" = some (.builtin "sorted") := by decide +kernel) (v2 : bootBuiltins "set" = some (.type "set") := by decide +kernel) (g1 : Gl X "sorted" := by rfl) (g2 : Gl X "set" := by rfl)
    (s1 : starEach [e] X.env = (false, eval e X.env) :: starEach [] X.env := by rfl) (s2 : (backTo q2 (starEach [] X.env)).any (·.1) = false := by rfl)
    (s3 : starEach [.Call (.Name "set" p2) [e] [] q2] X.env = (false, eval (.Call (.Name "set" p2) [e] [] q2) X.env) :: starEach [] X.env := by rfl) (s4 : (backTo q1 (starEach [] X.env)).any (·.1) = false := by rfl) :
    DE X (.Call (.Name "sorted" p1) [.Call (.Name "set" p2) [e] [] q2] [] q1) (dSortSet t) := by
  obtain ⟨u, pu, ru⟩ := he.ex
  refine ⟨_, pe_callB (cr_sortN hc hu) g1 m1 v1 (pa_cons (pe_callTy (cr_setN hc hu) g2 m2 v2 (pa_cons pu pa_nil s1) (by decide) (by decide) s1 s2) pa_nil s3) (by decide) (by decide) s3 s4, fun F H σ τ M Qd Q R q k => ?_⟩
  refine ru F H σ τ M _ _ R q fun v F1 H1 d M1 e1 R1 r1 q1 => ?_
  split at q1
  · rename_i xs hx
    obtain ⟨ok, q1⟩ := q1
    obtain ⟨a, vs, rfl, hs, rs⟩ := lst_ok R1.heap r1 hx
    obtain ⟨as, rfl⟩ := refs_of rs ok.tup
    refine ⟨F1, a, as, xs, R1.heap.sub, rfl, SqL.of hs, rs, ok.key, by have := rs.length; simp at this; have := ok.few; omega, fun p L κ hp sub all nd fewL kk => ?_⟩
    obtain ⟨e2, R2⟩ := R1.heap.extra (o := SetNO X.w κ p L) hp
    have tr : ∀ a ∈ as, ∃ d ∈ xs, RelD X.K F1 (.ref a) d ∧ nkD d = some (κ a) := fun a ha => by
      obtain ⟨d, hd, rd⟩ := rs.at_mem (.ref a) (List.mem_map.mpr ⟨a, ha, rfl⟩)
      exact ⟨d, hd, rd, kk a d rd ha hd⟩
    have py : ∀ a ∈ as, ∃ d ∈ xs, pyD d = (κ a).data := fun a ha => by
      obtain ⟨d, hd, _, hk⟩ := tr a ha
      exact ⟨d, hd, by unfold pyD; rw [(nk_py hk).1]; rfl⟩
    refine ⟨F1, p, L, κ, R2.sub, rfl, upd_same, fun b hb => ?_, fun b hb c hc' => ?_, fun b hb => ?_, fun L' p2 pm pw hp2 => ?_⟩
    · obtain ⟨d, hd, rd, hk⟩ := tr b (sub b hb)
      obtain ⟨k', h1, h2⟩ := ok.key d hd
      rw [hk] at h1; cases h1
      exact ⟨d, rd, hk, h2⟩
    · obtain ⟨d, hd, hk⟩ := py b (sub b hb)
      obtain ⟨d', hd', hk'⟩ := py c (sub c hc')
      rw [← hk, ← hk']
      exact ok.al d hd d' hd'
    · obtain ⟨d, hd, _, hk⟩ := tr b (sub b hb)
      obtain ⟨x, r, rfl⟩ := ok.tup d hd
      obtain ⟨ks, h1, h2⟩ := nkD_tup hk
      obtain ⟨k1, l, _, _, rfl⟩ := nkDs_cons h1
      rw [h2]
      exact ⟨k1.data, NestedKey.datas l, by simp [NestedKey.data, NestedKey.datas]⟩
    · obtain ⟨e3, R3⟩ := R2.frozen (o := .lst (L'.map V.ref)) hp2
      obtain ⟨ys, y1, y2, y3⟩ := trees_of (K := X.K) (F := F1) (κ := κ) (ds := xs) (L := L') fun a ha => tr a (sub a (pm.mem_iff.mp ha))
      refine k (.ref p2) _ _ (.lst ys) M1 ((e1.trans e2).trans e3) (R1.mono e3.ext R3) (.lst upd_same (y1.mono e3.ext)) (q1 ys ⟨fun y => ⟨y2 y, fun hy => ?_⟩, ?_, ?_⟩)
      · -- every thing came in
        obtain ⟨i, hi⟩ := List.getElem?_of_mem hy
        obtain ⟨v, hv, rv⟩ := rs.get hi
        rw [List.getElem?_map] at hv
        cases ha : as[i]? with
        | none => rw [ha] at hv; cases hv
        | some b =>
          rw [ha] at hv; cases hv
          have bm := List.mem_of_getElem? ha
          have hk := kk b y rv bm hy
          have : κ b ∈ L'.map κ := (pm.map κ).mem_iff.mpr (all b bm)
          obtain ⟨c, hc', ec⟩ := List.mem_map.mp this
          have : some (κ c) ∈ ys.map nkD := by rw [y3]; exact List.mem_map.mpr ⟨c, hc', rfl⟩
          obtain ⟨z, hz, ez⟩ := List.mem_map.mp this
          rw [ec] at ez
          rw [nkD_inj hk ez]; exact hz
      · have n1 : (ys.map nkD).Nodup := by
          rw [y3]
          have : (L'.map κ).Nodup := (pm.map κ).nodup_iff.mpr nd
          rw [List.nodup_iff_pairwise_ne, List.pairwise_map] at this ⊢
          exact this.imp fun h z => h (Option.some.inj z)
        exact List.Pairwise.of_map nkD (fun _ _ hne z => hne (congrArg nkD z)) n1
      · have pys : ys.map pyD = L'.map fun a => (κ a).data := by
          have h1 : ∀ y ∈ ys, ∃ k, nkD y = some k := fun y hy => by
            obtain ⟨k, h, _⟩ := ok.key y (y2 y hy)
            exact ⟨k, h⟩
          have h2 : ys.map pyD = (ys.map nkD).map fun o => (o.map NestedKey.data).getD .none := by
            rw [List.map_map]
            apply List.map_congr_left
            intro y hy
            obtain ⟨k, h⟩ := h1 y hy
            simp only [Function.comp_apply, h, Option.map_some, Option.getD_some]
            unfold pyD
            rw [(nk_py h).1]; rfl
          rw [h2, y3, List.map_map]; rfl
        have a1 : (L'.map fun a => (κ a).data).Pairwise fun x y => PySem.W.dataLe false id x y = true := by
          rw [List.pairwise_map]
          exact pw
        rw [← pys, List.pairwise_map] at a1
        exact a1
  · exact q1.elim
end
end DL

/-! SE: a comprehension with two fors; a comprehension within another one. -/
namespace DL
open PySem PySem.Spec PyProof.Rows L2
def compD2 (g : DTG) (tt : DTT) (it1 : DTI) (g1 : DTG) (tt1 : DTT) (te : DTE) (vs1 : List Nat) (τ : DSt) (Q : List D → Sto → Prop) : List D → List D → Sto → Prop
  | [], acc, M => Q acc M
  | d :: ds, acc, M => g d τ M fun τ2 M2 => tt τ2 M2 fun b M3 => if b = true then it1 τ2 M3 fun ds1 M4 => compD g1 tt1 te (dwipe τ2 vs1) (fun acc1 M5 => compD2 g tt it1 g1 tt1 te vs1 τ Q ds acc1 M5) ds1 acc M4 else compD2 g tt it1 g1 tt1 te vs1 τ Q ds acc M3
@[simp] def dLc2 (it : DTI) (g : DTG) (tt : DTT) (it1 : DTI) (g1 : DTG) (tt1 : DTT) (te : DTE) (vs vs1 : List Nat) : DTE := fun τ M Q => it τ M fun ds M1 => compD2 g tt it1 g1 tt1 te vs1 (dwipe τ vs) (fun acc M2 => Q (.lst acc) M2) ds [] M1
theorem lc2_coreD {K : PySem.W.Frag} {wi wi1 : TI} {it it1 : DTI} {tg tg1 : TG} {g g1 : DTG} {tt tt1 : TT} {dt dt1 : DTT} {te : TE} {de : DTE} {vs vs1 : List Nat} (hi : RefI K wi it) (hg : RefG K tg g) (ho : OwnAny tg vs) (ht : RefT K tt dt)
    (hi1 : RefI K wi1 it1) (hg1 : RefG K tg1 g1) (ho1 : OwnAny tg1 vs1) (ht1 : RefT K tt1 dt1) (he : RefE K te de)
    {F H : Hp} {σ : L2.St} {τ : DSt} {M : Sto} {Qc : List D → Sto → Prop} {Q : VK} (R : Rst K F H σ τ M) (q : it τ M fun ds M1 => compD2 g dt it1 g1 dt1 de vs1 (dwipe τ vs) Qc ds [] M1)
    (k : ∀ p F' H' M' xs acc, Stp F H M F' H' M' → Rst K F' H' σ τ M' → H p = none → M' p = none → F' p = none → H' p = some (.lst xs) → RelDs K F' xs acc → Qc acc M' → Q (.ref p) H') : tLc2 wi tg tt wi1 tg1 tt1 te vs vs1 σ H Q := by
  refine hi F H σ τ M _ _ R q fun J F1 H1 ds M1 e1 R1 hJ q1 p hp => ?_
  have hp0 : H p = none := e1.al p hp
  obtain ⟨hf1, hm1⟩ := R1.heap.free hp
  refine ⟨fun i m H' => m = ds.length - i ∧ i ≤ ds.length ∧ ∃ F' M' xs acc, Stp F H M F' H' M' ∧ Ext F1 F' ∧ Rst K F' H' σ τ M' ∧ M' p = none ∧ F' p = none ∧ H' p = some (.lst xs) ∧ RelDs K F' xs acc ∧ compD2 g dt it1 g1 dt1 de vs1 (dwipe τ vs) Qc (ds.drop i) acc M',
    ⟨ds.length, by simp, Nat.zero_le _, F1, M1, [], [], e1.side hp0 _, Ext.refl _, ⟨R1.heap.side hm1 hf1 _, R1.slots⟩, hm1, hf1, upd_same, .nil, by simpa using q1⟩, ?_⟩
  rintro i m H2 ⟨rfl, hil, F2, M2, xs, acc, s2, x2, R2, m2, f2, h2, rl2, q2⟩
  by_cases hlt : i < ds.length
  · obtain ⟨d, hd⟩ : ∃ d, ds[i]? = some d := ⟨ds[i], List.getElem?_eq_getElem hlt⟩
    rw [drop_cons hd] at q2
    refine .inr ⟨hJ.go i F2 H2 M2 hlt x2 R2.heap, fun H' => ∃ F' M' xs acc, Stp F H M F' H' M' ∧ Ext F1 F' ∧ Rst K F' H' σ τ M' ∧ M' p = none ∧ F' p = none ∧ H' p = some (.lst xs) ∧ RelDs K F' xs acc ∧ compD2 g dt it1 g1 dt1 de vs1 (dwipe τ vs) Qc (ds.drop (i + 1)) acc M', fun H' z => ⟨ds.length - (i + 1), by omega, rfl, hlt, z⟩, fun x H' y => ?_⟩
    obtain ⟨F3, e3, R3, r3⟩ := hJ.yld i F2 H2 M2 d x H' hd x2 R2.heap y
    have sl3 : RelSl K F3 (wipe σ vs) (dwipe τ vs) := (R2.slots.mono e3.ext).wipe vs
    refine ho.own _ _ _ _ (hg F3 H' (wipe σ vs) (dwipe τ vs) M2 x d _ _ ⟨R3, sl3⟩ r3 q2 fun F4 H4 σ4 τ4 M4 e4 R4 q4 => ?_)
    refine ht F4 H4 σ4 τ4 M4 _ _ R4 q4 fun b F5 H5 M5 e5 R5 q5 => ?_
    have s5 : Stp F2 H2 M2 F5 H5 M5 := (e3.trans e4).trans e5
    cases b with
    | false =>
      obtain ⟨h5, m5, f5⟩ := s5.kp p _ h2 m2
      exact iteF ⟨F5, M5, xs, acc, s2.trans s5, x2.trans s5.ext, ⟨R5.heap, R2.slots.mono s5.ext⟩, m5, f5 f2, h5, rl2.mono s5.ext, q5⟩
    | true =>
      refine iteT (hi1 F5 H5 σ4 τ4 M5 _ _ R5 q5 fun J1 F6 H6 ds1 M6 e6 R6 hJ1 q6 => ?_)
      have s6 := s5.trans e6
      obtain ⟨h6, m6, f6⟩ := s6.kp p _ h2 m2
      refine ⟨fun j k' H' => k' = ds1.length - j ∧ j ≤ ds1.length ∧ ∃ F' M' xs acc, Stp F H M F' H' M' ∧ Ext F1 F' ∧ Ext F6 F' ∧ Rst K F' H' σ4 τ4 M' ∧ RelSl K F' σ τ ∧ M' p = none ∧ F' p = none ∧ H' p = some (.lst xs) ∧ RelDs K F' xs acc ∧ compD g1 dt1 de (dwipe τ4 vs1) (fun acc1 M5 => compD2 g dt it1 g1 dt1 de vs1 (dwipe τ vs) Qc (ds.drop (i + 1)) acc1 M5) (ds1.drop j) acc M',
        ⟨ds1.length, by simp, Nat.zero_le _, F6, M6, xs, acc, s2.trans s6, x2.trans s6.ext, Ext.refl _, R6, R2.slots.mono s6.ext, m6, f6 f2, h6, rl2.mono s6.ext, by simpa using q6⟩, ?_⟩
      rintro j k' H7 ⟨rfl, hjl, F7, M7, xs7, acc7, s7, x7, y7, R7, sl7, m7, f7, h7, rl7, q7⟩
      by_cases hlt1 : j < ds1.length
      · obtain ⟨d1, hd1⟩ : ∃ d, ds1[j]? = some d := ⟨ds1[j], List.getElem?_eq_getElem hlt1⟩
        rw [drop_cons hd1] at q7
        refine .inr ⟨hJ1.go j F7 H7 M7 hlt1 y7 R7.heap, fun H' => ∃ F' M' xs acc, Stp F H M F' H' M' ∧ Ext F1 F' ∧ Ext F6 F' ∧ Rst K F' H' σ4 τ4 M' ∧ RelSl K F' σ τ ∧ M' p = none ∧ F' p = none ∧ H' p = some (.lst xs) ∧ RelDs K F' xs acc ∧ compD g1 dt1 de (dwipe τ4 vs1) (fun acc1 M5 => compD2 g dt it1 g1 dt1 de vs1 (dwipe τ vs) Qc (ds.drop (i + 1)) acc1 M5) (ds1.drop (j + 1)) acc M',
          fun H' z => ⟨ds1.length - (j + 1), by omega, rfl, hlt1, z⟩, fun x H' y => ?_⟩
        obtain ⟨F8, e8, R8, r8⟩ := hJ1.yld j F7 H7 M7 d1 x H' hd1 y7 R7.heap y
        have sl8 : RelSl K F8 (wipe σ4 vs1) (dwipe τ4 vs1) := (R7.slots.mono e8.ext).wipe vs1
        refine ho1.own _ _ _ _ (hg1 F8 H' (wipe σ4 vs1) (dwipe τ4 vs1) M7 x d1 _ _ ⟨R8, sl8⟩ r8 q7 fun F9 H9 σ9 τ9 M9 e9 R9 q9 => ?_)
        refine ht1 F9 H9 σ9 τ9 M9 _ _ R9 q9 fun b Fa Ha Ma ea Ra qa => ?_
        have sa : Stp F7 H7 M7 Fa Ha Ma := (e8.trans e9).trans ea
        cases b with
        | false =>
          obtain ⟨ha, ma, fa⟩ := sa.kp p _ h7 m7
          exact iteF ⟨Fa, Ma, xs7, acc7, s7.trans sa, x7.trans sa.ext, y7.trans sa.ext, ⟨Ra.heap, R7.slots.mono sa.ext⟩, sl7.mono sa.ext, ma, fa f7, ha, rl7.mono sa.ext, qa⟩
        | true =>
          refine iteT (he Fa Ha σ9 τ9 Ma _ _ Ra qa fun y Fb Hb dy Mb eb Rb rb qb => ?_)
          have sb := sa.trans eb
          obtain ⟨hb, mb, fb⟩ := sb.kp p _ h7 m7
          exact ⟨xs7, hb, by rw [rl7.length]; exact qb.1, Fb, Mb, xs7 ++ [y], acc7 ++ [dy], (s7.trans sb).side hp0 _, x7.trans sb.ext, y7.trans sb.ext, ⟨Rb.heap.side mb (fb f7) _, R7.slots.mono sb.ext⟩, sl7.mono sb.ext, mb, fb f7, upd_same, (rl7.mono sb.ext).append (.cons rb .nil), qb.2⟩
      · have e : j = ds1.length := by omega
        subst e
        rw [List.drop_length] at q7
        exact .inl ⟨hJ1.stop F7 H7 M7 y7 R7.heap, F7, M7, xs7, acc7, s7, x7, ⟨R7.heap, sl7⟩, m7, f7, h7, rl7, q7⟩
  · have e : i = ds.length := by omega
    subst e
    rw [List.drop_length] at q2
    exact .inl ⟨hJ.stop F2 H2 M2 x2 R2.heap, k p F2 H2 M2 xs acc s2 R2 hp0 m2 f2 h2 rl2 q2⟩
theorem refLc2 {K : PySem.W.Frag} {wi wi1 : TI} {it it1 : DTI} {tg tg1 : TG} {g g1 : DTG} {tt tt1 : TT} {dt dt1 : DTT} {te : TE} {de : DTE} {vs vs1 : List Nat} (hi : RefI K wi it) (hg : RefG K tg g) (ho : OwnAny tg vs) (ht : RefT K tt dt)
    (hi1 : RefI K wi1 it1) (hg1 : RefG K tg1 g1) (ho1 : OwnAny tg1 vs1) (ht1 : RefT K tt1 dt1) (he : RefE K te de) :
    RefE K (tLc2 wi tg tt wi1 tg1 tt1 te vs vs1) (dLc2 it g dt it1 g1 dt1 de vs vs1) := fun F H σ τ M Qd Q R q k =>
  lc2_coreD hi hg ho ht hi1 hg1 ho1 ht1 he R q fun p F' H' M' xs acc s' R' h0 m' f' h' rl q' => by
    obtain ⟨e, s2, R2⟩ := R'.heap.adopt s' h' m' f' h0
    exact k (.ref p) _ H' (.lst acc) M' s2 (R'.mono e R2) (.lst upd_same (rl.mono e)) q'
section
variable {X : Cx} {elt tg iter tg1 iter1 : Expr} {ifs ifs1 : List Expr} {scope : Scope} {own own1 : List (Str × Nat)} {pos spos : Pos} {it it1 : DTI} {g g1 : DTG} {tt tt1 : DTT} {te : DTE} {i : Nat} {y : Str} {py : Pos}
theorem uni_i {t : DTI} (h : ∀ (s : Shared) (H : Hp) (C : Addr) (cl : List (Str × Addr)) (fp : List Addr), DI (X.blk s H scope (compEnvC scope cl C X.env) fp) tg1 iter1 t) :
    ∃ te, (∀ (s : Shared) (H : Hp) (C : Addr) (cl : List (Str × Addr)) (fp : List Addr), PI (X.blk s H scope (compEnvC scope cl C X.env) fp) tg1 iter1 te) ∧ RefI X.K te t := by
  refine ⟨fun σ Hh Q => ∀ (s : Shared) (H : Hp) (C : Addr) (cl : List (Str × Addr)) (fp : List Addr) (te : TI), PI (X.blk s H scope (compEnvC scope cl C X.env) fp) tg1 iter1 te → RefI X.K te t → te σ Hh Q, fun s H C cl fp => ?_, fun F H σ τ M Qd Q R q k => ?_⟩
  · obtain ⟨te, p, r⟩ := (h s H C cl fp).ex
    exact ⟨fun pins s' σ H' Q I q => p.run pins s' σ H' Q I (q s H C cl fp te p r)⟩
  · intro s H' C cl fp te p r
    exact r F H σ τ M Qd Q R q k
theorem de_lc2 (hc : X.calm = true) (hN : X.N.Nodup) (hi : DI X tg iter it) (ok : BlkOk X.N X.env.scope scope own) (hv : ∀ i ∈ own1.map (·.2), i ∈ own.map (·.2)) (hg : DGC X scope tg (own.map (·.2)) g)
    (ht : ∀ (s : Shared) (H : Hp) (C : Addr) (cl : List (Str × Addr)) (fp : List Addr), DTs (X.blk s H scope (compEnvC scope cl C X.env) fp) ifs tt)
    (hi1 : ∀ (s : Shared) (H : Hp) (C : Addr) (cl : List (Str × Addr)) (fp : List Addr), DI (X.blk s H scope (compEnvC scope cl C X.env) fp) tg1 iter1 it1) (hg1 : DGC X scope tg1 (own1.map (·.2)) g1)
    (ht1 : ∀ (s : Shared) (H : Hp) (C : Addr) (cl : List (Str × Addr)) (fp : List Addr), DTs (X.blk s H scope (compEnvC scope cl C X.env) fp) ifs1 tt1) (he : ∀ (s : Shared) (H : Hp) (C : Addr) (cl : List (Str × Addr)) (fp : List Addr), DE (X.blk s H scope (compEnvC scope cl C X.env) fp) elt te)
    (hs : ∀ x, foldedSetIterable iter X.env x = pure x := by intro _; rfl) (hs1 : ∀ env x, foldedSetIterable iter1 env x = pure x := by intro _ _; rfl) : DE X (.ListComp elt [⟨tg, iter, ifs, 0⟩, ⟨tg1, iter1, ifs1, 0⟩] scope pos) (dLc2 it g tt it1 g1 tt1 te (own.map (·.2)) (own1.map (·.2))) := by
  obtain ⟨wi, pi, ri⟩ := hi.ex
  obtain ⟨gg, pg, rg, og, mg⟩ := hg.ex
  obtain ⟨wi1, pi1, ri1⟩ := uni_i hi1
  obtain ⟨gg1, pg1, rg1, og1, mg1⟩ := hg1.ex
  obtain ⟨ee, pe, re⟩ := uni_e he
  obtain ⟨t', pt, rt⟩ := uni_t ht
  obtain ⟨t1', pt1, rt1⟩ := uni_t ht1
  exact ⟨_, pe_lc2 hc hN pi ok hv pg pt pi1 pg1 pt1 pe hs hs1, refLc2 ri rg og rt ri1 rg1 og1 rt1 re⟩
end
/-- the names of a block as they stand within another block -/
theorem blkOk_in {X : Cx} {s : Shared} {H : Hp} {C : Addr} {cl : List (Str × Addr)} {fp : List Addr} {N : List Str} {sc scope1 scope : Scope} {own : List (Str × Nat)} (hs : X.env.scope = sc) (hN : X.N = N) (h : blkC N (relS scope1 sc) scope own = true) :
    BlkOk (X.blk s H scope1 (compEnvC scope1 cl C X.env) fp).N (X.blk s H scope1 (compEnvC scope1 cl C X.env) fp).env.scope scope own := by
  subst hs hN
  exact blkOk_by h
end DL

/-! SF: sorted(xs) of a list of tuples, nested ones too. -/
namespace DL
open PySem PySem.Spec PyProof.Rows L2
/-- things that sorted can sort -/
structure SortOk (xs : List D) : Prop where
  few : xs.length ≤ 100000
  key : ∀ d ∈ xs, ∃ k, nkD d = some k ∧ k.depth ≤ 8
  al : ∀ d ∈ xs, ∀ e ∈ xs, PySem.W.alike (pyD d) (pyD e) = true
  tup : ∀ d ∈ xs, ∃ x r, d = .tup (x :: r)
def rSortT (K : PySem.W.Frag) : List V → Hp → VK → Prop := fun vs H Q => ∃ (F : Hp) (l : Addr) (as : List Addr) (ds : List D), Ext F H ∧ vs = [V.ref l] ∧ SqL K H l (as.map V.ref) ∧ RelDs K F (as.map V.ref) ds ∧ SortOk ds ∧
  ∀ (bs : List (Addr × D)) (p : Addr), (bs.map (·.2)).Perm ds → (∀ q ∈ bs, RelD K F (.ref q.1) q.2) → bs.Pairwise (fun q r => leD q.2 r.2 = true) → H p = none → Q (.ref p) (upd H p (.lst (bs.map fun q => V.ref q.1)))
section
variable {X : Cx}
theorem zip_rel {K : PySem.W.Frag} {F : Hp} : ∀ {as : List Addr} {ds : List D}, RelDs K F (as.map V.ref) ds → (∀ q ∈ as.zip ds, RelD K F (.ref q.1) q.2) ∧ (as.zip ds).map (·.2) = ds ∧ (as.zip ds).map (·.1) = as
  | [], _, .nil => ⟨by simp, rfl, rfl⟩
  | a :: as, _, .cons (d := d) (ds := ds) h r => by
    obtain ⟨h1, h2, h3⟩ := zip_rel (as := as) r
    refine ⟨fun q hq => ?_, by rw [List.zip_cons_cons, List.map_cons, h2], by rw [List.zip_cons_cons, List.map_cons, h3]⟩
    rw [List.zip_cons_cons] at hq
    rcases List.mem_cons.mp hq with rfl | hq
    · exact h
    · exact h1 q hq
theorem rel_zip {K : PySem.W.Frag} {F : Hp} : ∀ {bs : List (Addr × D)}, (∀ q ∈ bs, RelD K F (.ref q.1) q.2) → RelDs K F (bs.map fun q => V.ref q.1) (bs.map (·.2))
  | [], _ => .nil
  | b :: bs, h => .cons (h b (by simp)) (rel_zip fun q hq => h q (by simp [hq]))
theorem cr_sortT (hc : X.calm = true) (hu : X.A.units + 11 < cLine) : CallR X (.builtin "sorted") (rSortT X.K) := by
  intro pins s σ H vs us Q I r h
  obtain ⟨F, l, as, ds, ex, rfl, hl, hr, ok, q⟩ := h
  rw [Vals.ref1 r]
  obtain ⟨its, rv, pl, hz⟩ := I.list hl
  obtain ⟨z1, z2, z3⟩ := zip_rel hr
  have ei : its = as.map Value.ref := refs_vals rv
  have key : ∀ b ∈ as.zip ds, ∃ k, nkD b.2 = some k ∧ k.depth ≤ 8 ∧ Reads s.heap (.ref b.1) (pyD b.2) [] ∧ (pyD b.2).depth = k.depth := fun b hb => by
    have hd : b.2 ∈ ds := by rw [← z2]; exact List.mem_map.mpr ⟨b, hb, rfl⟩
    obtain ⟨k, h1, h2⟩ := ok.key _ hd
    obtain ⟨y1, y2, y3⟩ := nk_py h1
    have e : pyD b.2 = k.data := by unfold pyD; rw [y1]; rfl
    exact ⟨k, h1, h2, by rw [e]; exact nk_reads I ex b.2 k _ (.ref b.1) h1 (z1 b hb) rfl, by rw [e]; exact y3⟩
  have ee : ∀ l : List (Addr × D), PySem.W.EachIs (fun v (b : Addr × D) => v = Value.ref b.1) (l.map fun b => Value.ref b.1) l := by
    intro l
    induction l with
    | nil => exact .nil
    | cons a l ih => exact .cons rfl ih
  have er : ∀ l : List (Addr × D), (∀ b ∈ l, b ∈ as.zip ds) → PySem.W.EachIs (fun v (b : Addr × D) => ∃ as, Reads s.heap v (pyD b.2) as) (l.map fun b => Value.ref b.1) l := by
    intro l
    induction l with
    | nil => intro _; exact .nil
    | cons a l ih => intro hl; exact .cons ⟨[], (key a (hl a (by simp))).choose_spec.2.2.1⟩ (ih fun b hb => hl b (by simp [hb]))
  have ev : as.map Value.ref = (as.zip ds).map fun b => Value.ref b.1 := by
    have e3 := congrArg (List.map Value.ref) z3
    rw [List.map_map] at e3
    exact e3.symm
  have hL : s.heap.IsList l (((as.zip ds).map fun b => Value.ref b.1).toArray) := by
    rw [← ev, ← ei]; exact pl.isList
  have mem : ∀ b ∈ as.zip ds, b.2 ∈ ds := fun b hb => by rw [← z2]; exact List.mem_map.mpr ⟨b, hb, rfl⟩
  have hlen : (as.zip ds).length = ds.length := by have := congrArg List.length z2; simpa using this
  refine PySem.W.sorted_data (R := fun v (b : Addr × D) => v = Value.ref b.1) (enc := fun b => pyD b.2) (bs := as.zip ds) hL (ee _) (er _ fun b hb => hb) ?_ ?_ (by rw [hlen, sizeLine_eq]; have := ok.few; omega) ?_ fun out o1 o2 => ?_
  · intro d hd' d' hd2
    obtain ⟨a, ha, rfl⟩ := List.mem_map.mp hd'
    obtain ⟨b, hb, rfl⟩ := List.mem_map.mp hd2
    exact ok.al _ (mem a ha) _ (mem b hb)
  · refine .inl fun d hd' => ?_
    obtain ⟨a, ha, rfl⟩ := List.mem_map.mp hd'
    obtain ⟨x, r, e⟩ := ok.tup _ (mem a ha)
    obtain ⟨k, h1, h2⟩ := ok.key _ (mem a ha)
    rw [e] at h1
    obtain ⟨ks, k1, k2⟩ := nkD_tup h1
    obtain ⟨k3, l, _, _, rfl⟩ := nkDs_cons k1
    refine ⟨k3.data, NestedKey.datas l, ?_⟩
    unfold pyD
    rw [e, (nk_py h1).1, k2]
    simp [NestedKey.data, NestedKey.datas]
  · intro b hb
    obtain ⟨k, _, h2, _, h3⟩ := key b hb
    rw [h3]; omega
  · have e4 : out = ((as.zip ds).mergeSort (PySem.W.dataLe false fun b => pyD b.2)).map fun b => Value.ref b.1 := by
      have : ∀ (o : List Value) (l : List (Addr × D)), PySem.W.EachIs (fun v (b : Addr × D) => v = Value.ref b.1) o l → o = l.map fun b => Value.ref b.1 := by
        intro o l h
        induction h with
        | nil => rfl
        | cons h1 _ ih => rw [h1, ih]; rfl
      exact this _ _ o2
    have pm2 : ((as.zip ds).mergeSort (PySem.W.dataLe false fun b => pyD b.2)).Perm (as.zip ds) := List.mergeSort_perm _ _
    have pw : ((as.zip ds).mergeSort (PySem.W.dataLe false fun b => pyD b.2)).Pairwise fun a b => PySem.W.dataLe false (fun b : Addr × D => pyD b.2) a b = true := PySem.W.sort_pairwise (PySem.W.sortLe_total _ false _) _
    generalize (as.zip ds).mergeSort (PySem.W.dataLe false fun b => pyD b.2) = bs at e4 pm2 pw
    obtain ⟨c, hc'⟩ := PyProof.Rows.sortedAll_at s.heap ((as.zip ds).map fun b => Value.ref b.1) out.toArray
    have hn : H (s.heap.objs.size + 1) = none := I.hok.fresh (Nat.le_succ _)
    have hv : Vals (bs.map fun b => V.ref b.1) out.toArray.toList := by
      have := vals_refs (bs.map (·.1))
      rw [List.map_map, List.map_map] at this
      rw [List.toList_toArray, e4]; exact this
    have hlb : bs.length = ds.length := by rw [pm2.length_eq, hlen]
    refine ⟨.ref (s.heap.objs.size + 1), upd H (s.heap.objs.size + 1) (.lst (bs.map fun b => V.ref b.1)), I.laid (t' := s.toks) (fun _ _ => PyProof.Rows.sortedAll_old) (Nat.le_succ _) ⟨by rw [List.length_map, hlb, sizeLine_eq]; have := ok.few; omega, out.toArray.toList, c, hv, hc'⟩, rfl, q bs _ ?_ (fun b hb => z1 b (pm2.mem_iff.mp hb)) pw hn⟩
    have := pm2.map (·.2)
    rw [z2] at this
    exact this
def gSortT : GC := fun ds M Q => match ds with
  | [x] => (match lstOf x M with
    | some xs => SortOk xs ∧ ∀ ys, ys.Perm xs → (ys.Pairwise fun x y => leD x y = true) → Q (.lst ys) M
    | none => False)
  | _ => False
theorem cd_sortT (hc : X.calm = true) (hu : X.A.units + 11 < cLine) : CallD X (.builtin "sorted") gSortT := fun F H M xs ds Qd Q R r q k => by
  unfold gSortT at q
  split at q
  · cases r with
    | cons r1 r2 =>
      cases r2
      split at q
      · rename_i ys hy
        obtain ⟨ok, q⟩ := q
        obtain ⟨a, vs, rfl, hs, rs⟩ := lst_ok R r1 hy
        obtain ⟨as, rfl⟩ := refs_of rs ok.tup
        refine ⟨_, cr_sortT hc hu, F, a, as, ys, R.sub, rfl, SqL.of hs, rs, ok, fun bs p pm rb pw hp => ?_⟩
        obtain ⟨e2, R2⟩ := R.frozen (o := .lst (bs.map fun q => V.ref q.1)) hp
        refine k (.ref p) _ _ (.lst (bs.map (·.2))) M e2 R2 (.lst upd_same ((rel_zip rb).mono e2.ext)) (q _ pm ?_)
        rw [List.pairwise_map]
        exact pw
      · exact q.elim
  · exact q.elim
end
end DL

/-! SG: printed by mk_sg.py: sorted(set(xs)) of a tuple. -/
namespace DL
open PySem PySem.Spec PyProof.Rows L2
section
variable {P : Program} {w : World} {A : Around} {E : Value → Shared → Prop} {s : Shared} {κ : Addr → NestedKey}
/-- set(xs) of a tuple -/
theorem call_setNT {l : Addr} {items : Array Value} {as : List Addr} {Q : Value → Shared → Prop} (hh : A.handled = none) (hl : s.heap.IsTuple l items) (hit : items.toList = as.map Value.ref) (hk : ∀ a ∈ as, Nk s.heap (κ a) a) (few : as.length < 64) (hu : A.units + 11 < cLine)
    (q : ∀ (h' : Heap) (tk : Nat) L es ep t, SetN w κ h' s.heap.objs.size L es ep t → Met κ as as.length L → (∀ b o, s.heap.get? b = some o → h'.get? b = some o) → Q (.ref s.heap.objs.size) { s with heap := h', toks := tk }) :
    wpAny (model P w) A (call (.type "set") [.ref l]) Q E s := by
  have isz : items.size = as.length := by rw [← Array.length_toList, hit, List.length_map]
  have lS : l < s.heap.objs.size := by obtain ⟨o, ho, _⟩ := hl; exact Heap.lt_size ho
  have fresh : ∀ b, s.heap.objs.size ≤ b → s.heap.get? b = none := fun b hb => by
    cases e : s.heap.get? b with
    | none => rfl
    | some o => exact absurd (Nat.lt_of_lt_of_le (Heap.lt_size e) hb) (Nat.lt_irrefl _)
  obtain ⟨c, tl, hmro⟩ := F.called_set.mro
  have hmade := F.called_set.made
  have hsub := F.called_set.sub
  refine wpAny_call (codeAny_of_tree ?_)
  show wpAny _ _ (callAny (.type "set") _) _ _ _
  refine wpAny_pure ⟨Code.quiet_builtin _ (by decide +kernel), codeAny_builtin F.entry_type_call ?_⟩
  rw [Around.under_plain (weight_type_call_type "set" [.ref l] []) rfl]
  have h1 := F.called_set.notType
  have h2 := F.called_set.canCreate
  have hct := F.typeCall_set_1 (.ref l)
  repeat (any_goals (first | assumption | wp_step))
  refine codeAny_mono (code_set_led1 (.ref l) (E := E) (Q₁ := fun obj s₁ => obj = .ref s.heap.objs.size ∧ s₁ = { s with heap := s.heap.push (noSet w) }) ⟨rfl, rfl⟩) fun r s₁ hr => ?_
  cases r with
  | error e => exact hr
  | ok fl =>
    cases fl with
    | ret obj =>
      obtain ⟨rfl, rfl⟩ := hr
      have gS : (s.heap.push (noSet w)).get? s.heap.objs.size = some (noSet w) := Heap.get?_push_size _ rfl
      have tS : Shared.TypeIs { s with heap := s.heap.push (noSet w) } (.ref s.heap.objs.size) "set" := ⟨_, gS, rfl⟩
      have hli := F.called_set.init.lookup
      have hbi := F.called_set.init.bind (.ref s.heap.objs.size)
      repeat (any_goals (first | assumption | wp_step))
      refine codeAny_mono (codeAny_call_builtin (R := wants (fun r s₂ => r = .none ∧ ∃ h' tk L es ep t, s₂ = { s with heap := h', toks := tk } ∧ SetN w κ h' s.heap.objs.size L es ep t ∧ Met κ as as.length L ∧
          (∀ b o, s.heap.get? b = some o → h'.get? b = some o)) E) F.called_set.init.plain F.entry_set_init (check_set_init_1 tS ?_)) fun r₂ s₂ hr₂ => ?_
      · obtain ⟨ol, hol, hcl, nl, hdl⟩ := hl
        obtain ⟨ocls, odict, odata, oslots⟩ := ol
        simp only at hcl hdl
        subst hcl; subst hdl
        have hol' : (s.heap.push (noSet w)).get? l = some { cls := .type "tuple", dict := odict, data := .seq items nl, slots := oslots } := Heap.get?_push_of_some _ hol
        have hsls := PySem.F.sub_tuple_set
        have hslf := PySem.F.sub_tuple_frozenset
        have hne : (Value.type "tuple" == Value.type "dict") = false := by decide
        have hl1 : (s.heap.push (noSet w)).IsTuple l items := ⟨_, hol', rfl, nl, rfl⟩
        unfold Builtin.«set.__init__» noKeywords Builtin.Frozenset.updateFrom
        generalize hPI : pyIter = PI
        wp_walk
        subst hPI
        refine wpAny_pyIter_tuple hl1 ?_
        refine wpAny_bind (wpAny_runValue ?_)
        have hz1 : (s.heap.push (noSet w)).objs.size = s.heap.objs.size + 1 := Heap.size_push ..
        have W := (Walks.tuple (prog := P) (w := w) (A := A.in1.in1.in1) (by simp [hh]) (s.heap.push (noSet w)).objs.size l (by rw [hz1]; exact Nat.ne_of_lt (Nat.lt_succ_of_lt lS)) items).toS
        rw [isz] at W
        have get : (((s.heap.push (noSet w)).push { cls := .type "tuple_iterator", data := .fields #[.ref l, .int 0 0] })).get? s.heap.objs.size = some (noSet w) := Heap.get?_push_of_some _ gS
        refine update_loop (κ := κ) (as := as) W (S := s.heap.objs.size) (by rw [hz1]; simp only [List.mem_cons, List.not_mem_nil, or_false, not_or]; exact ⟨Nat.ne_of_lt (Nat.lt_succ_self _), Nat.ne_of_gt lS⟩) few (fun i v hv => ?_) s.heap hk (fresh _ (Nat.le_refl _)) (fun b hb => fresh b (by
            rw [List.mem_singleton.mp hb, hz1]
            exact Nat.le_succ _)) (show A.units + 3 + 8 < cLine by omega) as.length 0 _ (by omega) ⟨⟨_, Heap.get?_push_size _ rfl, rfl, rfl⟩, (hl1.push _)⟩ (fun b o e => Heap.get?_push_of_some _ (Heap.get?_push_of_some _ e))
          ⟨[], #[], 0, _, set_empty get, ⟨fun _ h => (by cases h), fun _ h => (by simp at h), Nat.le_refl _⟩⟩ ?_
        · have e : items.toList[i]? = some v := by rw [Array.getElem?_toList]; exact hv
          rw [hit, List.getElem?_map] at e
          cases z : as[i]? with
          | none => rw [z] at e; cases e
          | some a => rw [z] at e; exact ⟨a, rfl, (Option.some.inj e).symm⟩
        · intro s' L es ep t hm hS' g' k
          obtain ⟨h', g2, d', tk', os'⟩ := s'
          have e1 : g2 = s.gens := hm.gens
          have e2 : d' = s.drawn := hm.drawn
          have e3 : os' = s.os := hm.os
          subst e1 e2 e3
          refine wpAny_pure ?_
          show wpAny _ _ (ret Value.none) _ _ _
          exact wpAny_pure ⟨rfl, h', tk', L, es, ep, t, rfl, hS', g', k⟩
      · cases r₂ with
        | error e => exact hr₂
        | ok fl₂ =>
          cases fl₂ with
          | ret r =>
            obtain ⟨rfl, h', tk, L, es, ep, t, rfl, hS', g', k⟩ := hr₂
            repeat (any_goals (first | assumption | wp_step))
            exact q _ _ _ _ _ _ hS' g' k
          | _ => exact hr₂.elim
    | _ => exact hr.elim
end
section
variable {X : Cx}
theorem tup_ok {K : PySem.W.Frag} {F H : Hp} {M : Sto} {v : V} {xs : List D} (R : Rst0 K F H M) (r : RelD K F v (.tup xs)) : ∃ a vs, v = .ref a ∧ SqT K H a vs ∧ RelDs K F vs xs := by
  cases r with
  | tup hs rs => exact ⟨_, _, rfl, R.sub.sqT hs, rs⟩
def rSetNT (K : PySem.W.Frag) (w : World) : List V → Hp → VK → Prop := fun xs H Q => ∃ (F : Hp) (l : Addr) (as : List Addr) (ds : List D), Ext F H ∧ xs = [V.ref l] ∧ SqT K H l (as.map V.ref) ∧ RelDs K F (as.map V.ref) ds ∧ (∀ d ∈ ds, ∃ k, nkD d = some k ∧ k.depth ≤ 8) ∧ as.length < 64 ∧
  ∀ p L κ, H p = none → (∀ a ∈ L, a ∈ as) → (∀ a ∈ as, κ a ∈ L.map κ) → (L.map κ).Nodup → L.length < 64 → (∀ a d, RelD K F (.ref a) d → a ∈ as → d ∈ ds → nkD d = some (κ a)) → Q (.ref p) (upd H p (SetNO w κ p L))
theorem cr_setNT (hc : X.calm = true) (hu : X.A.units + 11 < cLine) : CallR X (.type "set") (rSetNT X.K X.w) := by
  intro pins s σ H xs us Q I r h
  obtain ⟨F, l, as, ds, ex, rfl, hl, hr, hk, few, q⟩ := h
  rw [Vals.ref1 r]
  obtain ⟨its, rv, pl, hz⟩ := I.tuple hl
  have hn : H s.heap.objs.size = none := I.hok.fresh (Nat.le_refl _)
  have key : ∀ a ∈ as, ∀ d ∈ ds, RelD X.K F (.ref a) d → ∃ k, nkD d = some k ∧ Nk s.heap k a := fun a ha d hd rd => by
    obtain ⟨k, h1, h2⟩ := hk d hd
    exact ⟨k, h1, nk_of I ex d k _ (.ref a) h1 rd rfl, h2⟩
  let κ : Addr → NestedKey := fun a => open Classical in if z : ∃ k, Nk s.heap k a then z.choose else .none
  have κe : ∀ a k, Nk s.heap k a → κ a = k := fun a k z => by
    have w : ∃ k, Nk s.heap k a := ⟨k, z⟩
    have : κ a = w.choose := dif_pos w
    rw [this]
    exact NestedIs.inj _ _ _ w.choose_spec.1 z.1
  have κk : ∀ a ∈ as, Nk s.heap (κ a) a := fun a ha => by
    obtain ⟨d, hd, rd⟩ := hr.at_mem (.ref a) (List.mem_map.mpr ⟨a, ha, rfl⟩)
    obtain ⟨k, _, z⟩ := key a ha d hd rd
    rw [κe a k z]; exact z
  refine call_setNT (P := X.prog) (w := X.w) (κ := κ) (as := as) (I.ok.hd hc) pl (by simpa using refs_vals rv) κk few hu fun h' tk L es ep t R g k => ?_
  refine ⟨.ref s.heap.objs.size, upd H s.heap.objs.size (SetNO X.w κ s.heap.objs.size L), I.laid (t' := tk) k (Nat.le_refl _) (setNO_ok R.q), rfl, q _ L κ hn (fun a ha => ?_) (fun a ha => ?_) R.nd R.few fun a d rd ha hd => ?_⟩
  · exact List.mem_of_mem_take (g.sub a ha)
  · exact g.all a (by rw [List.take_length]; exact ha)
  · obtain ⟨k, h1, h2⟩ := key a ha d hd rd
    rw [κe a k h2]; exact h1
end
def dSortSetT (t : DTE) : DTE := fun τ M Q => t τ M fun x M1 => match x with
  | .tup xs => SetOk xs ∧ ∀ ys, SortedSet xs ys → Q (.lst ys) M1
  | _ => False
section
variable {X : Cx} {e : Expr} {t : DTE}
theorem de_sortSetT {p1 p2 q1 q2 : Pos} (hc : X.calm = true) (hu : X.A.units + 11 < cLine) (he : DE X e t) (m1 : X.mg "sorted" = none) (m2 : X.mg "set" = none)
    (v1 : bootBuiltins "sorted" = some (.builtin "sorted") := by decide +kernel) (v2 : bootBuiltins "set" = some (.type "set") := by decide +kernel) (g1 : Gl X "sorted" := by rfl) (g2 : Gl X "set" := by rfl)
    (s1 : starEach [e] X.env = (false, eval e X.env) :: starEach [] X.env := by rfl) (s2 : (backTo q2 (starEach [] X.env)).any (·.1) = false := by rfl)
    (s3 : starEach [.Call (.Name "set" p2) [e] [] q2] X.env = (false, eval (.Call (.Name "set" p2) [e] [] q2) X.env) :: starEach [] X.env := by rfl) (s4 : (backTo q1 (starEach [] X.env)).any (·.1) = false := by rfl) :
    DE X (.Call (.Name "sorted" p1) [.Call (.Name "set" p2) [e] [] q2] [] q1) (dSortSetT t) := by
  obtain ⟨u, pu, ru⟩ := he.ex
  refine ⟨_, pe_callB (cr_sortN hc hu) g1 m1 v1 (pa_cons (pe_callTy (cr_setNT hc hu) g2 m2 v2 (pa_cons pu pa_nil s1) (by decide) (by decide) s1 s2) pa_nil s3) (by decide) (by decide) s3 s4, fun F H σ τ M Qd Q R q k => ?_⟩
  refine ru F H σ τ M _ _ R q fun v F1 H1 d M1 e1 R1 r1 q1 => ?_
  split at q1
  · rename_i xs
    obtain ⟨ok, q1⟩ := q1
    obtain ⟨a, vs, rfl, hs, rs⟩ := tup_ok R1.heap r1
    obtain ⟨as, rfl⟩ := refs_of rs ok.tup
    refine ⟨F1, a, as, xs, R1.heap.sub, rfl, hs, rs, ok.key, by have := rs.length; simp at this; have := ok.few; omega, fun p L κ hp sub all nd fewL kk => ?_⟩
    obtain ⟨e2, R2⟩ := R1.heap.extra (o := SetNO X.w κ p L) hp
    have tr : ∀ a ∈ as, ∃ d ∈ xs, RelD X.K F1 (.ref a) d ∧ nkD d = some (κ a) := fun a ha => by
      obtain ⟨d, hd, rd⟩ := rs.at_mem (.ref a) (List.mem_map.mpr ⟨a, ha, rfl⟩)
      exact ⟨d, hd, rd, kk a d rd ha hd⟩
    have py : ∀ a ∈ as, ∃ d ∈ xs, pyD d = (κ a).data := fun a ha => by
      obtain ⟨d, hd, _, hk⟩ := tr a ha
      exact ⟨d, hd, by unfold pyD; rw [(nk_py hk).1]; rfl⟩
    refine ⟨F1, p, L, κ, R2.sub, rfl, upd_same, fun b hb => ?_, fun b hb c hc' => ?_, fun b hb => ?_, fun L' p2 pm pw hp2 => ?_⟩
    · obtain ⟨d, hd, rd, hk⟩ := tr b (sub b hb)
      obtain ⟨k', h1, h2⟩ := ok.key d hd
      rw [hk] at h1; cases h1
      exact ⟨d, rd, hk, h2⟩
    · obtain ⟨d, hd, hk⟩ := py b (sub b hb)
      obtain ⟨d', hd', hk'⟩ := py c (sub c hc')
      rw [← hk, ← hk']
      exact ok.al d hd d' hd'
    · obtain ⟨d, hd, _, hk⟩ := tr b (sub b hb)
      obtain ⟨x, r, rfl⟩ := ok.tup d hd
      obtain ⟨ks, h1, h2⟩ := nkD_tup hk
      obtain ⟨k1, l, _, _, rfl⟩ := nkDs_cons h1
      rw [h2]
      exact ⟨k1.data, NestedKey.datas l, by simp [NestedKey.data, NestedKey.datas]⟩
    · obtain ⟨e3, R3⟩ := R2.frozen (o := .lst (L'.map V.ref)) hp2
      obtain ⟨ys, y1, y2, y3⟩ := trees_of (K := X.K) (F := F1) (κ := κ) (ds := xs) (L := L') fun a ha => tr a (sub a (pm.mem_iff.mp ha))
      refine k (.ref p2) _ _ (.lst ys) M1 ((e1.trans e2).trans e3) (R1.mono e3.ext R3) (.lst upd_same (y1.mono e3.ext)) (q1 ys ⟨fun y => ⟨y2 y, fun hy => ?_⟩, ?_, ?_⟩)
      · -- every thing came in
        obtain ⟨i, hi⟩ := List.getElem?_of_mem hy
        obtain ⟨v, hv, rv⟩ := rs.get hi
        rw [List.getElem?_map] at hv
        cases ha : as[i]? with
        | none => rw [ha] at hv; cases hv
        | some b =>
          rw [ha] at hv; cases hv
          have bm := List.mem_of_getElem? ha
          have hk := kk b y rv bm hy
          have : κ b ∈ L'.map κ := (pm.map κ).mem_iff.mpr (all b bm)
          obtain ⟨c, hc', ec⟩ := List.mem_map.mp this
          have : some (κ c) ∈ ys.map nkD := by rw [y3]; exact List.mem_map.mpr ⟨c, hc', rfl⟩
          obtain ⟨z, hz, ez⟩ := List.mem_map.mp this
          rw [ec] at ez
          rw [nkD_inj hk ez]; exact hz
      · have n1 : (ys.map nkD).Nodup := by
          rw [y3]
          have : (L'.map κ).Nodup := (pm.map κ).nodup_iff.mpr nd
          rw [List.nodup_iff_pairwise_ne, List.pairwise_map] at this ⊢
          exact this.imp fun h z => h (Option.some.inj z)
        exact List.Pairwise.of_map nkD (fun _ _ hne z => hne (congrArg nkD z)) n1
      · have pys : ys.map pyD = L'.map fun a => (κ a).data := by
          have h1 : ∀ y ∈ ys, ∃ k, nkD y = some k := fun y hy => by
            obtain ⟨k, h, _⟩ := ok.key y (y2 y hy)
            exact ⟨k, h⟩
          have h2 : ys.map pyD = (ys.map nkD).map fun o => (o.map NestedKey.data).getD .none := by
            rw [List.map_map]
            apply List.map_congr_left
            intro y hy
            obtain ⟨k, h⟩ := h1 y hy
            simp only [Function.comp_apply, h, Option.map_some, Option.getD_some]
            unfold pyD
            rw [(nk_py h).1]; rfl
          rw [h2, y3, List.map_map]; rfl
        have a1 : (L'.map fun a => (κ a).data).Pairwise fun x y => PySem.W.dataLe false id x y = true := by
          rw [List.pairwise_map]
          exact pw
        rw [← pys, List.pairwise_map] at a1
        exact a1
  · exact q1.elim
end
end DL

/-! SH: isinstance(x, (A, B)). -/
namespace DL
open PySem PySem.Spec PyProof.Rows L2
def rIsiS (K : PySem.W.Frag) : List V → Hp → VK → Prop := fun xs H Q => ∃ (x : V) (tp : Addr) (cs : List V) (t : Value) (us : List Value) (b : Bool), xs = [x, .ref tp] ∧ SqT K H tp cs ∧ Paired ClsV cs us ∧ TyX K H x t ∧ PySem.W.kitAny K t us = some b ∧ Q (.bl b) H
section
variable {X : Cx}
theorem cr_isiS : CallR X (.builtin "isinstance") (rIsiS X.K) := by
  intro pins s σ H xs us Q I r h
  obtain ⟨x, tp, cs, t, ws, b, rfl, hT, k, ty, e, q⟩ := h
  obtain ⟨u1, u2, rfl, r1, r2⟩ := vals2 r
  cases (show u2 = Value.ref tp from r2)
  obtain ⟨P, Z, p, hx⟩ := kit_of I r1 ty
  obtain ⟨its, rv, ⟨o, h1, h2, n, h3⟩, _⟩ := I.tuple hT
  have e3 := ClsV.all k rv
  subst e3
  obtain ⟨oc, od, dt, sl⟩ := o
  simp only at h2 h3
  subst h2 h3
  exact PySem.W.kia_tup Z I.kIn p h1 e hx fun tk => ⟨.bl b, H, I.tok tk, rfl, q⟩
@[simp] def gIsiT : GC := fun ds M Q => match ds with
  | [x, .tup [.ty n1, .ty n2]] => (match tyName x M with
    | some t => (match kitB t n1, kitB t n2 with
      | some b1, some b2 => Q (.bl (b1 || b2)) M
      | _, _ => False)
    | none => False)
  | _ => False
theorem cd_isiT : CallD X (.builtin "isinstance") gIsiT := fun F H M xs ds Qd Q R r q k => by
  unfold gIsiT at q
  split at q
  · rename_i x n1 n2
    split at q
    · rename_i t ht
      split at q
      · rename_i b1 b2 h1 h2
        cases r with
        | cons r1 r2 => cases r2 with
          | cons r2 r3 =>
            cases r3
            cases r2 with
            | tup hs rs =>
              cases rs with
              | cons ra rs => cases rs with
                | cons rb rs =>
                  cases rs; cases ra; cases rb
                  have e : PySem.W.kitAny X.K (.type t) [.type n1, .type n2] = some (b1 || b2) := by
                    cases b1 with
                    | true => exact kitAny_cons (kit_ty h1) (fun z => by cases z) fun _ => rfl
                    | false =>
                      refine kitAny_cons (kit_ty h1) (fun _ => ?_) fun z => by cases z
                      refine kitAny_cons (kit_ty h2) (fun z => ?_) fun z => ?_
                      · rw [z]; exact kitAny_nil
                      · rw [z]; rfl
                  exact ⟨_, cr_isiS, _, _, _, _, _, (b1 || b2), rfl, R.sub.sqT hs, .cons (.ty n1) (.cons (.ty n2) .nil), tyX_ok R r1 ht, e, k _ F H _ M (Stp.refl F H M) R (.bl _) q⟩
      · exact q.elim
    · exact q.elim
  · exact q.elim
end
end DL

/-! TH: things (numbers, words, unknowns, new kinds, built ones) as trees, as data, as texts. -/
namespace DL
open PySem PySem.Spec PyProof.Rows L2

inductive Th where
  | num (i : Int) | word (s : Str) | opn (n : Int) | new (n : Int) | blt (h : Str) (xs : List Th)
mutual
def Th.d : Th → D
  | .num i => .int i
  | .word s => .str s
  | .opn n => .tup [.str "?", .int n]
  | .new n => .tup [.str "~", .int n]
  | .blt h xs => .tup (.str h :: Th.ds xs)
def Th.ds : List Th → List D
  | [] => []
  | x :: r => x.d :: Th.ds r
end
mutual
def Th.py : Th → PyData
  | .num i => .int i
  | .word s => .str s
  | .opn n => .tuple [.str "?", .int n]
  | .new n => .tuple [.str "~", .int n]
  | .blt h xs => .tuple (.str h :: Th.pys xs)
def Th.pys : List Th → List PyData
  | [] => []
  | x :: r => x.py :: Th.pys r
end
/-- small letters, at most 20 -/
def nice (s : Str) : Prop := (∀ c ∈ s.cps.toList, 97 ≤ c ∧ c ≤ 122) ∧ s.cps.toList.length ≤ 20
def small (i : Int) : Prop := i.natAbs < 10 ^ 20
mutual
/-- names nice, numbers small, few parts -/
def Th.ok : Th → Prop
  | .num i => small i
  | .word s => nice s
  | .opn n => small n
  | .new n => small n
  | .blt h xs => nice h ∧ xs.length ≤ 1000 ∧ Th.oks xs
def Th.oks : List Th → Prop
  | [] => True
  | x :: r => x.ok ∧ Th.oks r
end
mutual
def Th.dp : Th → Nat
  | .num _ => 0
  | .word _ => 0
  | .opn _ => 1
  | .new _ => 1
  | .blt _ xs => Th.dps xs + 1
def Th.dps : List Th → Nat
  | [] => 0
  | x :: r => max x.dp (Th.dps r)
end
mutual
def Th.sz : Th → Nat
  | .num _ => 1
  | .word _ => 1
  | .opn _ => 3
  | .new _ => 3
  | .blt _ xs => Th.szs xs + 1
def Th.szs : List Th → Nat
  | [] => 0
  | x :: r => x.sz + Th.szs r
end
theorem ds_map : ∀ xs : List Th, Th.ds xs = xs.map Th.d
  | [] => by simp [Th.ds]
  | x :: r => by rw [Th.ds, List.map_cons, ds_map r]
theorem pys_map : ∀ xs : List Th, Th.pys xs = xs.map Th.py
  | [] => by simp [Th.pys]
  | x :: r => by rw [Th.pys, List.map_cons, pys_map r]
theorem oks_iff : ∀ xs : List Th, Th.oks xs ↔ ∀ x ∈ xs, x.ok
  | [] => by simp [Th.oks]
  | x :: r => by rw [Th.oks, oks_iff r]; simp
theorem dps_le {n : Nat} : ∀ xs : List Th, Th.dps xs ≤ n ↔ ∀ x ∈ xs, x.dp ≤ n
  | [] => by simp [Th.dps]
  | x :: r => by rw [Th.dps]; simp [← dps_le r]; omega
mutual
theorem toPy_d : ∀ t : Th, toPy t.d = some t.py
  | .num i => by simp [Th.d, Th.py, toPy]
  | .word s => by simp [Th.d, Th.py, toPy]
  | .opn n => by simp [Th.d, Th.py, toPy, toPys]
  | .new n => by simp [Th.d, Th.py, toPy, toPys]
  | .blt h xs => by simp [Th.d, Th.py, toPy, toPys, toPys_ds xs]
theorem toPys_ds : ∀ ts : List Th, toPys (Th.ds ts) = some (Th.pys ts)
  | [] => by simp [Th.ds, Th.pys, toPys]
  | t :: r => by simp [Th.ds, Th.pys, toPys, toPy_d t, toPys_ds r]
end
theorem nice_ok {s : Str} (h : nice s) : PyData.strOk s = true := by
  unfold PyData.strOk
  rw [← Array.all_toList, List.all_eq_true]
  intro c hc
  have := h.1 c hc
  exact decide_eq_true (by omega)
theorem q_ok : PyData.strOk "?" = true := by decide +kernel
theorem n_ok : PyData.strOk "~" = true := by decide +kernel
mutual
theorem lay_py : ∀ t : Th, t.ok → t.py.canLay0 = true
  | .num i, _ => by simp [Th.py, PyData.canLay0]
  | .word s, h => by simp [Th.py, PyData.canLay0, nice_ok h]
  | .opn n, h => by simp [Th.py, PyData.canLay0, PyData.canLayAll0, q_ok]
  | .new n, h => by simp [Th.py, PyData.canLay0, PyData.canLayAll0, n_ok]
  | .blt s xs, h => by
    obtain ⟨h1, _, h3⟩ := h
    simp [Th.py, PyData.canLay0, PyData.canLayAll0, nice_ok h1, lay_pys xs h3]
theorem lay_pys : ∀ ts : List Th, Th.oks ts → PyData.canLayAll0 (Th.pys ts) = true
  | [], _ => by simp [Th.pys, PyData.canLayAll0]
  | t :: r, h => by simp [Th.pys, PyData.canLayAll0, lay_py t h.1, lay_pys r h.2]
end
theorem small_log {i : Int} (h : small i) : i.natAbs.log2 < 1920 := by
  by_cases e : i.natAbs = 0
  · rw [e]; decide
  · refine (Nat.log2_lt e).mpr (Nat.lt_of_lt_of_le h ?_)
    decide +kernel
mutual
theorem show_py : ∀ t : Th, t.ok → t.py.showable = true
  | .num i, h => by simp only [Th.py, PyData.showable]; exact decide_eq_true (small_log h)
  | .word s, h => by simp [Th.py, PyData.showable]
  | .opn n, h => by simp only [Th.py, PyData.showable, PyData.showableAll, decide_eq_true (small_log h), Bool.and_self]
  | .new n, h => by simp only [Th.py, PyData.showable, PyData.showableAll, decide_eq_true (small_log h), Bool.and_self]
  | .blt s xs, h => by
    obtain ⟨h1, _, h3⟩ := h
    simp only [Th.py, PyData.showable, PyData.showableAll, show_pys xs h3, Bool.and_self]
theorem show_pys : ∀ ts : List Th, Th.oks ts → PyData.showableAll (Th.pys ts) = true
  | [], _ => by simp [Th.pys, PyData.showableAll]
  | t :: r, h => by simp [Th.pys, PyData.showableAll, show_py t h.1, show_pys r h.2]
end
mutual
theorem dict_py : ∀ t : Th, t.py.hasDict = false
  | .num i => by simp [Th.py, PyData.hasDict]
  | .word s => by simp [Th.py, PyData.hasDict]
  | .opn n => by simp [Th.py, PyData.hasDict, PyData.hasDictAll]
  | .new n => by simp [Th.py, PyData.hasDict, PyData.hasDictAll]
  | .blt s xs => by simp [Th.py, PyData.hasDict, PyData.hasDictAll, dict_pys xs]
theorem dict_pys : ∀ ts : List Th, PyData.hasDictAll (Th.pys ts) = false
  | [] => by simp [Th.pys, PyData.hasDictAll]
  | t :: r => by simp [Th.pys, PyData.hasDictAll, dict_py t, dict_pys r]
end
mutual
theorem depth_py : ∀ t : Th, t.py.depth = t.dp
  | .num i => by simp [Th.py, PyData.depth, Th.dp]
  | .word s => by simp [Th.py, PyData.depth, Th.dp]
  | .opn n => by simp [Th.py, PyData.depth, PyData.depthAll, Th.dp]
  | .new n => by simp [Th.py, PyData.depth, PyData.depthAll, Th.dp]
  | .blt s xs => by simp [Th.py, PyData.depth, PyData.depthAll, depth_pys xs, Th.dp]
theorem depth_pys : ∀ ts : List Th, PyData.depthAll (Th.pys ts) = Th.dps ts
  | [] => by simp [Th.pys, PyData.depthAll, Th.dps]
  | t :: r => by simp [Th.pys, PyData.depthAll, Th.dps, depth_py t, depth_pys r]
end
/-! ### equality -/
mutual
theorem eqv_py : ∀ t u : Th, t.ok → u.ok → (PyData.eqv t.py u.py = true ↔ t = u)
  | .num i, .num j, _, _ => by simp [Th.py, PyData.eqv]
  | .word i, .word j, _, _ => by simp [Th.py, PyData.eqv]
  | .opn i, .opn j, _, _ => by simp [Th.py, PyData.eqv, PyData.eqvAll]
  | .new i, .new j, _, _ => by simp [Th.py, PyData.eqv, PyData.eqvAll]
  | .blt h xs, .blt g ys, a, b => by simp [Th.py, PyData.eqv, PyData.eqvAll, eqv_pys xs ys a.2.2 b.2.2]
  | .num _, .word _, _, _ => by simp [Th.py, PyData.eqv]
  | .num _, .opn _, _, _ => by simp [Th.py, PyData.eqv]
  | .num _, .new _, _, _ => by simp [Th.py, PyData.eqv]
  | .num _, .blt _ _, _, _ => by simp [Th.py, PyData.eqv]
  | .word _, .num _, _, _ => by simp [Th.py, PyData.eqv]
  | .word _, .opn _, _, _ => by simp [Th.py, PyData.eqv]
  | .word _, .new _, _, _ => by simp [Th.py, PyData.eqv]
  | .word _, .blt _ _, _, _ => by simp [Th.py, PyData.eqv]
  | .opn _, .num _, _, _ => by simp [Th.py, PyData.eqv]
  | .opn _, .word _, _, _ => by simp [Th.py, PyData.eqv]
  | .opn _, .new _, _, _ => by simp [Th.py, PyData.eqv, PyData.eqvAll]; intro h; exact absurd h (by decide +kernel)
  | .opn _, .blt g _, _, b => by
    simp [Th.py, PyData.eqv, PyData.eqvAll]; intro h; subst h
    exact absurd (b.1.1 63 (by decide +kernel)) (by decide)
  | .new _, .num _, _, _ => by simp [Th.py, PyData.eqv]
  | .new _, .word _, _, _ => by simp [Th.py, PyData.eqv]
  | .new _, .opn _, _, _ => by simp [Th.py, PyData.eqv, PyData.eqvAll]; intro h; exact absurd h (by decide +kernel)
  | .new _, .blt g _, _, b => by
    simp [Th.py, PyData.eqv, PyData.eqvAll]; intro h; subst h
    exact absurd (b.1.1 126 (by decide +kernel)) (by decide)
  | .blt _ _, .num _, _, _ => by simp [Th.py, PyData.eqv]
  | .blt _ _, .word _, _, _ => by simp [Th.py, PyData.eqv]
  | .blt g _, .opn _, a, _ => by
    simp [Th.py, PyData.eqv, PyData.eqvAll]; intro h; subst h
    exact absurd (a.1.1 63 (by decide +kernel)) (by decide)
  | .blt g _, .new _, a, _ => by
    simp [Th.py, PyData.eqv, PyData.eqvAll]; intro h; subst h
    exact absurd (a.1.1 126 (by decide +kernel)) (by decide)
theorem eqv_pys : ∀ ts us : List Th, Th.oks ts → Th.oks us → (PyData.eqvAll (Th.pys ts) (Th.pys us) = true ↔ ts = us)
  | [], [], _, _ => by simp [Th.pys, PyData.eqvAll]
  | [], _ :: _, _, _ => by simp [Th.pys, PyData.eqvAll]
  | _ :: _, [], _, _ => by simp [Th.pys, PyData.eqvAll]
  | t :: r, u :: s, a, b => by simp [Th.pys, PyData.eqvAll, eqv_py t u a.1 b.1, eqv_pys r s a.2 b.2]
end
end DL

/-! TI: what a thing's text is; unlike things have unlike texts; its length. -/
namespace DL
open PySem PySem.Spec PyProof.Rows L2
open TL (tl)
open PySem.Builtin.Str PySem.Builtin
/-- a number's signs -/
def numT (i : Int) : List Nat := tl (Str.ofString (toString i))
theorem int_lt_or (i : Int) : i < 0 ∨ 0 ≤ i := by omega
theorem numT_dig (i : Int) : ∀ c ∈ numT i, c = 45 ∨ (48 ≤ c ∧ c ≤ 57) := fun c hc => by
  apply Classical.byContradiction
  intro h
  refine int_text_free' c ⟨?_, ?_⟩ i hc
  · intro e; exact h (.inl e)
  · omega
theorem tl_neg (n : Nat) : numT (-((n : Int) + 1)) = 45 :: TL.numL (n + 1) := by
  have e : toString (-((n : Int) + 1)) = "-" ++ toString (((n + 1 : Nat) : Int)) := by
    rw [Int.toString_eq_repr, Int.toString_eq_repr, Int.repr_eq_if, Int.repr_eq_if]
    rw [if_neg (by omega), if_pos (by omega)]
    congr 2
  unfold numT
  rw [e, TL.tl_ofString, String.toList_append, List.map_append, ← TL.tl_num, TL.tl_ofString]
  rfl
theorem tl_pos (n : Nat) : numT (n : Int) = TL.numL n := TL.tl_num n
theorem numT_inj {i j : Int} (h : numT i = numT j) : i = j := by
  rcases int_lt_or i with hi | hi <;> rcases int_lt_or j with hj | hj
  · obtain ⟨n, rfl⟩ : ∃ n : Nat, i = -((n : Int) + 1) := ⟨(-i - 1).toNat, by omega⟩
    obtain ⟨m, rfl⟩ : ∃ n : Nat, j = -((n : Int) + 1) := ⟨(-j - 1).toNat, by omega⟩
    rw [tl_neg, tl_neg] at h
    have := TL.numL_inj (List.cons.inj h).2
    omega
  · obtain ⟨n, rfl⟩ : ∃ n : Nat, i = -((n : Int) + 1) := ⟨(-i - 1).toNat, by omega⟩
    obtain ⟨m, rfl⟩ : ∃ n : Nat, j = (n : Int) := ⟨j.toNat, by omega⟩
    rw [tl_neg, tl_pos] at h
    exact absurd (h ▸ List.mem_cons_self) (TL.numL_free (by decide))
  · obtain ⟨n, rfl⟩ : ∃ n : Nat, j = -((n : Int) + 1) := ⟨(-j - 1).toNat, by omega⟩
    obtain ⟨m, rfl⟩ : ∃ n : Nat, i = (n : Int) := ⟨i.toNat, by omega⟩
    rw [tl_neg, tl_pos] at h
    exact absurd (h.symm ▸ List.mem_cons_self) (TL.numL_free (by decide))
  · obtain ⟨n, rfl⟩ : ∃ n : Nat, i = (n : Int) := ⟨i.toNat, by omega⟩
    obtain ⟨m, rfl⟩ : ∃ n : Nat, j = (n : Int) := ⟨j.toNat, by omega⟩
    rw [tl_pos, tl_pos] at h
    rw [TL.numL_inj h]
theorem numT_ne (i : Int) : numT i ≠ [] := by
  rcases int_lt_or i with hi | hi
  · obtain ⟨n, rfl⟩ : ∃ n : Nat, i = -((n : Int) + 1) := ⟨(-i - 1).toNat, by omega⟩
    rw [tl_neg]; simp
  · obtain ⟨n, rfl⟩ : ∃ n : Nat, i = (n : Int) := ⟨i.toNat, by omega⟩
    rw [tl_pos]; exact TL.numL_ne n
theorem numT_len {i : Int} (h : small i) : (numT i).length ≤ 21 := by
  unfold small at h
  rcases int_lt_or i with hi | hi
  · obtain ⟨n, rfl⟩ : ∃ n : Nat, i = -((n : Int) + 1) := ⟨(-i - 1).toNat, by omega⟩
    rw [tl_neg, List.length_cons]
    have := TL.numL_len (n := n + 1) (k := 20) (by decide) (by omega)
    omega
  · obtain ⟨n, rfl⟩ : ∃ n : Nat, i = (n : Int) := ⟨i.toNat, by omega⟩
    rw [tl_pos]
    have := TL.numL_len (n := n) (k := 20) (by decide) (by omega)
    omega
/-! ### texts in quotes -/
theorem reprChar_plain : ∀ c < 127, 63 ≤ c → c ≠ 92 → reprChar 39 c = [c] := by decide +kernel
theorem reprText_nice {s : Str} (h : ∀ c ∈ tl s, c = 63 ∨ c = 126 ∨ (97 ≤ c ∧ c ≤ 122)) : tl (reprText s) = 39 :: (tl s ++ [39]) := by
  have hq : reprQuote s = 39 := by
    unfold reprQuote
    have : s.cps.contains 39 = false := by
      rw [← Array.contains_toList]
      cases e : s.cps.toList.contains 39 with
      | false => rfl
      | true => have := h 39 (by simpa using e); omega
    rw [this]; rfl
  have go : ∀ (l : List Nat) (acc : Array Nat), (∀ c ∈ l, c = 63 ∨ c = 126 ∨ (97 ≤ c ∧ c ≤ 122)) → (l.foldl (fun out c => out ++ (reprChar 39 c).toArray) acc).toList = acc.toList ++ l := by
    intro l
    induction l with
    | nil => intro acc _; simp
    | cons c r ih =>
      intro acc hl
      rw [List.foldl_cons, ih _ fun x hx => hl x (by simp [hx])]
      have hc := hl c (by simp)
      rw [reprChar_plain c (by omega) (by omega) (by omega)]
      simp
  unfold reprText
  show ((s.cps.foldl (fun out c => out ++ (reprChar (reprQuote s) c).toArray) #[reprQuote s]).push (reprQuote s)).toList = _
  rw [hq, Array.toList_push, ← Array.foldl_toList, go _ _ h]
  simp [tl]
theorem nice_cs {s : Str} (h : nice s) : ∀ c ∈ tl s, c = 63 ∨ c = 126 ∨ (97 ≤ c ∧ c ≤ 122) := fun c hc => .inr (.inr (h.1 c hc))
theorem q_cs : ∀ c ∈ tl (("?" : String) : Str), c = 63 ∨ c = 126 ∨ (97 ≤ c ∧ c ≤ 122) := by decide +kernel
theorem n_cs : ∀ c ∈ tl (("~" : String) : Str), c = 63 ∨ c = 126 ∨ (97 ≤ c ∧ c ≤ 122) := by decide +kernel
def qt (s : Str) : List Nat := 39 :: (tl s ++ [39])
/-- a tuple's text -/
theorem tl_tuple (ts : List Str) : tl (tupleText ts) = 40 :: (TL.joinL [44, 32] (ts.map tl) ++ (if ts.length == 1 then [44, 41] else [41])) := by
  unfold tupleText
  rw [TL.tl_append, TL.tl_append, TL.tl_join]
  have e1 : tl (("(" : String) : Str) = [40] := by decide +kernel
  have e2 : tl ((", " : String) : Str) = [44, 32] := by decide +kernel
  rw [e1, e2]
  have e3 : tl ((if ts.length == 1 then ",)" else ")" : String) : Str) = (if ts.length == 1 then [44, 41] else [41]) := by
    split
    · decide +kernel
    · decide +kernel
  rw [e3]; rfl
/-- a thing's text -/
def tx (t : Th) : List Nat := tl t.py.shown
theorem shownAll_pys : ∀ xs : List Th, (PyData.shownAll (Th.pys xs)).map tl = xs.map tx
  | [] => by simp [Th.pys, PyData.shownAll]
  | x :: r => by simp [Th.pys, PyData.shownAll, shownAll_pys r, tx]
/-- head and parts -/
def tailT : List Th → List Nat
  | [] => [44, 41]
  | x :: r => 44 :: 32 :: (TL.joinL [44, 32] ((x :: r).map tx) ++ [41])
def nodeT (h : Str) (xs : List Th) : List Nat := 40 :: (qt h ++ tailT xs)
theorem tx_num (i : Int) : tx (.num i) = numT i := by simp only [tx, Th.py, PyData.shown]; rfl
theorem tx_word {s : Str} (h : nice s) : tx (.word s) = qt s := by simp only [tx, Th.py, PyData.shown]; exact reprText_nice (nice_cs h)
theorem node_py {h : Str} (hs : ∀ c ∈ tl h, c = 63 ∨ c = 126 ∨ (97 ≤ c ∧ c ≤ 122)) (xs : List Th) : tl (PyData.tuple (.str h :: Th.pys xs)).shown = nodeT h xs := by
  simp only [PyData.shown, PyData.shownAll]
  rw [tl_tuple, List.map_cons, shownAll_pys, reprText_nice hs]
  unfold nodeT tailT
  cases xs with
  | nil => simp [Th.pys, PyData.shownAll, TL.joinL, qt]
  | cons x r =>
    have : ((reprText h :: PyData.shownAll (Th.pys (x :: r))).length == 1) = false := by simp [Th.pys, PyData.shownAll]
    rw [this]
    simp [TL.joinL, qt]
theorem tx_opn (n : Int) : tx (.opn n) = nodeT "?" [.num n] := by
  have := node_py q_cs [.num n]
  simpa [Th.pys, Th.py, tx] using this
theorem tx_new (n : Int) : tx (.new n) = nodeT "~" [.num n] := by
  have := node_py n_cs [.num n]
  simpa [Th.pys, Th.py, tx] using this
theorem tx_blt {h : Str} (hn : nice h) (xs : List Th) : tx (.blt h xs) = nodeT h xs := by
  have := node_py (nice_cs hn) xs
  simpa [Th.py, tx] using this
/-! ### unlike things, unlike texts -/
def stop (l : List Nat) : Prop := ∀ c ∈ l.head?, c = 44 ∨ c = 41
theorem cut_at {P : Nat → Prop} : ∀ {a b r s : List Nat}, (∀ c ∈ a, P c) → (∀ c ∈ b, P c) → (∀ c ∈ r.head?, ¬ P c) → (∀ c ∈ s.head?, ¬ P c) → a ++ r = b ++ s → a = b ∧ r = s
  | [], [], r, s, _, _, _, _, h => ⟨rfl, h⟩
  | [], y :: b, r, s, _, hb, hr, _, h => by
    subst h
    exact absurd (hb y (by simp)) (hr y (by simp))
  | x :: a, [], r, s, ha, _, _, hs, h => by
    have h' : s = x :: (a ++ r) := h.symm
    subst h'
    exact absurd (ha x (by simp)) (hs x (by simp))
  | x :: a, y :: b, r, s, ha, hb, hr, hs, h => by
    have h' : x :: (a ++ r) = y :: (b ++ s) := h
    injection h' with h1 h2
    obtain ⟨e1, e2⟩ := cut_at (fun c hc => ha c (by simp [hc])) (fun c hc => hb c (by simp [hc])) hr hs h2
    exact ⟨by rw [h1, e1], e2⟩
theorem qt_cut {g h : Str} (a : ∀ c ∈ tl g, c = 63 ∨ c = 126 ∨ (97 ≤ c ∧ c ≤ 122)) (b : ∀ c ∈ tl h, c = 63 ∨ c = 126 ∨ (97 ≤ c ∧ c ≤ 122)) {r s : List Nat} (e : qt g ++ r = qt h ++ s) : g = h ∧ r = s := by
  have e' : tl g ++ 39 :: r = tl h ++ 39 :: s := by simpa [qt] using e
  obtain ⟨h1, h2⟩ := cut_at (P := fun c => c ≠ 39) (fun c hc => by have := a c hc; omega) (fun c hc => by have := b c hc; omega) (by simp) (by simp) e'
  exact ⟨TL.ext_tl h1, (List.cons.inj h2).2⟩
theorem numT_head (i : Int) : ∃ c l, numT i = c :: l ∧ (c = 45 ∨ (48 ≤ c ∧ c ≤ 57)) := by
  cases e : numT i with
  | nil => exact absurd e (numT_ne i)
  | cons c l => exact ⟨c, l, rfl, numT_dig i c (by rw [e]; simp)⟩
theorem num_cut {i j : Int} {r s : List Nat} (hr : stop r) (hs : stop s) (e : numT i ++ r = numT j ++ s) : i = j ∧ r = s := by
  obtain ⟨h1, h2⟩ := cut_at (P := fun c => c = 45 ∨ (48 ≤ c ∧ c ≤ 57)) (numT_dig i) (numT_dig j) (fun c hc => by have := hr c hc; omega) (fun c hc => by have := hs c hc; omega) e
  exact ⟨numT_inj h1, h2⟩
/-- what stands for a thing: its head's text, its parts -/
def nodeOf : Th → Option (Str × List Th)
  | .opn n => some ("?", [.num n])
  | .new n => some ("~", [.num n])
  | .blt h xs => some (h, xs)
  | _ => none
theorem q_ne_n : (("?" : String) : Str) ≠ (("~" : String) : Str) := by decide +kernel
theorem nice_q : ¬ nice (("?" : String) : Str) := fun h => by have := h.1 63 (by decide +kernel); omega
theorem nice_n : ¬ nice (("~" : String) : Str) := fun h => by have := h.1 126 (by decide +kernel); omega
theorem node_inj {t u : Th} (a : t.ok) (b : u.ok) {x : Str × List Th} (h1 : nodeOf t = some x) (h2 : nodeOf u = some x) : t = u := by
  cases t <;> cases u <;> simp only [nodeOf, Option.some.injEq, reduceCtorEq] at h1 h2 <;> subst h1 <;> simp only [Prod.mk.injEq] at h2
  · obtain ⟨_, h⟩ := h2; simp at h; rw [h]
  · exact absurd h2.1.symm q_ne_n
  · rw [h2.1] at b; exact absurd b.1 nice_q
  · exact absurd h2.1 q_ne_n
  · obtain ⟨_, h⟩ := h2; simp at h; rw [h]
  · rw [h2.1] at b; exact absurd b.1 nice_n
  · rw [← h2.1] at a; exact absurd a.1 nice_q
  · rw [← h2.1] at a; exact absurd a.1 nice_n
  · rw [h2.1, h2.2]
theorem tx_node {t : Th} (a : t.ok) {x : Str × List Th} (h : nodeOf t = some x) : tx t = nodeT x.1 x.2 ∧ (∀ c ∈ tl x.1, c = 63 ∨ c = 126 ∨ (97 ≤ c ∧ c ≤ 122)) ∧ (∀ y ∈ x.2, y.ok) := by
  cases t <;> simp only [nodeOf, Option.some.injEq, reduceCtorEq] at h <;> subst h
  · exact ⟨tx_opn _, q_cs, fun y hy => by rw [List.mem_singleton.mp hy]; exact a⟩
  · exact ⟨tx_new _, n_cs, fun y hy => by rw [List.mem_singleton.mp hy]; exact a⟩
  · exact ⟨tx_blt a.1 _, nice_cs a.1, (oks_iff _).mp a.2.2⟩
theorem parts_sz {t : Th} {x : Str × List Th} (h : nodeOf t = some x) : Th.szs x.2 < t.sz := by
  cases t <;> simp only [nodeOf, Option.some.injEq, reduceCtorEq] at h <;> subst h <;> simp [Th.szs, Th.sz]
theorem sz_pos : ∀ t : Th, 0 < t.sz
  | .num _ => by simp [Th.sz]
  | .word _ => by simp [Th.sz]
  | .opn _ => by simp [Th.sz]
  | .new _ => by simp [Th.sz]
  | .blt _ _ => by simp [Th.sz]
theorem join_cut {N : Nat} (ih : ∀ t u r s, t.sz < N → t.ok → u.ok → stop r → stop s → tx t ++ r = tx u ++ s → t = u ∧ r = s) :
    ∀ (xs ys : List Th) {r s : List Nat}, Th.szs xs < N → (∀ x ∈ xs, x.ok) → (∀ y ∈ ys, y.ok) → xs ≠ [] → ys ≠ [] → TL.joinL [44, 32] (xs.map tx) ++ 41 :: r = TL.joinL [44, 32] (ys.map tx) ++ 41 :: s → xs = ys ∧ r = s
  | [], _, _, _, _, _, _, h, _, _ => absurd rfl h
  | _ :: _, [], _, _, _, _, _, _, h, _ => absurd rfl h
  | [x], [y], r, s, hz, hx, hy, _, _, e => by
    have e' : tx x ++ 41 :: r = tx y ++ 41 :: s := e
    obtain ⟨h1, h2⟩ := ih x y _ _ (by simp [Th.szs] at hz; exact hz) (hx x (by simp)) (hy y (by simp)) (by simp [stop]) (by simp [stop]) e'
    exact ⟨by rw [h1], (List.cons.inj h2).2⟩
  | [x], y :: y2 :: ys, r, s, hz, hx, hy, _, _, e => by
    have e' : tx x ++ 41 :: r = tx y ++ (44 :: 32 :: (TL.joinL [44, 32] ((y2 :: ys).map tx) ++ 41 :: s)) := by
      rw [show tx x ++ 41 :: r = TL.joinL [44, 32] ([x].map tx) ++ 41 :: r from rfl, e]; simp [TL.joinL]
    obtain ⟨_, h2⟩ := ih x y _ _ (by simp [Th.szs] at hz; exact hz) (hx x (by simp)) (hy y (by simp)) (by simp [stop]) (by simp [stop]) e'
    simp at h2
  | x :: x2 :: xs, [y], r, s, hz, hx, hy, _, _, e => by
    have e' : tx x ++ (44 :: 32 :: (TL.joinL [44, 32] ((x2 :: xs).map tx) ++ 41 :: r)) = tx y ++ 41 :: s := by
      rw [show tx y ++ 41 :: s = TL.joinL [44, 32] ([y].map tx) ++ 41 :: s from rfl, ← e]; simp [TL.joinL]
    obtain ⟨_, h2⟩ := ih x y _ _ (by simp [Th.szs] at hz; omega) (hx x (by simp)) (hy y (by simp)) (by simp [stop]) (by simp [stop]) e'
    simp at h2
  | x :: x2 :: xs, y :: y2 :: ys, r, s, hz, hx, hy, _, _, e => by
    have e' : tx x ++ (44 :: 32 :: (TL.joinL [44, 32] ((x2 :: xs).map tx) ++ 41 :: r)) = tx y ++ (44 :: 32 :: (TL.joinL [44, 32] ((y2 :: ys).map tx) ++ 41 :: s)) := by
      simpa [TL.joinL] using e
    obtain ⟨h1, h2⟩ := ih x y _ _ (by simp [Th.szs] at hz; omega) (hx x (by simp)) (hy y (by simp)) (by simp [stop]) (by simp [stop]) e'
    injection h2 with _ h2
    injection h2 with _ h2
    obtain ⟨h3, h4⟩ := join_cut ih (x2 :: xs) (y2 :: ys) (by rw [Th.szs] at hz; omega) (fun z hz => hx z (by simp [hz])) (fun z hz => hy z (by simp [hz])) (by simp) (by simp) h2
    exact ⟨by rw [h1, h3], h4⟩
theorem tx_cut : ∀ (N : Nat) (t u : Th) (r s : List Nat), t.sz < N → t.ok → u.ok → stop r → stop s → tx t ++ r = tx u ++ s → t = u ∧ r = s
  | 0, t, _, _, _, h, _, _, _, _, _ => absurd h (Nat.not_lt_zero _)
  | N + 1, t, u, r, s, hz, a, b, hr, hs, e => by
    have ih := tx_cut N
    cases ht : nodeOf t with
    | none =>
      cases hu : nodeOf u with
      | none =>
        cases t <;> simp only [nodeOf, reduceCtorEq] at ht <;> cases u <;> simp only [nodeOf, reduceCtorEq] at hu
        · rw [tx_num, tx_num] at e
          obtain ⟨h1, h2⟩ := num_cut hr hs e
          exact ⟨by rw [h1], h2⟩
        · rw [tx_num, tx_word b] at e
          obtain ⟨c, l, h1, h2⟩ := numT_head _
          rw [h1] at e
          injection e with e1 _
          omega
        · rw [tx_num, tx_word a] at e
          obtain ⟨c, l, h1, h2⟩ := numT_head _
          rw [h1] at e
          injection e with e1 _
          omega
        · rw [tx_word a, tx_word b] at e
          obtain ⟨h1, h2⟩ := qt_cut (nice_cs a) (nice_cs b) e
          exact ⟨by rw [h1], h2⟩
      | some y =>
        obtain ⟨h1, _, _⟩ := tx_node b hu
        rw [h1] at e
        cases t <;> simp only [nodeOf, reduceCtorEq] at ht
        · rw [tx_num] at e
          obtain ⟨c, l, h1, h2⟩ := numT_head _
          rw [h1] at e
          injection e with e1 _
          omega
        · rw [tx_word a] at e
          injection e with e1 _
          omega
    | some x =>
      obtain ⟨h1, h2, h3⟩ := tx_node a ht
      rw [h1] at e
      cases hu : nodeOf u with
      | none =>
        cases u <;> simp only [nodeOf, reduceCtorEq] at hu
        · rw [tx_num] at e
          obtain ⟨c, l, h1, h2⟩ := numT_head _
          rw [h1] at e
          injection e with e1 _
          omega
        · rw [tx_word b] at e
          injection e with e1 _
          omega
      | some y =>
        obtain ⟨g1, g2, g3⟩ := tx_node b hu
        rw [g1] at e
        obtain ⟨hx, xs⟩ := x
        obtain ⟨hy, ys⟩ := y
        dsimp only at e h2 g2 h3 g3
        have e0 : qt hx ++ (tailT xs ++ r) = qt hy ++ (tailT ys ++ s) := by
          unfold nodeT at e
          rw [List.cons_append, List.cons_append, List.append_assoc, List.append_assoc] at e
          exact (List.cons.inj e).2
        obtain ⟨eh, er⟩ := qt_cut h2 g2 e0
        have hlt := parts_sz ht
        cases xs with
        | nil =>
          cases ys with
          | nil =>
            refine ⟨node_inj a b ht (by rw [hu, eh]), ?_⟩
            simpa [tailT] using er
          | cons y2 ys => simp [tailT] at er
        | cons x2 xs =>
          cases ys with
          | nil => simp [tailT] at er
          | cons y2 ys =>
            have er' : TL.joinL [44, 32] ((x2 :: xs).map tx) ++ 41 :: r = TL.joinL [44, 32] ((y2 :: ys).map tx) ++ 41 :: s := by
              simpa [tailT] using er
            obtain ⟨k1, k2⟩ := join_cut (N := N) ih (x2 :: xs) (y2 :: ys) (by simp only at hlt; omega) h3 g3 (by simp) (by simp) er'
            exact ⟨node_inj a b ht (by rw [hu, eh, k1]), k2⟩
theorem shown_inj {t u : Th} (a : t.ok) (b : u.ok) (h : t.py.shown = u.py.shown) : t = u := by
  have e : tx t ++ [] = tx u ++ [] := by unfold tx; rw [h]
  exact (tx_cut (t.sz + 1) t u [] [] (Nat.lt_succ_self _) a b (by simp [stop]) (by simp [stop]) e).1
/-! ### lengths -/
theorem join_len : ∀ ts : List (List Nat), (TL.joinL [44, 32] ts).length ≤ (ts.map fun t => t.length + 2).sum
  | [] => by simp [TL.joinL]
  | [p] => by simp [TL.joinL]
  | p :: q :: r => by
    have := join_len (q :: r)
    simp [TL.joinL] at this ⊢
    omega
mutual
theorem tx_len : ∀ t : Th, t.ok → (tx t).length + 2 ≤ 40 * t.sz
  | .num i, h => by rw [tx_num, Th.sz]; have := numT_len h; omega
  | .word s, h => by rw [tx_word h, Th.sz]; have h2 : (tl s).length ≤ 20 := h.2; simp [qt] at h2 ⊢; omega
  | .opn n, h => by
    rw [tx_opn, Th.sz]
    have := numT_len (i := n) h
    have e : (tl (("?" : String) : Str)).length = 1 := by decide +kernel
    simp [nodeT, tailT, TL.joinL, tx_num, qt] at e ⊢
    omega
  | .new n, h => by
    rw [tx_new, Th.sz]
    have := numT_len (i := n) h
    have e : (tl (("~" : String) : Str)).length = 1 := by decide +kernel
    simp [nodeT, tailT, TL.joinL, tx_num, qt] at e ⊢
    omega
  | .blt g xs, h => by
    rw [tx_blt h.1, Th.sz]
    have h1 : (tl g).length ≤ 20 := h.1.2
    have h2 := txs_len xs h.2.2
    cases xs with
    | nil => simp [nodeT, tailT, qt]; simp at h1; omega
    | cons x r =>
      have h3 := join_len ((x :: r).map tx)
      simp [nodeT, tailT, qt] at h1 h3 h2 ⊢
      omega
theorem txs_len : ∀ ts : List Th, Th.oks ts → ((ts.map tx).map fun t => t.length + 2).sum ≤ 40 * Th.szs ts
  | [], _ => by simp
  | t :: r, h => by
    have h1 := tx_len t h.1
    have h2 := txs_len r h.2
    simp only [List.map_cons, List.sum_cons, Th.szs]
    omega
end
end DL

/-! DZ: reckoning with readings: what simp unfolds; loops and comprehensions by what holds at each turn. -/
namespace DL
open PySem PySem.Spec PyProof.Rows L2
theorem dstart_1 {n : Nat} {a : D} : dstart (n + 1) [a] = some a :: List.replicate n none := by simp [dstart]
theorem dstart_2 {n : Nat} {a b : D} : dstart (n + 2) [a, b] = some a :: some b :: List.replicate n none := by simp [dstart]
theorem dstart_3 {n : Nat} {a b c : D} : dstart (n + 3) [a, b, c] = some a :: some b :: some c :: List.replicate n none := by simp [dstart]
theorem dstart_4 {n : Nat} {a b c d : D} : dstart (n + 4) [a, b, c, d] = some a :: some b :: some c :: some d :: List.replicate n none := by simp [dstart]
theorem dstart_5 {n : Nat} {a b c d e : D} : dstart (n + 5) [a, b, c, d, e] = some a :: some b :: some c :: some d :: some e :: List.replicate n none := by simp [dstart]
@[simp] theorem kit_nt : kitB "NoneType" "tuple" = some false := by decide +kernel
@[simp] theorem kit_bt : kitB "bool" "tuple" = some false := by decide +kernel
@[simp] theorem kit_it : kitB "int" "tuple" = some false := by decide +kernel
@[simp] theorem kit_st : kitB "str" "tuple" = some false := by decide +kernel
@[simp] theorem kit_tt : kitB "tuple" "tuple" = some true := by decide +kernel
@[simp] theorem kit_lt : kitB "list" "tuple" = some false := by decide +kernel
@[simp] theorem kit_dt : kitB "dict" "tuple" = some false := by decide +kernel
@[simp] theorem kit_ss : kitB "str" "str" = some true := by decide +kernel
@[simp] theorem kit_is : kitB "int" "str" = some false := by decide +kernel
@[simp] theorem kit_ts : kitB "tuple" "str" = some false := by decide +kernel
@[simp] theorem kit_dd : kitB "dict" "dict" = some true := by decide +kernel
@[simp] theorem kit_nd : kitB "NoneType" "dict" = some false := by decide +kernel
/-- what a def's body must end with -/
abbrev ends (Q : DK) : DEnds := { nx := fun _ M' => ∃ M2, M2.le M' ∧ Q .non M2, rt := fun d M' => ∃ M2, M2.le M' ∧ Q d M2 }
theorem done {Q : DK} {d : D} {M : Sto} (q : Q d M) : ∃ M2, M2.le M ∧ Q d M2 := ⟨M, M.le_refl, q⟩
@[simp] theorem len_lst {xs : List D} {M : Sto} {Q : DK} : gLen [.lst xs] M Q = Q (.int xs.length) M := rfl
@[simp] theorem len_tup {xs : List D} {M : Sto} {Q : DK} : gLen [.tup xs] M Q = Q (.int xs.length) M := rfl
@[simp] theorem tup_lst {xs : List D} {M : Sto} {Q : DK} : gTupOf [.lst xs] M Q = Q (.tup xs) M := rfl
@[simp] theorem tup_tup {xs : List D} {M : Sto} {Q : DK} : gTupOf [.tup xs] M Q = Q (.tup xs) M := rfl
@[simp] theorem list_lst {xs : List D} {M : Sto} {Q : DK} : gListOf [.lst xs] M Q = Q (.lst xs) M := rfl
@[simp] theorem list_tup {xs : List D} {M : Sto} {Q : DK} : gListOf [.tup xs] M Q = Q (.lst xs) M := rfl
/-- a comprehension: what holds at each turn -/
theorem comp_inv {g : DTG} {tt : DTT} {te : DTE} {τ : DSt} {Q : List D → Sto → Prop} (I : List D → List D → Sto → Prop)
    (step : ∀ d ds acc M (K : List D → Sto → Prop), I (d :: ds) acc M → (∀ acc' M', I ds acc' M' → K acc' M') →
      g d τ M fun τ2 M2 => tt τ2 M2 fun b M3 => if b = true then te τ2 M3 fun y M4 => acc.length < sizeLine ∧ K (acc ++ [y]) M4 else K acc M3)
    (fin : ∀ acc M, I [] acc M → Q acc M) : ∀ ds acc M, I ds acc M → compD g tt te τ Q ds acc M
  | [], acc, M, h => fin acc M h
  | d :: ds, acc, M, h => step d ds acc M _ h fun acc' M' h' => comp_inv I step fin ds acc' M' h'
/-- .. of a def or the like, item by item, nothing changes -/
theorem comp_map {i : Nat} {te : DTE} {τ : DSt} {M : Sto} {α : Type} (e : α → D) (f : α → D) : ∀ (xs : List α) (acc : List D) (Q : List D → Sto → Prop), (∀ x ∈ xs, ∀ K : DK, K (f x) M → te (τ.set i (some (e x))) M K) → acc.length + xs.length ≤ sizeLine →
    Q (acc ++ xs.map f) M → compD (dgName i) dYes te τ Q (xs.map e) acc M
  | [], acc, Q, _, _, q => by simpa [compD] using q
  | x :: xs, acc, Q, h, hz, q => by
    rw [List.map_cons]
    unfold compD
    simp only [dgName, dYes, if_true]
    refine h x (by simp) _ ⟨by rw [List.length_cons] at hz; omega, ?_⟩
    refine comp_map e f xs (acc ++ [f x]) Q (fun y hy => h y (by simp [hy])) ?_ ?_
    · simp at hz ⊢; omega
    · simpa using q
/-- a for: what holds at each turn -/
theorem loop_inv {g : DTG} {tb : DTS} {E : DEnds} (I : List D → DSt → Sto → Prop)
    (step : ∀ d ds τ M (K : DSt → Sto → Prop), I (d :: ds) τ M → (∀ τ' M', I ds τ' M' → K τ' M') → g d τ M fun τ1 M1 => tb { E with nx := K, ct := K, bk := E.nx } τ1 M1)
    (fin : ∀ τ M, I [] τ M → E.nx τ M) : ∀ ds τ M, I ds τ M → loopD g tb E ds τ M
  | [], τ, M, h => fin τ M h
  | d :: ds, τ, M, h => step d ds τ M _ h fun τ' M' h' => loop_inv I step fin ds τ' M' h'
end DL

/-! printed by gen.py -/
namespace DL
open PySem PySem.Spec PyProof.Rows L2
theorem hu_le {k n : Nat} {A : Around} (r : Room k A) (h : n < 16 * k + 200) : A.units + n < cLine := by
  have := r.un
  omega
def top (i : Nat) : Stmt := PySem.Challenge.pw_nearestkinds_k11_whole_implied.main.body.getD i (.Pass ⟨0, 0, 0, 0⟩)
structure Top (mg : Str → Option Value) : Prop where
  b_abs : mg "abs" = none
  b_all : mg "all" = none
  b_any : mg "any" = none
  b_int : mg "int" = none
  b_len : mg "len" = none
  b_list : mg "list" = none
  b_max : mg "max" = none
  b_range : mg "range" = none
  b_repr : mg "repr" = none
  b_set : mg "set" = none
  b_sorted : mg "sorted" = none
  b_tuple : mg "tuple" = none
  k_CLAIM : ∃ t, mg "CLAIM" = some (.str "claim" t)
  k_EITHER : ∃ t, mg "EITHER" = some (.str "either" t)
section
variable {P : Program} {w : World} {K : PySem.W.Frag} {mg : Str → Option Value} {base : Heap}
abbrev s_lots_of : Stmt := top 3
abbrev N_lots_of : List Str := ["demand", "word", "one", "other", "here", "there"]
theorem sc_lots_of : FnScope N_lots_of ["demand"] (defScope s_lots_of) := ⟨rfl, rfl, rfl, by decide +kernel, rfl, by decide +kernel, by decide +kernel⟩
def t_lots_of_1 (c_lots_of : DSp) : DTS := (dRet (dLc2 (iSeq (dCall c_lots_of (dCons (dVar 2) dNil))) (dgName 4) dYes (iSeq (dCall c_lots_of (dCons (dVar 3) dNil))) (dgName 5) dYes (dCB gTupOf (dCons (dSortSetT (dOp gAdd (dVar 4) (dVar 5))) dNil)) [4, 5] [5]))
def t_lots_of_2 (c_lots_of : DSp) : DTS := (dSeq (dIfS (dTest (dOp (gEq 250) (dVar 1) (dC (.str "either")))) (dRet (dOp gAdd (dCall c_lots_of (dCons (dVar 2) dNil)) (dCall c_lots_of (dCons (dVar 3) dNil)))) dNext)
  (t_lots_of_1 c_lots_of))
def t_lots_of_3 (c_lots_of : DSp) : DTS := (dSeq (dIfS (dTest (dOp (gEq 250) (dVar 1) (dC (.str "claim")))) (dRet (dLst (dCons (dTup (dCons (dTup (dCons (dVar 2) (dCons (dVar 3) dNil))) dNil)) dNil))) dNext)
  (t_lots_of_2 c_lots_of))
def t_lots_of (c_lots_of : DSp) : DTS := (dSeq (dAsg (dVar 0) (dgTup 3 (dgCons (dgName 1) (dgCons (dgName 2) (dgCons (dgName 3) dgNil)))))
  (t_lots_of_3 c_lots_of))
theorem b_lots_of {k : Nat} {f : Addr} {cdv : Value} {A : Around} {outer : List Env} {s : Shared} {H : Hp} {E : XK} {c_lots_of : DSp} (T : Top mg) (hk : 5 ≤ k) (g_lots_of : DFn P w K mg base k "lots_of" ["demand"] c_lots_of)
    (hg : (A.deeper (envOfC "lots_of" (defScope s_lots_of) s.heap.objs.size f cdv)).guards = some []) (hr : Room k (A.deeper (envOfC "lots_of" (defScope s_lots_of) s.heap.objs.size f cdv))) :
    DSs (cxOf CX0 P w K mg base N_lots_of "lots_of" (defScope s_lots_of) f cdv A outer s H E).nox (defBody s_lots_of) (t_lots_of c_lots_of) := by
  have h1 : (cxOf CX0 P w K mg base N_lots_of "lots_of" (defScope s_lots_of) f cdv A outer s H E).nox.A.units + 1 < cLine := hu_le hr (by omega)
  have hE : (cxOf CX0 P w K mg base N_lots_of "lots_of" (defScope s_lots_of) f cdv A outer s H E).nox.A.units + 250 < cLine := hu_le hr (by omega)
  have hI : (cxOf CX0 P w K mg base N_lots_of "lots_of" (defScope s_lots_of) f cdv A outer s H E).nox.A.units + (250 + 2) < cLine := hu_le hr (by omega)
  exact (dss_cons (ds_asg (dv 0) (dg_tup rfl (dgs_cons (dg_name sc_lots_of.nd) (dgs_cons (dg_name sc_lots_of.nd) (dgs_cons (dg_name sc_lots_of.nd) dgs_nil)))))
    (dss_cons (ds_if (dt_cmp (od_eq hE) (dv 1) (de_gstr rfl T.k_CLAIM.choose_spec)) (dss_one (ds_ret (de_lst (da_cons (de_tup (da_cons (de_tup (da_cons (dv 2) (da_cons (dv 3) da_nil))) da_nil)) da_nil)))) dss_nil)
    (dss_cons (ds_if (dt_cmp (od_eq hE) (dv 1) (de_gstr rfl T.k_EITHER.choose_spec)) (dss_one (ds_ret (de_op od_add (de_call g_lots_of hg hr (da_cons (dv 2) da_nil)) (de_call g_lots_of hg hr (da_cons (dv 3) da_nil))))) dss_nil)
    (dss_one (ds_ret (de_lc2 (own := [("here", 4), ("there", 5)]) (own1 := [("there", 5)]) rfl sc_lots_of.nd (di_seq (de_call g_lots_of hg hr (da_cons (dv 2) da_nil))) (blkOk_by (N := N_lots_of) (sc := defScope s_lots_of) (by decide +kernel)) (by decide) (dgc_name sc_lots_of.nd) (fun _ _ _ _ _ => dts_nil) (fun _ _ _ _ _ => (di_seq (de_call g_lots_of hg hr (da_cons (dv 3) da_nil)))) (dgc_name sc_lots_of.nd) (fun _ _ _ _ _ => dts_nil) (fun _ _ _ _ _ => (de_callTy cd_tuple T.b_tuple (da_cons (de_sortSetT rfl (hu_le hr (by omega)) (de_op od_add (dv 4) (dv 5)) T.b_sorted T.b_set) da_nil)))))))))
abbrev s_has_all : Stmt := top 4
abbrev N_has_all : List Str := ["lot", "other", "one"]
theorem sc_has_all : FnScope N_has_all ["lot", "other"] (defScope s_has_all) := ⟨rfl, rfl, rfl, by decide +kernel, rfl, by decide +kernel, by decide +kernel⟩
def t_has_all : DTS := (dRet (dCB gAll (dCons (dLc (iSeq (dVar 1)) (dgName 2) dYes (dOp (gIn 250 false) (dVar 2) (dVar 0)) [2]) dNil)))
theorem b_has_all {k : Nat} {f : Addr} {cdv : Value} {A : Around} {outer : List Env} {s : Shared} {H : Hp} {E : XK} (T : Top mg) (hk : 5 ≤ k) 
    (hg : (A.deeper (envOfC "has_all" (defScope s_has_all) s.heap.objs.size f cdv)).guards = some []) (hr : Room k (A.deeper (envOfC "has_all" (defScope s_has_all) s.heap.objs.size f cdv))) :
    DSs (cxOf CX0 P w K mg base N_has_all "has_all" (defScope s_has_all) f cdv A outer s H E).nox (defBody s_has_all) (t_has_all) := by
  have h1 : (cxOf CX0 P w K mg base N_has_all "has_all" (defScope s_has_all) f cdv A outer s H E).nox.A.units + 1 < cLine := hu_le hr (by omega)
  have hE : (cxOf CX0 P w K mg base N_has_all "has_all" (defScope s_has_all) f cdv A outer s H E).nox.A.units + 250 < cLine := hu_le hr (by omega)
  have hI : (cxOf CX0 P w K mg base N_has_all "has_all" (defScope s_has_all) f cdv A outer s H E).nox.A.units + (250 + 2) < cLine := hu_le hr (by omega)
  exact (dss_one (ds_ret (de_callB (cd_all rfl) T.b_all (da_cons (de_lc (own := [("one", 2)]) rfl sc_has_all.nd (di_seq (dv 1)) (blkOk_by (N := N_has_all) (sc := defScope s_has_all) (by decide +kernel)) (dgc_name sc_has_all.nd) (fun _ _ _ _ _ => dts_nil) (fun _ _ _ _ _ => (de_cmp (od_in hI) (dv 2) (dv 0)))) da_nil))))
abbrev s_neat : Stmt := top 5
abbrev N_neat : List Str := ["demand", "lots", "lot", "other"]
theorem sc_neat : FnScope N_neat ["demand"] (defScope s_neat) := ⟨rfl, rfl, rfl, by decide +kernel, rfl, by decide +kernel, by decide +kernel⟩
def t_neat_1 (c_lots_of c_has_all : DSp) : DTS := (dRet (dCB gTupOf (dCons (dLc (iSeq (dVar 1)) (dgName 2) (dNot (dTest (dCB gAny (dCons (dLc (iSeq (dVar 1)) (dgName 3) dYes (dAndV (dOp (gNe 250) (dVar 3) (dVar 2)) (dCall c_has_all (dCons (dVar 2) (dCons (dVar 3) dNil)))) [3]) dNil)))) (dVar 2) [2]) dNil)))
def t_neat_2 (c_lots_of c_has_all : DSp) : DTS := (dSeq (dAsg (dSortSet (dCall c_lots_of (dCons (dVar 0) dNil))) (dgName 1))
  (t_neat_1 c_lots_of c_has_all))
def t_neat (c_lots_of c_has_all : DSp) : DTS := (dSeq (dIfS (dTest (dOp gIs (dVar 0) (dC .non))) (dRet (dTup (dCons (dTup dNil) dNil))) dNext)
  (t_neat_2 c_lots_of c_has_all))
theorem b_neat {k : Nat} {f : Addr} {cdv : Value} {A : Around} {outer : List Env} {s : Shared} {H : Hp} {E : XK} {c_lots_of c_has_all : DSp} (T : Top mg) (hk : 5 ≤ k) (g_lots_of : DFn P w K mg base k "lots_of" ["demand"] c_lots_of) (g_has_all : DFn P w K mg base k "has_all" ["lot", "other"] c_has_all)
    (hg : (A.deeper (envOfC "neat" (defScope s_neat) s.heap.objs.size f cdv)).guards = some []) (hr : Room k (A.deeper (envOfC "neat" (defScope s_neat) s.heap.objs.size f cdv))) :
    DSs (cxOf CX0 P w K mg base N_neat "neat" (defScope s_neat) f cdv A outer s H E).nox (defBody s_neat) (t_neat c_lots_of c_has_all) := by
  have h1 : (cxOf CX0 P w K mg base N_neat "neat" (defScope s_neat) f cdv A outer s H E).nox.A.units + 1 < cLine := hu_le hr (by omega)
  have hE : (cxOf CX0 P w K mg base N_neat "neat" (defScope s_neat) f cdv A outer s H E).nox.A.units + 250 < cLine := hu_le hr (by omega)
  have hI : (cxOf CX0 P w K mg base N_neat "neat" (defScope s_neat) f cdv A outer s H E).nox.A.units + (250 + 2) < cLine := hu_le hr (by omega)
  exact (dss_cons (ds_if (dt_cmp od_is (dv 0) de_non) (dss_one (ds_ret (de_tup (da_cons (de_tup da_nil) da_nil)))) dss_nil)
    (dss_cons (ds_set sc_neat.nd (de_sortSet rfl (hu_le hr (by omega)) (de_call g_lots_of hg hr (da_cons (dv 0) da_nil)) T.b_sorted T.b_set))
    (dss_one (ds_ret (de_callTy cd_tuple T.b_tuple (da_cons (de_lc (own := [("lot", 2)]) rfl sc_neat.nd (di_seq (dv 1)) (blkOk_by (N := N_neat) (sc := defScope s_neat) (by decide +kernel)) (dgc_name sc_neat.nd) (fun _ _ _ _ _ => (dts_one (dt_not (dt_val (de_callB (cd_any rfl) T.b_any (da_cons (de_lc (own := [("other", 3)]) rfl sc_neat.nd (di_seq (dv 1)) (blkOk_in (N := N_neat) (sc := defScope s_neat) rfl rfl (by decide +kernel)) (dgc_name sc_neat.nd) (fun _ _ _ _ _ => dts_nil) (fun _ _ _ _ _ => (de_and (de_cmp (od_ne hE) (dv 3) (dv 2)) (de_one (de_call g_has_all hg hr (da_cons (dv 2) (da_cons (dv 3) da_nil))))))) da_nil)))))) (fun _ _ _ _ _ => (dv 2))) da_nil))))))
abbrev s_implied : Stmt := top 6
abbrev N_implied : List Str := ["one", "other", "enough", "lot", "some"]
theorem sc_implied : FnScope N_implied ["one", "other"] (defScope s_implied) := ⟨rfl, rfl, rfl, by decide +kernel, rfl, by decide +kernel, by decide +kernel⟩
def t_implied_1 (c_neat c_has_all : DSp) : DTS := (dRet (dCB gAll (dCons (dLc (iSeq (dCall c_neat (dCons (dVar 0) dNil))) (dgName 3) dYes (dCB gAny (dCons (dLc (iSeq (dVar 2)) (dgName 4) dYes (dCall c_has_all (dCons (dVar 3) (dCons (dVar 4) dNil))) [4]) dNil)) [3]) dNil)))
def t_implied (c_neat c_has_all : DSp) : DTS := (dSeq (dAsg (dCall c_neat (dCons (dVar 1) dNil)) (dgName 2))
  (t_implied_1 c_neat c_has_all))
theorem b_implied {k : Nat} {f : Addr} {cdv : Value} {A : Around} {outer : List Env} {s : Shared} {H : Hp} {E : XK} {c_neat c_has_all : DSp} (T : Top mg) (hk : 5 ≤ k) (g_neat : DFn P w K mg base k "neat" ["demand"] c_neat) (g_has_all : DFn P w K mg base k "has_all" ["lot", "other"] c_has_all)
    (hg : (A.deeper (envOfC "implied" (defScope s_implied) s.heap.objs.size f cdv)).guards = some []) (hr : Room k (A.deeper (envOfC "implied" (defScope s_implied) s.heap.objs.size f cdv))) :
    DSs (cxOf CX0 P w K mg base N_implied "implied" (defScope s_implied) f cdv A outer s H E).nox (defBody s_implied) (t_implied c_neat c_has_all) := by
  have h1 : (cxOf CX0 P w K mg base N_implied "implied" (defScope s_implied) f cdv A outer s H E).nox.A.units + 1 < cLine := hu_le hr (by omega)
  have hE : (cxOf CX0 P w K mg base N_implied "implied" (defScope s_implied) f cdv A outer s H E).nox.A.units + 250 < cLine := hu_le hr (by omega)
  have hI : (cxOf CX0 P w K mg base N_implied "implied" (defScope s_implied) f cdv A outer s H E).nox.A.units + (250 + 2) < cLine := hu_le hr (by omega)
  exact (dss_cons (ds_set sc_implied.nd (de_call g_neat hg hr (da_cons (dv 1) da_nil)))
    (dss_one (ds_ret (de_callB (cd_all rfl) T.b_all (da_cons (de_lc (own := [("lot", 3)]) rfl sc_implied.nd (di_seq (de_call g_neat hg hr (da_cons (dv 0) da_nil))) (blkOk_by (N := N_implied) (sc := defScope s_implied) (by decide +kernel)) (dgc_name sc_implied.nd) (fun _ _ _ _ _ => dts_nil) (fun _ _ _ _ _ => (de_callB (cd_any rfl) T.b_any (da_cons (de_lc (own := [("some", 4)]) rfl sc_implied.nd (di_seq (dv 2)) (blkOk_in (N := N_implied) (sc := defScope s_implied) rfl rfl (by decide +kernel)) (dgc_name sc_implied.nd) (fun _ _ _ _ _ => dts_nil) (fun _ _ _ _ _ => (de_call g_has_all hg hr (da_cons (dv 3) (da_cons (dv 4) da_nil))))) da_nil)))) da_nil)))))
abbrev s_law_hand : Stmt := top 8
abbrev N_law_hand : List Str := ["script", "cells", "cell"]
theorem sc_law_hand : FnScope N_law_hand ["script"] (defScope s_law_hand) := ⟨rfl, rfl, rfl, by decide +kernel, rfl, by decide +kernel, by decide +kernel⟩
def t_law_hand_1 : DTS := (dRet (dLstM (dCons (dVar 1) (dCons (dC (.int 0)) (dCons (dC (.int 0)) (dCons (dOp gAdd (dC (.int 57)) (dOp gMul (dC (.int 7)) (dCB gLen (dCons (dVar 1) dNil)))) (dCons (dC (.int 0)) dNil)))))))
def t_law_hand : DTS := (dSeq (dAsg (dLc (iSeq (dSl (dVar 0) dNoPart (dPart (dC (.int 63))))) (dgName 2) dYes (dCB gAbs (dCons (dCB gInt (dCons (dVar 2) dNil)) dNil)) [2]) (dgName 1))
  (t_law_hand_1))
theorem b_law_hand {k : Nat} {f : Addr} {cdv : Value} {A : Around} {outer : List Env} {s : Shared} {H : Hp} {E : XK} (T : Top mg) (hk : 5 ≤ k) 
    (hg : (A.deeper (envOfC "_law_hand" (defScope s_law_hand) s.heap.objs.size f cdv)).guards = some []) (hr : Room k (A.deeper (envOfC "_law_hand" (defScope s_law_hand) s.heap.objs.size f cdv))) :
    DSs (cxOf CX0 P w K mg base N_law_hand "_law_hand" (defScope s_law_hand) f cdv A outer s H E).nox (defBody s_law_hand) (t_law_hand) := by
  have h1 : (cxOf CX0 P w K mg base N_law_hand "_law_hand" (defScope s_law_hand) f cdv A outer s H E).nox.A.units + 1 < cLine := hu_le hr (by omega)
  have hE : (cxOf CX0 P w K mg base N_law_hand "_law_hand" (defScope s_law_hand) f cdv A outer s H E).nox.A.units + 250 < cLine := hu_le hr (by omega)
  have hI : (cxOf CX0 P w K mg base N_law_hand "_law_hand" (defScope s_law_hand) f cdv A outer s H E).nox.A.units + (250 + 2) < cLine := hu_le hr (by omega)
  exact (dss_cons (ds_setLc (own := [("cell", 2)]) rfl sc_law_hand.nd (di_seq (de_sl (dv 0) do_none (do_some de_int))) (blkOk_by (N := N_law_hand) (sc := defScope s_law_hand) (by decide +kernel)) (dgc_name sc_law_hand.nd) (fun _ _ _ _ _ => dts_nil) (fun _ _ _ _ _ => (de_callB cd_abs T.b_abs (da_cons (de_callTy cd_int T.b_int (da_cons (dv 2) da_nil)) da_nil))) (sw_true rfl rfl rfl (by decide +kernel)))
    (dss_one (ds_ret (de_lstM (da_cons (dv 1) (da_cons de_int (da_cons de_int (da_cons (de_op od_add de_int (de_op od_mul de_int (de_callB cd_len T.b_len (da_cons (dv 1) da_nil)))) (da_cons de_int da_nil)))))))))
abbrev s_law_draw : Stmt := top 9
abbrev N_law_draw : List Str := ["hand", "many", "cell", "digit", "number"]
theorem sc_law_draw : FnScope N_law_draw ["hand", "many"] (defScope s_law_draw) := ⟨rfl, rfl, rfl, by decide +kernel, rfl, by decide +kernel, by decide +kernel⟩
def t_law_draw_1 : DTS := (dRet (dOp gMod (dCB gInt (dCons (dOp gFdiv (dVar 4) (dC (.int 16))) dNil)) (dVar 1)))
def t_law_draw_2 : DTS := (dSeq (dAsg (dOp gMod (dCB gInt (dCons (dOp gMul (dVar 4) (dOp gAdd (dOp gFdiv (dVar 4) (dC (.int 2003))) (dC (.int 40692)))) dNil)) (dC (.int 2147483399))) (dgName 4))
  (t_law_draw_1))
def t_law_draw_3 : DTS := (dSeq (dAsg (dOp gMod (dCB gInt (dCons (dOp gMul (dVar 4) (dOp gAdd (dOp gFdiv (dVar 4) (dC (.int 1009))) (dC (.int 69621)))) dNil)) (dC (.int 2147483647))) (dgName 4))
  (t_law_draw_2))
def t_law_draw_4 : DTS := (dSeq (dAsg (dOp gMod (dCB gInt (dCons (dOp gMul (dCB gInt (dCons (dOp gAdd (dOp gIx (dVar 0) (dC (.int 3))) (dOp gMul (dC (.int 7919)) (dOp gIx (dVar 0) (dC (.int 4))))) dNil)) (dC (.int 48271))) dNil)) (dC (.int 2147483647))) (dgName 4))
  (t_law_draw_3))
def t_law_draw_5 : DTS := (dSeq (dPutL (dVar 0) (dC (.int 4)) (dOp gAdd (dOp gIx (dVar 0) (dC (.int 4))) (dC (.int 1))))
  (t_law_draw_4))
def t_law_draw_6 : DTS := (dSeq (dIfS (dTest (dOp gGt (dOp gIx (dVar 0) (dC (.int 2))) (dC (.int 0)))) (dSeq (dAsg (dOp gMod (dCB gInt (dCons (dOp gIx (dVar 0) (dC (.int 2))) dNil)) (dVar 1)) (dgName 3))
  (dSeq (dPutL (dVar 0) (dC (.int 2)) (dOp gFdiv (dOp gIx (dVar 0) (dC (.int 2))) (dVar 1)))
  (dRet (dVar 3)))) dNext)
  (t_law_draw_5))
def t_law_draw : DTS := (dSeq (dIfS (dAnd (dTest (dOp (gEq 250) (dOp gIx (dVar 0) (dC (.int 2))) (dC (.int 0)))) (dTest (dOp gLt (dOp gIx (dVar 0) (dC (.int 1))) (dCB gLen (dCons (dOp gIx (dVar 0) (dC (.int 0))) dNil))))) (dSeq (dAsg (dOp gIx (dOp gIx (dVar 0) (dC (.int 0))) (dOp gIx (dVar 0) (dC (.int 1)))) (dgName 2))
  (dSeq (dPutL (dVar 0) (dC (.int 1)) (dOp gAdd (dOp gIx (dVar 0) (dC (.int 1))) (dC (.int 1))))
  (dSeq (dPutL (dVar 0) (dC (.int 3)) (dOp gMod (dCB gInt (dCons (dOp gAdd (dOp gAdd (dOp gMul (dOp gIx (dVar 0) (dC (.int 3))) (dC (.int 69621))) (dVar 2)) (dC (.int 71))) dNil)) (dC (.int 2147483629))))
  (dIfS (dTest (dOp gGe (dVar 2) (dOp gPow (dC (.int 10)) (dC (.int 18))))) (dPutL (dVar 0) (dC (.int 2)) (dVar 2)) dNext)))) dNext)
  (t_law_draw_6))
theorem b_law_draw {k : Nat} {f : Addr} {cdv : Value} {A : Around} {outer : List Env} {s : Shared} {H : Hp} {E : XK} (T : Top mg) (hk : 5 ≤ k) 
    (hg : (A.deeper (envOfC "_law_draw" (defScope s_law_draw) s.heap.objs.size f cdv)).guards = some []) (hr : Room k (A.deeper (envOfC "_law_draw" (defScope s_law_draw) s.heap.objs.size f cdv))) :
    DSs (cxOf CX0 P w K mg base N_law_draw "_law_draw" (defScope s_law_draw) f cdv A outer s H E).nox (defBody s_law_draw) (t_law_draw) := by
  have h1 : (cxOf CX0 P w K mg base N_law_draw "_law_draw" (defScope s_law_draw) f cdv A outer s H E).nox.A.units + 1 < cLine := hu_le hr (by omega)
  have hE : (cxOf CX0 P w K mg base N_law_draw "_law_draw" (defScope s_law_draw) f cdv A outer s H E).nox.A.units + 250 < cLine := hu_le hr (by omega)
  have hI : (cxOf CX0 P w K mg base N_law_draw "_law_draw" (defScope s_law_draw) f cdv A outer s H E).nox.A.units + (250 + 2) < cLine := hu_le hr (by omega)
  exact (dss_cons (ds_if (DW.dt (dw_and (dt_cmp (od_eq hE) (de_ix (dv 0) de_int) de_int) (dw_and1 (dt_cmp od_lt (de_ix (dv 0) de_int) (de_callB cd_len T.b_len (da_cons (de_ix (dv 0) de_int) da_nil)))))) (dss_cons (ds_set sc_law_draw.nd (de_ix (de_ix (dv 0) de_int) (de_ix (dv 0) de_int)))
    (dss_cons (ds_putL (dv 0) de_int (de_op od_add (de_ix (dv 0) de_int) de_int))
    (dss_cons (ds_putL (dv 0) de_int (de_op od_mod (de_callTy cd_int T.b_int (da_cons (de_op od_add (de_op od_add (de_op od_mul (de_ix (dv 0) de_int) de_int) (dv 2)) de_int) da_nil)) de_int))
    (dss_one (ds_if (dt_cmp od_ge (dv 2) (de_op od_pow de_int de_int)) (dss_one (ds_putL (dv 0) de_int (dv 2))) dss_nil))))) dss_nil)
    (dss_cons (ds_if (dt_cmp od_gt (de_ix (dv 0) de_int) de_int) (dss_cons (ds_set sc_law_draw.nd (de_op od_mod (de_callTy cd_int T.b_int (da_cons (de_ix (dv 0) de_int) da_nil)) (dv 1)))
    (dss_cons (ds_putL (dv 0) de_int (de_op od_fdiv (de_ix (dv 0) de_int) (dv 1)))
    (dss_one (ds_ret (dv 3))))) dss_nil)
    (dss_cons (ds_putL (dv 0) de_int (de_op od_add (de_ix (dv 0) de_int) de_int))
    (dss_cons (ds_set sc_law_draw.nd (de_op od_mod (de_callTy cd_int T.b_int (da_cons (de_op od_mul (de_callTy cd_int T.b_int (da_cons (de_op od_add (de_ix (dv 0) de_int) (de_op od_mul de_int (de_ix (dv 0) de_int))) da_nil)) de_int) da_nil)) de_int))
    (dss_cons (ds_set sc_law_draw.nd (de_op od_mod (de_callTy cd_int T.b_int (da_cons (de_op od_mul (dv 4) (de_op od_add (de_op od_fdiv (dv 4) de_int) de_int)) da_nil)) de_int))
    (dss_cons (ds_set sc_law_draw.nd (de_op od_mod (de_callTy cd_int T.b_int (da_cons (de_op od_mul (dv 4) (de_op od_add (de_op od_fdiv (dv 4) de_int) de_int)) da_nil)) de_int))
    (dss_one (ds_ret (de_op od_mod (de_callTy cd_int T.b_int (da_cons (de_op od_fdiv (dv 4) de_int) da_nil)) (dv 1))))))))))
abbrev s_law_some : Stmt := top 10
abbrev N_law_some : List Str := ["hand", "things"]
theorem sc_law_some : FnScope N_law_some ["hand", "things"] (defScope s_law_some) := ⟨rfl, rfl, rfl, by decide +kernel, rfl, by decide +kernel, by decide +kernel⟩
def t_law_some (c_law_draw : DSp) : DTS := (dRet (dOp gIx (dVar 1) (dCall c_law_draw (dCons (dVar 0) (dCons (dCB gLen (dCons (dVar 1) dNil)) dNil)))))
theorem b_law_some {k : Nat} {f : Addr} {cdv : Value} {A : Around} {outer : List Env} {s : Shared} {H : Hp} {E : XK} {c_law_draw : DSp} (T : Top mg) (hk : 5 ≤ k) (g_law_draw : DFn P w K mg base k "_law_draw" ["hand", "many"] c_law_draw)
    (hg : (A.deeper (envOfC "_law_some" (defScope s_law_some) s.heap.objs.size f cdv)).guards = some []) (hr : Room k (A.deeper (envOfC "_law_some" (defScope s_law_some) s.heap.objs.size f cdv))) :
    DSs (cxOf CX0 P w K mg base N_law_some "_law_some" (defScope s_law_some) f cdv A outer s H E).nox (defBody s_law_some) (t_law_some c_law_draw) := by
  have h1 : (cxOf CX0 P w K mg base N_law_some "_law_some" (defScope s_law_some) f cdv A outer s H E).nox.A.units + 1 < cLine := hu_le hr (by omega)
  have hE : (cxOf CX0 P w K mg base N_law_some "_law_some" (defScope s_law_some) f cdv A outer s H E).nox.A.units + 250 < cLine := hu_le hr (by omega)
  have hI : (cxOf CX0 P w K mg base N_law_some "_law_some" (defScope s_law_some) f cdv A outer s H E).nox.A.units + (250 + 2) < cLine := hu_le hr (by omega)
  exact (dss_one (ds_ret (de_ix (dv 1) (de_call g_law_draw hg hr (da_cons (dv 0) (da_cons (de_callB cd_len T.b_len (da_cons (dv 1) da_nil)) da_nil))))))
abbrev s_law_mixed : Stmt := top 11
abbrev N_law_mixed : List Str := ["hand", "things", "left", "found", "turn"]
theorem sc_law_mixed : FnScope N_law_mixed ["hand", "things"] (defScope s_law_mixed) := ⟨rfl, rfl, rfl, by decide +kernel, rfl, by decide +kernel, by decide +kernel⟩
def t_law_mixed_1 (c_law_draw : DSp) : DTS := (dDrop (dAppend (dVar 3) (dPopAt (dVar 2) (dCall c_law_draw (dCons (dVar 0) (dCons (dCB gLen (dCons (dVar 2) dNil)) dNil))))))
def t_law_mixed_2 (c_law_draw : DSp) : DTS := (dRet (dFrzQ (dVar 3)))
def t_law_mixed_3 (c_law_draw : DSp) : DTS := (dSeq (dFor (iRange1 (dCB gLen (dCons (dVar 1) dNil))) (dgName 4) (t_law_mixed_1 c_law_draw))
  (t_law_mixed_2 c_law_draw))
def t_law_mixed (c_law_draw : DSp) : DTS := (dSeq (dPar 2 3 (dCB gListOfM (dCons (dVar 1) dNil)) (dLstM dNil))
  (t_law_mixed_3 c_law_draw))
theorem b_law_mixed {k : Nat} {f : Addr} {cdv : Value} {A : Around} {outer : List Env} {s : Shared} {H : Hp} {E : XK} {c_law_draw : DSp} (T : Top mg) (hk : 5 ≤ k) (g_law_draw : DFn P w K mg base k "_law_draw" ["hand", "many"] c_law_draw)
    (hg : (A.deeper (envOfC "_law_mixed" (defScope s_law_mixed) s.heap.objs.size f cdv)).guards = some []) (hr : Room k (A.deeper (envOfC "_law_mixed" (defScope s_law_mixed) s.heap.objs.size f cdv))) :
    DSs (cxOf CX0 P w K mg base N_law_mixed "_law_mixed" (defScope s_law_mixed) f cdv A outer s H E).nox (defBody s_law_mixed) (t_law_mixed c_law_draw) := by
  have h1 : (cxOf CX0 P w K mg base N_law_mixed "_law_mixed" (defScope s_law_mixed) f cdv A outer s H E).nox.A.units + 1 < cLine := hu_le hr (by omega)
  have hE : (cxOf CX0 P w K mg base N_law_mixed "_law_mixed" (defScope s_law_mixed) f cdv A outer s H E).nox.A.units + 250 < cLine := hu_le hr (by omega)
  have hI : (cxOf CX0 P w K mg base N_law_mixed "_law_mixed" (defScope s_law_mixed) f cdv A outer s H E).nox.A.units + (250 + 2) < cLine := hu_le hr (by omega)
  exact (dss_cons (ds_par rfl sc_law_mixed.nd (de_callTy cd_listM T.b_list (da_cons (dv 1) da_nil)) (de_lstM da_nil))
    (dss_cons (ds_for PassesOwn.never rfl (di_range1 (by rfl) T.b_range (de_callB cd_len T.b_len (da_cons (dv 1) da_nil))) (dg_name sc_law_mixed.nd) (dss_one (ds_expr (de_append (dv 3) (de_popAt (dv 2) (de_call g_law_draw hg hr (da_cons (dv 0) (da_cons (de_callB cd_len T.b_len (da_cons (dv 2) da_nil)) da_nil))))))))
    (dss_one (ds_ret (de_frzQ (dv 3))))))
abbrev s_law_demand : Stmt := top 12
abbrev N_law_demand : List Str := ["hand", "pool", "deep", "word"]
theorem sc_law_demand : FnScope N_law_demand ["hand", "pool", "deep"] (defScope s_law_demand) := ⟨rfl, rfl, rfl, by decide +kernel, rfl, by decide +kernel, by decide +kernel⟩
def t_law_demand_1 (c_law_draw c_law_some c_law_demand : DSp) : DTS := (dRet (dTup (dCons (dVar 3) (dCons (dCall c_law_demand (dCons (dVar 0) (dCons (dVar 1) (dCons (dOp gSub (dVar 2) (dC (.int 1))) dNil)))) (dCons (dCall c_law_demand (dCons (dVar 0) (dCons (dVar 1) (dCons (dOp gSub (dVar 2) (dC (.int 1))) dNil)))) dNil)))))
def t_law_demand_2 (c_law_draw c_law_some c_law_demand : DSp) : DTS := (dSeq (dAsg (dCall c_law_some (dCons (dVar 0) (dCons (dLst (dCons (dC (.str "both")) (dCons (dC (.str "either")) dNil))) dNil))) (dgName 3))
  (t_law_demand_1 c_law_draw c_law_some c_law_demand))
def t_law_demand (c_law_draw c_law_some c_law_demand : DSp) : DTS := (dSeq (dIfS (dOr (dTest (dOp (gEq 250) (dVar 2) (dC (.int 1)))) (dTest (dOp (gEq 250) (dCall c_law_draw (dCons (dVar 0) (dCons (dC (.int 5)) dNil))) (dC (.int 0))))) (dRet (dOp gAdd (dTup (dCons (dC (.str "claim")) dNil)) (dCall c_law_some (dCons (dVar 0) (dCons (dVar 1) dNil))))) dNext)
  (t_law_demand_2 c_law_draw c_law_some c_law_demand))
theorem b_law_demand {k : Nat} {f : Addr} {cdv : Value} {A : Around} {outer : List Env} {s : Shared} {H : Hp} {E : XK} {c_law_draw c_law_some c_law_demand : DSp} (T : Top mg) (hk : 5 ≤ k) (g_law_draw : DFn P w K mg base k "_law_draw" ["hand", "many"] c_law_draw) (g_law_some : DFn P w K mg base k "_law_some" ["hand", "things"] c_law_some) (g_law_demand : DFn P w K mg base k "_law_demand" ["hand", "pool", "deep"] c_law_demand)
    (hg : (A.deeper (envOfC "_law_demand" (defScope s_law_demand) s.heap.objs.size f cdv)).guards = some []) (hr : Room k (A.deeper (envOfC "_law_demand" (defScope s_law_demand) s.heap.objs.size f cdv))) :
    DSs (cxOf CX0 P w K mg base N_law_demand "_law_demand" (defScope s_law_demand) f cdv A outer s H E).nox (defBody s_law_demand) (t_law_demand c_law_draw c_law_some c_law_demand) := by
  have h1 : (cxOf CX0 P w K mg base N_law_demand "_law_demand" (defScope s_law_demand) f cdv A outer s H E).nox.A.units + 1 < cLine := hu_le hr (by omega)
  have hE : (cxOf CX0 P w K mg base N_law_demand "_law_demand" (defScope s_law_demand) f cdv A outer s H E).nox.A.units + 250 < cLine := hu_le hr (by omega)
  have hI : (cxOf CX0 P w K mg base N_law_demand "_law_demand" (defScope s_law_demand) f cdv A outer s H E).nox.A.units + (250 + 2) < cLine := hu_le hr (by omega)
  exact (dss_cons (ds_if (DW.dt (dw_or (dt_cmp (od_eq hE) (dv 2) de_int) (dw_or1 (dt_cmp (od_eq hE) (de_call g_law_draw hg hr (da_cons (dv 0) (da_cons de_int da_nil))) de_int)))) (dss_one (ds_ret (de_op od_add (de_tup (da_cons de_str da_nil)) (de_call g_law_some hg hr (da_cons (dv 0) (da_cons (dv 1) da_nil)))))) dss_nil)
    (dss_cons (ds_set sc_law_demand.nd (de_call g_law_some hg hr (da_cons (dv 0) (da_cons (de_lst (da_cons de_str (da_cons de_str da_nil))) da_nil))))
    (dss_one (ds_ret (de_tup (da_cons (dv 3) (da_cons (de_call g_law_demand hg hr (da_cons (dv 0) (da_cons (dv 1) (da_cons (de_op od_sub (dv 2) de_int) da_nil)))) (da_cons (de_call g_law_demand hg hr (da_cons (dv 0) (da_cons (dv 1) (da_cons (de_op od_sub (dv 2) de_int) da_nil)))) da_nil))))))))
abbrev s_law_demand_deep : Stmt := top 13
abbrev N_law_demand_deep : List Str := ["demand"]
theorem sc_law_demand_deep : FnScope N_law_demand_deep ["demand"] (defScope s_law_demand_deep) := ⟨rfl, rfl, rfl, by decide +kernel, rfl, by decide +kernel, by decide +kernel⟩
def t_law_demand_deep_1 (c_law_demand_deep : DSp) : DTS := (dRet (dOp gAdd (dC (.int 1)) (dCB gMax2 (dCons (dCall c_law_demand_deep (dCons (dOp gIx (dVar 0) (dC (.int 1))) dNil)) (dCons (dCall c_law_demand_deep (dCons (dOp gIx (dVar 0) (dC (.int 2))) dNil)) dNil)))))
def t_law_demand_deep (c_law_demand_deep : DSp) : DTS := (dSeq (dIfS (dTest (dOp (gEq 250) (dOp gIx (dVar 0) (dC (.int 0))) (dC (.str "claim")))) (dRet (dC (.int 1))) dNext)
  (t_law_demand_deep_1 c_law_demand_deep))
theorem b_law_demand_deep {k : Nat} {f : Addr} {cdv : Value} {A : Around} {outer : List Env} {s : Shared} {H : Hp} {E : XK} {c_law_demand_deep : DSp} (T : Top mg) (hk : 5 ≤ k) (g_law_demand_deep : DFn P w K mg base k "_law_demand_deep" ["demand"] c_law_demand_deep)
    (hg : (A.deeper (envOfC "_law_demand_deep" (defScope s_law_demand_deep) s.heap.objs.size f cdv)).guards = some []) (hr : Room k (A.deeper (envOfC "_law_demand_deep" (defScope s_law_demand_deep) s.heap.objs.size f cdv))) :
    DSs (cxOf CX0 P w K mg base N_law_demand_deep "_law_demand_deep" (defScope s_law_demand_deep) f cdv A outer s H E).nox (defBody s_law_demand_deep) (t_law_demand_deep c_law_demand_deep) := by
  have h1 : (cxOf CX0 P w K mg base N_law_demand_deep "_law_demand_deep" (defScope s_law_demand_deep) f cdv A outer s H E).nox.A.units + 1 < cLine := hu_le hr (by omega)
  have hE : (cxOf CX0 P w K mg base N_law_demand_deep "_law_demand_deep" (defScope s_law_demand_deep) f cdv A outer s H E).nox.A.units + 250 < cLine := hu_le hr (by omega)
  have hI : (cxOf CX0 P w K mg base N_law_demand_deep "_law_demand_deep" (defScope s_law_demand_deep) f cdv A outer s H E).nox.A.units + (250 + 2) < cLine := hu_le hr (by omega)
  exact (dss_cons (ds_if (dt_cmp (od_eq hE) (de_ix (dv 0) de_int) de_str) (dss_one (ds_ret de_int)) dss_nil)
    (dss_one (ds_ret (de_op od_add de_int (de_callB (cd_max2 rfl) T.b_max (da_cons (de_call g_law_demand_deep hg hr (da_cons (de_ix (dv 0) de_int) da_nil)) (da_cons (de_call g_law_demand_deep hg hr (da_cons (de_ix (dv 0) de_int) da_nil)) da_nil)))))))
abbrev s_law_otherwise : Stmt := top 14
abbrev N_law_otherwise : List Str := ["hand", "demand", "pool", "deep", "kind", "more", "word", "inner"]
theorem sc_law_otherwise : FnScope N_law_otherwise ["hand", "demand", "pool", "deep"] (defScope s_law_otherwise) := ⟨rfl, rfl, rfl, by decide +kernel, rfl, by decide +kernel, by decide +kernel⟩
def t_law_otherwise_1 (c_law_demand_deep c_law_draw c_law_demand c_law_turned c_law_some : DSp) : DTS := (dRet (dCall c_law_turned (dCons (dVar 0) (dCons (dVar 1) dNil))))
def t_law_otherwise_2 (c_law_demand_deep c_law_draw c_law_demand c_law_turned c_law_some : DSp) : DTS := (dSeq (dIfS (dTest (dOp gGt (dVar 4) (dC (.int 2)))) (dSeq (dAsg (dIf (dTest (dOp gGt (dVar 3) (dOp gAdd (dCall c_law_demand_deep (dCons (dVar 1) dNil)) (dC (.int 1))))) (dCall c_law_demand (dCons (dVar 0) (dCons (dVar 2) (dCons (dCB gMax2 (dCons (dC (.int 1)) (dCons (dOp gSub (dVar 3) (dC (.int 2))) dNil))) dNil)))) (dVar 1)) (dgName 5))
  (dSeq (dIfS (dOr (dTest (dOp (gEq 250) (dVar 4) (dC (.int 3)))) (dTest (dOp (gEq 250) (dVar 5) (dVar 1)))) (dRet (dCall c_law_turned (dCons (dVar 0) (dCons (dTup (dCons (dCall c_law_some (dCons (dVar 0) (dCons (dLst (dCons (dC (.str "both")) (dCons (dC (.str "either")) dNil))) dNil))) (dCons (dVar 1) (dCons (dVar 1) dNil)))) dNil)))) dNext)
  (dSeq (dAsg (dCall c_law_some (dCons (dVar 0) (dCons (dLst (dCons (dTup (dCons (dC (.str "both")) (dCons (dC (.str "either")) dNil))) (dCons (dTup (dCons (dC (.str "either")) (dCons (dC (.str "both")) dNil))) dNil))) dNil))) (dgTup 2 (dgCons (dgName 6) (dgCons (dgName 7) dgNil))))
  (dRet (dCall c_law_turned (dCons (dVar 0) (dCons (dTup (dCons (dVar 6) (dCons (dVar 1) (dCons (dCall c_law_turned (dCons (dVar 0) (dCons (dTup (dCons (dVar 7) (dCons (dVar 1) (dCons (dVar 5) dNil)))) dNil))) dNil)))) dNil))))))) dNext)
  (t_law_otherwise_1 c_law_demand_deep c_law_draw c_law_demand c_law_turned c_law_some))
def t_law_otherwise (c_law_demand_deep c_law_draw c_law_demand c_law_turned c_law_some : DSp) : DTS := (dSeq (dAsg (dIf (dTest (dOp gGt (dVar 3) (dCall c_law_demand_deep (dCons (dVar 1) dNil)))) (dCall c_law_draw (dCons (dVar 0) (dCons (dC (.int 6)) dNil))) (dC (.int 0))) (dgName 4))
  (t_law_otherwise_2 c_law_demand_deep c_law_draw c_law_demand c_law_turned c_law_some))
theorem b_law_otherwise {k : Nat} {f : Addr} {cdv : Value} {A : Around} {outer : List Env} {s : Shared} {H : Hp} {E : XK} {c_law_demand_deep c_law_draw c_law_demand c_law_turned c_law_some : DSp} (T : Top mg) (hk : 5 ≤ k) (g_law_demand_deep : DFn P w K mg base k "_law_demand_deep" ["demand"] c_law_demand_deep) (g_law_draw : DFn P w K mg base k "_law_draw" ["hand", "many"] c_law_draw) (g_law_demand : DFn P w K mg base k "_law_demand" ["hand", "pool", "deep"] c_law_demand) (g_law_turned : DFn P w K mg base k "_law_turned" ["hand", "demand"] c_law_turned) (g_law_some : DFn P w K mg base k "_law_some" ["hand", "things"] c_law_some)
    (hg : (A.deeper (envOfC "_law_otherwise" (defScope s_law_otherwise) s.heap.objs.size f cdv)).guards = some []) (hr : Room k (A.deeper (envOfC "_law_otherwise" (defScope s_law_otherwise) s.heap.objs.size f cdv))) :
    DSs (cxOf CX0 P w K mg base N_law_otherwise "_law_otherwise" (defScope s_law_otherwise) f cdv A outer s H E).nox (defBody s_law_otherwise) (t_law_otherwise c_law_demand_deep c_law_draw c_law_demand c_law_turned c_law_some) := by
  have h1 : (cxOf CX0 P w K mg base N_law_otherwise "_law_otherwise" (defScope s_law_otherwise) f cdv A outer s H E).nox.A.units + 1 < cLine := hu_le hr (by omega)
  have hE : (cxOf CX0 P w K mg base N_law_otherwise "_law_otherwise" (defScope s_law_otherwise) f cdv A outer s H E).nox.A.units + 250 < cLine := hu_le hr (by omega)
  have hI : (cxOf CX0 P w K mg base N_law_otherwise "_law_otherwise" (defScope s_law_otherwise) f cdv A outer s H E).nox.A.units + (250 + 2) < cLine := hu_le hr (by omega)
  exact (dss_cons (ds_set sc_law_otherwise.nd (de_if (dt_cmp od_gt (dv 3) (de_call g_law_demand_deep hg hr (da_cons (dv 1) da_nil))) (de_call g_law_draw hg hr (da_cons (dv 0) (da_cons de_int da_nil))) de_int))
    (dss_cons (ds_if (dt_cmp od_gt (dv 4) de_int) (dss_cons (ds_set sc_law_otherwise.nd (de_if (dt_cmp od_gt (dv 3) (de_op od_add (de_call g_law_demand_deep hg hr (da_cons (dv 1) da_nil)) de_int)) (de_call g_law_demand hg hr (da_cons (dv 0) (da_cons (dv 2) (da_cons (de_callB (cd_max2 rfl) T.b_max (da_cons de_int (da_cons (de_op od_sub (dv 3) de_int) da_nil))) da_nil)))) (dv 1)))
    (dss_cons (ds_if (DW.dt (dw_or (dt_cmp (od_eq hE) (dv 4) de_int) (dw_or1 (dt_cmp (od_eq hE) (dv 5) (dv 1))))) (dss_one (ds_ret (de_call g_law_turned hg hr (da_cons (dv 0) (da_cons (de_tup (da_cons (de_call g_law_some hg hr (da_cons (dv 0) (da_cons (de_lst (da_cons de_str (da_cons de_str da_nil))) da_nil))) (da_cons (dv 1) (da_cons (dv 1) da_nil)))) da_nil))))) dss_nil)
    (dss_cons (ds_asg (de_call g_law_some hg hr (da_cons (dv 0) (da_cons (de_lst (da_cons (de_tup (da_cons de_str (da_cons de_str da_nil))) (da_cons (de_tup (da_cons de_str (da_cons de_str da_nil))) da_nil))) da_nil))) (dg_tup rfl (dgs_cons (dg_name sc_law_otherwise.nd) (dgs_cons (dg_name sc_law_otherwise.nd) dgs_nil))))
    (dss_one (ds_ret (de_call g_law_turned hg hr (da_cons (dv 0) (da_cons (de_tup (da_cons (dv 6) (da_cons (dv 1) (da_cons (de_call g_law_turned hg hr (da_cons (dv 0) (da_cons (de_tup (da_cons (dv 7) (da_cons (dv 1) (da_cons (dv 5) da_nil)))) da_nil))) da_nil)))) da_nil)))))))) dss_nil)
    (dss_one (ds_ret (de_call g_law_turned hg hr (da_cons (dv 0) (da_cons (dv 1) da_nil)))))))
abbrev s_law_turned : Stmt := top 15
abbrev N_law_turned : List Str := ["hand", "demand", "one", "other"]
theorem sc_law_turned : FnScope N_law_turned ["hand", "demand"] (defScope s_law_turned) := ⟨rfl, rfl, rfl, by decide +kernel, rfl, by decide +kernel, by decide +kernel⟩
def t_law_turned_1 (c_law_turned c_law_draw : DSp) : DTS := (dRet (dIf (dTest (dOp (gEq 250) (dCall c_law_draw (dCons (dVar 0) (dCons (dC (.int 2)) dNil))) (dC (.int 0)))) (dTup (dCons (dOp gIx (dVar 1) (dC (.int 0))) (dCons (dVar 3) (dCons (dVar 2) dNil)))) (dTup (dCons (dOp gIx (dVar 1) (dC (.int 0))) (dCons (dVar 2) (dCons (dVar 3) dNil))))))
def t_law_turned_2 (c_law_turned c_law_draw : DSp) : DTS := (dSeq (dPar 2 3 (dCall c_law_turned (dCons (dVar 0) (dCons (dOp gIx (dVar 1) (dC (.int 1))) dNil))) (dCall c_law_turned (dCons (dVar 0) (dCons (dOp gIx (dVar 1) (dC (.int 2))) dNil))))
  (t_law_turned_1 c_law_turned c_law_draw))
def t_law_turned (c_law_turned c_law_draw : DSp) : DTS := (dSeq (dIfS (dTest (dOp (gEq 250) (dOp gIx (dVar 1) (dC (.int 0))) (dC (.str "claim")))) (dRet (dVar 1)) dNext)
  (t_law_turned_2 c_law_turned c_law_draw))
theorem b_law_turned {k : Nat} {f : Addr} {cdv : Value} {A : Around} {outer : List Env} {s : Shared} {H : Hp} {E : XK} {c_law_turned c_law_draw : DSp} (T : Top mg) (hk : 5 ≤ k) (g_law_turned : DFn P w K mg base k "_law_turned" ["hand", "demand"] c_law_turned) (g_law_draw : DFn P w K mg base k "_law_draw" ["hand", "many"] c_law_draw)
    (hg : (A.deeper (envOfC "_law_turned" (defScope s_law_turned) s.heap.objs.size f cdv)).guards = some []) (hr : Room k (A.deeper (envOfC "_law_turned" (defScope s_law_turned) s.heap.objs.size f cdv))) :
    DSs (cxOf CX0 P w K mg base N_law_turned "_law_turned" (defScope s_law_turned) f cdv A outer s H E).nox (defBody s_law_turned) (t_law_turned c_law_turned c_law_draw) := by
  have h1 : (cxOf CX0 P w K mg base N_law_turned "_law_turned" (defScope s_law_turned) f cdv A outer s H E).nox.A.units + 1 < cLine := hu_le hr (by omega)
  have hE : (cxOf CX0 P w K mg base N_law_turned "_law_turned" (defScope s_law_turned) f cdv A outer s H E).nox.A.units + 250 < cLine := hu_le hr (by omega)
  have hI : (cxOf CX0 P w K mg base N_law_turned "_law_turned" (defScope s_law_turned) f cdv A outer s H E).nox.A.units + (250 + 2) < cLine := hu_le hr (by omega)
  exact (dss_cons (ds_if (dt_cmp (od_eq hE) (de_ix (dv 1) de_int) de_str) (dss_one (ds_ret (dv 1))) dss_nil)
    (dss_cons (ds_par rfl sc_law_turned.nd (de_call g_law_turned hg hr (da_cons (dv 0) (da_cons (de_ix (dv 1) de_int) da_nil))) (de_call g_law_turned hg hr (da_cons (dv 0) (da_cons (de_ix (dv 1) de_int) da_nil))))
    (dss_one (ds_ret (de_if (dt_cmp (od_eq hE) (de_call g_law_draw hg hr (da_cons (dv 0) (da_cons de_int da_nil))) de_int) (de_tup (da_cons (de_ix (dv 1) de_int) (da_cons (dv 3) (da_cons (dv 2) da_nil)))) (de_tup (da_cons (de_ix (dv 1) de_int) (da_cons (dv 2) (da_cons (dv 3) da_nil)))))))))
abbrev s_law_claims : Stmt := top 16
abbrev N_law_claims : List Str := ["demand"]
theorem sc_law_claims : FnScope N_law_claims ["demand"] (defScope s_law_claims) := ⟨rfl, rfl, rfl, by decide +kernel, rfl, by decide +kernel, by decide +kernel⟩
def t_law_claims_1 (c_law_claims : DSp) : DTS := (dRet (dSortSet (dOp gAdd (dCall c_law_claims (dCons (dOp gIx (dVar 0) (dC (.int 1))) dNil)) (dCall c_law_claims (dCons (dOp gIx (dVar 0) (dC (.int 2))) dNil)))))
def t_law_claims_2 (c_law_claims : DSp) : DTS := (dSeq (dIfS (dTest (dOp (gEq 250) (dOp gIx (dVar 0) (dC (.int 0))) (dC (.str "claim")))) (dRet (dLst (dCons (dSl (dVar 0) (dPart (dC (.int 1))) dNoPart) dNil))) dNext)
  (t_law_claims_1 c_law_claims))
def t_law_claims (c_law_claims : DSp) : DTS := (dSeq (dIfS (dTest (dOp gIs (dVar 0) (dC .non))) (dRet (dLst dNil)) dNext)
  (t_law_claims_2 c_law_claims))
theorem b_law_claims {k : Nat} {f : Addr} {cdv : Value} {A : Around} {outer : List Env} {s : Shared} {H : Hp} {E : XK} {c_law_claims : DSp} (T : Top mg) (hk : 5 ≤ k) (g_law_claims : DFn P w K mg base k "_law_claims" ["demand"] c_law_claims)
    (hg : (A.deeper (envOfC "_law_claims" (defScope s_law_claims) s.heap.objs.size f cdv)).guards = some []) (hr : Room k (A.deeper (envOfC "_law_claims" (defScope s_law_claims) s.heap.objs.size f cdv))) :
    DSs (cxOf CX0 P w K mg base N_law_claims "_law_claims" (defScope s_law_claims) f cdv A outer s H E).nox (defBody s_law_claims) (t_law_claims c_law_claims) := by
  have h1 : (cxOf CX0 P w K mg base N_law_claims "_law_claims" (defScope s_law_claims) f cdv A outer s H E).nox.A.units + 1 < cLine := hu_le hr (by omega)
  have hE : (cxOf CX0 P w K mg base N_law_claims "_law_claims" (defScope s_law_claims) f cdv A outer s H E).nox.A.units + 250 < cLine := hu_le hr (by omega)
  have hI : (cxOf CX0 P w K mg base N_law_claims "_law_claims" (defScope s_law_claims) f cdv A outer s H E).nox.A.units + (250 + 2) < cLine := hu_le hr (by omega)
  exact (dss_cons (ds_if (dt_cmp od_is (dv 0) de_non) (dss_one (ds_ret (de_lst da_nil))) dss_nil)
    (dss_cons (ds_if (dt_cmp (od_eq hE) (de_ix (dv 0) de_int) de_str) (dss_one (ds_ret (de_lst (da_cons (de_sl (dv 0) (do_some de_int) do_none) da_nil)))) dss_nil)
    (dss_one (ds_ret (de_sortSet rfl (hu_le hr (by omega)) (de_op od_add (de_call g_law_claims hg hr (da_cons (de_ix (dv 0) de_int) da_nil)) (de_call g_law_claims hg hr (da_cons (de_ix (dv 0) de_int) da_nil))) T.b_sorted T.b_set)))))
abbrev s_law_truth : Stmt := top 17
abbrev N_law_truth : List Str := ["demand", "lot", "one", "other"]
theorem sc_law_truth : FnScope N_law_truth ["demand", "lot"] (defScope s_law_truth) := ⟨rfl, rfl, rfl, by decide +kernel, rfl, by decide +kernel, by decide +kernel⟩
def t_law_truth_1 (c_law_truth : DSp) : DTS := (dRet (dIf (dTest (dOp (gEq 250) (dOp gIx (dVar 0) (dC (.int 0))) (dC (.str "both")))) (dAndV (dVar 2) (dVar 3)) (dOrV (dVar 2) (dVar 3))))
def t_law_truth_2 (c_law_truth : DSp) : DTS := (dSeq (dPar 2 3 (dCall c_law_truth (dCons (dOp gIx (dVar 0) (dC (.int 1))) (dCons (dVar 1) dNil))) (dCall c_law_truth (dCons (dOp gIx (dVar 0) (dC (.int 2))) (dCons (dVar 1) dNil))))
  (t_law_truth_1 c_law_truth))
def t_law_truth_3 (c_law_truth : DSp) : DTS := (dSeq (dIfS (dTest (dOp (gEq 250) (dOp gIx (dVar 0) (dC (.int 0))) (dC (.str "claim")))) (dRet (dOp (gIn 250 false) (dSl (dVar 0) (dPart (dC (.int 1))) dNoPart) (dVar 1))) dNext)
  (t_law_truth_2 c_law_truth))
def t_law_truth (c_law_truth : DSp) : DTS := (dSeq (dIfS (dTest (dOp gIs (dVar 0) (dC .non))) (dRet (dC (.bl true))) dNext)
  (t_law_truth_3 c_law_truth))
theorem b_law_truth {k : Nat} {f : Addr} {cdv : Value} {A : Around} {outer : List Env} {s : Shared} {H : Hp} {E : XK} {c_law_truth : DSp} (T : Top mg) (hk : 5 ≤ k) (g_law_truth : DFn P w K mg base k "_law_truth" ["demand", "lot"] c_law_truth)
    (hg : (A.deeper (envOfC "_law_truth" (defScope s_law_truth) s.heap.objs.size f cdv)).guards = some []) (hr : Room k (A.deeper (envOfC "_law_truth" (defScope s_law_truth) s.heap.objs.size f cdv))) :
    DSs (cxOf CX0 P w K mg base N_law_truth "_law_truth" (defScope s_law_truth) f cdv A outer s H E).nox (defBody s_law_truth) (t_law_truth c_law_truth) := by
  have h1 : (cxOf CX0 P w K mg base N_law_truth "_law_truth" (defScope s_law_truth) f cdv A outer s H E).nox.A.units + 1 < cLine := hu_le hr (by omega)
  have hE : (cxOf CX0 P w K mg base N_law_truth "_law_truth" (defScope s_law_truth) f cdv A outer s H E).nox.A.units + 250 < cLine := hu_le hr (by omega)
  have hI : (cxOf CX0 P w K mg base N_law_truth "_law_truth" (defScope s_law_truth) f cdv A outer s H E).nox.A.units + (250 + 2) < cLine := hu_le hr (by omega)
  exact (dss_cons (ds_if (dt_cmp od_is (dv 0) de_non) (dss_one (ds_ret de_bl)) dss_nil)
    (dss_cons (ds_if (dt_cmp (od_eq hE) (de_ix (dv 0) de_int) de_str) (dss_one (ds_ret (de_cmp (od_in hI) (de_sl (dv 0) (do_some de_int) do_none) (dv 1)))) dss_nil)
    (dss_cons (ds_par rfl sc_law_truth.nd (de_call g_law_truth hg hr (da_cons (de_ix (dv 0) de_int) (da_cons (dv 1) da_nil))) (de_call g_law_truth hg hr (da_cons (de_ix (dv 0) de_int) (da_cons (dv 1) da_nil))))
    (dss_one (ds_ret (de_if (dt_cmp (od_eq hE) (de_ix (dv 0) de_int) de_str) (de_and (dv 2) (de_one (dv 3))) (de_or (dv 2) (de_one (dv 3)))))))))
abbrev s_law_lots : Stmt := top 18
abbrev N_law_lots : List Str := ["things", "found", "one", "lot"]
theorem sc_law_lots : FnScope N_law_lots ["things"] (defScope s_law_lots) := ⟨rfl, rfl, rfl, by decide +kernel, rfl, by decide +kernel, by decide +kernel⟩
def t_law_lots_1 : DTS := (dAsg (dOp gAdd (dVar 1) (dLc (iSeq (dVar 1)) (dgName 3) dYes (dOp gAdd (dVar 3) (dTup (dCons (dVar 2) dNil))) [3])) (dgName 1))
def t_law_lots_2 : DTS := (dRet (dVar 1))
def t_law_lots_3 : DTS := (dSeq (dFor (iSeq (dVar 0)) (dgName 2) (t_law_lots_1))
  (t_law_lots_2))
def t_law_lots : DTS := (dSeq (dAsg (dLst (dCons (dTup dNil) dNil)) (dgName 1))
  (t_law_lots_3))
theorem b_law_lots {k : Nat} {f : Addr} {cdv : Value} {A : Around} {outer : List Env} {s : Shared} {H : Hp} {E : XK} (T : Top mg) (hk : 5 ≤ k) 
    (hg : (A.deeper (envOfC "_law_lots" (defScope s_law_lots) s.heap.objs.size f cdv)).guards = some []) (hr : Room k (A.deeper (envOfC "_law_lots" (defScope s_law_lots) s.heap.objs.size f cdv))) :
    DSs (cxOf CX0 P w K mg base N_law_lots "_law_lots" (defScope s_law_lots) f cdv A outer s H E).nox (defBody s_law_lots) (t_law_lots) := by
  have h1 : (cxOf CX0 P w K mg base N_law_lots "_law_lots" (defScope s_law_lots) f cdv A outer s H E).nox.A.units + 1 < cLine := hu_le hr (by omega)
  have hE : (cxOf CX0 P w K mg base N_law_lots "_law_lots" (defScope s_law_lots) f cdv A outer s H E).nox.A.units + 250 < cLine := hu_le hr (by omega)
  have hI : (cxOf CX0 P w K mg base N_law_lots "_law_lots" (defScope s_law_lots) f cdv A outer s H E).nox.A.units + (250 + 2) < cLine := hu_le hr (by omega)
  exact (dss_cons (ds_set sc_law_lots.nd (de_lst (da_cons (de_tup da_nil) da_nil)))
    (dss_cons (ds_for PassesOwn.never rfl (di_seq (dv 0)) (dg_name sc_law_lots.nd) (dss_one (ds_set sc_law_lots.nd (de_op od_add (dv 1) (de_lc (own := [("lot", 3)]) rfl sc_law_lots.nd (di_seq (dv 1)) (blkOk_by (N := N_law_lots) (sc := defScope s_law_lots) (by decide +kernel)) (dgc_name sc_law_lots.nd) (fun _ _ _ _ _ => dts_nil) (fun _ _ _ _ _ => (de_op od_add (dv 3) (de_tup (da_cons (dv 2) da_nil)))))))))
    (dss_one (ds_ret (dv 1)))))
abbrev s_law_implied : Stmt := top 19
abbrev N_law_implied : List Str := ["one", "other", "pairs", "lot"]
theorem sc_law_implied : FnScope N_law_implied ["one", "other"] (defScope s_law_implied) := ⟨rfl, rfl, rfl, by decide +kernel, rfl, by decide +kernel, by decide +kernel⟩
def t_law_implied_1 (c_law_claims c_law_lots c_law_truth : DSp) : DTS := (dRet (dCB gAll (dCons (dLc (iSeq (dCall c_law_lots (dCons (dVar 2) dNil))) (dgName 3) dYes (dOrV (dCall c_law_truth (dCons (dVar 1) (dCons (dVar 3) dNil))) (dNotV (dCall c_law_truth (dCons (dVar 0) (dCons (dVar 3) dNil))))) [3]) dNil)))
def t_law_implied (c_law_claims c_law_lots c_law_truth : DSp) : DTS := (dSeq (dAsg (dSortSet (dOp gAdd (dCall c_law_claims (dCons (dVar 0) dNil)) (dCall c_law_claims (dCons (dVar 1) dNil)))) (dgName 2))
  (t_law_implied_1 c_law_claims c_law_lots c_law_truth))
theorem b_law_implied {k : Nat} {f : Addr} {cdv : Value} {A : Around} {outer : List Env} {s : Shared} {H : Hp} {E : XK} {c_law_claims c_law_lots c_law_truth : DSp} (T : Top mg) (hk : 5 ≤ k) (g_law_claims : DFn P w K mg base k "_law_claims" ["demand"] c_law_claims) (g_law_lots : DFn P w K mg base k "_law_lots" ["things"] c_law_lots) (g_law_truth : DFn P w K mg base k "_law_truth" ["demand", "lot"] c_law_truth)
    (hg : (A.deeper (envOfC "_law_implied" (defScope s_law_implied) s.heap.objs.size f cdv)).guards = some []) (hr : Room k (A.deeper (envOfC "_law_implied" (defScope s_law_implied) s.heap.objs.size f cdv))) :
    DSs (cxOf CX0 P w K mg base N_law_implied "_law_implied" (defScope s_law_implied) f cdv A outer s H E).nox (defBody s_law_implied) (t_law_implied c_law_claims c_law_lots c_law_truth) := by
  have h1 : (cxOf CX0 P w K mg base N_law_implied "_law_implied" (defScope s_law_implied) f cdv A outer s H E).nox.A.units + 1 < cLine := hu_le hr (by omega)
  have hE : (cxOf CX0 P w K mg base N_law_implied "_law_implied" (defScope s_law_implied) f cdv A outer s H E).nox.A.units + 250 < cLine := hu_le hr (by omega)
  have hI : (cxOf CX0 P w K mg base N_law_implied "_law_implied" (defScope s_law_implied) f cdv A outer s H E).nox.A.units + (250 + 2) < cLine := hu_le hr (by omega)
  exact (dss_cons (ds_set sc_law_implied.nd (de_sortSet rfl (hu_le hr (by omega)) (de_op od_add (de_call g_law_claims hg hr (da_cons (dv 0) da_nil)) (de_call g_law_claims hg hr (da_cons (dv 1) da_nil))) T.b_sorted T.b_set))
    (dss_one (ds_ret (de_callB (cd_all rfl) T.b_all (da_cons (de_lc (own := [("lot", 3)]) rfl sc_law_implied.nd (di_seq (de_call g_law_lots hg hr (da_cons (dv 2) da_nil))) (blkOk_by (N := N_law_implied) (sc := defScope s_law_implied) (by decide +kernel)) (dgc_name sc_law_implied.nd) (fun _ _ _ _ _ => dts_nil) (fun _ _ _ _ _ => (de_or (de_call g_law_truth hg hr (da_cons (dv 1) (da_cons (dv 3) da_nil))) (de_one (de_not (de_call g_law_truth hg hr (da_cons (dv 0) (da_cons (dv 3) da_nil)))))))) da_nil)))))
abbrev s_law_moved : Stmt := top 20
abbrev N_law_moved : List Str := ["hand", "demand", "pool"]
theorem sc_law_moved : FnScope N_law_moved ["hand", "demand", "pool"] (defScope s_law_moved) := ⟨rfl, rfl, rfl, by decide +kernel, rfl, by decide +kernel, by decide +kernel⟩
def t_law_moved_1 (c_law_some c_law_draw c_law_moved : DSp) : DTS := (dRet (dTup (dCons (dOp gIx (dVar 1) (dC (.int 0))) (dCons (dOp gIx (dVar 1) (dC (.int 1))) (dCons (dCall c_law_moved (dCons (dVar 0) (dCons (dOp gIx (dVar 1) (dC (.int 2))) (dCons (dVar 2) dNil)))) dNil)))))
def t_law_moved_2 (c_law_some c_law_draw c_law_moved : DSp) : DTS := (dSeq (dIfS (dTest (dOp (gEq 250) (dCall c_law_draw (dCons (dVar 0) (dCons (dC (.int 2)) dNil))) (dC (.int 0)))) (dRet (dTup (dCons (dOp gIx (dVar 1) (dC (.int 0))) (dCons (dCall c_law_moved (dCons (dVar 0) (dCons (dOp gIx (dVar 1) (dC (.int 1))) (dCons (dVar 2) dNil)))) (dCons (dOp gIx (dVar 1) (dC (.int 2))) dNil))))) dNext)
  (t_law_moved_1 c_law_some c_law_draw c_law_moved))
def t_law_moved (c_law_some c_law_draw c_law_moved : DSp) : DTS := (dSeq (dIfS (dTest (dOp (gEq 250) (dOp gIx (dVar 1) (dC (.int 0))) (dC (.str "claim")))) (dRet (dOp gAdd (dTup (dCons (dC (.str "claim")) dNil)) (dCall c_law_some (dCons (dVar 0) (dCons (dVar 2) dNil))))) dNext)
  (t_law_moved_2 c_law_some c_law_draw c_law_moved))
theorem b_law_moved {k : Nat} {f : Addr} {cdv : Value} {A : Around} {outer : List Env} {s : Shared} {H : Hp} {E : XK} {c_law_some c_law_draw c_law_moved : DSp} (T : Top mg) (hk : 5 ≤ k) (g_law_some : DFn P w K mg base k "_law_some" ["hand", "things"] c_law_some) (g_law_draw : DFn P w K mg base k "_law_draw" ["hand", "many"] c_law_draw) (g_law_moved : DFn P w K mg base k "_law_moved" ["hand", "demand", "pool"] c_law_moved)
    (hg : (A.deeper (envOfC "_law_moved" (defScope s_law_moved) s.heap.objs.size f cdv)).guards = some []) (hr : Room k (A.deeper (envOfC "_law_moved" (defScope s_law_moved) s.heap.objs.size f cdv))) :
    DSs (cxOf CX0 P w K mg base N_law_moved "_law_moved" (defScope s_law_moved) f cdv A outer s H E).nox (defBody s_law_moved) (t_law_moved c_law_some c_law_draw c_law_moved) := by
  have h1 : (cxOf CX0 P w K mg base N_law_moved "_law_moved" (defScope s_law_moved) f cdv A outer s H E).nox.A.units + 1 < cLine := hu_le hr (by omega)
  have hE : (cxOf CX0 P w K mg base N_law_moved "_law_moved" (defScope s_law_moved) f cdv A outer s H E).nox.A.units + 250 < cLine := hu_le hr (by omega)
  have hI : (cxOf CX0 P w K mg base N_law_moved "_law_moved" (defScope s_law_moved) f cdv A outer s H E).nox.A.units + (250 + 2) < cLine := hu_le hr (by omega)
  exact (dss_cons (ds_if (dt_cmp (od_eq hE) (de_ix (dv 1) de_int) de_str) (dss_one (ds_ret (de_op od_add (de_tup (da_cons de_str da_nil)) (de_call g_law_some hg hr (da_cons (dv 0) (da_cons (dv 2) da_nil)))))) dss_nil)
    (dss_cons (ds_if (dt_cmp (od_eq hE) (de_call g_law_draw hg hr (da_cons (dv 0) (da_cons de_int da_nil))) de_int) (dss_one (ds_ret (de_tup (da_cons (de_ix (dv 1) de_int) (da_cons (de_call g_law_moved hg hr (da_cons (dv 0) (da_cons (de_ix (dv 1) de_int) (da_cons (dv 2) da_nil)))) (da_cons (de_ix (dv 1) de_int) da_nil)))))) dss_nil)
    (dss_one (ds_ret (de_tup (da_cons (de_ix (dv 1) de_int) (da_cons (de_ix (dv 1) de_int) (da_cons (de_call g_law_moved hg hr (da_cons (dv 0) (da_cons (de_ix (dv 1) de_int) (da_cons (dv 2) da_nil)))) da_nil))))))))
abbrev s_law_near : Stmt := top 21
abbrev N_law_near : List Str := ["hand", "demand", "pool", "kind", "more", "word"]
theorem sc_law_near : FnScope N_law_near ["hand", "demand", "pool"] (defScope s_law_near) := ⟨rfl, rfl, rfl, by decide +kernel, rfl, by decide +kernel, by decide +kernel⟩
def t_law_near_1 (c_law_draw c_law_otherwise c_law_moved c_law_demand_deep c_law_demand c_law_some c_law_turned : DSp) : DTS := (dRet (dCall c_law_demand (dCons (dVar 0) (dCons (dVar 2) (dCons (dC (.int 4)) dNil)))))
def t_law_near_2 (c_law_draw c_law_otherwise c_law_moved c_law_demand_deep c_law_demand c_law_some c_law_turned : DSp) : DTS := (dSeq (dIfS (dAnd (dTest (dOp gLt (dVar 3) (dC (.int 5)))) (dTest (dOp gLt (dCall c_law_demand_deep (dCons (dVar 1) dNil)) (dC (.int 4))))) (dSeq (dAsg (dCall c_law_demand (dCons (dVar 0) (dCons (dVar 2) (dCons (dC (.int 3)) dNil)))) (dgName 4))
  (dSeq (dAsg (dCall c_law_some (dCons (dVar 0) (dCons (dLst (dCons (dC (.str "both")) (dCons (dC (.str "either")) dNil))) dNil))) (dgName 5))
  (dRet (dCall c_law_turned (dCons (dVar 0) (dCons (dTup (dCons (dVar 5) (dCons (dVar 1) (dCons (dVar 4) dNil)))) dNil)))))) dNext)
  (t_law_near_1 c_law_draw c_law_otherwise c_law_moved c_law_demand_deep c_law_demand c_law_some c_law_turned))
def t_law_near_3 (c_law_draw c_law_otherwise c_law_moved c_law_demand_deep c_law_demand c_law_some c_law_turned : DSp) : DTS := (dSeq (dIfS (dTest (dOp (gEq 250) (dVar 3) (dC (.int 1)))) (dRet (dCall c_law_moved (dCons (dVar 0) (dCons (dVar 1) (dCons (dVar 2) dNil))))) dNext)
  (t_law_near_2 c_law_draw c_law_otherwise c_law_moved c_law_demand_deep c_law_demand c_law_some c_law_turned))
def t_law_near_4 (c_law_draw c_law_otherwise c_law_moved c_law_demand_deep c_law_demand c_law_some c_law_turned : DSp) : DTS := (dSeq (dIfS (dTest (dOp (gEq 250) (dVar 3) (dC (.int 0)))) (dRet (dCall c_law_otherwise (dCons (dVar 0) (dCons (dVar 1) (dCons (dVar 2) (dCons (dC (.int 4)) dNil)))))) dNext)
  (t_law_near_3 c_law_draw c_law_otherwise c_law_moved c_law_demand_deep c_law_demand c_law_some c_law_turned))
def t_law_near (c_law_draw c_law_otherwise c_law_moved c_law_demand_deep c_law_demand c_law_some c_law_turned : DSp) : DTS := (dSeq (dAsg (dCall c_law_draw (dCons (dVar 0) (dCons (dC (.int 6)) dNil))) (dgName 3))
  (t_law_near_4 c_law_draw c_law_otherwise c_law_moved c_law_demand_deep c_law_demand c_law_some c_law_turned))
theorem b_law_near {k : Nat} {f : Addr} {cdv : Value} {A : Around} {outer : List Env} {s : Shared} {H : Hp} {E : XK} {c_law_draw c_law_otherwise c_law_moved c_law_demand_deep c_law_demand c_law_some c_law_turned : DSp} (T : Top mg) (hk : 5 ≤ k) (g_law_draw : DFn P w K mg base k "_law_draw" ["hand", "many"] c_law_draw) (g_law_otherwise : DFn P w K mg base k "_law_otherwise" ["hand", "demand", "pool", "deep"] c_law_otherwise) (g_law_moved : DFn P w K mg base k "_law_moved" ["hand", "demand", "pool"] c_law_moved) (g_law_demand_deep : DFn P w K mg base k "_law_demand_deep" ["demand"] c_law_demand_deep) (g_law_demand : DFn P w K mg base k "_law_demand" ["hand", "pool", "deep"] c_law_demand) (g_law_some : DFn P w K mg base k "_law_some" ["hand", "things"] c_law_some) (g_law_turned : DFn P w K mg base k "_law_turned" ["hand", "demand"] c_law_turned)
    (hg : (A.deeper (envOfC "_law_near" (defScope s_law_near) s.heap.objs.size f cdv)).guards = some []) (hr : Room k (A.deeper (envOfC "_law_near" (defScope s_law_near) s.heap.objs.size f cdv))) :
    DSs (cxOf CX0 P w K mg base N_law_near "_law_near" (defScope s_law_near) f cdv A outer s H E).nox (defBody s_law_near) (t_law_near c_law_draw c_law_otherwise c_law_moved c_law_demand_deep c_law_demand c_law_some c_law_turned) := by
  have h1 : (cxOf CX0 P w K mg base N_law_near "_law_near" (defScope s_law_near) f cdv A outer s H E).nox.A.units + 1 < cLine := hu_le hr (by omega)
  have hE : (cxOf CX0 P w K mg base N_law_near "_law_near" (defScope s_law_near) f cdv A outer s H E).nox.A.units + 250 < cLine := hu_le hr (by omega)
  have hI : (cxOf CX0 P w K mg base N_law_near "_law_near" (defScope s_law_near) f cdv A outer s H E).nox.A.units + (250 + 2) < cLine := hu_le hr (by omega)
  exact (dss_cons (ds_set sc_law_near.nd (de_call g_law_draw hg hr (da_cons (dv 0) (da_cons de_int da_nil))))
    (dss_cons (ds_if (dt_cmp (od_eq hE) (dv 3) de_int) (dss_one (ds_ret (de_call g_law_otherwise hg hr (da_cons (dv 0) (da_cons (dv 1) (da_cons (dv 2) (da_cons de_int da_nil))))))) dss_nil)
    (dss_cons (ds_if (dt_cmp (od_eq hE) (dv 3) de_int) (dss_one (ds_ret (de_call g_law_moved hg hr (da_cons (dv 0) (da_cons (dv 1) (da_cons (dv 2) da_nil)))))) dss_nil)
    (dss_cons (ds_if (DW.dt (dw_and (dt_cmp od_lt (dv 3) de_int) (dw_and1 (dt_cmp od_lt (de_call g_law_demand_deep hg hr (da_cons (dv 1) da_nil)) de_int)))) (dss_cons (ds_set sc_law_near.nd (de_call g_law_demand hg hr (da_cons (dv 0) (da_cons (dv 2) (da_cons de_int da_nil)))))
    (dss_cons (ds_set sc_law_near.nd (de_call g_law_some hg hr (da_cons (dv 0) (da_cons (de_lst (da_cons de_str (da_cons de_str da_nil))) da_nil))))
    (dss_one (ds_ret (de_call g_law_turned hg hr (da_cons (dv 0) (da_cons (de_tup (da_cons (dv 5) (da_cons (dv 1) (da_cons (dv 4) da_nil)))) da_nil))))))) dss_nil)
    (dss_one (ds_ret (de_call g_law_demand hg hr (da_cons (dv 0) (da_cons (dv 2) (da_cons de_int da_nil))))))))))
abbrev s_law_is_right : Stmt := top 22
abbrev N_law_is_right : List Str := ["one", "other", "before"]
theorem sc_law_is_right : FnScope N_law_is_right ["one", "other"] (defScope s_law_is_right) := ⟨rfl, rfl, rfl, by decide +kernel, rfl, by decide +kernel, by decide +kernel⟩
def t_law_is_right_1 (c_implied c_law_implied : DSp) : DTS := (dRet (dAndV (dOp (gEq 250) (dCB (gRepr 250) (dCons (dCall c_implied (dCons (dVar 0) (dCons (dVar 1) dNil))) dNil)) (dCB (gRepr 250) (dCons (dCall c_law_implied (dCons (dVar 0) (dCons (dVar 1) dNil))) dNil))) (dOp (gEq 250) (dCB (gRepr 250) (dCons (dTup (dCons (dVar 0) (dCons (dVar 1) dNil))) dNil)) (dVar 2))))
def t_law_is_right (c_implied c_law_implied : DSp) : DTS := (dSeq (dAsg (dCB (gRepr 250) (dCons (dTup (dCons (dVar 0) (dCons (dVar 1) dNil))) dNil)) (dgName 2))
  (t_law_is_right_1 c_implied c_law_implied))
theorem b_law_is_right {k : Nat} {f : Addr} {cdv : Value} {A : Around} {outer : List Env} {s : Shared} {H : Hp} {E : XK} {c_implied c_law_implied : DSp} (T : Top mg) (hk : 5 ≤ k) (g_implied : DFn P w K mg base k "implied" ["one", "other"] c_implied) (g_law_implied : DFn P w K mg base k "_law_implied" ["one", "other"] c_law_implied)
    (hg : (A.deeper (envOfC "_law_is_right" (defScope s_law_is_right) s.heap.objs.size f cdv)).guards = some []) (hr : Room k (A.deeper (envOfC "_law_is_right" (defScope s_law_is_right) s.heap.objs.size f cdv))) :
    DSs (cxOf CX0 P w K mg base N_law_is_right "_law_is_right" (defScope s_law_is_right) f cdv A outer s H E).nox (defBody s_law_is_right) (t_law_is_right c_implied c_law_implied) := by
  have h1 : (cxOf CX0 P w K mg base N_law_is_right "_law_is_right" (defScope s_law_is_right) f cdv A outer s H E).nox.A.units + 1 < cLine := hu_le hr (by omega)
  have hE : (cxOf CX0 P w K mg base N_law_is_right "_law_is_right" (defScope s_law_is_right) f cdv A outer s H E).nox.A.units + 250 < cLine := hu_le hr (by omega)
  have hI : (cxOf CX0 P w K mg base N_law_is_right "_law_is_right" (defScope s_law_is_right) f cdv A outer s H E).nox.A.units + (250 + 2) < cLine := hu_le hr (by omega)
  exact (dss_cons (ds_set sc_law_is_right.nd (de_callB (cd_repr hg hI) T.b_repr (da_cons (de_tup (da_cons (dv 0) (da_cons (dv 1) da_nil))) da_nil)))
    (dss_one (ds_ret (de_and (de_cmp (od_eq hE) (de_callB (cd_repr hg hI) T.b_repr (da_cons (de_call g_implied hg hr (da_cons (dv 0) (da_cons (dv 1) da_nil))) da_nil)) (de_callB (cd_repr hg hI) T.b_repr (da_cons (de_call g_law_implied hg hr (da_cons (dv 0) (da_cons (dv 1) da_nil))) da_nil))) (de_one (de_cmp (od_eq hE) (de_callB (cd_repr hg hI) T.b_repr (da_cons (de_tup (da_cons (dv 0) (da_cons (dv 1) da_nil))) da_nil)) (dv 2)))))))
abbrev s_law_wide : Stmt := top 23
abbrev N_law_wide : List Str := ["hand", "word", "other", "pairs", "some", "pair", "at"]
theorem sc_law_wide : FnScope N_law_wide ["hand", "word", "other"] (defScope s_law_wide) := ⟨rfl, rfl, rfl, by decide +kernel, rfl, by decide +kernel, by decide +kernel⟩
def t_law_wide_1 (c_law_mixed : DSp) : DTS := (dRet (dTup (dCons (dVar 2) (dCons (dTup (dCons (dVar 2) (dCons (dOp gIx (dVar 4) (dC (.int 0))) (dCons (dOp gIx (dVar 4) (dC (.int 1))) dNil)))) (dCons (dTup (dCons (dVar 2) (dCons (dOp gIx (dVar 4) (dC (.int 2))) (dCons (dOp gIx (dVar 4) (dC (.int 3))) dNil)))) dNil)))))
def t_law_wide_2 (c_law_mixed : DSp) : DTS := (dSeq (dAsg (dLc (iSeq (dTup (dCons (dC (.int 0)) (dCons (dC (.int 2)) (dCons (dC (.int 4)) (dCons (dC (.int 6)) dNil)))))) (dgName 6) dYes (dTup (dCons (dVar 1) (dCons (dOp gIx (dVar 4) (dVar 6)) (dCons (dOp gIx (dVar 4) (dOp gAdd (dVar 6) (dC (.int 1)))) dNil)))) [6]) (dgName 4))
  (t_law_wide_1 c_law_mixed))
def t_law_wide_3 (c_law_mixed : DSp) : DTS := (dSeq (dAsg (dLc (iSeq (dVar 3)) (dgName 5) dYes (dOp gAdd (dTup (dCons (dC (.str "claim")) dNil)) (dVar 5)) [5]) (dgName 4))
  (t_law_wide_2 c_law_mixed))
def t_law_wide (c_law_mixed : DSp) : DTS := (dSeq (dAsg (dCall c_law_mixed (dCons (dVar 0) (dCons (dLc (iRange1 (dC (.int 8))) (dgName 6) dYes (dTup (dCons (dOp gIx (dLst (dCons (dC (.str "small")) (dCons (dC (.str "plain")) dNil))) (dOp gFdiv (dVar 6) (dC (.int 4)))) (dCons (dOp gIx (dLst (dCons (dC (.int 0)) (dCons (dC (.int 1)) (dCons (dC (.int 2)) (dCons (dC (.int 19)) dNil))))) (dOp gMod (dCB gInt (dCons (dVar 6) dNil)) (dC (.int 4)))) dNil))) [6]) dNil))) (dgName 3))
  (t_law_wide_3 c_law_mixed))
theorem b_law_wide {k : Nat} {f : Addr} {cdv : Value} {A : Around} {outer : List Env} {s : Shared} {H : Hp} {E : XK} {c_law_mixed : DSp} (T : Top mg) (hk : 5 ≤ k) (g_law_mixed : DFn P w K mg base k "_law_mixed" ["hand", "things"] c_law_mixed)
    (hg : (A.deeper (envOfC "_law_wide" (defScope s_law_wide) s.heap.objs.size f cdv)).guards = some []) (hr : Room k (A.deeper (envOfC "_law_wide" (defScope s_law_wide) s.heap.objs.size f cdv))) :
    DSs (cxOf CX0 P w K mg base N_law_wide "_law_wide" (defScope s_law_wide) f cdv A outer s H E).nox (defBody s_law_wide) (t_law_wide c_law_mixed) := by
  have h1 : (cxOf CX0 P w K mg base N_law_wide "_law_wide" (defScope s_law_wide) f cdv A outer s H E).nox.A.units + 1 < cLine := hu_le hr (by omega)
  have hE : (cxOf CX0 P w K mg base N_law_wide "_law_wide" (defScope s_law_wide) f cdv A outer s H E).nox.A.units + 250 < cLine := hu_le hr (by omega)
  have hI : (cxOf CX0 P w K mg base N_law_wide "_law_wide" (defScope s_law_wide) f cdv A outer s H E).nox.A.units + (250 + 2) < cLine := hu_le hr (by omega)
  exact (dss_cons (ds_set sc_law_wide.nd (de_call g_law_mixed hg hr (da_cons (dv 0) (da_cons (de_lc (own := [("at", 6)]) rfl sc_law_wide.nd (di_range1 (by rfl) T.b_range de_int) (blkOk_by (N := N_law_wide) (sc := defScope s_law_wide) (by decide +kernel)) (dgc_name sc_law_wide.nd) (fun _ _ _ _ _ => dts_nil) (fun _ _ _ _ _ => (de_tup (da_cons (de_ix (de_lst (da_cons de_str (da_cons de_str da_nil))) (de_op od_fdiv (dv 6) de_int)) (da_cons (de_ix (de_lst (da_cons de_int (da_cons de_int (da_cons de_int (da_cons de_int da_nil))))) (de_op od_mod (de_callTy cd_int T.b_int (da_cons (dv 6) da_nil)) de_int)) da_nil))))) da_nil))))
    (dss_cons (ds_set sc_law_wide.nd (de_lc (own := [("pair", 5)]) rfl sc_law_wide.nd (di_seq (dv 3)) (blkOk_by (N := N_law_wide) (sc := defScope s_law_wide) (by decide +kernel)) (dgc_name sc_law_wide.nd) (fun _ _ _ _ _ => dts_nil) (fun _ _ _ _ _ => (de_op od_add (de_tup (da_cons de_str da_nil)) (dv 5)))))
    (dss_cons (ds_set sc_law_wide.nd (de_lc (own := [("at", 6)]) rfl sc_law_wide.nd (di_seq (de_tup (da_cons de_int (da_cons de_int (da_cons de_int (da_cons de_int da_nil)))))) (blkOk_by (N := N_law_wide) (sc := defScope s_law_wide) (by decide +kernel)) (dgc_name sc_law_wide.nd) (fun _ _ _ _ _ => dts_nil) (fun _ _ _ _ _ => (de_tup (da_cons (dv 1) (da_cons (de_ix (dv 4) (dv 6)) (da_cons (de_ix (dv 4) (de_op od_add (dv 6) de_int)) da_nil)))))))
    (dss_one (ds_ret (de_tup (da_cons (dv 2) (da_cons (de_tup (da_cons (dv 2) (da_cons (de_ix (dv 4) de_int) (da_cons (de_ix (dv 4) de_int) da_nil)))) (da_cons (de_tup (da_cons (dv 2) (da_cons (de_ix (dv 4) de_int) (da_cons (de_ix (dv 4) de_int) da_nil)))) da_nil)))))))))
abbrev s_law : Stmt := top 24
abbrev N_law : List Str := ["script", "hand", "wide", "some", "one", "turn", "names", "many", "pool", "first", "other", "claim", "last"]
theorem sc_law : FnScope N_law ["script"] (defScope s_law) := ⟨rfl, rfl, rfl, by decide +kernel, rfl, by decide +kernel, by decide +kernel⟩
def t_law_1 (c_law_hand c_law_wide c_law_is_right c_law_mixed c_law_draw c_law_some c_law_demand c_law_near c_implied : DSp) : DTS := (dIfS (dNot (dTest (dCB gAll (dCons (dLc (iSeq (dVar 3)) (dgName 10) dYes (dCall c_law_is_right (dCons (dVar 4) (dCons (dVar 10) dNil))) [10]) dNil)))) (dRet (dC (.bl false))) dNext)
def t_law_2 (c_law_hand c_law_wide c_law_is_right c_law_mixed c_law_draw c_law_some c_law_demand c_law_near c_implied : DSp) : DTS := (dSeq (dIfS (dOr (dTest (dOp gIsNot (dCall c_implied (dCons (dVar 4) (dCons (dVar 4) dNil))) (dC (.bl true)))) (dTest (dOp gIsNot (dCall c_implied (dCons (dVar 4) (dCons (dC .non) dNil))) (dC (.bl true))))) (dRet (dC (.bl false))) dNext)
  (dSeq (dIfS (dTest (dOp (gNe 250) (dCB (gRepr 250) (dCons (dCall c_implied (dCons (dC .non) (dCons (dVar 4) dNil))) dNil)) (dCB (gRepr 250) (dCons (dOp gIs (dVar 4) (dC .non)) dNil)))) (dRet (dC (.bl false))) dNext)
  (dIfS (dNot (dTest (dCB gAll (dCons (dLc (iSeq (dVar 3)) (dgName 10) dYes (dCall c_law_is_right (dCons (dVar 4) (dCons (dVar 10) dNil))) [10]) dNil)))) (dRet (dC (.bl false))) dNext)))
def t_law_3 (c_law_hand c_law_wide c_law_is_right c_law_mixed c_law_draw c_law_some c_law_demand c_law_near c_implied : DSp) : DTS := (dIfS (dAnd (dTest (dCall c_implied (dCons (dVar 4) (dCons (dVar 10) dNil)))) (dNot (dTest (dCB gAll (dCons (dLc (iSeq (dVar 3)) (dgName 12) (dTest (dCall c_implied (dCons (dVar 10) (dCons (dVar 12) dNil)))) (dCall c_implied (dCons (dVar 4) (dCons (dVar 12) dNil))) [12]) dNil))))) (dRet (dC (.bl false))) dNext)
def t_law_4 (c_law_hand c_law_wide c_law_is_right c_law_mixed c_law_draw c_law_some c_law_demand c_law_near c_implied : DSp) : DTS := (dFor (iSeq (dVar 3)) (dgName 10) (t_law_3 c_law_hand c_law_wide c_law_is_right c_law_mixed c_law_draw c_law_some c_law_demand c_law_near c_implied))
def t_law_5 (c_law_hand c_law_wide c_law_is_right c_law_mixed c_law_draw c_law_some c_law_demand c_law_near c_implied : DSp) : DTS := (dSeq (dAsg (dSl (dCall c_law_mixed (dCons (dVar 1) (dCons (dLst (dCons (dC (.str "small")) (dCons (dC (.str "plain")) (dCons (dC (.str "both")) (dCons (dC (.str "claim")) dNil))))) dNil))) dNoPart (dPart (dOp gAdd (dC (.int 1)) (dCall c_law_draw (dCons (dVar 1) (dCons (dC (.int 3)) dNil)))))) (dgName 6))
  (dSeq (dAsg (dCall c_law_some (dCons (dVar 1) (dCons (dLst (dCons (dC (.int 1)) (dCons (dC (.int 2)) (dCons (dC (.int 4)) (dCons (dC (.int 6)) (dCons (dC (.int 6)) dNil)))))) dNil))) (dgName 7))
  (dSeq (dAsg (dLc (iRange1 (dVar 7)) (dgName 11) dYes (dTup (dCons (dCall c_law_some (dCons (dVar 1) (dCons (dVar 6) dNil))) (dCons (dCall c_law_some (dCons (dVar 1) (dCons (dLst (dCons (dC (.int 0)) (dCons (dC (.int 1)) (dCons (dC (.int 2)) (dCons (dC (.int 19)) dNil))))) dNil))) dNil))) [11]) (dgName 8))
  (dSeq (dAsg (dCall c_law_demand (dCons (dVar 1) (dCons (dVar 8) (dCons (dOp gAdd (dC (.int 1)) (dCall c_law_draw (dCons (dVar 1) (dCons (dC (.int 4)) dNil)))) dNil)))) (dgName 9))
  (dSeq (dAsg (dLstM (dCons (dVar 9) (dCons (dCall c_law_near (dCons (dVar 1) (dCons (dVar 9) (dCons (dVar 8) dNil)))) (dCons (dCall c_law_near (dCons (dVar 1) (dCons (dVar 9) (dCons (dVar 8) dNil)))) (dCons (dC .non) dNil))))) (dgName 3))
  (dSeq (dDrop (dAppend (dVar 3) (dCall c_law_near (dCons (dVar 1) (dCons (dOp gIx (dVar 3) (dC (.int 1))) (dCons (dVar 8) dNil))))))
  (dFzV 3 (dSeq (dFor (iSeq (dVar 3)) (dgName 4) (t_law_2 c_law_hand c_law_wide c_law_is_right c_law_mixed c_law_draw c_law_some c_law_demand c_law_near c_implied))
  (dFor (iSeq (dVar 3)) (dgName 4) (t_law_4 c_law_hand c_law_wide c_law_is_right c_law_mixed c_law_draw c_law_some c_law_demand c_law_near c_implied))))))))))
def t_law_6 (c_law_hand c_law_wide c_law_is_right c_law_mixed c_law_draw c_law_some c_law_demand c_law_near c_implied : DSp) : DTS := (dRet (dC (.bl true)))
def t_law_7 (c_law_hand c_law_wide c_law_is_right c_law_mixed c_law_draw c_law_some c_law_demand c_law_near c_implied : DSp) : DTS := (dSeq (dFor (iRange1 (dC (.int 4))) (dgName 5) (t_law_5 c_law_hand c_law_wide c_law_is_right c_law_mixed c_law_draw c_law_some c_law_demand c_law_near c_implied))
  (t_law_6 c_law_hand c_law_wide c_law_is_right c_law_mixed c_law_draw c_law_some c_law_demand c_law_near c_implied))
def t_law_8 (c_law_hand c_law_wide c_law_is_right c_law_mixed c_law_draw c_law_some c_law_demand c_law_near c_implied : DSp) : DTS := (dSeq (dFor (iSeq (dVar 3)) (dgName 4) (t_law_1 c_law_hand c_law_wide c_law_is_right c_law_mixed c_law_draw c_law_some c_law_demand c_law_near c_implied))
  (t_law_7 c_law_hand c_law_wide c_law_is_right c_law_mixed c_law_draw c_law_some c_law_demand c_law_near c_implied))
def t_law_9 (c_law_hand c_law_wide c_law_is_right c_law_mixed c_law_draw c_law_some c_law_demand c_law_near c_implied : DSp) : DTS := (dSeq (dAsg (dLstM (dCons (dVar 2) (dCons (dCall c_law_wide (dCons (dVar 1) (dCons (dC (.str "either")) (dCons (dC (.str "both")) dNil)))) (dCons (dOp gIx (dVar 2) (dC (.int 1))) dNil)))) (dgName 3))
  (dFzV 3 (t_law_8 c_law_hand c_law_wide c_law_is_right c_law_mixed c_law_draw c_law_some c_law_demand c_law_near c_implied)))
def t_law_10 (c_law_hand c_law_wide c_law_is_right c_law_mixed c_law_draw c_law_some c_law_demand c_law_near c_implied : DSp) : DTS := (dSeq (dAsg (dCall c_law_wide (dCons (dVar 1) (dCons (dC (.str "both")) (dCons (dC (.str "either")) dNil)))) (dgName 2))
  (t_law_9 c_law_hand c_law_wide c_law_is_right c_law_mixed c_law_draw c_law_some c_law_demand c_law_near c_implied))
def t_law (c_law_hand c_law_wide c_law_is_right c_law_mixed c_law_draw c_law_some c_law_demand c_law_near c_implied : DSp) : DTS := (dSeq (dAsg (dCall c_law_hand (dCons (dVar 0) dNil)) (dgName 1))
  (t_law_10 c_law_hand c_law_wide c_law_is_right c_law_mixed c_law_draw c_law_some c_law_demand c_law_near c_implied))
theorem b_law {k : Nat} {f : Addr} {cdv : Value} {A : Around} {outer : List Env} {s : Shared} {H : Hp} {E : XK} {c_law_hand c_law_wide c_law_is_right c_law_mixed c_law_draw c_law_some c_law_demand c_law_near c_implied : DSp} (T : Top mg) (hk : 5 ≤ k) (g_law_hand : DFn P w K mg base k "_law_hand" ["script"] c_law_hand) (g_law_wide : DFn P w K mg base k "_law_wide" ["hand", "word", "other"] c_law_wide) (g_law_is_right : DFn P w K mg base k "_law_is_right" ["one", "other"] c_law_is_right) (g_law_mixed : DFn P w K mg base k "_law_mixed" ["hand", "things"] c_law_mixed) (g_law_draw : DFn P w K mg base k "_law_draw" ["hand", "many"] c_law_draw) (g_law_some : DFn P w K mg base k "_law_some" ["hand", "things"] c_law_some) (g_law_demand : DFn P w K mg base k "_law_demand" ["hand", "pool", "deep"] c_law_demand) (g_law_near : DFn P w K mg base k "_law_near" ["hand", "demand", "pool"] c_law_near) (g_implied : DFn P w K mg base k "implied" ["one", "other"] c_implied)
    (hg : (A.deeper (envOfC "law" (defScope s_law) s.heap.objs.size f cdv)).guards = some []) (hr : Room k (A.deeper (envOfC "law" (defScope s_law) s.heap.objs.size f cdv))) :
    DSs (cxOf CX0 P w K mg base N_law "law" (defScope s_law) f cdv A outer s H E).nox (defBody s_law) (t_law c_law_hand c_law_wide c_law_is_right c_law_mixed c_law_draw c_law_some c_law_demand c_law_near c_implied) := by
  have h1 : (cxOf CX0 P w K mg base N_law "law" (defScope s_law) f cdv A outer s H E).nox.A.units + 1 < cLine := hu_le hr (by omega)
  have hE : (cxOf CX0 P w K mg base N_law "law" (defScope s_law) f cdv A outer s H E).nox.A.units + 250 < cLine := hu_le hr (by omega)
  have hI : (cxOf CX0 P w K mg base N_law "law" (defScope s_law) f cdv A outer s H E).nox.A.units + (250 + 2) < cLine := hu_le hr (by omega)
  exact (dss_cons (ds_set sc_law.nd (de_call g_law_hand hg hr (da_cons (dv 0) da_nil)))
    (dss_cons (ds_set sc_law.nd (de_call g_law_wide hg hr (da_cons (dv 1) (da_cons de_str (da_cons de_str da_nil)))))
    (dss_cons (ds_set sc_law.nd (de_lstM (da_cons (dv 2) (da_cons (de_call g_law_wide hg hr (da_cons (dv 1) (da_cons de_str (da_cons de_str da_nil)))) (da_cons (de_ix (dv 2) de_int) da_nil)))))
    (dss_fz 3 (dss_cons (ds_for PassesOwn.never rfl (di_seq (dv 3)) (dg_name sc_law.nd) (dss_one (ds_if (dt_not (dt_val (de_callB (cd_all rfl) T.b_all (da_cons (de_lc (own := [("other", 10)]) rfl sc_law.nd (di_seq (dv 3)) (blkOk_by (N := N_law) (sc := defScope s_law) (by decide +kernel)) (dgc_name sc_law.nd) (fun _ _ _ _ _ => dts_nil) (fun _ _ _ _ _ => (de_call g_law_is_right hg hr (da_cons (dv 4) (da_cons (dv 10) da_nil))))) da_nil)))) (dss_one (ds_ret de_bl)) dss_nil)))
    (dss_cons (ds_for PassesOwn.never rfl (di_range1 (by rfl) T.b_range de_int) (dg_name sc_law.nd) (dss_cons (ds_set sc_law.nd (de_sl (de_call g_law_mixed hg hr (da_cons (dv 1) (da_cons (de_lst (da_cons de_str (da_cons de_str (da_cons de_str (da_cons de_str da_nil))))) da_nil))) do_none (do_some (de_op od_add de_int (de_call g_law_draw hg hr (da_cons (dv 1) (da_cons de_int da_nil)))))))
    (dss_cons (ds_set sc_law.nd (de_call g_law_some hg hr (da_cons (dv 1) (da_cons (de_lst (da_cons de_int (da_cons de_int (da_cons de_int (da_cons de_int (da_cons de_int da_nil)))))) da_nil))))
    (dss_cons (ds_setLc (own := [("claim", 11)]) rfl sc_law.nd (di_range1 (by rfl) T.b_range (dv 7)) (blkOk_by (N := N_law) (sc := defScope s_law) (by decide +kernel)) (dgc_name sc_law.nd) (fun _ _ _ _ _ => dts_nil) (fun _ _ _ _ _ => (de_tup (da_cons (de_call g_law_some hg hr (da_cons (dv 1) (da_cons (dv 6) da_nil))) (da_cons (de_call g_law_some hg hr (da_cons (dv 1) (da_cons (de_lst (da_cons de_int (da_cons de_int (da_cons de_int (da_cons de_int da_nil))))) da_nil))) da_nil)))) (sw_true rfl rfl rfl (by decide +kernel)))
    (dss_cons (ds_set sc_law.nd (de_call g_law_demand hg hr (da_cons (dv 1) (da_cons (dv 8) (da_cons (de_op od_add de_int (de_call g_law_draw hg hr (da_cons (dv 1) (da_cons de_int da_nil)))) da_nil)))))
    (dss_cons (ds_set sc_law.nd (de_lstM (da_cons (dv 9) (da_cons (de_call g_law_near hg hr (da_cons (dv 1) (da_cons (dv 9) (da_cons (dv 8) da_nil)))) (da_cons (de_call g_law_near hg hr (da_cons (dv 1) (da_cons (dv 9) (da_cons (dv 8) da_nil)))) (da_cons de_non da_nil))))))
    (dss_cons (ds_expr (de_append (dv 3) (de_call g_law_near hg hr (da_cons (dv 1) (da_cons (de_ix (dv 3) de_int) (da_cons (dv 8) da_nil))))))
    (dss_fz 3 (dss_cons (ds_for PassesOwn.never rfl (di_seq (dv 3)) (dg_name sc_law.nd) (dss_cons (ds_if (DW.dt (dw_or (dt_cmp od_isNot (de_call g_implied hg hr (da_cons (dv 4) (da_cons (dv 4) da_nil))) de_bl) (dw_or1 (dt_cmp od_isNot (de_call g_implied hg hr (da_cons (dv 4) (da_cons de_non da_nil))) de_bl)))) (dss_one (ds_ret de_bl)) dss_nil)
    (dss_cons (ds_if (dt_cmp (od_ne hE) (de_callB (cd_repr hg hI) T.b_repr (da_cons (de_call g_implied hg hr (da_cons de_non (da_cons (dv 4) da_nil))) da_nil)) (de_callB (cd_repr hg hI) T.b_repr (da_cons (de_cmp od_is (dv 4) de_non) da_nil))) (dss_one (ds_ret de_bl)) dss_nil)
    (dss_one (ds_if (dt_not (dt_val (de_callB (cd_all rfl) T.b_all (da_cons (de_lc (own := [("other", 10)]) rfl sc_law.nd (di_seq (dv 3)) (blkOk_by (N := N_law) (sc := defScope s_law) (by decide +kernel)) (dgc_name sc_law.nd) (fun _ _ _ _ _ => dts_nil) (fun _ _ _ _ _ => (de_call g_law_is_right hg hr (da_cons (dv 4) (da_cons (dv 10) da_nil))))) da_nil)))) (dss_one (ds_ret de_bl)) dss_nil)))))
    (dss_one (ds_for PassesOwn.never rfl (di_seq (dv 3)) (dg_name sc_law.nd) (dss_one (ds_for PassesOwn.never rfl (di_seq (dv 3)) (dg_name sc_law.nd) (dss_one (ds_if (DW.dt (dw_and (dt_val (de_call g_implied hg hr (da_cons (dv 4) (da_cons (dv 10) da_nil)))) (dw_and1 (dt_not (dt_val (de_callB (cd_all rfl) T.b_all (da_cons (de_lc (own := [("last", 12)]) rfl sc_law.nd (di_seq (dv 3)) (blkOk_by (N := N_law) (sc := defScope s_law) (by decide +kernel)) (dgc_name sc_law.nd) (fun _ _ _ _ _ => (dts_one (dt_val (de_call g_implied hg hr (da_cons (dv 10) (da_cons (dv 12) da_nil)))))) (fun _ _ _ _ _ => (de_call g_implied hg hr (da_cons (dv 4) (da_cons (dv 12) da_nil))))) da_nil))))))) (dss_one (ds_ret de_bl)) dss_nil)))))))))))))))
    (dss_one (ds_ret de_bl))))))))
end
end DL

/-! P1: what the program's defs and the law's puttings do. -/
namespace DL
open PySem PySem.Spec PyProof.Rows L2
open Classical
def Th.isO : Th → Bool
  | .opn _ => true
  | _ => false
def Th.isB : Th → Bool
  | .blt _ _ => true
  | _ => false
theorem nice_ne_q {h : Str} (a : nice h) : h ≠ ("?" : Str) := fun e => nice_q (e ▸ a)
theorem nice_ne_n {h : Str} (a : nice h) : h ≠ ("~" : Str) := fun e => nice_n (e ▸ a)
@[simp] theorem gCut_tup {xs : List D} {lo hi : Option Int} {M : Sto} {Q : DK} : gCut (.tup xs) lo hi M Q = Q (.tup (cutL xs lo hi)) M := rfl
@[simp] theorem cut_tail {α : Type} {x : α} {xs : List α} : cutL (x :: xs) (some 1) none = xs := by
  have e : HT.sIx (x :: xs).length 0 (some 1) = 1 := by simp [HT.sIx]
  unfold cutL
  rw [e, HT.sIx_none]
  simp
@[simp] theorem cut_head {α : Type} {x : α} {xs : List α} : cutL (x :: xs) none (some 1) = [x] := by
  have e : HT.sIx (x :: xs).length (x :: xs).length (some 1) = 1 := by simp [HT.sIx]
  unfold cutL
  rw [e, HT.sIx_none]
  simp
@[simp] theorem ix_tup0 {a : D} {r : List D} {M : Sto} {Q : DK} : gIx (.tup (a :: r)) (.int 0) M Q = Q a M := by simp [gIx, seqOf, atI, ixN]
@[simp] theorem ix_tup1 {a b : D} {r : List D} {M : Sto} {Q : DK} : gIx (.tup (a :: b :: r)) (.int 1) M Q = Q b M := by
  have e : (1 : Int) < (r.length : Int) + 1 + 1 := by omega
  simp [gIx, seqOf, atI, ixN, e]
@[simp] theorem eq_str {n : Nat} {a b : Str} {M : Sto} {Q : DK} : gEq n (.str a) (.str b) M Q = Q (.bl (decide (a = b))) M := rfl
@[simp] theorem eq_int {n : Nat} {a b : Int} {M : Sto} {Q : DK} : gEq n (.int a) (.int b) M Q = Q (.bl (decide (a = b))) M := rfl
@[simp] theorem ne_str {n : Nat} {a b : Str} {M : Sto} {Q : DK} : gNe n (.str a) (.str b) M Q = Q (.bl (!decide (a = b))) M := rfl
@[simp] theorem ne_int {n : Nat} {a b : Int} {M : Sto} {Q : DK} : gNe n (.int a) (.int b) M Q = Q (.bl (!decide (a = b))) M := rfl
@[simp] theorem seq_tup {xs : List D} {M : Sto} : seqOf (.tup xs) M = some xs := rfl
@[simp] theorem seq_lst {xs : List D} {M : Sto} : seqOf (.lst xs) M = some xs := rfl
@[simp] theorem lst_lst {xs : List D} {M : Sto} : lstOf (.lst xs) M = some xs := rfl
@[simp] theorem dct_dct {xs : List (Key × D)} {M : Sto} : dctOf (.dct xs) M = some xs := rfl
theorem dct_ref {a : Addr} {kvs : List (Key × D)} {M : Sto} (h : M a = some (.dct kvs)) : dctOf (.ref a) M = some kvs := by simp [dctOf, h]
theorem lst_ref {a : Addr} {xs : List D} {M : Sto} (h : M a = some (.lst xs)) : lstOf (.ref a) M = some xs := by simp [lstOf, h]
theorem add_tup {a b : List D} {M : Sto} {Q : DK} (h : a.length + b.length ≤ sizeLine) (q : Q (.tup (a ++ b)) M) : gAdd (.tup a) (.tup b) M Q := ⟨h, q⟩
theorem d_eqData {n : Nat} {t u : Th} {k : Bool → Prop} (a : t.ok) (b : u.ok) (h : min t.dp u.dp ≤ n) (q : k (decide (t = u))) : eqData n t.d u.d k := by
  refine ⟨t.py, u.py, toPy_d t, toPy_d u, lay_py t a, lay_py u b, ?_, ?_⟩
  · rw [depth_py, depth_py]; exact h
  · have e : PyData.eqv t.py u.py = decide (t = u) := by
      by_cases c : t = u
      · rw [(eqv_py t u a b).mpr c, decide_eq_true c]
      · cases q : PyData.eqv t.py u.py with
        | false => rw [decide_eq_false c]
        | true => exact absurd ((eqv_py t u a b).mp q) c
    rw [e]; exact q
theorem eq_th {n : Nat} {t u : Th} {M : Sto} {Q : DK} (a : t.ok) (b : u.ok) (h : min t.dp u.dp ≤ n) (q : Q (.bl (decide (t = u))) M) : gEq n t.d u.d M Q := by
  have k := d_eqData (k := fun b => Q (.bl b) M) a b h q
  cases t <;> cases u <;> first | exact k | skip
  · have e : decide (Th.num ‹Int› = Th.num ‹Int›) = decide _ := rfl
    simp [Th.d] at q ⊢; simpa using q
  · simp [Th.d] at q ⊢; exact q
  · simp [Th.d] at q ⊢; exact q
  · simp [Th.d] at q ⊢; simpa using q
/-! ### is_open, is_built -/
theorem in_qn {h : Str} {M : Sto} {Q : DK} (hk : PyData.strOk h = true) (q : Q (.bl (!(decide (h = ("?" : Str)) || decide (h = ("~" : Str))))) M) : gIn 250 true (.str h) (.tup [.str "?", .str "~"]) M Q := by
  unfold gIn
  simp only [seq_tup]
  refine ⟨.str h, [.str "?", .str "~"], rfl, rfl, by simpa [PyData.canLay0] using hk, by simp [PyData.canLayAll0, PyData.canLay0, q_ok, n_ok], by simp [PyData.depth, PyData.depthAll], ?_⟩
  simp only [List.any_cons, List.any_nil, PyData.eqv, Bool.or_false, if_true]
  have e1 : ((("?" : String) : Str) == h) = decide (h = ("?" : Str)) := by
    by_cases c : h = ("?" : Str)
    · rw [c]; simp
    · rw [decide_eq_false c]; simp; exact fun e => c e.symm
  have e2 : ((("~" : String) : Str) == h) = decide (h = ("~" : Str)) := by
    by_cases c : h = ("~" : Str)
    · rw [c]; simp
    · rw [decide_eq_false c]; simp; exact fun e => c e.symm
  rw [e1, e2]; exact q
/-! ### fillings -/
abbrev Fl := List (Int × Th)
def kvs (m : Fl) : List (Key × D) := m.map fun p => (Sum.inl p.1, p.2.d)
theorem val_kvs (n : Int) : ∀ m : Fl, valD (kvs m) (.inl n) = (m.lookup n).map Th.d
  | [] => rfl
  | (k, t) :: m => by
    have ih := val_kvs n m
    unfold kvs at ih ⊢
    by_cases e : k = n
    · subst e; simp [valD, List.lookup]
    · have e' : (n == k) = false := by simp; exact fun x => e x.symm
      simp only [List.map_cons, List.lookup, e']
      rw [← ih]
      simp [valD, List.find?_cons, e]
mutual
def fill (m : Fl) : Th → Th
  | .opn n => (m.lookup n).getD (.opn n)
  | .blt h xs => .blt h (fills m xs)
  | .num i => .num i
  | .word s => .word s
  | .new n => .new n
def fills (m : Fl) : List Th → List Th
  | [] => []
  | x :: r => fill m x :: fills m r
end
theorem fills_map (m : Fl) : ∀ xs : List Th, fills m xs = xs.map (fill m)
  | [] => by simp [fills]
  | x :: r => by rw [fills, List.map_cons, fills_map m r]
end DL

/-! P2: the law's hand. -/
namespace DL
open PySem PySem.Spec PyProof.Rows L2
open Classical
/-- the hand -/
def handL (cells : List Int) (i left mix t : Int) : List D := [.lst (cells.map D.int), .int i, .int left, .int mix, .int t]
def HandOk (o : MO) : Prop := ∃ cells i left mix t, o = .lst (handL cells i left mix t) ∧ 0 ≤ i
def spDraw : DSp := fun args M Q => ∃ (h : Addr) (many : Int) (o : MO), args = [.ref h, .int many] ∧ M h = some o ∧ HandOk o ∧ 1 ≤ many ∧ many < 1073741824 ∧
  ∀ r o', 0 ≤ r → r < many → HandOk o' → Q (.int r) (M.upd h o')
theorem ix_hand0 {h : Addr} {M : Sto} {a b c d e : D} {Q : DK} (hM : M h = some (.lst [a, b, c, d, e])) : gIx (.ref h) (.int 0) M Q = Q a M := by simp [gIx, seqOf, lstOf, hM, atI, ixN]
theorem ix_hand1 {h : Addr} {M : Sto} {a b c d e : D} {Q : DK} (hM : M h = some (.lst [a, b, c, d, e])) : gIx (.ref h) (.int 1) M Q = Q b M := by simp [gIx, seqOf, lstOf, hM, atI, ixN]
theorem ix_hand2 {h : Addr} {M : Sto} {a b c d e : D} {Q : DK} (hM : M h = some (.lst [a, b, c, d, e])) : gIx (.ref h) (.int 2) M Q = Q c M := by simp [gIx, seqOf, lstOf, hM, atI, ixN]
theorem ix_hand3 {h : Addr} {M : Sto} {a b c d e : D} {Q : DK} (hM : M h = some (.lst [a, b, c, d, e])) : gIx (.ref h) (.int 3) M Q = Q d M := by simp [gIx, seqOf, lstOf, hM, atI, ixN]
theorem ix_hand4 {h : Addr} {M : Sto} {a b c d e : D} {Q : DK} (hM : M h = some (.lst [a, b, c, d, e])) : gIx (.ref h) (.int 4) M Q = Q e M := by simp [gIx, seqOf, lstOf, hM, atI, ixN]
theorem gMod_ok {i j : Int} {M : Sto} {Q : DK} (h : 0 < j) (q : Q (.int (i % j)) M) : gMod (.int i) (.int j) M Q := ⟨h, q⟩
@[simp] theorem add_int {i j : Int} {M : Sto} {Q : DK} : gAdd (.int i) (.int j) M Q = Q (.int (i + j)) M := rfl
theorem mul_ok {i j : Int} {M : Sto} {Q : DK} (h : -(2 ^ 64) < j ∧ j < 2 ^ 64) (q : Q (.int (i * j)) M) : gMul (.int i) (.int j) M Q := ⟨.inr h, q⟩
theorem mul_ok' {i j : Int} {M : Sto} {Q : DK} (h : -(2 ^ 64) < i ∧ i < 2 ^ 64) (q : Q (.int (i * j)) M) : gMul (.int i) (.int j) M Q := ⟨.inl h, q⟩
theorem ixh1 {a b c d e : D} : ixN [a, b, c, d, e].length 1 = some 1 := by simp [ixN]
theorem ixh2 {a b c d e : D} : ixN [a, b, c, d, e].length 2 = some 2 := by simp [ixN]
theorem ixh3 {a b c d e : D} : ixN [a, b, c, d, e].length 3 = some 3 := by simp [ixN]
theorem ixh4 {a b c d e : D} : ixN [a, b, c, d, e].length 4 = some 4 := by simp [ixN]
theorem hand_ok {cells : List Int} {i left mix t : Int} (h : 0 ≤ i) : HandOk (.lst (handL cells i left mix t)) := ⟨cells, i, left, mix, t, rfl, h⟩
theorem draw_5 {h : Addr} {many : Int} {a b : Option D} {M : Sto} {Q : DK} {cells : List Int} {i left mix t : Int} (hM : M h = some (.lst (handL cells i left mix t))) (hi : 0 ≤ i) (m1 : 1 ≤ many)
    (q : ∀ r o', 0 ≤ r → r < many → HandOk o' → Q (.int r) (M.upd h o')) : t_law_draw_5 (ends Q) [some (.ref h), some (.int many), a, b, none] M := by
  unfold handL at hM
  have hM2 : (M.upd h (.lst [.lst (cells.map D.int), .int i, .int left, .int mix, .int (t + 1)])) h = some (.lst [.lst (cells.map D.int), .int i, .int left, .int mix, .int (t + 1)]) := Sto.upd_same
  simp only [t_law_draw_5, t_law_draw_4, dSeq, dPutL, dOp, dVar, dC, List.getElem?_cons_zero, ix_hand4 hM, add_int]
  simp only [hM, ixh4]
  simp only [List.set, dAsg, dOp, dCB, dCons, dNil, dVar, dC, List.getElem?_cons_zero, ix_hand3 hM2, ix_hand4 hM2]
  refine mul_ok' (by decide) ?_
  simp only [add_int, gInt]
  refine mul_ok (by decide) (gMod_ok (by decide) ?_)
  have b1 := Int.emod_nonneg ((mix + 7919 * (t + 1)) * 48271) (show (2147483647 : Int) ≠ 0 by decide)
  have b2 := Int.emod_lt_of_pos ((mix + 7919 * (t + 1)) * 48271) (show (0 : Int) < 2147483647 by decide)
  generalize ((mix + 7919 * (t + 1)) * 48271) % 2147483647 = n1 at b1 b2
  simp only [t_law_draw_3, dgName, List.set, dSeq, dAsg, dOp, dCB, dCons, dNil, dVar, dC, List.getElem?_cons_zero, List.getElem?_cons_succ, gFdiv]
  refine ⟨⟨by decide, by decide⟩, ?_⟩
  simp only [add_int]
  refine mul_ok' ⟨by omega, by omega⟩ ?_
  simp only [gInt]
  refine gMod_ok (by decide) ?_
  generalize n1 * (n1 / 1009 + 69621) = w1
  have b3 := Int.emod_nonneg w1 (show (2147483647 : Int) ≠ 0 by decide)
  have b4 := Int.emod_lt_of_pos w1 (show (0 : Int) < 2147483647 by decide)
  generalize w1 % 2147483647 = n2 at b3 b4
  simp only [t_law_draw_2, dgName, List.set, dSeq, dAsg, dOp, dCB, dCons, dNil, dVar, dC, List.getElem?_cons_zero, List.getElem?_cons_succ, gFdiv]
  refine ⟨⟨by decide, by decide⟩, ?_⟩
  simp only [add_int]
  refine mul_ok' ⟨by omega, by omega⟩ ?_
  simp only [gInt]
  refine gMod_ok (by decide) ?_
  generalize n2 * (n2 / 2003 + 40692) = w2
  generalize w2 % 2147483399 = n3
  simp only [t_law_draw_1, dgName, List.set, dRet, dOp, dCB, dCons, dNil, dVar, dC, List.getElem?_cons_zero, List.getElem?_cons_succ, gFdiv]
  refine ⟨⟨by decide, by decide⟩, ?_⟩
  simp only [gInt]
  refine gMod_ok (by omega) ?_
  exact done (q _ _ (Int.emod_nonneg _ (by omega)) (Int.emod_lt_of_pos _ (by omega)) (hand_ok hi))
theorem draw_6 {h : Addr} {many : Int} {a b : Option D} {M : Sto} {Q : DK} {cells : List Int} {i left mix t : Int} (hM : M h = some (.lst (handL cells i left mix t))) (hi : 0 ≤ i) (m1 : 1 ≤ many) (m2 : many < 1073741824)
    (q : ∀ r o', 0 ≤ r → r < many → HandOk o' → Q (.int r) (M.upd h o')) : t_law_draw_6 (ends Q) [some (.ref h), some (.int many), a, b, none] M := by
  have hM0 := hM
  unfold handL at hM
  simp only [t_law_draw_6, dSeq, dIfS, dTest, dOp, dVar, dC, List.getElem?_cons_zero, ix_hand2 hM, gGt]
  by_cases c : left > 0
  · rw [if_pos (by simpa using c)]
    simp only [dSeq, dAsg, dOp, dCB, dCons, dNil, dVar, dC, List.getElem?_cons_zero, List.getElem?_cons_succ, ix_hand2 hM, gInt]
    refine gMod_ok (by omega) ?_
    simp only [dgName, List.set, dSeq, dPutL, dOp, dVar, dC, List.getElem?_cons_zero, List.getElem?_cons_succ, ix_hand2 hM, gFdiv]
    refine ⟨⟨by omega, m2⟩, ?_⟩
    simp only [hM, ixh2, List.set, dRet, dVar, List.getElem?_cons_zero, List.getElem?_cons_succ]
    exact done (q _ _ (Int.emod_nonneg _ (by omega)) (Int.emod_lt_of_pos _ (by omega)) (hand_ok hi))
  · rw [if_neg (by simpa using c)]
    exact draw_5 hM0 hi m1 q
theorem ok_law_draw : ∀ args M Q, spDraw args M Q → t_law_draw (ends Q) (dstart N_law_draw.length args) M := by
  rintro args M Q ⟨h, many, o, rfl, hM, ⟨cells, i, left, mix, t, rfl, hi⟩, m1, m2, q⟩
  have hM0 := hM
  unfold handL at hM
  show t_law_draw (ends Q) [some (.ref h), some (.int many), none, none, none] M
  simp only [t_law_draw, dSeq, dIfS, dAnd, dTest, dOp, dCB, dCons, dNil, dVar, dC, List.getElem?_cons_zero, ix_hand2 hM, ix_hand1 hM, ix_hand0 hM, eq_int]
  by_cases c : left = 0
  · rw [if_pos (by simpa using c)]
    simp only [gLen, seq_lst, gLt]
    by_cases c2 : i < ((cells.map D.int).length : Int)
    · rw [if_pos (by simpa using c2)]
      have hc : i.toNat < cells.length := by rw [List.length_map] at c2; omega
      have hat : atI (cells.map D.int) i = some (.int (cells[i.toNat])) := by
        rw [List.length_map] at c2
        simp [atI, ixN, hi, c2, hc]
      simp only [dSeq, dAsg, dOp, dVar, dC, List.getElem?_cons_zero, ix_hand0 hM, ix_hand1 hM]
      have e0 : ∀ Qk : DK, gIx (.lst (cells.map D.int)) (.int i) M Qk = Qk (.int (cells[i.toNat])) M := fun Qk => by simp only [gIx, seq_lst, hat]
      rw [e0]
      generalize cells[i.toNat] = cell
      simp only [dgName, List.set, dSeq, dPutL, dOp, dVar, dC, List.getElem?_cons_zero, ix_hand1 hM, add_int]
      simp only [hM, ixh1]
      have hM2 : (M.upd h (.lst [.lst (cells.map D.int), .int (i + 1), .int left, .int mix, .int t])) h = some (.lst [.lst (cells.map D.int), .int (i + 1), .int left, .int mix, .int t]) := Sto.upd_same
      simp only [List.set, dSeq, dPutL, dIfS, dTest, dCB, dCons, dNil, dOp, dVar, dC, List.getElem?_cons_zero, List.getElem?_cons_succ, ix_hand3 hM2]
      refine mul_ok (by decide) ?_
      simp only [add_int, gInt]
      refine gMod_ok (by decide) ?_
      simp only [hM2, ixh3, List.set, Sto.upd_upd]
      generalize (mix * 69621 + cell + 71) % 2147483629 = mix2
      have hM3 : (M.upd h (.lst [.lst (cells.map D.int), .int (i + 1), .int left, .int mix2, .int t])) h = some (.lst [.lst (cells.map D.int), .int (i + 1), .int left, .int mix2, .int t]) := Sto.upd_same
      refine ⟨⟨by decide, by decide, by decide⟩, ?_⟩
      simp only [gGe]
      have fin : ∀ l : Int, t_law_draw_6 (ends Q) [some (.ref h), some (.int many), some (.int cell), none, none] (M.upd h (.lst (handL cells (i + 1) l mix2 t))) := fun l =>
        draw_6 Sto.upd_same (by omega) m1 m2 fun r o' r1 r2 ho => by rw [Sto.upd_upd]; exact q r o' r1 r2 ho
      split
      · simp only [hM3, ixh2, List.set, Sto.upd_upd]
        exact fin _
      · exact fin left
    · rw [if_neg (by simpa using c2)]
      exact draw_6 hM0 hi m1 m2 q
  · rw [if_neg (by simpa using c)]
    simp only [Bool.false_eq_true, if_false]
    exact draw_6 hM0 hi m1 m2 q
end DL

/-! R0: picked of other texts. -/
namespace DL
open PySem PySem.Spec PyProof.Rows L2
open Classical
theorem cut_map {α β : Type} (f : α → β) (xs : List α) (lo hi : Option Int) : cutL (xs.map f) lo hi = (cutL xs lo hi).map f := by
  unfold cutL
  rw [List.length_map, ← List.map_drop, ← List.map_take]
theorem cut_len {α : Type} (xs : List α) (lo hi : Option Int) : (cutL xs lo hi).length ≤ xs.length := by
  unfold cutL
  simp
  omega
theorem gLen_seq {things : D} {xs : List D} {M : Sto} {Q : DK} (hs : seqOf things M = some xs) (q : Q (.int xs.length) M) : gLen [things] M Q := by
  unfold gLen
  split
  · rename_i h; simp at h; subst h; cases hs
  · rename_i h; simp at h; subst h; rw [hs]; exact q
  · rename_i h; exact absurd rfl (h _)
theorem gIx_seq {things : D} {xs : List D} {M : Sto} {Q : DK} {i : Int} {x : D} (hs : seqOf things M = some xs) (h0 : 0 ≤ i) (hx : xs[i.toNat]? = some x) (q : Q x M) : gIx things (.int i) M Q := by
  have hl := (List.getElem?_eq_some_iff.mp hx).1
  have ha : atI xs i = some x := by
    have : i < (xs.length : Int) := by omega
    simp only [atI, ixN, h0, this, if_true, Option.bind_some]; exact hx
  cases things <;> first | (simp [seqOf, lstOf] at hs; done) | (simp only [gIx, hs, ha]; exact q)
theorem perm_pick : ∀ {xs : List D} {i : Nat} {x : D}, xs[i]? = some x → (x :: xs.eraseIdx i).Perm xs
  | [], _, _, h => by simp at h
  | y :: ys, 0, x, h => by
    have e : y = x := by simpa using h
    subst e
    exact List.Perm.refl _
  | y :: ys, i + 1, x, h => by
    have ih := perm_pick (xs := ys) (i := i) (x := x) (by simpa using h)
    rw [List.eraseIdx_cons_succ]
    exact (List.Perm.swap y x _).trans (ih.cons y)
theorem gListM_seq {things : D} {xs : List D} {M : Sto} {Q : DK} (hs : seqOf things M = some xs) (q : ∀ p, M p = none → Q (.ref p) (M.upd p (.lst xs))) : gListOfM [things] M Q := by
  show (match seqOf things M with | some xs => ∀ p, M p = none → Q (.ref p) (M.upd p (.lst xs)) | none => False)
  rw [hs]; exact q
theorem comp_hand {h : Addr} {i : Nat} {te : DTE} {τ : DSt} {M : Sto} {P : D → Prop} : ∀ (items acc : List D) (o : MO) (Q : List D → Sto → Prop), HandOk o → acc.length + items.length ≤ sizeLine →
    (∀ x ∈ items, ∀ (o : MO) (K : DK), HandOk o → (∀ y o', P y → HandOk o' → K y (M.upd h o')) → te (τ.set i (some x)) (M.upd h o) K) →
    (∀ ys o', ys.length = items.length → (∀ y ∈ ys, P y) → HandOk o' → Q (acc ++ ys) (M.upd h o')) → compD (dgName i) dYes te τ Q items acc (M.upd h o)
  | [], acc, o, Q, ho, _, _, q => by
    have := q [] o rfl (by simp) ho
    simpa [compD] using this
  | x :: xs, acc, o, Q, ho, hz, hte, q => by
    unfold compD
    simp only [dgName, dYes, if_true]
    refine hte x (by simp) o _ ho fun y o' hy ho' => ⟨by rw [List.length_cons] at hz; omega, ?_⟩
    refine comp_hand xs (acc ++ [y]) o' Q ho' ?_ (fun x hx => hte x (by simp [hx])) fun ys o2 l p ho2 => ?_
    · simp at hz ⊢; omega
    · have := q (y :: ys) o2 (by simp [l]) (fun z hz => by rcases List.mem_cons.mp hz with e | e; (· rw [e]; exact hy); (· exact p z e)) ho2
      simpa using this
theorem cut_sub {α : Type} {xs : List α} {lo hi : Option Int} : ∀ x ∈ cutL xs lo hi, x ∈ xs := fun x hx => List.mem_of_mem_drop (List.mem_of_mem_take hx)
theorem rangeD_len (lo : Int) (n : Nat) : (rangeD lo n).length = n := by simp [rangeD]
theorem list_pre {α : Type} {f : α → D} {S : α → Prop} : ∀ {ys : List D}, (∀ y ∈ ys, ∃ e, y = f e ∧ S e) → ∃ es : List α, ys = es.map f ∧ ∀ e ∈ es, S e
  | [], _ => ⟨[], rfl, by simp⟩
  | y :: ys, h => by
    obtain ⟨e, e1, e2⟩ := h y (by simp)
    obtain ⟨es, e3, e4⟩ := list_pre (fun z hz => h z (by simp [hz]) : ∀ z ∈ ys, ∃ e, z = f e ∧ S e)
    refine ⟨e :: es, by rw [e1, e3]; rfl, fun x hx => ?_⟩
    rcases List.mem_cons.mp hx with rfl | hx
    · exact e2
    · exact e4 x hx
theorem upd_comm {M : Sto} {a b : Addr} {x y : MO} (h : a ≠ b) : (M.upd a x).upd b y = (M.upd b y).upd a x := by
  funext c
  by_cases e1 : c = b
  · subst e1; rw [Sto.upd_same, Sto.upd_ne h.symm, Sto.upd_same]
  · by_cases e2 : c = a
    · subst e2; rw [Sto.upd_same, Sto.upd_ne e1, Sto.upd_same]
    · rw [Sto.upd_ne e1, Sto.upd_ne e2, Sto.upd_ne e2, Sto.upd_ne e1]
theorem sl_le {n : Nat} (h : n ≤ 1000000) : n ≤ sizeLine := by rw [sizeLine_eq]; omega
def tell (t : Th) : Prop := t.ok ∧ t.dp ≤ 245 ∧ t.sz ≤ 300000
theorem repr_th {t : Th} {M : Sto} {Q : DK} (h : tell t) (q : Q (.str t.py.shown) M) : gRepr 250 [t.d] M Q := by
  refine ⟨t.py, toPy_d t, show_py t h.1, .inl (dict_py t), by rw [depth_py]; have := h.2.1; omega, ?_, q⟩
  have e := tx_len t h.1
  have e2 : t.py.shown.length = (tx t).length := TL.len_tl _
  rw [e2, sizeLine_eq]
  have := h.2.2
  omega
theorem cut_to {α : Type} (xs : List α) (i : Nat) : cutL xs none (some (i : Int)) = xs.take i := by
  unfold cutL
  rw [HT.sIx_none, HT.sIx_nat, List.drop_zero, Nat.sub_zero]
  by_cases c : i ≤ xs.length
  · rw [Nat.min_eq_left c]
  · rw [Nat.min_eq_right (by omega), List.take_of_length_le (Nat.le_refl _), List.take_of_length_le (by omega)]
theorem cut_from {α : Type} (xs : List α) (i : Nat) : cutL xs (some (i : Int)) none = xs.drop i := by
  unfold cutL
  rw [HT.sIx_none, HT.sIx_nat]
  by_cases c : i ≤ xs.length
  · rw [Nat.min_eq_left c, List.take_of_length_le (by simp)]
  · rw [Nat.min_eq_right (by omega), List.drop_of_length_le (Nat.le_refl _), List.drop_of_length_le (by omega)]
    simp
theorem sub_sum {α : Type} (w : α → Nat) : ∀ (f l : List α), f.Nodup → (∀ x ∈ f, x ∈ l) → (f.map w).sum ≤ (l.map w).sum
  | [], _, _, _ => by simp
  | x :: r, l, nd, h => by
    obtain ⟨nx, nd⟩ := List.nodup_cons.mp nd
    have p := List.perm_cons_erase (h x (by simp))
    have e : (l.map w).sum = ((x :: l.erase x).map w).sum := (p.map w).sum_nat
    have ih := sub_sum w r (l.erase x) nd fun y hy => by
      have hne : y ≠ x := fun e => nx (e ▸ hy)
      exact (List.mem_erase_of_ne hne).mpr (h y (by simp [hy]))
    rw [e]
    simp at ih ⊢
    omega
theorem ones {α : Type} : ∀ l : List α, (l.map fun _ => 1).sum = l.length
  | [] => rfl
  | x :: r => by
    have e := ones r
    rw [List.map_cons, List.sum_cons, e, List.length_cons]
    omega
theorem nice_by {s : Str} (h : (s.cps.toList.all (fun c => decide (97 ≤ c ∧ c ≤ 122)) && decide (s.cps.toList.length ≤ 20)) = true) : nice s := by
  simp only [Bool.and_eq_true, List.all_eq_true, decide_eq_true_eq] at h
  exact h
theorem small_n {n : Nat} (h : n ≤ 100000) : small (n : Int) := by unfold small; omega
@[simp] theorem size1 : (1 ≤ sizeLine) = True := eq_true (sl_le (by omega))
@[simp] theorem size2 : (2 ≤ sizeLine) = True := eq_true (sl_le (by omega))
@[simp] theorem size3 : (3 ≤ sizeLine) = True := eq_true (sl_le (by omega))
@[simp] theorem size4 : (4 ≤ sizeLine) = True := eq_true (sl_le (by omega))
@[simp] theorem size5 : (5 ≤ sizeLine) = True := eq_true (sl_le (by omega))
@[simp] theorem size7 : (7 ≤ sizeLine) = True := eq_true (sl_le (by omega))
@[simp] theorem size9 : (9 ≤ sizeLine) = True := eq_true (sl_le (by omega))
theorem comp_pick {α : Type} {e : α → D} {i : Nat} {tt : DTT} {τ : DSt} {M : Sto} (p : α → Bool) (hi : i < τ.length) : ∀ (xs : List α) (acc : List D) (Q : List D → Sto → Prop), (∀ x ∈ xs, ∀ K : Bool → Sto → Prop, K (p x) M → tt (τ.set i (some (e x))) M K) → acc.length + xs.length ≤ sizeLine →
    Q (acc ++ (xs.filter p).map e) M → compD (dgName i) tt (dVar i) τ Q (xs.map e) acc M
  | [], acc, Q, _, _, q => by simpa [compD] using q
  | x :: xs, acc, Q, h, hz, q => by
    rw [List.map_cons]
    unfold compD
    simp only [dgName]
    refine h x (by simp) _ ?_
    by_cases c : p x = true
    · rw [if_pos c]
      simp only [dVar]
      rw [List.getElem?_set_self hi]
      simp only
      refine ⟨by rw [List.length_cons] at hz; omega, comp_pick p hi xs _ Q (fun y hy => h y (by simp [hy])) (by simp at hz ⊢; omega) ?_⟩
      simpa [List.filter_cons, c] using q
    · rw [if_neg c]
      refine comp_pick p hi xs acc Q (fun y hy => h y (by simp [hy])) (by simp at hz ⊢; omega) ?_
      have c' : p x = false := by simpa using c
      simpa [List.filter_cons, c'] using q
theorem put_fresh {kvs : List (Key × D)} {k : Key} {v : D} (h : k ∉ kvs.map (·.1)) : putD kvs k v = kvs ++ [(k, v)] := by
  have e : (kvs.any fun kv => decide (kv.1 = k)) = false := by
    rw [List.any_eq_false]
    intro kv hkv
    simp only [decide_eq_true_eq]
    intro e
    exact h (List.mem_map.mpr ⟨kv, hkv, e⟩)
  unfold putD
  rw [e]; rfl
theorem small_by {i : Int} (h : i.natAbs < 10 ^ 20) : small i := h
theorem strs_py (ws : List Str) : toPys (ws.map D.str) = some (ws.map PyData.str) := by
  induction ws with
  | nil => rfl
  | cons w r ih => simp [toPys, toPy, ih]
theorem lay_strs : ∀ {ws : List Str}, (∀ u ∈ ws, PyData.strOk u = true) → PyData.canLayAll0 (ws.map PyData.str) = true
  | [], _ => rfl
  | u :: r, h => by
    have ih := lay_strs (ws := r) fun v hv => h v (by simp [hv])
    simp [PyData.canLayAll0, PyData.canLay0, h u (by simp), ih]
theorem any_strs (w : Str) : ∀ ws : List Str, ((ws.map PyData.str).any fun z => PyData.eqv z (.str w)) = decide (w ∈ ws)
  | [] => by simp
  | u :: r => by
    have ih := any_strs w r
    rw [List.map_cons, List.any_cons, ih]
    by_cases c : w = u
    · subst c; simp [PyData.eqv]
    · have : (u == w) = false := by simp; exact fun e => c e.symm
      simp [PyData.eqv, this, c]
theorem all_true (n : Nat) : (List.replicate n true).all (fun b => b) = true := by simp
end DL

/-! P8: bundles and fillings shown. -/
namespace DL
open PySem PySem.Spec PyProof.Rows L2
open Classical
/-- a tree can be shown, as s -/
def Say (x : D) (s : Str) : Prop := ∃ p, toPy x = some p ∧ p.showable = true ∧ (p.hasDict = false ∨ noLst x = true) ∧ p.depth ≤ 250 ∧ p.shown.length ≤ sizeLine ∧ p.shown = s
theorem repr_say {x : D} {s : Str} {M : Sto} {Q : DK} (h : Say x s) (q : Q (.str s) M) : gRepr 250 [x] M Q := by
  obtain ⟨p, h1, h2, h3, h4, h5, rfl⟩ := h
  exact ⟨p, h1, h2, h3, h4, h5, q⟩
theorem sum_le {α : Type} {f g : α → Nat} : ∀ {l : List α}, (∀ x ∈ l, f x ≤ g x) → (l.map f).sum ≤ (l.map g).sum
  | [], _ => by simp
  | x :: r, h => by
    have := h x (by simp)
    have := sum_le (l := r) fun y hy => h y (by simp [hy])
    simp
    omega
theorem join_le (ts : List Str) : (Str.join ", " ts).length ≤ (ts.map fun t => t.length + 2).sum := by
  have h := join_len (ts.map TL.tl)
  rw [← (show TL.tl ((", " : String) : Str) = [44, 32] by decide +kernel), ← TL.tl_join, ← TL.len_tl] at h
  simpa [List.map_map, Function.comp_def, Str.length] using h
theorem tuple_len (ps : List PyData) : (PyData.tuple ps).shown.length ≤ 3 + ((PyData.shownAll ps).map fun t => t.length + 2).sum := by
  simp only [PyData.shown]
  unfold tupleText
  rw [strLen_append, strLen_append]
  have h := join_le (PyData.shownAll ps)
  have e1 : (("(" : String) : Str).length = 1 := by decide +kernel
  have e2 : ((if (PyData.shownAll ps).length == 1 then ",)" else ")" : String) : Str).length ≤ 2 := by
    split
    · decide +kernel
    · decide +kernel
  omega
theorem list_len (ps : List PyData) : (PyData.list ps).shown.length ≤ 3 + ((PyData.shownAll ps).map fun t => t.length + 2).sum := by
  simp only [PyData.shown]
  rw [listText_eq_join, strLen_append, strLen_append]
  have h := join_le (PyData.shownAll ps)
  have e1 : (("[" : String) : Str).length = 1 := by decide +kernel
  have e2 : (("]" : String) : Str).length = 1 := by decide +kernel
  omega
theorem dict_len (ps : List (PyData × PyData)) : (PyData.dict ps).shown.length ≤ 3 + ((PyData.shownKv ps).map fun t => t.length + 2).sum := by
  simp only [PyData.shown]
  unfold dictText
  rw [strLen_append, strLen_append]
  have h := join_le (PyData.shownKv ps)
  have e1 : (("{" : String) : Str).length = 1 := by decide +kernel
  have e2 : (("}" : String) : Str).length = 1 := by decide +kernel
  omega
/-- a bundle -/
structure Bun (ts : List Th) : Prop where
  ok : Th.oks ts
  dp : Th.dps ts ≤ 205
  len : ts.length ≤ 1000
  sz : Th.szs ts ≤ 100000
def bD (ts : List Th) : D := .tup (ts.map Th.d)
def bP (ts : List Th) : PyData := .tuple (Th.pys ts)
theorem toPys_map (ts : List Th) : toPys (ts.map Th.d) = some (Th.pys ts) := by rw [← ds_map]; exact toPys_ds ts
theorem bun_py (ts : List Th) : toPy (bD ts) = some (bP ts) := by simp [bD, bP, toPy, toPys_map]
theorem szs_mem {x : Th} : ∀ {ys : List Th}, x ∈ ys → x.sz ≤ Th.szs ys
  | y :: ys, z => by
    rw [Th.szs]
    rcases List.mem_cons.mp z with z | z
    · subst z; omega
    · have := szs_mem z; omega
theorem all_len (ts : List Th) (h : Th.oks ts) : ((PyData.shownAll (Th.pys ts)).map fun t => t.length + 2).sum ≤ 40 * Th.szs ts := by
  have e := txs_len ts h
  rw [← shownAll_pys] at e
  simpa [List.map_map, Function.comp_def, Str.length] using e
theorem bun_len {ts : List Th} (h : Th.oks ts) : (bP ts).shown.length ≤ 3 + 40 * Th.szs ts := by
  have := tuple_len (Th.pys ts)
  have := all_len ts h
  unfold bP
  omega
theorem bun_depth (ts : List Th) : (bP ts).depth = Th.dps ts + 1 := by simp [bP, PyData.depth, depth_pys]
theorem bun_show {ts : List Th} (h : Th.oks ts) : (bP ts).showable = true := by simp [bP, PyData.showable, show_pys ts h]
theorem bun_dict (ts : List Th) : (bP ts).hasDict = false := by simp [bP, PyData.hasDict, dict_pys]
theorem say_bun {ts : List Th} (h : Bun ts) : Say (bD ts) (bP ts).shown := by
  refine ⟨bP ts, bun_py ts, bun_show h.ok, .inl (bun_dict ts), by rw [bun_depth]; have := h.dp; omega, ?_, rfl⟩
  have := bun_len h.ok
  have := h.sz
  rw [sizeLine_eq]; omega
def bbP (ts os : List Th) : PyData := .tuple [bP ts, bP os]
theorem say_two {ts os : List Th} (h : Bun ts) (g : Bun os) : Say (.tup [bD ts, bD os]) (bbP ts os).shown := by
  refine ⟨bbP ts os, by simp [toPy, toPys, bun_py, bbP], by simp [bbP, PyData.showable, PyData.showableAll, bun_show h.ok, bun_show g.ok], .inl (by simp [bbP, PyData.hasDict, PyData.hasDictAll, bun_dict]), ?_, ?_, rfl⟩
  · simp [bbP, PyData.depth, PyData.depthAll, bun_depth]
    have := h.dp; have := g.dp; omega
  · have := tuple_len [bP ts, bP os]
    have := bun_len h.ok
    have := bun_len g.ok
    have := h.sz; have := g.sz
    simp [PyData.shownAll] at *
    unfold bbP
    rw [sizeLine_eq]; omega
/-! ### dicts -/
def fsz (f : Fl) : Nat := (f.map fun p => p.2.sz).sum
structure Fil (f : Fl) : Prop where
  key : ∀ p ∈ f, small p.1
  ok : ∀ p ∈ f, p.2.ok
  dp : ∀ p ∈ f, p.2.dp ≤ 205
  len : f.length ≤ 30000
  sz : fsz f ≤ 200000
def kvP (f : Fl) : List (PyData × PyData) := f.map fun p => (.int p.1, p.2.py)
theorem kv_py : ∀ f : Fl, toPyKv (kvs f) = some (kvP f)
  | [] => rfl
  | (n, t) :: f => by
    have := kv_py f
    unfold kvs kvP at this ⊢
    simp [toPyKv, toPy_d, this]
theorem kv_show : ∀ {f : Fl}, (∀ p ∈ f, small p.1) → (∀ p ∈ f, p.2.ok) → PyData.showableKv (kvP f) = true
  | [], _, _ => by simp [kvP, PyData.showableKv]
  | (n, t) :: f, h, g => by
    have := kv_show (f := f) (fun p hp => h p (by simp [hp])) (fun p hp => g p (by simp [hp]))
    unfold kvP at this ⊢
    simp only [List.map_cons, PyData.showableKv, PyData.showable, this, show_py t (g (n, t) (by simp)), decide_eq_true (small_log (h (n, t) (by simp))), Bool.and_self]
mutual
theorem noLst_d : ∀ t : Th, noLst t.d = true
  | .num i => by simp [Th.d, noLst]
  | .word s => by simp [Th.d, noLst]
  | .opn n => by simp [Th.d, noLst, noLsts]
  | .new n => by simp [Th.d, noLst, noLsts]
  | .blt h xs => by simp [Th.d, noLst, noLsts, noLst_ds xs]
theorem noLst_ds : ∀ ts : List Th, noLsts (Th.ds ts) = true
  | [] => by simp [Th.ds, noLsts]
  | t :: r => by simp [Th.ds, noLsts, noLst_d t, noLst_ds r]
end
theorem kv_noLst : ∀ f : Fl, noLstKv (kvs f) = true
  | [] => rfl
  | (n, t) :: f => by
    have := kv_noLst f
    unfold kvs at this ⊢
    simp [noLstKv, noLst_d, this]
theorem kv_depth {n : Nat} : ∀ {f : Fl}, (∀ p ∈ f, p.2.dp ≤ n) → PyData.depthKv (kvP f) ≤ n
  | [], _ => by simp [kvP, PyData.depthKv]
  | (k, t) :: f, h => by
    have := kv_depth (n := n) (f := f) (fun p hp => h p (by simp [hp]))
    have h0 := h (k, t) (by simp)
    unfold kvP at this ⊢
    simp [PyData.depthKv, PyData.depth, depth_py] at *
    omega
theorem num_len {n : Int} (h : small n) : (PyData.int n).shown.length ≤ 21 := by
  have := numT_len h
  have e : (PyData.int n).shown.length = (numT n).length := by simp only [PyData.shown]; exact TL.len_tl _
  omega
theorem th_len {t : Th} (h : t.ok) : t.py.shown.length + 2 ≤ 40 * t.sz := by
  have := tx_len t h
  have e : t.py.shown.length = (tx t).length := TL.len_tl _
  omega
theorem kv_len : ∀ {f : Fl}, (∀ p ∈ f, small p.1) → (∀ p ∈ f, p.2.ok) → ((PyData.shownKv (kvP f)).map fun t => t.length + 2).sum ≤ 40 * fsz f + 25 * f.length
  | [], _, _ => by simp [kvP, PyData.shownKv]
  | (n, t) :: f, h, g => by
    have ih := kv_len (f := f) (fun p hp => h p (by simp [hp])) (fun p hp => g p (by simp [hp]))
    have a := num_len (h (n, t) (by simp))
    have b := th_len (g (n, t) (by simp))
    have e : ((": " : String) : Str).length = 2 := by decide +kernel
    unfold kvP at ih ⊢
    simp only [List.map_cons, PyData.shownKv, List.sum_cons, strLen_append, fsz, List.length_cons, e] at *
    omega
def bfP (ts : List Th) (f : Fl) : PyData := .tuple [bP ts, .dict (kvP f)]
theorem noLst_bun (ts : List Th) : noLst (bD ts) = true := by
  have := noLst_ds ts
  simp only [bD, noLst, ← ds_map]
  exact this
theorem say_fil {ts : List Th} {f : Fl} (h : Bun ts) (g : Fil f) : Say (.tup [bD ts, .dct (kvs f)]) (bfP ts f).shown := by
  refine ⟨bfP ts f, by simp [toPy, toPys, bun_py, bfP, kv_py], by simp [bfP, PyData.showable, PyData.showableAll, bun_show h.ok, kv_show g.key g.ok], .inr (by simp [noLst, noLsts, noLst_bun, kv_noLst]), ?_, ?_, rfl⟩
  · simp [bfP, PyData.depth, PyData.depthAll, bun_depth]
    have := h.dp
    have := kv_depth g.dp
    omega
  · have a1 := tuple_len [bP ts, .dict (kvP f)]
    have a2 := bun_len h.ok
    have a3 := dict_len (kvP f)
    have a4 := kv_len g.key g.ok
    have := h.sz; have := g.sz; have := g.len
    simp [PyData.shownAll] at *
    unfold bfP
    rw [sizeLine_eq]; omega
end DL

/-! R3: the hand is made; some of things; things mixed. -/
namespace DL
open PySem PySem.Spec PyProof.Rows L2
open Classical
def spHand : DSp := fun args M Q => ∃ ns : List Int, ns.length ≤ 63 ∧ args = [.rol (ns.map D.int)] ∧ ∀ p o, M p = none → HandOk o → Q (.ref p) (M.upd p o)
theorem ok_law_hand : ∀ args M Q, spHand args M Q → t_law_hand (ends Q) (dstart N_law_hand.length args) M := by
  rintro args M Q ⟨ns, hl, rfl, q⟩
  show t_law_hand (ends Q) [some (.rol (ns.map D.int)), none, none] M
  simp [t_law_hand, gCut, cut_map]
  have hc := cut_len ns none (some 63)
  refine comp_map D.int (fun x => D.int (if x < 0 then -x else x)) (cutL ns none (some 63)) [] _ (fun x hx K hK => ?_) (by simp [sizeLine_eq]; omega) ?_
  · simp
    exact hK
  · simp [t_law_hand_1]
    refine mul_ok' (by decide) ?_
    simp
    refine fun p hp => done (q p _ hp ⟨(cutL ns none (some 63)).map fun x => if x < 0 then -x else x, 0, 0, 57 + 7 * ((cutL ns none (some 63)).length : Int), 0, ?_, by decide⟩)
    simp [handL]
/-- some one of things -/
def spSome : DSp := fun args M Q => ∃ (h : Addr) (things : D) (xs : List D) (o : MO), args = [.ref h, things] ∧ M h = some o ∧ HandOk o ∧ seqOf things M = some xs ∧ (∀ o', seqOf things (M.upd h o') = some xs) ∧ xs ≠ [] ∧ xs.length < 1073741824 ∧
  ∀ x o', x ∈ xs → HandOk o' → Q x (M.upd h o')
theorem ok_law_some : ∀ args M Q, spSome args M Q → t_law_some spDraw (ends Q) (dstart N_law_some.length args) M := by
  rintro args M Q ⟨h, things, xs, o, rfl, hM, ho, hs, hs2, hne, hl, q⟩
  show t_law_some spDraw (ends Q) [some (.ref h), some things] M
  simp [t_law_some]
  refine gLen_seq hs ?_
  have hpos : 0 < xs.length := List.length_pos_iff.mpr hne
  refine ⟨h, xs.length, o, rfl, hM, ho, by omega, by omega, fun r o' r1 r2 ho' => ?_⟩
  have hr : r.toNat < xs.length := by omega
  refine gIx_seq (hs2 o') r1 (List.getElem?_eq_getElem hr) ?_
  exact done (q _ o' (List.getElem_mem hr) ho')
/-- .. of a list that stays -/
theorem some_lst {h : Addr} {M : Sto} {xs : List D} {o : MO} {Q : DK} (hM : M h = some o) (ho : HandOk o) (hne : xs ≠ []) (hl : xs.length ≤ 100000) (q : ∀ x o', x ∈ xs → HandOk o' → Q x (M.upd h o')) : spSome [.ref h, .lst xs] M Q :=
  ⟨h, _, xs, o, rfl, hM, ho, rfl, fun _ => rfl, hne, by omega, q⟩
/-- things in any order -/
def spMixed : DSp := fun args M Q => ∃ (h : Addr) (things : D) (xs : List D) (o : MO), args = [.ref h, things] ∧ M h = some o ∧ HandOk o ∧ seqOf things M = some xs ∧ xs.length < 1000000 ∧
  ∀ ys o', ys.Perm xs → HandOk o' → Q (.lst ys) (M.upd h o')
theorem ok_law_mixed : ∀ args M Q, spMixed args M Q → t_law_mixed spDraw (ends Q) (dstart N_law_mixed.length args) M := by
  rintro args M Q ⟨h, things, xs, o, rfl, hM, ho, hs, hl, q⟩
  show t_law_mixed spDraw (ends Q) [some (.ref h), some things, none, none, none] M
  simp [t_law_mixed]
  refine gListM_seq hs fun p hp r hr => ?_
  have hph : p ≠ h := fun e => by rw [e, hM] at hp; cases hp
  have hrp : r ≠ p := fun e => by rw [e, Sto.upd_same] at hr; cases hr
  have hr0 := hr
  rw [Sto.upd_ne hrp] at hr
  have hrh : r ≠ h := fun e => by rw [e, hM] at hr; cases hr
  have seq2 : seqOf things ((M.upd p (.lst xs)).upd r (.lst [])) = some xs := by
    cases things <;> first | exact hs | skip
    rename_i a
    have ea : ∃ u, M a = some u := by
      cases e : M a with
      | none => simp [seqOf, lstOf, e] at hs
      | some u => exact ⟨u, rfl⟩
    obtain ⟨u, hu⟩ := ea
    have a1 : a ≠ p := fun e => by rw [e, hp] at hu; cases hu
    have a2 : a ≠ r := fun e => by rw [e, hr] at hu; cases hu
    simpa [seqOf, lstOf, Sto.upd_ne a2, Sto.upd_ne a1] using hs
  simp only [t_law_mixed_3, dSeq, dFor, iRange1, dCB, dCons, dNil, dVar, List.getElem?_cons_zero, List.getElem?_cons_succ]
  refine gLen_seq seq2 ?_
  dsimp only
  refine ⟨by omega, ?_⟩
  refine loop_inv (fun ds τ M' => (∃ x, τ = [some (.ref h), some things, some (.ref p), some (.ref r), x]) ∧ ∃ ls fs o', M' p = some (.lst ls) ∧ M' r = some (.lst fs) ∧ M' h = some o' ∧ HandOk o' ∧ (ls ++ fs).Perm xs ∧ ls.length = ds.length ∧ ∀ a, a ≠ h → a ≠ p → a ≠ r → M' a = M a) ?_ ?_ _ _ _
    ⟨⟨_, rfl⟩, xs, [], o, by rw [Sto.upd_ne hrp.symm, Sto.upd_same], Sto.upd_same, by rw [Sto.upd_ne hrh.symm, Sto.upd_ne hph.symm]; exact hM, ho, by simp, by rw [rangeD_len]; simp, fun a a1 a2 a3 => by rw [Sto.upd_ne a3, Sto.upd_ne a2]⟩
  · rintro d ds τ M' K ⟨⟨x0, rfl⟩, ls, fs, o', h1, h2, h3, ho', hperm, hl2, hk⟩ hK
    have hlen : ls.length + fs.length = xs.length := by rw [← List.length_append]; exact hperm.length_eq
    rw [List.length_cons] at hl2
    simp only [dgName, List.set, t_law_mixed_1, dDrop, dAppend, dVar, List.getElem?_cons_zero, List.getElem?_cons_succ]
    refine ⟨⟨fs, h2⟩, ?_⟩
    simp only [dPopAt, dVar, List.getElem?_cons_zero, List.getElem?_cons_succ]
    refine ⟨⟨ls, h1⟩, ?_⟩
    simp only [dCall, dCons, dNil, dCB, dVar, List.getElem?_cons_zero, List.getElem?_cons_succ]
    refine gLen_seq (by simp [seqOf, lstOf, h1]) ⟨h, ls.length, o', rfl, h3, ho', by omega, by omega, fun x o2 x1 x2 ho2 => ?_⟩
    have hx : x.toNat < ls.length := by omega
    simp only [Sto.upd_ne hph, h1]
    refine ⟨x1, by omega, ?_⟩
    rw [List.getElem?_eq_getElem hx]
    simp only [Sto.upd_ne hrp, Sto.upd_ne hrh, h2]
    refine ⟨by rw [sizeLine_eq]; omega, hK _ _ ⟨⟨_, rfl⟩, ls.eraseIdx x.toNat, fs ++ [ls[x.toNat]], o2, ?_, Sto.upd_same, ?_, ho2, ?_, ?_, fun a a1 a2 a3 => ?_⟩⟩
    · rw [Sto.upd_ne hrp.symm, Sto.upd_same]
    · rw [Sto.upd_ne hrh.symm, Sto.upd_ne hph.symm, Sto.upd_same]
    · have e1 := perm_pick (List.getElem?_eq_getElem hx)
      refine List.Perm.trans ?_ hperm
      rw [← List.append_assoc]
      refine List.Perm.trans List.perm_append_comm ?_
      rw [← List.append_assoc, List.singleton_append]
      exact e1.append_right fs
    · rw [List.length_eraseIdx_of_lt hx]; omega
    · rw [Sto.upd_ne a3, Sto.upd_ne a2, Sto.upd_ne a1]; exact hk a a1 a2 a3
  · rintro τ M' ⟨⟨x0, rfl⟩, ls, fs, o', h1, h2, h3, ho', hperm, hl2, hk⟩
    have hz : ls = [] := List.eq_nil_of_length_eq_zero (by simpa using hl2)
    subst hz
    simp only [t_law_mixed_2, dRet, dFrzQ, dVar, List.getElem?_cons_zero, List.getElem?_cons_succ]
    refine .inr ?_
    simp only [frz, h2]
    refine ⟨M.upd h o', fun a u e => ?_, q fs o' (by simpa using hperm) ho'⟩
    by_cases ah : a = h
    · subst ah
      rw [Sto.upd_same] at e; cases e
      rw [Sto.del_ne hrh.symm]; exact h3
    · rw [Sto.upd_ne ah] at e
      have a2 : a ≠ p := fun z => by rw [z, hp] at e; cases e
      have a3 : a ≠ r := fun z => by rw [z, hr] at e; cases e
      rw [Sto.del_ne a3, hk a ah a2 a3]; exact e
end DL

/-! R4: demands, facts; what their texts are made of. -/
namespace DL
open PySem PySem.Spec PyProof.Rows L2
open Classical
inductive Dm where
  | claim (s : Str) (n : Int) | both (a b : Dm) | eith (a b : Dm)
def Dm.th : Dm → Th
  | .claim s n => .blt "claim" [.word s, .num n]
  | .both a b => .blt "both" [a.th, b.th]
  | .eith a b => .blt "either" [a.th, b.th]
/-- a name with a number, or with a thing -/
def pr (s : Str) (n : Int) : Th := .blt s [.num n]
def fact (s : Str) (v : Th) : Th := .blt s [v]
def val (f : Fl) (n : Int) : Th := (f.lookup n).getD (.num 0)
def clm : Dm → List (Str × Int)
  | .claim s n => [(s, n)]
  | .both a b => clm a ++ clm b
  | .eith a b => clm a ++ clm b
noncomputable def holdsB (f : Fl) (fs : List Th) : Dm → Bool
  | .claim s n => decide (fact s (val f n) ∈ fs)
  | .both a b => holdsB f fs a && holdsB f fs b
  | .eith a b => holdsB f fs a || holdsB f fs b
noncomputable def truthB (lot : List (Str × Int)) : Dm → Bool
  | .claim s n => decide ((s, n) ∈ lot)
  | .both a b => truthB lot a && truthB lot b
  | .eith a b => truthB lot a || truthB lot b
def Dm.dp : Dm → Nat
  | .claim _ _ => 1
  | .both a b => max a.dp b.dp + 1
  | .eith a b => max a.dp b.dp + 1
/-- what is claimed is in order -/
def Dm.ok (dm : Dm) : Prop := ∀ p ∈ clm dm, nice p.1 ∧ small p.2
theorem nice_claim : nice ("claim" : Str) := nice_by (by decide +kernel)
theorem nice_both : nice ("both" : Str) := nice_by (by decide +kernel)
theorem nice_either : nice ("either" : Str) := nice_by (by decide +kernel)
theorem ne_cb : ("claim" : Str) ≠ ("both" : Str) := by decide +kernel
theorem ne_ce : ("claim" : Str) ≠ ("either" : Str) := by decide +kernel
theorem ne_be : ("both" : Str) ≠ ("either" : Str) := by decide +kernel
theorem Dm.ok_both {a b : Dm} (h : (Dm.both a b).ok) : a.ok ∧ b.ok := ⟨fun p hp => h p (by simp [clm, hp]), fun p hp => h p (by simp [clm, hp])⟩
theorem Dm.ok_eith {a b : Dm} (h : (Dm.eith a b).ok) : a.ok ∧ b.ok := ⟨fun p hp => h p (by simp [clm, hp]), fun p hp => h p (by simp [clm, hp])⟩
theorem Dm.th_ok : ∀ dm : Dm, dm.ok → dm.th.ok ∧ dm.th.dp = dm.dp ∧ dm.th.sz + 1 ≤ 4 * (clm dm).length
  | .claim s n, h => ⟨⟨nice_claim, by simp, (h (s, n) (by simp [clm])).1, (h (s, n) (by simp [clm])).2, trivial⟩, by simp [Dm.th, Th.dp, Th.dps, Dm.dp], by simp [Dm.th, Th.sz, Th.szs, clm]⟩
  | .both a b, h => by
    obtain ⟨a1, a2, a3⟩ := Dm.th_ok a (Dm.ok_both h).1
    obtain ⟨b1, b2, b3⟩ := Dm.th_ok b (Dm.ok_both h).2
    refine ⟨⟨nice_both, by simp, a1, b1, trivial⟩, ?_, ?_⟩
    · simp [Dm.th, Th.dp, Th.dps, Dm.dp, a2, b2]
    · simp [Dm.th, Th.sz, Th.szs, clm]; omega
  | .eith a b, h => by
    obtain ⟨a1, a2, a3⟩ := Dm.th_ok a (Dm.ok_eith h).1
    obtain ⟨b1, b2, b3⟩ := Dm.th_ok b (Dm.ok_eith h).2
    refine ⟨⟨nice_either, by simp, a1, b1, trivial⟩, ?_, ?_⟩
    · simp [Dm.th, Th.dp, Th.dps, Dm.dp, a2, b2]
    · simp [Dm.th, Th.sz, Th.szs, clm]; omega
/-! ### a thing among things -/
theorem any_ths {x : Th} (hx : x.ok) : ∀ ts : List Th, Th.oks ts → ((Th.pys ts).any fun z => PyData.eqv z x.py) = decide (x ∈ ts)
  | [], _ => by simp [Th.pys]
  | t :: r, h => by
    rw [Th.pys, List.any_cons, any_ths hx r h.2]
    by_cases c : t = x
    · subst c
      rw [(eqv_py t t hx hx).mpr rfl]; simp
    · have e : PyData.eqv t.py x.py = false := by
        cases q : PyData.eqv t.py x.py with
        | false => rfl
        | true => exact absurd ((eqv_py t x h.1 hx).mp q) c
      rw [e]
      have : x ≠ t := fun e => c e.symm
      simp [this]
theorem in_ths {x : Th} {ts : List Th} {y : D} {M : Sto} {Q : DK} (hy : seqOf y M = some (ts.map Th.d)) (hx : x.ok) (hd : x.dp ≤ 250) (ht : Th.oks ts) (q : Q (.bl (decide (x ∈ ts))) M) : gIn 250 false x.d y M Q := by
  unfold gIn
  simp only [hy]
  refine ⟨x.py, Th.pys ts, toPy_d x, toPys_map ts, lay_py x hx, lay_pys ts ht, by rw [depth_py]; omega, ?_⟩
  rw [any_ths hx ts ht]; exact q
/-! ### texts -/
theorem join_mem {c : Nat} (sep : List Nat) : ∀ ls : List (List Nat), c ∈ TL.joinL sep ls → c ∈ sep ∨ ∃ l ∈ ls, c ∈ l
  | [], h => by simp [TL.joinL] at h
  | [l], h => .inr ⟨l, by simp, by simpa [TL.joinL] using h⟩
  | l :: m :: r, h => by
    simp only [TL.joinL, List.mem_append] at h
    rcases h with h | h | h
    · exact .inr ⟨l, by simp, h⟩
    · exact .inl h
    · rcases join_mem sep (m :: r) h with h | ⟨k, hk, h⟩
      · exact .inl h
      · exact .inr ⟨k, by simp only [List.mem_cons] at hk ⊢; exact .inr hk, h⟩
theorem qt_low {s : Str} (h : ∀ c ∈ TL.tl s, c = 63 ∨ c = 126 ∨ (97 ≤ c ∧ c ≤ 122)) : ∀ c ∈ qt s, c < 127 := fun c hc => by
  simp only [qt, List.mem_cons, List.mem_append, List.not_mem_nil, or_false] at hc
  rcases hc with rfl | hc | rfl
  · omega
  · have := h c hc; omega
  · omega
theorem node_low {h : Str} {xs : List Th} (hh : ∀ c ∈ TL.tl h, c = 63 ∨ c = 126 ∨ (97 ≤ c ∧ c ≤ 122)) (hx : ∀ x ∈ xs, ∀ c ∈ tx x, c < 127) : ∀ c ∈ nodeT h xs, c < 127 := fun c hc => by
  have tail : ∀ c ∈ tailT xs, c < 127 := by
    intro c hc
    cases xs with
    | nil => simp [tailT] at hc; omega
    | cons x r =>
      simp only [tailT, List.mem_cons, List.mem_append, List.not_mem_nil, or_false] at hc
      rcases hc with rfl | rfl | hc | rfl
      · omega
      · omega
      · rcases join_mem _ _ hc with hc | ⟨l, hl, hc⟩
        · simp at hc; omega
        · obtain ⟨y, hy, rfl⟩ := List.mem_map.mp hl
          exact hx y hy c hc
      · omega
  simp only [nodeT, List.mem_cons, List.mem_append] at hc
  rcases hc with rfl | hc | hc
  · omega
  · exact qt_low hh c hc
  · exact tail c hc
theorem num_low (i : Int) : ∀ c ∈ numT i, c < 127 := fun c hc => by have := numT_dig i c hc; omega
theorem tx_low : ∀ t : Th, t.ok → ∀ c ∈ tx t, c < 127
  | .num i, _ => by rw [tx_num]; exact num_low i
  | .word s, h => by rw [tx_word h]; exact qt_low (nice_cs h)
  | .opn n, _ => by rw [tx_opn]; exact node_low q_cs fun x hx => by simp at hx; subst hx; rw [tx_num]; exact num_low n
  | .new n, _ => by rw [tx_new]; exact node_low n_cs fun x hx => by simp at hx; subst hx; rw [tx_num]; exact num_low n
  | .blt h xs, k => by
    rw [tx_blt k.1]
    refine node_low (nice_cs k.1) fun x hx => ?_
    exact tx_low x ((oks_iff _).mp k.2.2 x hx)
theorem shown_ok {t : Th} (h : t.ok) : PyData.strOk t.py.shown = true := by
  unfold PyData.strOk
  rw [← Array.all_toList, List.all_eq_true]
  intro c hc
  have := tx_low t h c hc
  exact decide_eq_true (by omega)
theorem in_strsL {w : Str} {ws : List Str} {y : D} {M : Sto} {Q : DK} (hy : seqOf y M = some (ws.map D.str)) (hw : PyData.strOk w = true) (hws : ∀ u ∈ ws, PyData.strOk u = true) (q : Q (.bl (decide (w ∈ ws))) M) : gIn 250 false (.str w) y M Q := by
  unfold gIn
  simp only [hy]
  refine ⟨.str w, ws.map PyData.str, rfl, strs_py ws, by simpa [PyData.canLay0] using hw, lay_strs hws, by simp [PyData.depth], ?_⟩
  rw [any_strs]; exact q
end DL

/-! R5: holds; the law's own truth; the claims of a demand. -/
namespace DL
open PySem PySem.Spec PyProof.Rows L2
open Classical
/-- None or a demand -/
def oD : Option Dm → D
  | none => .non
  | some dm => dm.th.d
noncomputable def truthO (lot : List (Str × Int)) : Option Dm → Bool
  | none => true
  | some dm => truthB lot dm
theorem fact_d (s : Str) (v : Th) : (fact s v).d = .tup [.str s, v.d] := by simp [fact, Th.d, Th.ds]
/-! ### the law's own truth -/
def prT (p : Str × Int) : Th := pr p.1 p.2
theorem prT_d (p : Str × Int) : (prT p).d = .tup [.str p.1, .int p.2] := by simp [prT, pr, Th.d, Th.ds]
theorem prT_inj {p q : Str × Int} (h : prT p = prT q) : p = q := by
  simp [prT, pr] at h
  exact Prod.ext h.1 h.2
theorem prT_mem {p : Str × Int} {l : List (Str × Int)} : prT p ∈ l.map prT ↔ p ∈ l := by
  constructor
  · intro h
    obtain ⟨q, hq, e⟩ := List.mem_map.mp h
    rw [← prT_inj e]; exact hq
  · intro h; exact List.mem_map.mpr ⟨p, h, rfl⟩
theorem prT_ok {p : Str × Int} (h : nice p.1 ∧ small p.2) : (prT p).ok := ⟨h.1, by simp, h.2, trivial⟩
theorem prTs_ok {l : List (Str × Int)} (h : ∀ p ∈ l, nice p.1 ∧ small p.2) : Th.oks (l.map prT) := (oks_iff _).mpr fun x hx => by
  obtain ⟨p, hp, rfl⟩ := List.mem_map.mp hx
  exact prT_ok (h p hp)
def spTruth : Nat → DSp
  | 0 => fun _ _ _ => False
  | k + 1 => fun args M Q => ∃ (o : Option Dm) (lot : List (Str × Int)), args = [oD o, .tup ((lot.map prT).map Th.d)] ∧ (∀ dm, o = some dm → dm.dp ≤ k + 1 ∧ dm.ok) ∧ (∀ p ∈ lot, nice p.1 ∧ small p.2) ∧ Q (.bl (truthO lot o)) M
theorem ok_law_truth (k : Nat) : ∀ args M Q, spTruth (k + 1) args M Q → t_law_truth (spTruth k) (ends Q) (dstart N_law_truth.length args) M := by
  rintro args M Q ⟨o, lot, rfl, hk, hl, q⟩
  show t_law_truth (spTruth k) (ends Q) [some (oD o), some (.tup ((lot.map prT).map Th.d)), none, none] M
  cases o with
  | none =>
    simp only [t_law_truth, dSeq, dIfS, dTest, dOp, dVar, dC, List.getElem?_cons_zero, oD, gIs, isNon, if_true, dRet]
    exact done q
  | some dm =>
    obtain ⟨hdp, ho⟩ := hk dm rfl
    have ix2 : ∀ (a b c : D) (M : Sto) (K : DK), gIx (.tup [a, b, c]) (.int 2) M K = K c M := fun a b c M K => by simp [gIx, seqOf, atI, ixN]
    have two : ∀ (a b : Dm) (hw : Str), (max a.dp b.dp + 1 ≤ k + 1) → a.ok → b.ok → hw ≠ "claim" → Q (.bl (if hw = ("both" : Str) then truthB lot a && truthB lot b else truthB lot a || truthB lot b)) M →
        t_law_truth (spTruth k) (ends Q) [some (.tup [.str hw, a.th.d, b.th.d]), some (.tup ((lot.map prT).map Th.d)), none, none] M := by
      intro a b hw hd oa ob hc q
      cases k with
      | zero =>
        have : ∀ d : Dm, 1 ≤ d.dp := fun d => by cases d <;> simp [Dm.dp]
        have := this a
        omega
      | succ k =>
        simp only [t_law_truth, dSeq, dIfS, dTest, dOp, dVar, dC, List.getElem?_cons_zero, gIs, isNon, Bool.false_eq_true, if_false, dNext]
        simp only [t_law_truth_3, dSeq, dIfS, dTest, dOp, dVar, dC, List.getElem?_cons_zero, ix_tup0, eq_str, hc, decide_false, Bool.false_eq_true, if_false, dNext]
        simp only [t_law_truth_2, dSeq, dPar, dCall, dCons, dNil, dOp, dVar, dC, List.getElem?_cons_zero, List.getElem?_cons_succ, ix_tup1, ix2]
        refine ⟨some a, lot, rfl, fun d hd' => by cases hd'; exact ⟨by omega, oa⟩, hl, ?_⟩
        refine ⟨some b, lot, rfl, fun d hd' => by cases hd'; exact ⟨by omega, ob⟩, hl, ?_⟩
        simp only [List.set, t_law_truth_1, dRet, dIf, dTest, dOp, dVar, dC, List.getElem?_cons_zero, List.getElem?_cons_succ, ix_tup0, eq_str]
        by_cases cb : hw = ("both" : Str)
        · rw [if_pos cb] at q
          simp only [cb, decide_true, if_true, dAndV, dVar, List.getElem?_cons_zero, List.getElem?_cons_succ, truthO]
          cases ea : truthB lot a with
          | true => rw [ea, Bool.true_and] at q; simp only [if_true]; exact done q
          | false => rw [ea, Bool.false_and] at q; simp only [Bool.false_eq_true, if_false]; exact done q
        · rw [if_neg cb] at q
          simp only [cb, decide_false, Bool.false_eq_true, if_false, dOrV, dVar, List.getElem?_cons_zero, List.getElem?_cons_succ, truthO]
          cases ea : truthB lot a with
          | true => rw [ea, Bool.true_or] at q; simp only [if_true]; exact done q
          | false => rw [ea, Bool.false_or] at q; simp only [Bool.false_eq_true, if_false]; exact done q
    cases dm with
    | claim s n =>
      simp only [t_law_truth, dSeq, dIfS, dTest, dOp, dVar, dC, List.getElem?_cons_zero, oD, Dm.th, Th.d, Th.ds, gIs, isNon, Bool.false_eq_true, if_false, dNext]
      simp only [t_law_truth_3, dSeq, dIfS, dTest, dOp, dVar, dC, List.getElem?_cons_zero, List.getElem?_cons_succ, ix_tup0, eq_str, decide_true, if_true, dRet, dSl, dPart, dNoPart, gCut_tup, cut_tail]
      have e : D.tup [.str s, .int n] = (prT (s, n)).d := (prT_d (s, n)).symm
      rw [e]
      refine in_ths (ts := lot.map prT) rfl (prT_ok (ho (s, n) (by simp [clm]))) (by simp [prT, pr, Th.dp, Th.dps]) (prTs_ok hl) ?_
      have : truthO lot (some (.claim s n)) = decide (prT (s, n) ∈ lot.map prT) := by
        simp only [truthO, truthB]
        exact decide_eq_decide.mpr prT_mem.symm
      rw [this] at q
      exact done q
    | both a b =>
      have := two a b "both" hdp (Dm.ok_both ho).1 (Dm.ok_both ho).2 ne_cb.symm (by rw [if_pos rfl]; exact q)
      simpa only [oD, Dm.th, Th.d, Th.ds] using this
    | eith a b =>
      have := two a b "either" hdp (Dm.ok_eith ho).1 (Dm.ok_eith ho).2 ne_ce.symm (by rw [if_neg ne_be.symm]; exact q)
      simpa only [oD, Dm.th, Th.d, Th.ds] using this
/-! ### the claims -/
theorem nd_len {α : Type} {l m : List α} (nd : l.Nodup) (h : ∀ x ∈ l, x ∈ m) : l.length ≤ m.length := by
  have := sub_sum (fun _ => 1) l m nd h
  rw [ones, ones] at this
  exact this
theorem pair_key (p : Str × Int) : nkD (prT p).d = some (.tup [.text p.1, .num p.2]) := by rw [prT_d]; simp [nkD, nkDs]
end DL

/-! R6: drawn demands, kinds, near kinds. -/
namespace DL
open PySem PySem.Spec PyProof.Rows L2
open Classical
theorem upd_self {M : Sto} {h : Addr} {o : MO} (e : M h = some o) : M.upd h o = M := by
  funext b
  by_cases c : b = h
  · rw [c, Sto.upd_same, e]
  · rw [Sto.upd_ne c]
def spDemand : Nat → DSp
  | 0 => fun _ _ _ => False
  | d + 1 => fun args M Q => ∃ (h : Addr) (o : MO) (pool : List (Str × Int)), args = [.ref h, .lst ((pool.map prT).map Th.d), .int ((d + 1 : Nat) : Int)] ∧ M h = some o ∧ HandOk o ∧ pool ≠ [] ∧ pool.length ≤ 100 ∧
    ∀ (dm : Dm) o', dm.dp ≤ d + 1 → (∀ p ∈ clm dm, p ∈ pool) → (clm dm).length ≤ 2 ^ d → HandOk o' → Q dm.th.d (M.upd h o')
theorem ok_law_demand (d : Nat) : ∀ args M Q, spDemand (d + 1) args M Q → t_law_demand spDraw spSome (spDemand d) (ends Q) (dstart N_law_demand.length args) M := by
  rintro args M Q ⟨h, o, pool, rfl, hM, ho, hne, hl, q⟩
  show t_law_demand spDraw spSome (spDemand d) (ends Q) [some (.ref h), some (.lst ((pool.map prT).map Th.d)), some (.int ((d + 1 : Nat) : Int)), none] M
  have claim : ∀ o1, HandOk o1 → M.upd h o1 h = some o1 → t_law_demand spDraw spSome (spDemand d) = t_law_demand spDraw spSome (spDemand d) → (dRet (dOp gAdd (dTup (dCons (dC (.str "claim")) dNil)) (dCall spSome (dCons (dVar 0) (dCons (dVar 1) dNil))))) (ends Q) [some (.ref h), some (.lst ((pool.map prT).map Th.d)), some (.int ((d + 1 : Nat) : Int)), none] (M.upd h o1) := by
    intro o1 ho1 hM1 _
    simp only [dRet, dOp, dTup, dCall, dCons, dNil, dC, dVar, List.getElem?_cons_zero, List.getElem?_cons_succ, List.length_cons, List.length_nil, Nat.zero_add, size1, true_and]
    refine some_lst hM1 ho1 (by simpa using hne) (by simp; omega) fun x o2 hx ho2 => ?_
    obtain ⟨t, ht, rfl⟩ := List.mem_map.mp hx
    obtain ⟨p, hp, rfl⟩ := List.mem_map.mp ht
    rw [prT_d, Sto.upd_upd]
    refine add_tup (sl_le (by simp)) ?_
    have e : D.tup ([.str "claim"] ++ [.str p.1, .int p.2]) = (Dm.claim p.1 p.2).th.d := by simp [Dm.th, Th.d, Th.ds]
    rw [e]
    have hp2 : 1 ≤ 2 ^ d := Nat.one_le_two_pow
    exact done (q _ o2 (by simp [Dm.dp]) (fun r hr => by simp [clm] at hr; subst hr; exact hp) (by simpa [clm] using hp2) ho2)
  have pair : ∀ o1, HandOk o1 → 1 ≤ d → t_law_demand_2 spDraw spSome (spDemand d) (ends Q) [some (.ref h), some (.lst ((pool.map prT).map Th.d)), some (.int ((d + 1 : Nat) : Int)), none] (M.upd h o1) := by
    intro o1 ho1 hd
    obtain ⟨d, rfl⟩ : ∃ e, d = e + 1 := ⟨d - 1, by omega⟩
    have es : (((d + 1 + 1 : Nat) : Int) - 1) = ((d + 1 : Nat) : Int) := by omega
    simp only [t_law_demand_2, dSeq, dAsg, dCall, dLst, dCons, dNil, dC, dVar, List.getElem?_cons_zero, List.getElem?_cons_succ, List.length_cons, List.length_nil, Nat.zero_add, Nat.reduceAdd, size2, true_and]
    refine some_lst Sto.upd_same ho1 (by simp) (by simp) fun x o2 hx ho2 => ?_
    rw [Sto.upd_upd]
    simp only [dgName, List.set, t_law_demand_1, dRet, dTup, dCall, dCons, dNil, dOp, dC, dVar, List.getElem?_cons_zero, List.getElem?_cons_succ, gSub, es]
    refine ⟨h, o2, pool, rfl, Sto.upd_same, ho2, hne, hl, fun a o3 a1 a2 a3 ho3 => ?_⟩
    rw [Sto.upd_upd]
    refine ⟨h, o3, pool, rfl, Sto.upd_same, ho3, hne, hl, fun b o4 b1 b2 b3 ho4 => ?_⟩
    rw [Sto.upd_upd]
    simp only [List.length_cons, List.length_nil, Nat.zero_add, Nat.reduceAdd, size3, true_and]
    have hp2 : 2 ^ (d + 1) = 2 ^ d + 2 ^ d := by rw [Nat.pow_succ]; omega
    simp only [List.mem_cons, List.not_mem_nil, or_false] at hx
    rcases hx with rfl | rfl
    · have e : D.tup [.str "both", a.th.d, b.th.d] = (Dm.both a b).th.d := by simp [Dm.th, Th.d, Th.ds]
      rw [e]
      exact done (q _ o4 (by simp [Dm.dp]; omega) (fun r hr => by rcases List.mem_append.mp (show r ∈ clm a ++ clm b from hr) with hr | hr; exact a2 r hr; exact b2 r hr) (by simp [clm]; omega) ho4)
    · have e : D.tup [.str "either", a.th.d, b.th.d] = (Dm.eith a b).th.d := by simp [Dm.th, Th.d, Th.ds]
      rw [e]
      exact done (q _ o4 (by simp [Dm.dp]; omega) (fun r hr => by rcases List.mem_append.mp (show r ∈ clm a ++ clm b from hr) with hr | hr; exact a2 r hr; exact b2 r hr) (by simp [clm]; omega) ho4)
  simp only [t_law_demand, dSeq, dIfS, dOr, dTest, dOp, dVar, dC, List.getElem?_cons_zero, List.getElem?_cons_succ, eq_int]
  by_cases c : d = 0
  · subst c
    have e : decide ((((0 + 1 : Nat)) : Int) = 1) = true := by decide
    simp only [e, if_true]
    have := claim o ho Sto.upd_same rfl
    rw [upd_self hM] at this
    exact this
  · have e : decide (((d + 1 : Nat) : Int) = 1) = false := decide_eq_false (by omega)
    simp only [e, Bool.false_eq_true, if_false, dCall, dCons, dNil, dVar, dC, List.getElem?_cons_zero]
    refine ⟨h, 5, o, rfl, hM, ho, by decide, by decide, fun r o1 r1 r2 ho1 => ?_⟩
    simp only [eq_int]
    by_cases c2 : r = 0
    · simp only [c2, decide_true, if_true]
      exact claim o1 ho1 Sto.upd_same rfl
    · simp only [c2, decide_false, Bool.false_eq_true, if_false, dNext]
      exact pair o1 ho1 (by omega)
/-! ### kinds -/
theorem small_lit {i : Int} (h : i.natAbs < 100000000000000000000) : small i := by
  unfold small
  have e : (10 : Nat) ^ 20 = 100000000000000000000 := by decide +kernel
  rw [e]; exact h
theorem nice_int : nice ("int" : Str) := nice_by (by decide +kernel)
theorem nice_ptr : nice ("ptr" : Str) := nice_by (by decide +kernel)
theorem nice_pair : nice ("pair" : Str) := nice_by (by decide +kernel)
theorem nice_arr : nice ("arr" : Str) := nice_by (by decide +kernel)
theorem nice_yes : nice ("yes" : Str) := nice_by (by decide +kernel)
theorem nice_no : nice ("no" : Str) := nice_by (by decide +kernel)
end DL

/-! A1: pairs, lots, their order. -/
namespace DL
open PySem PySem.Spec PyProof.Rows L2
open Classical
abbrev Pr := Str × Int
abbrev prD (p : Pr) : D := (prT p).d
def lotD (l : List Pr) : D := bD (l.map prT)
theorem lotD_tup (l : List Pr) : lotD l = .tup (l.map prD) := by simp [lotD, bD, List.map_map, Function.comp_def]
theorem prs_ok {l : List Pr} (h : ∀ p ∈ l, nice p.1 ∧ small p.2) : Th.oks (l.map prT) := prTs_ok h
theorem pyD_pr (p : Pr) : pyD (prD p) = .tuple [.str p.1, .int p.2] := by show pyD (prT p).d = _; rw [prT_d]; simp [pyD, toPy, toPys]
theorem py_pr (p : Pr) : (prT p).py = .tuple [.str p.1, .int p.2] := by simp [prT, pr, Th.py, Th.pys]
theorem pyD_lot (l : List Pr) : pyD (lotD l) = .tuple (Th.pys (l.map prT)) := by simp [pyD, lotD, bun_py, bP]
theorem alike_pr (p r : Pr) : PySem.W.alike (pyD (prD p)) (pyD (prD r)) = true := by rw [pyD_pr, pyD_pr]; simp [PySem.W.alike, PySem.W.alikeAll]
theorem alike_prs : ∀ l m : List Pr, PySem.W.alikeAll (Th.pys (l.map prT)) (Th.pys (m.map prT)) = true
  | [], m => by simp [Th.pys, PySem.W.alikeAll]
  | p :: l, [] => by simp [Th.pys, PySem.W.alikeAll]
  | p :: l, r :: m => by
    have h := alike_prs l m
    simp only [List.map_cons, Th.pys, PySem.W.alikeAll, h, Bool.and_true]
    rw [py_pr, py_pr]; simp [PySem.W.alike, PySem.W.alikeAll]
theorem alike_lot (l m : List Pr) : PySem.W.alike (pyD (lotD l)) (pyD (lotD m)) = true := by
  rw [pyD_lot, pyD_lot]
  simp only [PySem.W.alike]
  exact alike_prs l m
theorem nk_pr (p : Pr) : nkD (prD p) = some (.tup [.text p.1, .num p.2]) := by show nkD (prT p).d = _; rw [prT_d]; simp [nkD, nkDs]
theorem nk_prs : ∀ l : List Pr, nkDs (l.map prD) = some (l.map fun p => .tup [.text p.1, .num p.2])
  | [] => by simp [nkDs]
  | p :: l => by simp [nkDs, nk_pr, nk_prs l]
theorem nk_lot (l : List Pr) : nkD (lotD l) = some (.tup (l.map fun p => .tup [.text p.1, .num p.2])) := by
  rw [lotD_tup]; simp [nkD, nk_prs]
theorem depth_prs : ∀ l : List Pr, NestedKey.depthAll (l.map fun p => NestedKey.tup [.text p.1, .num p.2]) ≤ 1
  | [] => by simp [NestedKey.depthAll]
  | p :: l => by
    have := depth_prs l
    simp [NestedKey.depthAll, NestedKey.depth] at *
    omega
/-! ### antisymmetry -/
theorem leD_eqv {x y : D} (al : PySem.W.alike (pyD x) (pyD y) = true) (h1 : leD x y = true) (h2 : leD y x = true) : PyData.eqv (pyD x) (pyD y) = true := by
  have t1 : PyProof.Rows.lexLt itemOrd (PySem.W.keyToks (pyD y)) (PySem.W.keyToks (pyD x)) = false := by
    have : (!PySem.W.dataLt (pyD y) (pyD x)) = true := h1
    simpa [PySem.W.dataLt] using this
  have t2 : PyProof.Rows.lexLt itemOrd (PySem.W.keyToks (pyD x)) (PySem.W.keyToks (pyD y)) = false := by
    have : (!PySem.W.dataLt (pyD x) (pyD y)) = true := h2
    simpa [PySem.W.dataLt] using this
  have e := (listOrd itemOrd).total _ _ t2 t1
  cases c : PyData.eqv (pyD x) (pyD y) with
  | true => rfl
  | false =>
    exfalso
    have z := (PySem.W.toks_eqv _ _ al).2 c [] [.inl 0]
    rw [t2] at z
    have e : PySem.W.keyToks (pyD x) = PySem.W.keyToks (pyD y) := e
    rw [e, PySem.W.lex_pre] at z
    simp [PyProof.Rows.lexLt] at z
theorem pr_anti {p r : Pr} (h1 : leD (prD p) (prD r) = true) (h2 : leD (prD r) (prD p) = true) : p = r := by
  have e := leD_eqv (alike_pr p r) h1 h2
  rw [pyD_pr, pyD_pr] at e
  simp [PyData.eqv, PyData.eqvAll] at e
  exact Prod.ext e.1 e.2
theorem eqv_prs : ∀ l m : List Pr, PyData.eqvAll (Th.pys (l.map prT)) (Th.pys (m.map prT)) = true → l = m
  | [], [], _ => rfl
  | [], r :: m, h => by simp [Th.pys, PyData.eqvAll] at h
  | p :: l, [], h => by simp [Th.pys, PyData.eqvAll] at h
  | p :: l, r :: m, h => by
    simp only [List.map_cons, Th.pys, PyData.eqvAll, Bool.and_eq_true, py_pr] at h
    have e := eqv_prs l m h.2
    have h1 := h.1
    simp [PyData.eqv, PyData.eqvAll] at h1
    rw [e, Prod.ext h1.1 h1.2]
theorem lot_anti {l m : List Pr} (h1 : leD (lotD l) (lotD m) = true) (h2 : leD (lotD m) (lotD l) = true) : l = m := by
  have e := leD_eqv (alike_lot l m) h1 h2
  rw [pyD_lot, pyD_lot] at e
  simp only [PyData.eqv] at e
  exact eqv_prs l m e
theorem lotD_inj {l m : List Pr} (h : lotD l = lotD m) : l = m := by
  rw [lotD_tup, lotD_tup] at h
  simp only [D.tup.injEq] at h
  exact (List.map_inj_right fun p r e => by
    simp only [prD, prT_d, D.tup.injEq, List.cons.injEq, D.str.injEq, D.int.injEq, and_true] at e
    exact Prod.ext e.1 e.2).mp h
theorem prD_inj {p r : Pr} (h : prD p = prD r) : p = r := by
  simp only [prD, prT_d, D.tup.injEq, List.cons.injEq, D.str.injEq, D.int.injEq, and_true] at h
  exact Prod.ext h.1 h.2
/-- two ordered lists of the same things are one -/
theorem one_order {α : Type} {le : α → α → Prop} (anti : ∀ a b, le a b → le b a → a = b) : ∀ {l m : List α}, l.Pairwise le → m.Pairwise le → l.Perm m → l = m
  | [], m, _, _, p => (List.nil_perm.mp p).symm
  | a :: l, [], _, _, p => by cases List.perm_nil.mp p
  | a :: l, b :: m, hl, hm, p => by
    have ab : a = b := by
      obtain ⟨h1, _⟩ := List.pairwise_cons.mp hl
      obtain ⟨h2, _⟩ := List.pairwise_cons.mp hm
      have ma : a ∈ b :: m := p.mem_iff.mp (by simp)
      have mb : b ∈ a :: l := p.mem_iff.mpr (by simp)
      rcases List.mem_cons.mp ma with e | ma
      · exact e
      · rcases List.mem_cons.mp mb with e | mb
        · exact e.symm
        · exact anti _ _ (h1 b mb) (h2 a ma)
    subst ab
    rw [one_order anti (List.pairwise_cons.mp hl).2 (List.pairwise_cons.mp hm).2 ((List.perm_cons a).mp p)]
abbrev leP (p r : Pr) : Prop := leD (prD p) (prD r) = true
abbrev leL (l m : List Pr) : Prop := leD (lotD l) (lotD m) = true
/-- an ascending lot -/
structure Asc (l : List Pr) : Prop where
  nd : l.Nodup
  le : l.Pairwise leP
theorem Asc.ext {l m : List Pr} (a : Asc l) (b : Asc m) (h : ∀ p, p ∈ l ↔ p ∈ m) : l = m :=
  one_order (fun _ _ h1 h2 => pr_anti h1 h2) a.le b.le ((List.perm_ext_iff_of_nodup a.nd b.nd).mpr h)
theorem Asc.sub {l m : List Pr} (a : Asc l) (h : List.Sublist m l) : Asc m := ⟨a.nd.sublist h, a.le.sublist h⟩
theorem asc_one (p : Pr) : Asc [p] := ⟨by simp, by simp⟩
/-- sorted(set(..)) of pairs -/
theorem sorted_prs {l : List Pr} {ys : List D} (h : SortedSet (l.map prD) ys) : ∃ m : List Pr, ys = m.map prD ∧ Asc m ∧ ∀ p, p ∈ m ↔ p ∈ l := by
  obtain ⟨m, rfl, hm⟩ := list_pre (f := prD) (S := fun p => p ∈ l) (ys := ys) (fun y hy => by
    obtain ⟨p, hp, e⟩ := List.mem_map.mp ((h.mem y).mp hy)
    exact ⟨p, e.symm, hp⟩)
  refine ⟨m, rfl, ⟨List.Pairwise.of_map prD (fun _ _ hne z => hne (congrArg prD z)) h.nd, by have := h.le; rw [List.pairwise_map] at this; exact this⟩, fun p => ⟨hm p, fun hp => ?_⟩⟩
  obtain ⟨r, hr, e⟩ := List.mem_map.mp ((h.mem _).mpr (List.mem_map.mpr ⟨p, hp, rfl⟩))
  rw [← prD_inj e]; exact hr
theorem setOk_prs {l : List Pr} (h : l.length < 64) : SetOk (l.map prD) := by
  refine ⟨by simpa using h, fun d hd => ?_, fun d hd e he => ?_, fun d hd => ?_⟩
  · obtain ⟨p, _, rfl⟩ := List.mem_map.mp hd
    exact ⟨_, nk_pr p, by simp [NestedKey.depth, NestedKey.depthAll]⟩
  · obtain ⟨p, _, rfl⟩ := List.mem_map.mp hd
    obtain ⟨r, _, rfl⟩ := List.mem_map.mp he
    exact alike_pr p r
  · obtain ⟨p, _, rfl⟩ := List.mem_map.mp hd
    exact ⟨_, _, prT_d p⟩
theorem lot_key (l : List Pr) : ∃ k, nkD (lotD l) = some k ∧ k.depth ≤ 8 := ⟨_, nk_lot l, by
  have := depth_prs l
  simp only [NestedKey.depth]
  omega⟩
theorem setOk_lots {ls : List (List Pr)} (h : ls.length < 64) (hn : ∀ l ∈ ls, l ≠ []) : SetOk (ls.map lotD) := by
  refine ⟨by simpa using h, fun d hd => ?_, fun d hd e he => ?_, fun d hd => ?_⟩
  · obtain ⟨p, _, rfl⟩ := List.mem_map.mp hd
    exact lot_key p
  · obtain ⟨p, _, rfl⟩ := List.mem_map.mp hd
    obtain ⟨r, _, rfl⟩ := List.mem_map.mp he
    exact alike_lot p r
  · obtain ⟨p, hp, rfl⟩ := List.mem_map.mp hd
    cases p with
    | nil => exact absurd rfl (hn _ hp)
    | cons q r => exact ⟨_, _, lotD_tup (q :: r)⟩
theorem sorted_lots {ls : List (List Pr)} {ys : List D} (h : SortedSet (ls.map lotD) ys) : ∃ ms : List (List Pr), ys = ms.map lotD ∧ ms.Nodup ∧ ms.Pairwise leL ∧ ∀ l, l ∈ ms ↔ l ∈ ls := by
  obtain ⟨m, rfl, hm⟩ := list_pre (f := lotD) (S := fun p => p ∈ ls) (ys := ys) (fun y hy => by
    obtain ⟨p, hp, e⟩ := List.mem_map.mp ((h.mem y).mp hy)
    exact ⟨p, e.symm, hp⟩)
  refine ⟨m, rfl, List.Pairwise.of_map lotD (fun _ _ hne z => hne (congrArg lotD z)) h.nd, by have := h.le; rw [List.pairwise_map] at this; exact this, fun p => ⟨hm p, fun hp => ?_⟩⟩
  obtain ⟨r, hr, e⟩ := List.mem_map.mp ((h.mem _).mpr (List.mem_map.mpr ⟨p, hp, rfl⟩))
  rw [← lotD_inj e]; exact hr
theorem sortOk_lots {ls : List (List Pr)} (h : ls.length ≤ 100000) (hn : ∀ l ∈ ls, l ≠ []) : SortOk (ls.map lotD) := by
  refine ⟨by simpa using h, fun d hd => ?_, fun d hd e he => ?_, fun d hd => ?_⟩
  · obtain ⟨p, _, rfl⟩ := List.mem_map.mp hd
    exact lot_key p
  · obtain ⟨p, _, rfl⟩ := List.mem_map.mp hd
    obtain ⟨r, _, rfl⟩ := List.mem_map.mp he
    exact alike_lot p r
  · obtain ⟨p, hp, rfl⟩ := List.mem_map.mp hd
    cases p with
    | nil => exact absurd rfl (hn _ hp)
    | cons q r => exact ⟨_, _, lotD_tup (q :: r)⟩
theorem sorted_list {ls : List (List Pr)} {ys : List D} (h : ys.Perm (ls.map lotD)) (hp : ys.Pairwise fun x y => leD x y = true) : ∃ ms : List (List Pr), ys = ms.map lotD ∧ ms.Perm ls ∧ ms.Pairwise leL := by
  obtain ⟨m, h1, rfl⟩ := perm_lift lotD h ls rfl
  refine ⟨m, rfl, h1, ?_⟩
  rw [List.pairwise_map] at hp
  exact hp
/-! ### what is enough -/
/-- a demand holds by a lot -/
def Hold (dm : Dm) (S : List Pr) : Prop := truthB S dm = true
theorem hold_claim {s : Str} {n : Int} {S : List Pr} : Hold (.claim s n) S ↔ (s, n) ∈ S := by simp [Hold, truthB]
theorem hold_both {a b : Dm} {S : List Pr} : Hold (.both a b) S ↔ Hold a S ∧ Hold b S := by simp [Hold, truthB]
theorem hold_eith {a b : Dm} {S : List Pr} : Hold (.eith a b) S ↔ Hold a S ∨ Hold b S := by simp [Hold, truthB]
theorem hold_mono {S T : List Pr} (h : ∀ p ∈ S, p ∈ T) : ∀ dm : Dm, Hold dm S → Hold dm T
  | .claim s n, k => hold_claim.mpr (h _ (hold_claim.mp k))
  | .both a b, k => hold_both.mpr ⟨hold_mono h a (hold_both.mp k).1, hold_mono h b (hold_both.mp k).2⟩
  | .eith a b, k => hold_eith.mpr ((hold_eith.mp k).imp (hold_mono h a) (hold_mono h b))
theorem hold_nil : ∀ dm : Dm, ¬ Hold dm []
  | .claim s n, k => by simpa using hold_claim.mp k
  | .both a b, k => hold_nil a (hold_both.mp k).1
  | .eith a b, k => (hold_eith.mp k).elim (hold_nil a) (hold_nil b)
/-- only what is claimed matters -/
theorem hold_only {S T : List Pr} : ∀ dm : Dm, (∀ p ∈ clm dm, p ∈ S → p ∈ T) → Hold dm S → Hold dm T
  | .claim s n, h, k => hold_claim.mpr (h _ (by simp [clm]) (hold_claim.mp k))
  | .both a b, h, k => hold_both.mpr ⟨hold_only a (fun p hp => h p (by simp [clm, hp])) (hold_both.mp k).1, hold_only b (fun p hp => h p (by simp [clm, hp])) (hold_both.mp k).2⟩
  | .eith a b, h, k => hold_eith.mpr ((hold_eith.mp k).imp (hold_only a fun p hp => h p (by simp [clm, hp])) (hold_only b fun p hp => h p (by simp [clm, hp])))
/-- lots of which each is enough, needless ones among them -/
structure Lots (dm : Dm) (ls : List (List Pr)) : Prop where
  asc : ∀ l ∈ ls, Asc l
  enough : ∀ S, Hold dm S ↔ ∃ l ∈ ls, ∀ p ∈ l, p ∈ S
  sub : ∀ l ∈ ls, ∀ p ∈ l, p ∈ clm dm
theorem Lots.ne {dm : Dm} {ls : List (List Pr)} (h : Lots dm ls) : ∀ l ∈ ls, l ≠ [] := fun l hl e => hold_nil dm ((h.enough []).mpr ⟨l, hl, by rw [e]; simp⟩)
/-- a least lot that is enough -/
def Least (dm : Dm) (l : List Pr) : Prop := Asc l ∧ (∀ p ∈ l, p ∈ clm dm) ∧ Hold dm l ∧ ∀ m, Asc m → (∀ p ∈ m, p ∈ l) → Hold dm m → m = l
/-- the ascending list of the least lots -/
structure Neat (dm : Dm) (ls : List (List Pr)) : Prop where
  nd : ls.Nodup
  le : ls.Pairwise leL
  mem : ∀ l, l ∈ ls ↔ Least dm l
theorem Neat.one {dm : Dm} {ls ms : List (List Pr)} (a : Neat dm ls) (b : Neat dm ms) : ls = ms :=
  one_order (fun _ _ h1 h2 => lot_anti h1 h2) a.le b.le ((List.perm_ext_iff_of_nodup a.nd b.nd).mpr fun l => by rw [a.mem, b.mem])
end DL

/-! A2: lots_of, has_all. -/
namespace DL
open PySem PySem.Spec PyProof.Rows L2
open Classical
theorem bls_map (bs : List Bool) : blsOf (bs.map D.bl) = some bs := by
  induction bs with
  | nil => rfl
  | cons b r ih => simp [blsOf, ih]
theorem gAll_map {bs : List Bool} {M : Sto} {Q : DK} (q : Q (.bl (bs.all fun b => b)) M) : gAll [.lst (bs.map D.bl)] M Q := by
  simp only [gAll, lst_lst, bls_map]
  exact q
theorem gAny_map {bs : List Bool} {M : Sto} {Q : DK} (q : Q (.bl (bs.any fun b => b)) M) : gAny [.lst (bs.map D.bl)] M Q := by
  simp only [gAny, lst_lst, bls_map]
  exact q
theorem gAll_of {α : Type} {xs : List α} {p : α → Bool} {M : Sto} {Q : DK} (q : Q (.bl (xs.all p)) M) : gAll [.lst (xs.map fun x => D.bl (p x))] M Q := by
  have e : (xs.map fun x => D.bl (p x)) = (xs.map p).map D.bl := by rw [List.map_map]; rfl
  rw [e]
  refine gAll_map ?_
  rw [List.all_map]; exact q
theorem gAny_of {α : Type} {xs : List α} {p : α → Bool} {M : Sto} {Q : DK} (q : Q (.bl (xs.any p)) M) : gAny [.lst (xs.map fun x => D.bl (p x))] M Q := by
  have e : (xs.map fun x => D.bl (p x)) = (xs.map p).map D.bl := by rw [List.map_map]; rfl
  rw [e]
  refine gAny_map ?_
  rw [List.any_map]; exact q
theorem comp_mapG {g : DTG} {te : DTE} {τ : DSt} {M : Sto} {α : Type} (e : α → D) (f : α → D) : ∀ (xs : List α) (acc : List D) (Q : List D → Sto → Prop), (∀ x ∈ xs, ∀ K : DK, K (f x) M → g (e x) τ M fun τ2 M2 => te τ2 M2 K) → acc.length + xs.length ≤ sizeLine →
    Q (acc ++ xs.map f) M → compD g dYes te τ Q (xs.map e) acc M
  | [], acc, Q, _, _, q => by simpa [compD] using q
  | x :: xs, acc, Q, h, hz, q => by
    rw [List.map_cons]
    unfold compD
    simp only [dYes, if_true]
    refine h x (by simp) _ ⟨by rw [List.length_cons] at hz; omega, ?_⟩
    refine comp_mapG e f xs (acc ++ [f x]) Q (fun y hy => h y (by simp [hy])) (by simp at hz ⊢; omega) ?_
    simpa using q
/-- each thing gives what it is bound to -/
theorem comp_rel {α β : Type} {i : Nat} {te : DTE} {τ : DSt} {M : Sto} (e : α → D) (f : β → D) (R : α → β → Prop) : ∀ (xs : List α) (acc : List β) (Q : List D → Sto → Prop), (∀ x ∈ xs, ∀ K : DK, (∀ y, R x y → K (f y) M) → te (τ.set i (some (e x))) M K) → acc.length + xs.length ≤ sizeLine →
    (∀ ys, ys.length = xs.length → (∀ y ∈ ys, ∃ x ∈ xs, R x y) → (∀ x ∈ xs, ∃ y ∈ ys, R x y) → Q ((acc ++ ys).map f) M) → compD (dgName i) dYes te τ Q (xs.map e) (acc.map f) M
  | [], acc, Q, _, _, q => by
    have := q [] rfl (by simp) (by simp)
    simpa [compD] using this
  | x :: xs, acc, Q, h, hz, q => by
    rw [List.map_cons]
    unfold compD
    simp only [dgName, dYes, if_true]
    refine h x (by simp) _ fun y hy => ⟨by rw [List.length_cons] at hz; simp; omega, ?_⟩
    have ea : acc.map f ++ [f y] = (acc ++ [y]).map f := by simp
    rw [ea]
    refine comp_rel e f R xs (acc ++ [y]) Q (fun z hz => h z (by simp [hz])) (by simp at hz ⊢; omega) fun ys l a b => ?_
    have := q (y :: ys) (by simp [l]) (fun z hz => ?_) (fun z hz => ?_)
    · simpa using this
    · rcases List.mem_cons.mp hz with rfl | hz
      · exact ⟨x, by simp, hy⟩
      · obtain ⟨w, hw, r⟩ := a z hz
        exact ⟨w, by simp [hw], r⟩
    · rcases List.mem_cons.mp hz with rfl | hz
      · exact ⟨y, by simp, hy⟩
      · obtain ⟨w, hw, r⟩ := b z hz
        exact ⟨w, by simp [hw], r⟩
/-! ### lots of claims -/
def lb : Nat → Nat
  | 0 => 1
  | k + 1 => max (2 * lb k) (lb k * lb k)
theorem lb_le : ∀ {k : Nat}, k ≤ 3 → lb k ≤ 16 := by
  intro k h
  have : k = 0 ∨ k = 1 ∨ k = 2 ∨ k = 3 := by omega
  rcases this with rfl | rfl | rfl | rfl <;> decide
def spLots : Nat → DSp
  | 0 => fun _ _ _ => False
  | k + 1 => fun args M Q => ∃ (dm : Dm) (pool : List Pr), args = [dm.th.d] ∧ dm.dp ≤ k + 1 ∧ k ≤ 3 ∧ (∀ p ∈ clm dm, p ∈ pool) ∧ pool.length ≤ 20 ∧ ∀ ls, Lots dm ls → ls.length ≤ lb k → Q (.lst (ls.map lotD)) M
theorem nd_le {l pool : List Pr} (nd : l.Nodup) (h : ∀ p ∈ l, p ∈ pool) : l.length ≤ pool.length := nd_len nd h
theorem lots_claim (s : Str) (n : Int) : Lots (.claim s n) [[(s, n)]] := by
  refine ⟨fun l hl => ?_, fun S => ?_, fun l hl p hp => ?_⟩
  · rw [List.mem_singleton] at hl; subst hl; exact asc_one _
  · rw [hold_claim]; simp
  · rw [List.mem_singleton] at hl; subst hl; simpa [clm] using hp
theorem lots_eith {a b : Dm} {la lb : List (List Pr)} (ha : Lots a la) (hb : Lots b lb) : Lots (.eith a b) (la ++ lb) := by
  refine ⟨fun l hl => ?_, fun S => ?_, fun l hl p hp => ?_⟩
  · rcases List.mem_append.mp hl with hl | hl
    · exact ha.asc l hl
    · exact hb.asc l hl
  · rw [hold_eith, ha.enough, hb.enough]
    constructor
    · rintro (⟨l, h1, h2⟩ | ⟨l, h1, h2⟩)
      · exact ⟨l, by simp [h1], h2⟩
      · exact ⟨l, by simp [h1], h2⟩
    · rintro ⟨l, h1, h2⟩
      rcases List.mem_append.mp h1 with h1 | h1
      · exact .inl ⟨l, h1, h2⟩
      · exact .inr ⟨l, h1, h2⟩
  · rcases List.mem_append.mp hl with hl | hl
    · have := ha.sub l hl p hp; simp [clm, this]
    · have := hb.sub l hl p hp; simp [clm, this]
/-- lots of both: for some of the first ones, with all that are enough for b -/
structure Prod (hs : List (List Pr)) (b : Dm) (ms : List (List Pr)) (pool : List Pr) : Prop where
  asc : ∀ l ∈ ms, Asc l
  enough : ∀ S, (∃ l ∈ ms, ∀ p ∈ l, p ∈ S) ↔ (∃ l ∈ hs, ∀ p ∈ l, p ∈ S) ∧ Hold b S
  sub : ∀ l ∈ ms, ∀ p ∈ l, p ∈ pool
theorem prod_nil (b : Dm) (pool : List Pr) : Prod [] b [] pool := ⟨by simp, by simp, by simp⟩
theorem prod_cons {h : List Pr} {hs : List (List Pr)} {b : Dm} {ls ys ms pool : List (List Pr)} {P : List Pr} (hl : Lots b ls) (hP : ∀ p ∈ h, p ∈ P) (hB : ∀ p ∈ clm b, p ∈ P)
    (y1 : ∀ y ∈ ys, ∃ l ∈ ls, Asc y ∧ ∀ p, p ∈ y ↔ p ∈ h ++ l) (y2 : ∀ l ∈ ls, ∃ y ∈ ys, Asc y ∧ ∀ p, p ∈ y ↔ p ∈ h ++ l) (r : Prod hs b ms P) : Prod (h :: hs) b (ys ++ ms) P := by
  refine ⟨fun l hm => ?_, fun S => ?_, fun l hm p hp => ?_⟩
  · rcases List.mem_append.mp hm with hm | hm
    · obtain ⟨_, _, a, _⟩ := y1 l hm; exact a
    · exact r.asc l hm
  · constructor
    · rintro ⟨m, hm, hs'⟩
      rcases List.mem_append.mp hm with hm | hm
      · obtain ⟨l, hl', _, e⟩ := y1 m hm
        exact ⟨⟨h, by simp, fun p hp => hs' p ((e p).mpr (by simp [hp]))⟩, (hl.enough S).mpr ⟨l, hl', fun p hp => hs' p ((e p).mpr (by simp [hp]))⟩⟩
      · obtain ⟨⟨g, h1, h2⟩, h3⟩ := (r.enough S).mp ⟨m, hm, hs'⟩
        exact ⟨⟨g, by simp [h1], h2⟩, h3⟩
    · rintro ⟨⟨g, h1, h2⟩, h3⟩
      rcases List.mem_cons.mp h1 with rfl | h1
      · obtain ⟨l, k1, k2⟩ := (hl.enough S).mp h3
        obtain ⟨y, hy, _, e⟩ := y2 l k1
        refine ⟨y, by simp [hy], fun p hp => ?_⟩
        rcases List.mem_append.mp ((e p).mp hp) with z | z
        · exact h2 p z
        · exact k2 p z
      · obtain ⟨m, hm, k⟩ := (r.enough S).mpr ⟨⟨g, h1, h2⟩, h3⟩
        exact ⟨m, by simp [hm], k⟩
  · rcases List.mem_append.mp hm with hm | hm
    · obtain ⟨l', k1, _, e⟩ := y1 l hm
      rcases List.mem_append.mp ((e p).mp hp) with z | z
      · exact hP p z
      · exact hB p (hl.sub l' k1 p z)
    · exact r.sub l hm p hp
theorem lots_both {a b : Dm} {la ms : List (List Pr)} (ha : Lots a la) (r : Prod la b ms (clm a ++ clm b)) : Lots (.both a b) ms := by
  refine ⟨r.asc, fun S => ?_, fun l hl p hp => r.sub l hl p hp⟩
  rw [hold_both, ha.enough, ← r.enough]
theorem tup_cat (h l : List Pr) : (h.map prD) ++ (l.map prD) = (h ++ l).map prD := by simp
theorem comp_lots {c : DSp} {b : Dm} {k : Nat} {pool : List Pr} {τ : DSt} {M : Sto} {Q : List D → Sto → Prop} {P : List Pr} (hn : 6 ≤ τ.length) (h3 : τ[3]? = some (some b.th.d)) (hk : k ≤ 3) (hb : ∀ K : DK, (∀ ls, Lots b ls → ls.length ≤ lb k → K (.lst (ls.map lotD)) M) → c [b.th.d] M K)
    (hB : ∀ p ∈ clm b, p ∈ P) (pool20 : pool.length ≤ 20) (hPp : ∀ p ∈ P, p ∈ pool) :
    ∀ (hs acc : List (List Pr)), (∀ l ∈ hs, Asc l ∧ ∀ p ∈ l, p ∈ P) → acc.length + hs.length * lb k ≤ 100000 → (∀ ms, Prod hs b ms P → ms.length ≤ hs.length * lb k → Q ((acc ++ ms).map lotD) M) →
    compD2 (dgName 4) dYes (iSeq (dCall c (dCons (dVar 3) dNil))) (dgName 5) dYes (dCB gTupOf (dCons (dSortSetT (dOp gAdd (dVar 4) (dVar 5))) dNil)) [5] τ Q (hs.map lotD) (acc.map lotD) M
  | [], acc, _, _, q => by
    have := q [] (prod_nil b P) (by simp)
    simpa [compD2] using this
  | h :: hs, acc, hh, hz, q => by
    rw [List.length_cons, Nat.add_mul] at hz
    obtain ⟨ha, hsub⟩ := hh h (by simp)
    have h34 : (τ.set 4 (some (lotD h)))[3]? = some (some b.th.d) := by rw [List.getElem?_set_ne (by decide)]; exact h3
    rw [List.map_cons]
    unfold compD2
    simp only [dgName, dYes, if_true, iSeq, dCall, dCons, dNil, dVar, h34]
    refine hb _ fun ls hls lsl => ?_
    simp only [seq_lst]
    have bk := lb_le hk
    refine comp_rel lotD lotD (fun l y => Asc y ∧ ∀ p, p ∈ y ↔ p ∈ h ++ l) ls acc _ (fun l hl K hK => ?_) (by rw [sizeLine_eq]; omega) fun ys yl y1 y2 => ?_
    · have e4 : ((dwipe (τ.set 4 (some (lotD h))) [5]).set 5 (some (lotD l)))[4]? = some (some (lotD h)) := by
        simp only [dwipe]
        rw [List.getElem?_set_ne (by decide), List.getElem?_set_ne (by decide), List.getElem?_set_self (by omega)]
      have e5 : ((dwipe (τ.set 4 (some (lotD h))) [5]).set 5 (some (lotD l)))[5]? = some (some (lotD l)) := by
        simp only [dwipe]
        rw [List.getElem?_set_self (by simp; omega)]
      have n1 := nd_le ha.nd (fun p hp => hPp p (hsub p hp))
      have n2 := nd_le (hls.asc l hl).nd (fun p hp => hPp p (hB p (hls.sub l hl p hp)))
      simp only [dCB, dCons, dNil, dSortSetT, dOp, dVar, e4, e5]
      rw [lotD_tup h, lotD_tup l]
      refine add_tup (a := h.map prD) (b := l.map prD) (by rw [sizeLine_eq, List.length_map, List.length_map]; omega) ?_
      rw [tup_cat]
      refine ⟨setOk_prs (by simp; omega), fun zs hzs => ?_⟩
      obtain ⟨m, rfl, m1, m2⟩ := sorted_prs hzs
      simp only [tup_lst]
      have := hK m ⟨m1, m2⟩
      rw [lotD_tup] at this
      exact this
    · refine comp_lots hn h3 hk hb hB pool20 hPp hs (acc ++ ys) (fun l hl => hh l (by simp [hl])) (by simp; omega) fun ms hp hml => ?_
      have := q (ys ++ ms) (prod_cons (pool := []) hls hsub hB y1 y2 hp) (by rw [List.length_cons, Nat.add_mul]; simp; omega)
      rw [List.append_assoc]; exact this
theorem ok_lots_of (k : Nat) : ∀ args M Q, spLots (k + 1) args M Q → t_lots_of (spLots k) (ends Q) (dstart N_lots_of.length args) M := by
  rintro args M Q ⟨dm, pool, rfl, hdp, hk, hp, hpl, q⟩
  show t_lots_of (spLots k) (ends Q) [some dm.th.d, none, none, none, none, none] M
  have pos : ∀ d : Dm, 1 ≤ d.dp := fun d => by cases d <;> simp [Dm.dp]
  have two : ∀ (a b : Dm) (hw : Str), (max a.dp b.dp + 1 ≤ k + 1) → (∀ p ∈ clm a ++ clm b, p ∈ pool) → hw ≠ "claim" → (∀ ls, Lots (if hw = ("either" : Str) then .eith a b else .both a b) ls → ls.length ≤ lb k → Q (.lst (ls.map lotD)) M) →
      t_lots_of (spLots k) (ends Q) [some (.tup [.str hw, a.th.d, b.th.d]), none, none, none, none, none] M := by
    intro a b hw hd hpp hc q
    cases k with
    | zero => have := pos a; omega
    | succ k =>
      have pa : ∀ p ∈ clm a, p ∈ pool := fun p hp => hpp p (by simp [hp])
      have pb : ∀ p ∈ clm b, p ∈ pool := fun p hp => hpp p (by simp [hp])
      have c1 := lb_le (k := k) (by omega)
      have c2 : 2 * lb k ≤ lb (k + 1) := by simp only [lb]; omega
      have c3 : lb k * lb k ≤ lb (k + 1) := by simp only [lb]; omega
      simp only [t_lots_of, dSeq, dAsg, dVar, List.getElem?_cons_zero, dgTup, dgCons, dgName, dgNil, List.set, List.length_cons, List.length_nil, true_and]
      simp only [t_lots_of_3, dSeq, dIfS, dTest, dOp, dVar, dC, List.getElem?_cons_zero, List.getElem?_cons_succ, eq_str, hc, decide_false, Bool.false_eq_true, if_false, dNext]
      simp only [t_lots_of_2, dSeq, dIfS, dTest, dOp, dVar, dC, List.getElem?_cons_zero, List.getElem?_cons_succ, eq_str]
      by_cases ce : hw = ("either" : Str)
      · rw [if_pos ce] at q
        simp only [ce, decide_true, if_true, dRet, dOp, dCall, dCons, dNil, dVar, List.getElem?_cons_zero, List.getElem?_cons_succ]
        refine ⟨a, pool, rfl, by omega, by omega, pa, hpl, fun la h1 l1 => ?_⟩
        refine ⟨b, pool, rfl, by omega, by omega, pb, hpl, fun lb' h2 l2 => ?_⟩
        simp only [gAdd, lst_lst, List.length_map]
        refine ⟨by rw [sizeLine_eq]; omega, ?_⟩
        rw [← List.map_append]
        exact done (q _ (lots_eith h1 h2) (by simp; omega))
      · rw [if_neg ce] at q
        simp only [ce, decide_false, Bool.false_eq_true, if_false, dNext]
        simp only [t_lots_of_1, dRet, dLc2]
        simp only [iSeq, dCall, dCons, dNil, dVar, List.getElem?_cons_zero, List.getElem?_cons_succ]
        refine ⟨a, pool, rfl, by omega, by omega, pa, hpl, fun la h1 l1 => ?_⟩
        simp only [seq_lst, dwipe, List.set]
        refine comp_lots (c := spLots (k + 1)) (b := b) (k := k) (pool := pool) (P := clm a ++ clm b) (by simp) rfl (by omega) (fun K hK => ⟨b, pool, rfl, by omega, by omega, pb, hpl, hK⟩) (fun p hp => by simp [hp]) hpl hpp la [] (fun l hl => ⟨h1.asc l hl, fun p hp => by simp [h1.sub l hl p hp]⟩) ?_ fun ms hm hml => ?_
        · have : la.length * lb k ≤ 16 * 16 := Nat.mul_le_mul (by omega) c1
          simp; omega
        · rw [List.nil_append]
          have : la.length * lb k ≤ lb k * lb k := Nat.mul_le_mul_right _ l1
          exact done (q ms (lots_both h1 hm) (by omega))
  cases dm with
  | claim s n =>
    obtain ⟨w, hw⟩ : ∃ w : Str, w = "claim" := ⟨_, rfl⟩
    have y : decide (w = "claim") = true := decide_eq_true hw
    simp only [Dm.th, Th.d, Th.ds]
    rw [← hw]
    simp only [t_lots_of, dSeq, dAsg, dVar, List.getElem?_cons_zero, dgTup, dgCons, dgName, dgNil, List.set, List.length_cons, List.length_nil, true_and]
    simp only [t_lots_of_3, dSeq, dIfS, dTest, dOp, dVar, dC, List.getElem?_cons_zero, List.getElem?_cons_succ, eq_str, y, if_true, dRet, dLst, dTup, dCons, dNil, List.length_cons, List.length_nil, Nat.zero_add, Nat.reduceAdd, size1, size2, true_and]
    have e : D.lst [D.tup [D.tup [.str s, .int n]]] = .lst ([[(s, n)]].map lotD) := by simp [lotD_tup, prD, prT_d]
    rw [e]
    have : 1 ≤ lb k := by
      have : ∀ k, 1 ≤ lb k := fun k => by
        induction k with
        | zero => decide
        | succ k ih => simp only [lb]; omega
      exact this k
    exact done (q _ (lots_claim s n) (by simpa using this))
  | both a b =>
    have := two a b "both" hdp hp ne_cb.symm (by rw [if_neg ne_be]; exact q)
    simpa only [Dm.th, Th.d, Th.ds] using this
  | eith a b =>
    have := two a b "either" hdp hp ne_ce.symm (by rw [if_pos rfl]; exact q)
    simpa only [Dm.th, Th.d, Th.ds] using this
/-! ### has_all -/
def okP (p : Pr) : Prop := nice p.1 ∧ small p.2
noncomputable def hasAll (l m : List Pr) : Bool := m.all fun p => decide (p ∈ l)
theorem hasAll_iff {l m : List Pr} : hasAll l m = true ↔ ∀ p ∈ m, p ∈ l := by simp [hasAll]
theorem in_lot {p : Pr} {l : List Pr} {M : Sto} {Q : DK} (hp : okP p) (hl : ∀ p ∈ l, okP p) (q : Q (.bl (decide (p ∈ l))) M) : gIn 250 false (prD p) (lotD l) M Q := by
  refine in_ths (ts := l.map prT) rfl (prT_ok hp) (by simp [prT, pr, Th.dp, Th.dps]) (prTs_ok hl) ?_
  have : decide (prT p ∈ l.map prT) = decide (p ∈ l) := decide_eq_decide.mpr prT_mem
  rw [this]; exact q
def spHasAll : DSp := fun args M Q => ∃ l m : List Pr, args = [lotD l, lotD m] ∧ (∀ p ∈ l, okP p) ∧ (∀ p ∈ m, okP p) ∧ m.length ≤ 1000 ∧ Q (.bl (hasAll l m)) M
theorem ok_has_all : ∀ args M Q, spHasAll args M Q → t_has_all (ends Q) (dstart N_has_all.length args) M := by
  rintro args M Q ⟨l, m, rfl, hl, hm, hz, q⟩
  show t_has_all (ends Q) [some (lotD l), some (lotD m), none] M
  simp only [t_has_all, dRet, dCB, dCons, dNil, dLc, iSeq, dVar, dwipe, List.set, List.getElem?_cons_zero, List.getElem?_cons_succ]
  rw [show lotD m = .tup (m.map prD) from lotD_tup m]
  dsimp only
  refine comp_map prD (fun p => D.bl (decide (p ∈ l))) m [] _ (fun p hp K hK => ?_) (by rw [sizeLine_eq]; simp; omega) ?_
  · simp only [dOp, dVar, List.set, List.getElem?_cons_zero, List.getElem?_cons_succ]
    exact in_lot (hm p hp) hl hK
  · rw [List.nil_append]
    exact gAll_of (done q)
end DL

/-! A3: neat; the law's claims. -/
namespace DL
open PySem PySem.Spec PyProof.Rows L2
open Classical
theorem ne_lot {l m : List Pr} {M : Sto} {Q : DK} (hl : ∀ p ∈ l, okP p) (hm : ∀ p ∈ m, okP p) (q : Q (.bl (decide (l ≠ m))) M) : gNe 250 (lotD l) (lotD m) M Q := by
  have e : eqData 250 (lotD l) (lotD m) fun b => Q (.bl (!b)) M := by
    refine ⟨_, _, bun_py _, bun_py _, ?_, ?_, ?_, ?_⟩
    · simp only [bP, PyData.canLay0]; exact lay_pys _ (prTs_ok hl)
    · simp only [bP, PyData.canLay0]; exact lay_pys _ (prTs_ok hm)
    · have dl : ∀ l : List Pr, Th.dps (l.map prT) ≤ 1 := fun l => by
        induction l with
        | nil => simp [Th.dps]
        | cons p l ih => simp [Th.dps, prT, pr, Th.dp] at ih ⊢; omega
      rw [bun_depth, bun_depth]
      have := dl l
      omega
    · have : PyData.eqv (bP (l.map prT)) (bP (m.map prT)) = decide (l = m) := by
        simp only [bP, PyData.eqv]
        by_cases c : l = m
        · rw [c, decide_eq_true rfl]
          exact (eqv_pys _ _ (prTs_ok hm) (prTs_ok hm)).mpr rfl
        · rw [decide_eq_false c]
          cases z : PyData.eqvAll (Th.pys (l.map prT)) (Th.pys (m.map prT)) with
          | false => rfl
          | true => exact absurd (eqv_prs l m z) c
      rw [this]
      have e2 : (!decide (l = m)) = decide (l ≠ m) := by simp
      show Q (.bl (!decide (l = m))) M
      rw [e2]; exact q
  rw [lotD_tup, lotD_tup] at e ⊢
  exact e
/-! ### the least lots -/
noncomputable def keepL (ms : List (List Pr)) (l : List Pr) : Bool := !(ms.any fun o => decide (o ≠ l) && hasAll l o)
theorem neat_of {dm : Dm} {ls ms : List (List Pr)} (h : Lots dm ls) (nd : ms.Nodup) (le : ms.Pairwise leL) (mem : ∀ l, l ∈ ms ↔ l ∈ ls) : Neat dm (ms.filter (keepL ms)) := by
  refine ⟨nd.sublist List.filter_sublist, le.sublist List.filter_sublist, fun l => ?_⟩
  have key : ∀ l, keepL ms l = true ↔ ∀ o ∈ ls, o ≠ l → ¬ ∀ p ∈ o, p ∈ l := fun l => by
    simp only [keepL, Bool.not_eq_true', List.any_eq_false, Bool.and_eq_true, decide_eq_true_eq, hasAll_iff, not_and]
    exact ⟨fun z o ho => z o ((mem o).mpr ho), fun z o ho => z o ((mem o).mp ho)⟩
  have hold : ∀ o ∈ ls, Hold dm o := fun o ho => (h.enough o).mpr ⟨o, ho, fun p hp => hp⟩
  rw [List.mem_filter, mem, key]
  constructor
  · rintro ⟨h1, h2⟩
    refine ⟨h.asc l h1, h.sub l h1, hold l h1, fun m ma ms' mh => ?_⟩
    obtain ⟨o, ho, k⟩ := (h.enough m).mp mh
    have e : o = l := Classical.byContradiction fun z => h2 o ho z fun p hp => ms' p (k p hp)
    subst e
    exact ma.ext (h.asc o ho) fun p => ⟨ms' p, k p⟩
  · rintro ⟨la, _, lh, lm⟩
    obtain ⟨o, ho, k⟩ := (h.enough l).mp lh
    have e := lm o (h.asc o ho) k (hold o ho)
    subst e
    exact ⟨ho, fun r hr hne z => hne (lm r (h.asc r hr) z (hold r hr))⟩
def NeatO : Option Dm → List (List Pr) → Prop
  | none, ls => ls = [[]]
  | some dm, ls => Neat dm ls
theorem NeatO.one {o : Option Dm} {ls ms : List (List Pr)} (a : NeatO o ls) (b : NeatO o ms) : ls = ms := by
  cases o with
  | none => exact Eq.trans a (Eq.symm b)
  | some dm => exact Neat.one a b
/-- a demand as it is drawn -/
structure Dr (dm : Dm) (pool : List Pr) : Prop where
  dp : dm.dp ≤ 4
  sub : ∀ p ∈ clm dm, p ∈ pool
  len : pool.length ≤ 20
  ok : ∀ p ∈ pool, okP p
def spNeat : DSp := fun args M Q => ∃ o : Option Dm, args = [oD o] ∧ (∀ dm, o = some dm → ∃ pool, Dr dm pool) ∧ ∀ ls, NeatO o ls → ls.length ≤ 16 → Q (.tup (ls.map lotD)) M
theorem ok_neat : ∀ args M Q, spNeat args M Q → t_neat (spLots 4) spHasAll (ends Q) (dstart N_neat.length args) M := by
  rintro args M Q ⟨o, rfl, ho, q⟩
  show t_neat (spLots 4) spHasAll (ends Q) [some (oD o), none, none, none] M
  cases o with
  | none =>
    simp only [t_neat, dSeq, dIfS, dTest, dOp, dVar, dC, List.getElem?_cons_zero, oD, gIs, isNon, if_true, dRet, dTup, dCons, dNil, List.length_cons, List.length_nil, Nat.zero_add, size1, Nat.zero_le, true_and]
    have e : D.tup [D.tup []] = .tup ([[]].map lotD) := by simp [lotD_tup]
    rw [e]
    exact done (q _ rfl (by simp))
  | some dm =>
    obtain ⟨pool, hd⟩ := ho dm rfl
    have en : isNon dm.th.d = false := by cases dm <;> simp [Dm.th, Th.d, isNon]
    simp only [t_neat, dSeq, dIfS, dTest, dOp, dVar, dC, List.getElem?_cons_zero, oD, gIs, en, Bool.false_eq_true, if_false, dNext]
    simp only [t_neat_2, dSeq, dAsg, dSortSet, dCall, dCons, dNil, dVar, List.getElem?_cons_zero]
    refine ⟨dm, pool, rfl, Nat.le_trans hd.dp (by decide), by decide, hd.sub, hd.len, fun ls hls hll => ?_⟩
    have hll : ls.length ≤ 16 := Nat.le_trans hll (by decide)
    simp only [lst_lst]
    refine ⟨setOk_lots (by omega) hls.ne, fun ys hys => ?_⟩
    obtain ⟨ms, rfl, m1, m2, m3⟩ := sorted_lots hys
    have mlen : ms.length ≤ 16 := by
      have : ms.length ≤ ls.length := nd_len m1 fun l hl => (m3 l).mp hl
      omega
    have mok : ∀ l ∈ ms, (∀ p ∈ l, okP p) ∧ l.length ≤ 20 := fun l hl => by
      have h1 := (m3 l).mp hl
      have h2 : ∀ p ∈ l, p ∈ pool := fun p hp => hd.sub p (hls.sub l h1 p hp)
      refine ⟨fun p hp => hd.ok p (h2 p hp), ?_⟩
      have := nd_le (hls.asc l h1).nd h2
      have := hd.len
      omega
    simp only [dgName, List.set]
    simp only [t_neat_1, dRet, dCB, dCons, dNil, dLc, iSeq, dVar, dwipe, List.set, List.getElem?_cons_zero, List.getElem?_cons_succ]
    refine comp_pick (e := lotD) (keepL ms) (by simp) ms [] _ (fun l hl K hK => ?_) (by rw [sizeLine_eq]; simp; omega) ?_
    · simp only [dNot, dTest, dCB, dCons, dNil, dLc, iSeq, dVar, dwipe, List.set, List.getElem?_cons_zero, List.getElem?_cons_succ]
      refine comp_map lotD (fun o => D.bl (decide (o ≠ l) && hasAll l o)) ms [] _ (fun o ho K2 hK2 => ?_) (by rw [sizeLine_eq]; simp; omega) ?_
      · simp only [dAndV, dOp, dCall, dCons, dNil, dVar, List.set, List.getElem?_cons_zero, List.getElem?_cons_succ]
        refine ne_lot (mok o ho).1 (mok l hl).1 ?_
        by_cases c : o = l
        · subst c
          simpa using hK2
        · have e : decide (o ≠ l) = true := decide_eq_true c
          simp only [e, if_true]
          rw [e, Bool.true_and] at hK2
          exact ⟨l, o, rfl, (mok l hl).1, (mok o ho).1, by have := (mok o ho).2; omega, hK2⟩
      · rw [List.nil_append]
        refine gAny_of ?_
        exact hK
    · rw [List.nil_append]
      refine done (q _ (neat_of hls m1 m2 m3) ?_)
      have := List.length_filter_le (keepL ms) ms
      omega
/-! ### the law's claims -/
def clmO : Option Dm → List Pr
  | none => []
  | some dm => clm dm
def spClaims : Nat → DSp
  | 0 => fun _ _ _ => False
  | k + 1 => fun args M Q => ∃ (o : Option Dm) (pool : List Pr), args = [oD o] ∧ (∀ dm, o = some dm → dm.dp ≤ k + 1) ∧ (∀ p ∈ clmO o, p ∈ pool) ∧ pool.length ≤ 30 ∧
    ∀ L : List Pr, Asc L → (∀ p, p ∈ L ↔ p ∈ clmO o) → L.length ≤ pool.length → Q (.lst (L.map prD)) M
theorem ok_law_claims (k : Nat) : ∀ args M Q, spClaims (k + 1) args M Q → t_law_claims (spClaims k) (ends Q) (dstart N_law_claims.length args) M := by
  rintro args M Q ⟨o, pool, rfl, hk, hp, hpl, q⟩
  show t_law_claims (spClaims k) (ends Q) [some (oD o)] M
  cases o with
  | none =>
    simp only [t_law_claims, dSeq, dIfS, dTest, dOp, dVar, dC, List.getElem?_cons_zero, oD, gIs, isNon, if_true, dRet, dLst, dNil, List.length_nil]
    exact ⟨sl_le (by omega), done (q [] ⟨by simp, by simp⟩ (by simp [clmO]) (by simp))⟩
  | some dm =>
    have hdp := hk dm rfl
    have pos : ∀ d : Dm, 1 ≤ d.dp := fun d => by cases d <;> simp [Dm.dp]
    have ix2 : ∀ (a b c : D) (M : Sto) (K : DK), gIx (.tup [a, b, c]) (.int 2) M K = K c M := fun a b c M K => by simp [gIx, seqOf, atI, ixN]
    have two : ∀ (a b : Dm) (hw : Str), (max a.dp b.dp + 1 ≤ k + 1) → (∀ p ∈ clm a ++ clm b, p ∈ pool) → hw ≠ "claim" →
        (∀ L : List Pr, Asc L → (∀ p, p ∈ L ↔ p ∈ clm a ++ clm b) → L.length ≤ pool.length → Q (.lst (L.map prD)) M) →
        t_law_claims (spClaims k) (ends Q) [some (.tup [.str hw, a.th.d, b.th.d])] M := by
      intro a b hw hd hpp hc q
      cases k with
      | zero => have := pos a; omega
      | succ k =>
        simp only [t_law_claims, dSeq, dIfS, dTest, dOp, dVar, dC, List.getElem?_cons_zero, gIs, isNon, Bool.false_eq_true, if_false, dNext]
        simp only [t_law_claims_2, dSeq, dIfS, dTest, dOp, dVar, dC, List.getElem?_cons_zero, ix_tup0, eq_str, hc, decide_false, Bool.false_eq_true, if_false, dNext]
        simp only [t_law_claims_1, dRet, dSortSet, dOp, dCall, dCons, dNil, dVar, dC, List.getElem?_cons_zero, ix_tup1, ix2]
        refine ⟨some a, pool, rfl, (fun d hd' => by cases hd'; omega), (fun p hp => hpp p (by simp only [clmO] at hp; simp [hp])), hpl, fun L1 a1 m1 l1 => ?_⟩
        refine ⟨some b, pool, rfl, (fun d hd' => by cases hd'; omega), (fun p hp => hpp p (by simp only [clmO] at hp; simp [hp])), hpl, fun L2 a2 m2 l2 => ?_⟩
        simp only [clmO] at m1 m2
        simp only [gAdd, lst_lst, List.length_map]
        refine ⟨by rw [sizeLine_eq]; omega, ?_⟩
        rw [← List.map_append]
        refine ⟨setOk_prs (by simp; omega), fun ys hys => ?_⟩
        obtain ⟨m, rfl, z1, z2⟩ := sorted_prs hys
        have mem : ∀ p, p ∈ m ↔ p ∈ clm a ++ clm b := fun p => by rw [z2, List.mem_append, List.mem_append, m1, m2]
        exact done (q m z1 mem (nd_le z1.nd fun p hp => hpp p ((mem p).mp hp)))
    cases dm with
    | claim s n =>
      obtain ⟨w, hw⟩ : ∃ w : Str, w = "claim" := ⟨_, rfl⟩
      have y : decide (w = "claim") = true := decide_eq_true hw
      have h1 : 1 ≤ pool.length := List.length_pos_iff.mpr fun z => by
        have := hp (s, n) (by simp [clmO, clm])
        rw [z] at this; cases this
      simp only [oD, Dm.th, Th.d, Th.ds]
      rw [← hw]
      simp only [t_law_claims, dSeq, dIfS, dTest, dOp, dVar, dC, List.getElem?_cons_zero, gIs, isNon, Bool.false_eq_true, if_false, dNext]
      simp only [t_law_claims_2, dSeq, dIfS, dTest, dOp, dVar, dC, List.getElem?_cons_zero, List.getElem?_cons_succ, ix_tup0, eq_str, y, if_true, dRet, dLst, dCons, dNil, dSl, dPart, dNoPart, gCut_tup, cut_tail, List.length_cons, List.length_nil]
      have e : D.tup [.str s, .int n] = prD (s, n) := (prT_d (s, n)).symm
      rw [e]
      exact ⟨sl_le (by omega), done (q [(s, n)] (asc_one _) (by simp [clmO, clm]) (by simpa using h1))⟩
    | both a b =>
      have := two a b "both" hdp (by simpa [clmO, clm] using hp) ne_cb.symm (by simpa [clmO, clm] using q)
      simpa only [oD, Dm.th, Th.d, Th.ds] using this
    | eith a b =>
      have := two a b "either" hdp (by simpa [clmO, clm] using hp) ne_ce.symm (by simpa [clmO, clm] using q)
      simpa only [oD, Dm.th, Th.d, Th.ds] using this
end DL

/-! A4: the law's lots, its own neat. -/
namespace DL
open PySem PySem.Spec PyProof.Rows L2
open Classical
/-! ### least lots, once more -/
theorem least_sub {dm : Dm} {l : List Pr} (a : Asc l) (h : Hold dm l) (m : ∀ m, Asc m → (∀ p ∈ m, p ∈ l) → Hold dm m → m = l) : ∀ p ∈ l, p ∈ clm dm := by
  have e := m (l.filter fun p => decide (p ∈ clm dm)) (a.sub List.filter_sublist) (fun p hp => (List.mem_filter.mp hp).1) (hold_only dm (fun p hp hl => List.mem_filter.mpr ⟨hl, decide_eq_true hp⟩) h)
  intro p hp
  rw [← e] at hp
  exact of_decide_eq_true (List.mem_filter.mp hp).2
theorem neat_same {dm dm' : Dm} {ls : List (List Pr)} (s : ∀ S, Hold dm S ↔ Hold dm' S) (h : Neat dm ls) : Neat dm' ls := by
  refine ⟨h.nd, h.le, fun l => ?_⟩
  rw [h.mem]
  constructor
  · rintro ⟨a, _, b, c⟩
    have c' : ∀ m, Asc m → (∀ p ∈ m, p ∈ l) → Hold dm' m → m = l := fun m h1 h2 h3 => c m h1 h2 ((s m).mpr h3)
    exact ⟨a, least_sub a ((s l).mp b) c', (s l).mp b, c'⟩
  · rintro ⟨a, _, b, c⟩
    have c' : ∀ m, Asc m → (∀ p ∈ m, p ∈ l) → Hold dm m → m = l := fun m h1 h2 h3 => c m h1 h2 ((s m).mp h3)
    exact ⟨a, least_sub a ((s l).mpr b) c', (s l).mpr b, c'⟩
/-- what holds has a least lot within -/
theorem least_in {dm : Dm} : ∀ (n : Nat) (l : List Pr), l.length ≤ n → Asc l → Hold dm l → ∃ m, Least dm m ∧ ∀ p ∈ m, p ∈ l
  | n, l, hn, a, h => by
    by_cases c : ∀ m, Asc m → (∀ p ∈ m, p ∈ l) → Hold dm m → m = l
    · exact ⟨l, ⟨a, least_sub a h c, h, c⟩, fun p hp => hp⟩
    · simp only [Classical.not_forall] at c
      obtain ⟨m, am, ml, mh, ne⟩ := c
      have lt : m.length < l.length := by
        refine Nat.lt_of_le_of_ne (nd_le am.nd ml) fun e => ne (am.ext a fun p => ⟨ml p, fun hp => ?_⟩)
        refine Classical.byContradiction fun hm => ?_
        have := nd_le (l := p :: m) (pool := l) (List.nodup_cons.mpr ⟨hm, am.nd⟩) fun r hr => by
          rcases List.mem_cons.mp hr with rfl | hr
          · exact hp
          · exact ml r hr
        simp at this
        omega
      cases n with
      | zero => omega
      | succ n =>
        obtain ⟨r, hr, hs⟩ := least_in n m (by omega) am mh
        exact ⟨r, hr, fun p hp => ml p (hs p hp)⟩
theorem asc_sub {m L : List Pr} (a : Asc m) (b : Asc L) (h : ∀ p ∈ m, p ∈ L) : List.Sublist m L := by
  have e : m = L.filter fun p => decide (p ∈ m) := a.ext (b.sub List.filter_sublist) fun p => by
    rw [List.mem_filter, decide_eq_true_eq]
    exact ⟨fun hp => ⟨h p hp, hp⟩, fun hp => hp.2⟩
  rw [e]
  exact List.filter_sublist
/-! ### all lots -/
def stepL (fs : List (List Pr)) (x : Pr) : List (List Pr) := fs ++ fs.map fun l => l ++ [x]
def allL (L : List Pr) : List (List Pr) := L.foldl stepL [[]]
theorem allL_snoc (L : List Pr) (x : Pr) : allL (L ++ [x]) = stepL (allL L) x := by simp [allL]
theorem allL_len (L : List Pr) : (allL L).length = 2 ^ L.length := by
  have : ∀ (L : List Pr) (fs : List (List Pr)), (L.foldl stepL fs).length = fs.length * 2 ^ L.length := by
    intro L
    induction L with
    | nil => intro fs; simp
    | cons x r ih =>
      intro fs
      rw [List.foldl_cons, ih]
      simp only [stepL, List.length_append, List.length_map, List.length_cons, Nat.pow_succ]
      rw [← Nat.two_mul, Nat.mul_comm 2 fs.length, Nat.mul_assoc, Nat.mul_comm 2]
  rw [allL, this]; simp
theorem mem_all : ∀ {L : List Pr} {l : List Pr}, l ∈ allL L ↔ List.Sublist l L := by
  have : ∀ (R : List Pr) (l : List Pr), l ∈ allL R.reverse ↔ List.Sublist l R.reverse := by
    intro R
    induction R with
    | nil => intro l; simp [allL]
    | cons x R ih =>
      intro l
      rw [List.reverse_cons, allL_snoc, stepL, List.mem_append, ih, List.mem_map, List.sublist_append_iff]
      constructor
      · rintro (h | ⟨m, hm, rfl⟩)
        · exact ⟨l, [], by simp, h, by simp⟩
        · exact ⟨m, [x], rfl, (ih m).mp hm, List.Sublist.refl _⟩
      · rintro ⟨a, b, rfl, h1, h2⟩
        cases b with
        | nil => left; simpa using h1
        | cons y b =>
          have hl := h2.length_le
          rw [List.length_cons, List.length_cons, List.length_nil] at hl
          have eb : b = [] := List.eq_nil_of_length_eq_zero (by omega)
          subst eb
          have ey : y = x := by simpa using h2
          subst ey
          exact .inr ⟨a, (ih a).mpr h1, rfl⟩
  intro L l
  have := this L.reverse l
  rwa [List.reverse_reverse] at this
theorem allL_nd {L : List Pr} (h : L.Nodup) : (allL L).Nodup := by
  have : ∀ (R : List Pr), R.reverse.Nodup → (allL R.reverse).Nodup := by
    intro R
    induction R with
    | nil => intro _; simp [allL]
    | cons x R ih =>
      intro h
      rw [List.reverse_cons] at h ⊢
      rw [allL_snoc, stepL]
      have h1 : R.reverse.Nodup := h.sublist (List.sublist_append_left _ _)
      have hx : x ∉ R.reverse := fun hx => by
        rw [List.nodup_append] at h
        exact h.2.2 x hx x (by simp) rfl
      rw [List.nodup_append]
      refine ⟨ih h1, ?_, fun a ha b hb e => ?_⟩
      · rw [List.nodup_iff_pairwise_ne, List.pairwise_map]
        exact (List.nodup_iff_pairwise_ne.mp (ih h1)).imp fun hne e => hne (List.append_cancel_right e)
      · obtain ⟨m, hm, rfl⟩ := List.mem_map.mp hb
        subst e
        exact hx ((mem_all.mp ha).subset (by simp))
  have := this L.reverse (by rw [List.reverse_reverse]; exact h)
  rwa [List.reverse_reverse] at this
def spAll : DSp := fun args M Q => ∃ L : List Pr, args = [.lst (L.map prD)] ∧ L.length ≤ 10 ∧ Q (.lst ((allL L).map lotD)) M
theorem ok_law_lots : ∀ args M Q, spAll args M Q → t_law_lots (ends Q) (dstart N_law_lots.length args) M := by
  rintro args M Q ⟨L, rfl, hl, q⟩
  show t_law_lots (ends Q) [some (.lst (L.map prD)), none, none, none] M
  simp only [t_law_lots, dSeq, dAsg, dLst, dTup, dCons, dNil, List.length_cons, List.length_nil, Nat.zero_add, size1, Nat.zero_le, true_and, dgName, List.set]
  simp only [t_law_lots_3, dSeq, dFor, iSeq, dVar, List.getElem?_cons_zero, List.getElem?_cons_succ]
  have e0 : D.lst [D.tup []] = .lst (([[]] : List (List Pr)).map lotD) := by simp [lotD_tup]
  rw [e0]
  refine loop_inv (fun ds τ M' => M' = M ∧ ∃ (rs : List Pr) (fs : List (List Pr)) (a b : Option D), ds = rs.map prD ∧ τ = [some (.lst (L.map prD)), some (.lst (fs.map lotD)), a, b] ∧ rs.foldl stepL fs = allL L ∧ fs.length * 2 ^ rs.length ≤ 2 ^ 10 ∧ ∀ l ∈ fs, l.length + rs.length ≤ 10) ?_ ?_ _ _ _
    ⟨rfl, L, [[]], _, _, rfl, rfl, rfl, by simp; exact Nat.pow_le_pow_right (by decide) hl, by simpa using hl⟩
  · rintro d ds τ M' K ⟨rfl, rs, fs, a, b, hds, rfl, hf, hz, hfs⟩ hK
    cases rs with
    | nil => cases hds
    | cons x rs =>
    obtain ⟨rfl, rfl⟩ : d = prD x ∧ ds = rs.map prD := by simpa using hds
    have hp : 1 ≤ 2 ^ rs.length := Nat.one_le_two_pow
    have hfl : fs.length ≤ 1024 := by
      rw [List.length_cons, Nat.pow_succ] at hz
      have h1 : fs.length * 1 ≤ fs.length * (2 ^ rs.length * 2) := Nat.mul_le_mul_left _ (by omega)
      omega
    simp only [dgName, List.set, t_law_lots_1, dAsg, dOp, dVar, dLc, iSeq, dwipe, List.getElem?_cons_zero, List.getElem?_cons_succ]
    refine comp_map lotD (fun l => lotD (l ++ [x])) fs [] _ (fun l hl K2 hK2 => ?_) (by rw [sizeLine_eq]; simp; omega) ?_
    · simp only [dOp, dTup, dCons, dNil, dVar, List.set, List.getElem?_cons_zero, List.getElem?_cons_succ, List.length_cons, List.length_nil, Nat.zero_add, size1, true_and]
      rw [lotD_tup l]
      refine ⟨?_, ?_⟩
      · have := hfs l hl
        rw [List.length_cons] at this
        rw [sizeLine_eq, List.length_map]; simp; omega
      · rw [lotD_tup] at hK2
        simpa using hK2
    · rw [List.nil_append]
      simp only [gAdd, lst_lst]
      refine ⟨by rw [sizeLine_eq, List.length_map, List.length_map]; omega, ?_⟩
      have e : fs.map lotD ++ fs.map (fun l => lotD (l ++ [x])) = (stepL fs x).map lotD := by simp [stepL, List.map_map, Function.comp_def]
      rw [e]
      refine hK _ _ ⟨rfl, rs, stepL fs x, _, _, rfl, rfl, hf, ?_, fun l hl => ?_⟩
      rotate_left
      · rcases List.mem_append.mp hl with hl | hl
        · have := hfs l hl; rw [List.length_cons] at this; omega
        · obtain ⟨m, hm, rfl⟩ := List.mem_map.mp hl
          have := hfs m hm; rw [List.length_cons] at this; simp; omega
      rw [List.length_cons, Nat.pow_succ] at hz
      simp only [stepL, List.length_append, List.length_map]
      rw [← Nat.two_mul, Nat.mul_comm 2 fs.length, Nat.mul_assoc, Nat.mul_comm 2]
      exact hz
  · rintro τ M' ⟨rfl, rs, fs, a, b, hds, rfl, hf, _, _⟩
    have er : rs = [] := by cases rs with
      | nil => rfl
      | cons _ _ => cases hds
    subst er
    simp only [t_law_lots_2, dRet, dVar, List.getElem?_cons_zero, List.getElem?_cons_succ]
    have hf : fs = allL L := hf
    rw [hf]
    exact done q
/-! ### the law's own neat -/
noncomputable def keepA (es : List (List Pr)) (l : List Pr) : Bool := !(es.any fun o => decide (o.length < l.length) && hasAll l o)
theorem neat_all {dm : Dm} {L : List Pr} {ms : List (List Pr)} (a : Asc L) (hL : ∀ p, p ∈ L ↔ p ∈ clm dm) (pm : ms.Perm (((allL L).filter fun l => truthB l dm).filter (keepA ((allL L).filter fun l => truthB l dm)))) (le : ms.Pairwise leL) : Neat dm ms := by
  have nd : (((allL L).filter fun l => truthB l dm).filter (keepA ((allL L).filter fun l => truthB l dm))).Nodup := ((allL_nd a.nd).sublist List.filter_sublist).sublist List.filter_sublist
  have en : ∀ l, l ∈ ((allL L).filter fun l => truthB l dm) ↔ List.Sublist l L ∧ Hold dm l := fun l => by rw [List.mem_filter, mem_all]; rfl
  refine ⟨pm.nodup_iff.mpr nd, le, fun l => ?_⟩
  rw [pm.mem_iff, List.mem_filter, en]
  have key : keepA ((allL L).filter fun l => truthB l dm) l = true ↔ ∀ o, List.Sublist o L → Hold dm o → o.length < l.length → ¬ ∀ p ∈ o, p ∈ l := by
    simp only [keepA, Bool.not_eq_true', List.any_eq_false, Bool.and_eq_true, decide_eq_true_eq, hasAll_iff, not_and]
    exact ⟨fun z o h1 h2 => z o ((en o).mpr ⟨h1, h2⟩), fun z o ho => z o ((en o).mp ho).1 ((en o).mp ho).2⟩
  rw [key]
  constructor
  · rintro ⟨⟨h1, h2⟩, h3⟩
    have al := a.sub h1
    refine ⟨al, fun p hp => (hL p).mp (h1.subset hp), h2, fun m am ml mh => ?_⟩
    have ms' := asc_sub am a fun p hp => h1.subset (ml p hp)
    refine am.ext al fun p => ⟨ml p, fun hp => Classical.byContradiction fun hm => ?_⟩
    refine h3 m ms' mh ?_ ml
    have := nd_le (l := p :: m) (pool := l) (List.nodup_cons.mpr ⟨hm, am.nd⟩) fun r hr => by
      rcases List.mem_cons.mp hr with rfl | hr
      · exact hp
      · exact ml r hr
    simp at this
    omega
  · rintro ⟨al, ls, lh, lm⟩
    refine ⟨⟨asc_sub al a fun p hp => (hL p).mpr (ls p hp), lh⟩, fun o os oh ol z => ?_⟩
    have := lm o (a.sub os) z oh
    subst this
    omega
end DL

/-! A5: the law's neat walked; alike through and through; how deep; turned about. -/
namespace DL
open PySem PySem.Spec PyProof.Rows L2
open Classical
theorem len_lot {l : List Pr} {M : Sto} {Q : DK} : gLen [lotD l] M Q = Q (.int l.length) M := by rw [lotD_tup, len_tup, List.length_map]
/-! ### how deep -/
def spDeep : Nat → DSp
  | 0 => fun _ _ _ => False
  | k + 1 => fun args M Q => ∃ dm : Dm, args = [dm.th.d] ∧ dm.dp ≤ k + 1 ∧ Q (.int dm.dp) M
theorem dp_pos : ∀ d : Dm, 1 ≤ d.dp := fun d => by cases d <;> simp [Dm.dp]
theorem ok_law_demand_deep (k : Nat) : ∀ args M Q, spDeep (k + 1) args M Q → t_law_demand_deep (spDeep k) (ends Q) (dstart N_law_demand_deep.length args) M := by
  rintro args M Q ⟨dm, rfl, hdp, q⟩
  show t_law_demand_deep (spDeep k) (ends Q) [some dm.th.d] M
  have ix2 : ∀ (a b c : D) (M : Sto) (K : DK), gIx (.tup [a, b, c]) (.int 2) M K = K c M := fun a b c M K => by simp [gIx, seqOf, atI, ixN]
  have two : ∀ (a b : Dm) (hw : Str), (max a.dp b.dp + 1 ≤ k + 1) → hw ≠ "claim" → Q (.int ((max a.dp b.dp + 1 : Nat) : Int)) M → t_law_demand_deep (spDeep k) (ends Q) [some (.tup [.str hw, a.th.d, b.th.d])] M := by
    intro a b hw hd hc q
    cases k with
    | zero => have := dp_pos a; omega
    | succ k =>
      simp only [t_law_demand_deep, dSeq, dIfS, dTest, dOp, dVar, dC, List.getElem?_cons_zero, ix_tup0, eq_str, hc, decide_false, Bool.false_eq_true, if_false, dNext]
      simp only [t_law_demand_deep_1, dRet, dOp, dCB, dCall, dCons, dNil, dC, dVar, List.getElem?_cons_zero, ix_tup1, ix2]
      refine ⟨a, rfl, by omega, b, rfl, by omega, ?_⟩
      simp only [gMax2, gAdd]
      have e : (1 : Int) + (if (b.dp : Int) > (a.dp : Int) then (b.dp : Int) else (a.dp : Int)) = ((max a.dp b.dp + 1 : Nat) : Int) := by
        split <;> omega
      rw [e]
      exact done q
  cases dm with
  | claim s n =>
    obtain ⟨w, hw⟩ : ∃ w : Str, w = "claim" := ⟨_, rfl⟩
    have y : decide (w = "claim") = true := decide_eq_true hw
    simp only [Dm.th, Th.d, Th.ds]
    rw [← hw]
    simp only [t_law_demand_deep, dSeq, dIfS, dTest, dOp, dVar, dC, List.getElem?_cons_zero, ix_tup0, eq_str, y, if_true, dRet]
    exact done q
  | both a b =>
    have := two a b "both" hdp ne_cb.symm q
    simpa only [Dm.th, Th.d, Th.ds] using this
  | eith a b =>
    have := two a b "either" hdp ne_ce.symm q
    simpa only [Dm.th, Th.d, Th.ds] using this
/-! ### turned about -/
/-- holds alike, of no other claims, as deep -/
structure Alike (dm dm' : Dm) : Prop where
  hold : ∀ S, Hold dm S ↔ Hold dm' S
  sub : ∀ p ∈ clm dm', p ∈ clm dm
  dp : dm'.dp = dm.dp
theorem Alike.refl (dm : Dm) : Alike dm dm := ⟨fun _ => Iff.rfl, fun _ h => h, rfl⟩
def spTurned : Nat → DSp
  | 0 => fun _ _ _ => False
  | k + 1 => fun args M Q => ∃ (h : Addr) (o : MO) (dm : Dm), args = [.ref h, dm.th.d] ∧ M h = some o ∧ HandOk o ∧ dm.dp ≤ k + 1 ∧ ∀ dm' o', Alike dm dm' → HandOk o' → Q dm'.th.d (M.upd h o')
theorem ok_law_turned (k : Nat) : ∀ args M Q, spTurned (k + 1) args M Q → t_law_turned (spTurned k) spDraw (ends Q) (dstart N_law_turned.length args) M := by
  rintro args M Q ⟨h, o, dm, rfl, hM, ho, hdp, q⟩
  show t_law_turned (spTurned k) spDraw (ends Q) [some (.ref h), some dm.th.d, none, none] M
  have ix2 : ∀ (a b c : D) (M : Sto) (K : DK), gIx (.tup [a, b, c]) (.int 2) M K = K c M := fun a b c M K => by simp [gIx, seqOf, atI, ixN]
  have two : ∀ (a b : Dm) (hw : Str), (max a.dp b.dp + 1 ≤ k + 1) → hw ≠ "claim" →
      (∀ a' b' o', Alike a a' → Alike b b' → HandOk o' → Q (.tup [.str hw, a'.th.d, b'.th.d]) (M.upd h o') ∧ Q (.tup [.str hw, b'.th.d, a'.th.d]) (M.upd h o')) → t_law_turned (spTurned k) spDraw (ends Q) [some (.ref h), some (.tup [.str hw, a.th.d, b.th.d]), none, none] M := by
    intro a b hw hd hc q
    cases k with
    | zero => have := dp_pos a; omega
    | succ k =>
      simp only [t_law_turned, dSeq, dIfS, dTest, dOp, dVar, dC, List.getElem?_cons_zero, List.getElem?_cons_succ, ix_tup0, eq_str, hc, decide_false, Bool.false_eq_true, if_false, dNext]
      simp only [t_law_turned_2, dSeq, dPar, dCall, dCons, dNil, dOp, dC, dVar, List.getElem?_cons_zero, List.getElem?_cons_succ, ix_tup1, ix2]
      refine ⟨h, o, a, rfl, hM, ho, by omega, fun a' o1 ha ho1 => ?_⟩
      refine ⟨h, o1, b, rfl, Sto.upd_same, ho1, by omega, fun b' o2 hb ho2 => ?_⟩
      rw [Sto.upd_upd]
      simp only [List.set, t_law_turned_1, dRet, dIf, dTest, dOp, dCall, dCons, dNil, dTup, dC, dVar, List.getElem?_cons_zero, List.getElem?_cons_succ, ix_tup0]
      refine ⟨h, 2, o2, rfl, Sto.upd_same, ho2, by decide, by decide, fun r o3 r1 r2 ho3 => ?_⟩
      rw [Sto.upd_upd]
      simp only [eq_int]
      by_cases c : r = 0
      · simp only [c, decide_true, if_true, List.length_cons, List.length_nil, Nat.zero_add, Nat.reduceAdd, size3, true_and]
        exact done (q a' b' o3 ha hb ho3).2
      · simp only [c, decide_false, Bool.false_eq_true, if_false, List.length_cons, List.length_nil, Nat.zero_add, Nat.reduceAdd, size3, true_and]
        exact done (q a' b' o3 ha hb ho3).1
  cases dm with
  | claim s n =>
    obtain ⟨w, hw⟩ : ∃ w : Str, w = "claim" := ⟨_, rfl⟩
    have y : decide (w = "claim") = true := decide_eq_true hw
    have q0 := q (.claim s n) o (Alike.refl _) ho
    rw [upd_self hM] at q0
    simp only [Dm.th, Th.d, Th.ds] at q0 ⊢
    rw [← hw] at q0 ⊢
    simp only [t_law_turned, dSeq, dIfS, dTest, dOp, dVar, dC, List.getElem?_cons_zero, List.getElem?_cons_succ, ix_tup0, eq_str, y, if_true, dRet]
    exact done q0
  | both a b =>
    have := two a b "both" hdp ne_cb.symm fun a' b' o' ha hb ho' => ⟨?_, ?_⟩
    · simpa only [Dm.th, Th.d, Th.ds] using this
    · have := q (.both a' b') o' ⟨fun S => by rw [hold_both, hold_both, ha.hold, hb.hold], fun p hp => by
        rcases List.mem_append.mp (show p ∈ clm a' ++ clm b' from hp) with hp | hp
        · simp [clm, ha.sub p hp]
        · simp [clm, hb.sub p hp], by simp [Dm.dp, ha.dp, hb.dp]⟩ ho'
      simpa only [Dm.th, Th.d, Th.ds] using this
    · have := q (.both b' a') o' ⟨fun S => by rw [hold_both, hold_both, ha.hold, hb.hold]; exact And.comm, fun p hp => by
        rcases List.mem_append.mp (show p ∈ clm b' ++ clm a' from hp) with hp | hp
        · simp [clm, hb.sub p hp]
        · simp [clm, ha.sub p hp], by simp [Dm.dp, ha.dp, hb.dp, Nat.max_comm]⟩ ho'
      simpa only [Dm.th, Th.d, Th.ds] using this
  | eith a b =>
    have := two a b "either" hdp ne_ce.symm fun a' b' o' ha hb ho' => ⟨?_, ?_⟩
    · simpa only [Dm.th, Th.d, Th.ds] using this
    · have := q (.eith a' b') o' ⟨fun S => by rw [hold_eith, hold_eith, ha.hold, hb.hold], fun p hp => by
        rcases List.mem_append.mp (show p ∈ clm a' ++ clm b' from hp) with hp | hp
        · simp [clm, ha.sub p hp]
        · simp [clm, hb.sub p hp], by simp [Dm.dp, ha.dp, hb.dp]⟩ ho'
      simpa only [Dm.th, Th.d, Th.ds] using this
    · have := q (.eith b' a') o' ⟨fun S => by rw [hold_eith, hold_eith, ha.hold, hb.hold]; exact Or.comm, fun p hp => by
        rcases List.mem_append.mp (show p ∈ clm b' ++ clm a' from hp) with hp | hp
        · simp [clm, hb.sub p hp]
        · simp [clm, ha.sub p hp], by simp [Dm.dp, ha.dp, hb.dp, Nat.max_comm]⟩ ho'
      simpa only [Dm.th, Th.d, Th.ds] using this
end DL

/-! A6: otherwise written; made of lots; wide demands. -/
namespace DL
open PySem PySem.Spec PyProof.Rows L2
open Classical
theorem claim_d (p : Pr) : D.tup ([D.str "claim"] ++ [.str p.1, .int p.2]) = (Dm.claim p.1 p.2).th.d := by simp [Dm.th, Th.d, Th.ds]
theorem both_d (a b : Dm) : D.tup [.str "both", a.th.d, b.th.d] = (Dm.both a b).th.d := by simp [Dm.th, Th.d, Th.ds]
theorem eith_d (a b : Dm) : D.tup [.str "either", a.th.d, b.th.d] = (Dm.eith a b).th.d := by simp [Dm.th, Th.d, Th.ds]
theorem dm_ok {dm : Dm} {pool : List Pr} (h : ∀ p ∈ clm dm, p ∈ pool) (k : ∀ p ∈ pool, okP p) : dm.ok := fun p hp => k p (h p hp)
theorem clm_le : ∀ dm : Dm, (clm dm).length ≤ 2 ^ dm.dp
  | .claim s n => by simp [clm, Dm.dp]
  | .both a b => by
    have h1 := clm_le a; have h2 := clm_le b
    have m1 : 2 ^ a.dp ≤ 2 ^ max a.dp b.dp := Nat.pow_le_pow_right (by decide) (by omega)
    have m2 : 2 ^ b.dp ≤ 2 ^ max a.dp b.dp := Nat.pow_le_pow_right (by decide) (by omega)
    simp only [clm, Dm.dp, List.length_append, Nat.pow_succ]
    omega
  | .eith a b => by
    have h1 := clm_le a; have h2 := clm_le b
    have m1 : 2 ^ a.dp ≤ 2 ^ max a.dp b.dp := Nat.pow_le_pow_right (by decide) (by omega)
    have m2 : 2 ^ b.dp ≤ 2 ^ max a.dp b.dp := Nat.pow_le_pow_right (by decide) (by omega)
    simp only [clm, Dm.dp, List.length_append, Nat.pow_succ]
    omega
theorem th_eq_dm : ∀ {a b : Dm}, a.th = b.th → a = b
  | .claim s n, .claim t m, h => by simp [Dm.th] at h; rw [h.1, h.2]
  | .claim s n, .both c d, h => by simp [Dm.th] at h; exact absurd h.1 ne_cb
  | .claim s n, .eith c d, h => by simp [Dm.th] at h; exact absurd h.1 ne_ce
  | .both a b, .claim t m, h => by simp [Dm.th] at h; exact absurd h.1.symm ne_cb
  | .both a b, .both c d, h => by
    simp [Dm.th] at h
    rw [th_eq_dm h.1, th_eq_dm h.2]
  | .both a b, .eith c d, h => by simp [Dm.th] at h; exact absurd h.1 ne_be
  | .eith a b, .claim t m, h => by simp [Dm.th] at h; exact absurd h.1.symm ne_ce
  | .eith a b, .both c d, h => by simp [Dm.th] at h; exact absurd h.1.symm ne_be
  | .eith a b, .eith c d, h => by
    simp [Dm.th] at h
    rw [th_eq_dm h.1, th_eq_dm h.2]
/-! ### otherwise written -/
structure Other (dm dm' : Dm) (pool : List Pr) : Prop where
  hold : ∀ S, Hold dm S ↔ Hold dm' S
  sub : ∀ p ∈ clm dm', p ∈ pool
  dp : dm'.dp ≤ 4
def spOther : DSp := fun args M Q => ∃ (h : Addr) (o : MO) (dm : Dm) (pool : List Pr), args = [.ref h, dm.th.d, .lst ((pool.map prT).map Th.d), .int 4] ∧ M h = some o ∧ HandOk o ∧ dm.dp ≤ 4 ∧ (∀ p ∈ clm dm, p ∈ pool) ∧ pool ≠ [] ∧ pool.length ≤ 20 ∧ (∀ p ∈ pool, okP p) ∧
  ∀ dm' o', Other dm dm' pool → HandOk o' → Q dm'.th.d (M.upd h o')
def spDemandA : DSp := fun args M Q => ∃ d, d ≤ 3 ∧ spDemand (d + 1) args M Q
theorem ok_law_otherwise : ∀ args M Q, spOther args M Q → t_law_otherwise (spDeep 4) spDraw spDemandA (spTurned 4) spSome (ends Q) (dstart N_law_otherwise.length args) M := by
  rintro args M Q ⟨h, o, dm, pool, rfl, hM, ho, hdp, hs, pn, pl, pok, q⟩
  show t_law_otherwise (spDeep 4) spDraw spDemandA (spTurned 4) spSome (ends Q) [some (.ref h), some dm.th.d, some (.lst ((pool.map prT).map Th.d)), some (.int 4), none, none, none, none] M
  obtain ⟨four, hfour⟩ : ∃ f : Int, f = 4 := ⟨4, rfl⟩
  have q0 := q
  -- the end: turned about
  have endR : ∀ (x : Int) (b c d : Option D) o1, HandOk o1 → (ends Q).rt = (ends Q).rt → t_law_otherwise_1 (spDeep 4) spDraw spDemandA (spTurned 4) spSome (ends Q) [some (.ref h), some dm.th.d, some (.lst ((pool.map prT).map Th.d)), some (.int four), some (.int x), b, c, d] (M.upd h o1) := by
    intro x b c d o1 ho1 _
    simp only [t_law_otherwise_1, dRet, dCall, dCons, dNil, dVar, List.getElem?_cons_zero, List.getElem?_cons_succ]
    refine ⟨h, o1, dm, rfl, Sto.upd_same, ho1, hdp, fun dm' o' ha ho' => ?_⟩
    rw [Sto.upd_upd]
    exact done (q0 dm' o' ⟨ha.hold, fun p hp => hs p (ha.sub p hp), by rw [ha.dp]; exact hdp⟩ ho')
  -- the middle
  have mid : ∀ (x : Int) o1, HandOk o1 → (2 < x → dm.dp < 4) → t_law_otherwise_2 (spDeep 4) spDraw spDemandA (spTurned 4) spSome (ends Q) [some (.ref h), some dm.th.d, some (.lst ((pool.map prT).map Th.d)), some (.int four), some (.int x), none, none, none] (M.upd h o1) := by
    intro x o1 ho1 hx
    simp only [t_law_otherwise_2, dSeq, dIfS, dTest, dOp, dVar, dC, List.getElem?_cons_zero, List.getElem?_cons_succ, gGt]
    by_cases c : 2 < x
    · have hd4 := hx c
      simp only [gt_iff_lt, c, decide_true, if_true, dAsg, dIf, dTest, dOp, dVar, dC, dCall, dCons, dNil, List.getElem?_cons_zero, List.getElem?_cons_succ]
      refine ⟨dm, rfl, by omega, ?_⟩
      simp only [add_int, gGt]
      -- more
      have more : ∀ (m : Dm) o2, HandOk o2 → (∀ p ∈ clm m, p ∈ pool) → (m = dm ∨ (m.dp ≤ 2 ∧ dm.dp ≤ 2)) → ∀ b c : Option D,
          dSeq (dIfS (dOr (dTest (dOp (gEq 250) (dVar 4) (dC (.int 3)))) (dTest (dOp (gEq 250) (dVar 5) (dVar 1)))) (dRet (dCall (spTurned 4) (dCons (dVar 0) (dCons (dTup (dCons (dCall spSome (dCons (dVar 0) (dCons (dLst (dCons (dC (.str "both")) (dCons (dC (.str "either")) dNil))) dNil))) (dCons (dVar 1) (dCons (dVar 1) dNil)))) dNil)))) dNext)
            (dSeq (dAsg (dCall spSome (dCons (dVar 0) (dCons (dLst (dCons (dTup (dCons (dC (.str "both")) (dCons (dC (.str "either")) dNil))) (dCons (dTup (dCons (dC (.str "either")) (dCons (dC (.str "both")) dNil))) dNil))) dNil))) (dgTup 2 (dgCons (dgName 6) (dgCons (dgName 7) dgNil))))
            (dRet (dCall (spTurned 4) (dCons (dVar 0) (dCons (dTup (dCons (dVar 6) (dCons (dVar 1) (dCons (dCall (spTurned 4) (dCons (dVar 0) (dCons (dTup (dCons (dVar 7) (dCons (dVar 1) (dCons (dVar 5) dNil)))) dNil))) dNil)))) dNil)))))
            (ends Q) [some (.ref h), some dm.th.d, some (.lst ((pool.map prT).map Th.d)), some (.int four), some (.int x), some m.th.d, b, c] (M.upd h o2) := by
        intro m o2 ho2 hm hor b c'
        have twice : ∀ (t : DTS) (v : Option D), (dRet (dCall (spTurned 4) (dCons (dVar 0) (dCons (dTup (dCons (dCall spSome (dCons (dVar 0) (dCons (dLst (dCons (dC (.str "both")) (dCons (dC (.str "either")) dNil))) dNil))) (dCons (dVar 1) (dCons (dVar 1) dNil)))) dNil)))) (ends Q) [some (.ref h), some dm.th.d, some (.lst ((pool.map prT).map Th.d)), some (.int four), some (.int x), some m.th.d, b, c'] (M.upd h o2) := by
          intro _ _
          simp only [dRet, dCall, dTup, dLst, dCons, dNil, dC, dVar, List.getElem?_cons_zero, List.getElem?_cons_succ, List.length_cons, List.length_nil, Nat.zero_add, Nat.reduceAdd, size2, true_and]
          refine some_lst Sto.upd_same ho2 (by simp) (by simp) fun w o3 hw ho3 => ?_
          rw [Sto.upd_upd]
          simp only [List.length_cons, List.length_nil, Nat.zero_add, Nat.reduceAdd, size3, true_and]
          simp only [List.mem_cons, List.not_mem_nil, or_false] at hw
          rcases hw with rfl | rfl
          · refine ⟨h, o3, .both dm dm, by rw [both_d], Sto.upd_same, ho3, by simp [Dm.dp]; omega, fun dm' o' ha ho' => ?_⟩
            rw [Sto.upd_upd]
            exact done (q0 dm' o' ⟨fun S => by rw [← ha.hold, hold_both]; exact (and_self_iff).symm, fun p hp => by
              have := ha.sub p hp
              simp [clm] at this
              exact hs p this, by rw [ha.dp]; simp [Dm.dp]; omega⟩ ho')
          · refine ⟨h, o3, .eith dm dm, by rw [eith_d], Sto.upd_same, ho3, by simp [Dm.dp]; omega, fun dm' o' ha ho' => ?_⟩
            rw [Sto.upd_upd]
            exact done (q0 dm' o' ⟨fun S => by rw [← ha.hold, hold_eith]; exact (or_self_iff).symm, fun p hp => by
              have := ha.sub p hp
              simp [clm] at this
              exact hs p this, by rw [ha.dp]; simp [Dm.dp]; omega⟩ ho')
        simp only [dSeq, dIfS, dOr, dTest, dOp, dVar, dC, List.getElem?_cons_zero, List.getElem?_cons_succ, eq_int]
        by_cases c3 : x = 3
        · simp only [c3, decide_true, if_true]
          have := twice dNext none
          rw [c3] at this
          exact this
        · simp only [c3, decide_false, Bool.false_eq_true, if_false]
          have okm := (Dm.th_ok m (dm_ok hm pok)).1
          have okd := (Dm.th_ok dm (dm_ok hs pok)).1
          refine eq_th okm okd (by rw [(Dm.th_ok dm (dm_ok hs pok)).2.1]; omega) ?_
          by_cases ce : m.th = dm.th
          · simp only [ce, decide_true, if_true]
            have := twice dNext none
            rw [ce] at this
            exact this
          · simp only [ce, decide_false, Bool.false_eq_true, if_false, dNext]
            have hd2 : m.dp ≤ 2 ∧ dm.dp ≤ 2 := hor.resolve_left fun e => ce (by rw [e])
            simp only [dSeq, dAsg, dCall, dLst, dTup, dCons, dNil, dC, dVar, List.getElem?_cons_zero, List.getElem?_cons_succ, List.length_cons, List.length_nil, Nat.zero_add, Nat.reduceAdd, size2, true_and]
            refine some_lst Sto.upd_same ho2 (by simp) (by simp) fun w o3 hw ho3 => ?_
            rw [Sto.upd_upd]
            simp only [List.mem_cons, List.not_mem_nil, or_false] at hw
            rcases hw with rfl | rfl
            · simp only [dSeq, dgTup, dgCons, dgName, dgNil, List.set, List.length_cons, List.length_nil, Nat.zero_add, Nat.reduceAdd, true_and, dRet, dCall, dTup, dCons, dNil, dVar, List.getElem?_cons_zero, List.getElem?_cons_succ, size3]
              refine ⟨h, o3, .eith dm m, by rw [eith_d], Sto.upd_same, ho3, by simp [Dm.dp]; omega, fun e o4 he ho4 => ?_⟩
              rw [Sto.upd_upd]
              refine ⟨h, o4, .both dm e, by rw [both_d], Sto.upd_same, ho4, by have := he.dp; simp [Dm.dp] at this ⊢; omega, fun dm' o' ha ho' => ?_⟩
              rw [Sto.upd_upd]
              refine done (q0 dm' o' ⟨fun S => ?_, fun p hp => ?_, by have := he.dp; rw [ha.dp]; simp [Dm.dp] at this ⊢; omega⟩ ho')
              · rw [← ha.hold, hold_both, ← he.hold, hold_eith]
                exact ⟨fun z => ⟨z, .inl z⟩, fun z => z.1⟩
              · rcases List.mem_append.mp (show p ∈ clm dm ++ clm e from ha.sub p hp) with z | z
                · exact hs p z
                · rcases List.mem_append.mp (show p ∈ clm dm ++ clm m from he.sub p z) with z | z
                  · exact hs p z
                  · exact hm p z
            · simp only [dSeq, dgTup, dgCons, dgName, dgNil, List.set, List.length_cons, List.length_nil, Nat.zero_add, Nat.reduceAdd, true_and, dRet, dCall, dTup, dCons, dNil, dVar, List.getElem?_cons_zero, List.getElem?_cons_succ, size3]
              refine ⟨h, o3, .both dm m, by rw [both_d], Sto.upd_same, ho3, by simp [Dm.dp]; omega, fun e o4 he ho4 => ?_⟩
              rw [Sto.upd_upd]
              refine ⟨h, o4, .eith dm e, by rw [eith_d], Sto.upd_same, ho4, by have := he.dp; simp [Dm.dp] at this ⊢; omega, fun dm' o' ha ho' => ?_⟩
              rw [Sto.upd_upd]
              refine done (q0 dm' o' ⟨fun S => ?_, fun p hp => ?_, by have := he.dp; rw [ha.dp]; simp [Dm.dp] at this ⊢; omega⟩ ho')
              · rw [← ha.hold, hold_eith, ← he.hold, hold_both]
                exact ⟨fun z => .inl z, fun z => z.elim id fun z => z.1⟩
              · rcases List.mem_append.mp (show p ∈ clm dm ++ clm e from ha.sub p hp) with z | z
                · exact hs p z
                · rcases List.mem_append.mp (show p ∈ clm dm ++ clm m from he.sub p z) with z | z
                  · exact hs p z
                  · exact hm p z
      by_cases c2 : ((dm.dp : Int) + 1 < four)
      · simp only [c2, decide_true, if_true, dCB, dCons, dNil, dC, dVar, dOp, gSub, gMax2, List.getElem?_cons_zero, List.getElem?_cons_succ]
        have e2 : (if four - 2 > 1 then four - 2 else 1) = ((1 + 1 : Nat) : Int) := by subst hfour; decide
        rw [e2]
        refine ⟨1, by decide, h, o1, pool, rfl, Sto.upd_same, ho1, pn, by omega, fun m o2 m1 m2 m3 ho2 => ?_⟩
        rw [Sto.upd_upd]
        simp only [dgName, List.set]
        have := more m o2 ho2 m2 (.inr ⟨m1, by omega⟩) none none
        simp only [dSeq, dAsg] at this
        exact this
      · simp only [c2, decide_false, Bool.false_eq_true, if_false, dVar, dgName, List.set, List.getElem?_cons_zero, List.getElem?_cons_succ]
        have := more dm o1 ho1 hs (.inl rfl) none none
        simp only [dSeq, dAsg] at this
        exact this
    · simp only [gt_iff_lt, c, decide_false, Bool.false_eq_true, if_false, dNext]
      exact endR x none none none o1 ho1 rfl
  rw [← hfour]
  simp only [t_law_otherwise, dSeq, dAsg, dIf, dTest, dOp, dCall, dCons, dNil, dC, dVar, List.getElem?_cons_zero, List.getElem?_cons_succ]
  refine ⟨dm, rfl, by omega, ?_⟩
  simp only [gGt]
  by_cases c : ((dm.dp : Int) < four)
  · simp only [gt_iff_lt, c, decide_true, if_true]
    refine ⟨h, 6, o, rfl, hM, ho, by decide, by decide, fun r o1 r1 r2 ho1 => ?_⟩
    simp only [dgName, List.set]
    exact mid r o1 ho1 fun _ => by omega
  · simp only [gt_iff_lt, c, decide_false, Bool.false_eq_true, if_false, dgName, List.set]
    have := mid 0 o ho fun z => by omega
    rw [upd_self hM] at this
    exact this
end DL

/-! A7: wide demands. -/
namespace DL
open PySem PySem.Spec PyProof.Rows L2
open Classical
/-- the eight claims of wide demands -/
def eightP : List Pr := [("small", 0), ("small", 1), ("small", 2), ("small", 19), ("plain", 0), ("plain", 1), ("plain", 2), ("plain", 19)]
theorem nice_small : nice ("small" : Str) := nice_by (by decide +kernel)
theorem nice_plain : nice ("plain" : Str) := nice_by (by decide +kernel)
theorem eight_ok : ∀ p ∈ eightP, okP p := by
  intro p hp
  have s : ∀ n : Int, n = 0 ∨ n = 1 ∨ n = 2 ∨ n = 19 → small n := fun n h => small_lit (by omega)
  simp only [eightP, List.mem_cons, List.not_mem_nil, or_false] at hp
  rcases hp with rfl | rfl | rfl | rfl | rfl | rfl | rfl | rfl
  · exact ⟨nice_small, s _ (by simp)⟩
  · exact ⟨nice_small, s _ (by simp)⟩
  · exact ⟨nice_small, s _ (by simp)⟩
  · exact ⟨nice_small, s _ (by simp)⟩
  · exact ⟨nice_plain, s _ (by simp)⟩
  · exact ⟨nice_plain, s _ (by simp)⟩
  · exact ⟨nice_plain, s _ (by simp)⟩
  · exact ⟨nice_plain, s _ (by simp)⟩
def claimP (p : Pr) : Dm := .claim p.1 p.2
theorem claimP_d (p : Pr) : D.tup ([D.str "claim"] ++ [.str p.1, .int p.2]) = (claimP p).th.d := claim_d p
def spWide : DSp := fun args M Q => ∃ (h : Addr) (o : MO) (w v : Str), args = [.ref h, .str w, .str v] ∧ M h = some o ∧ HandOk o ∧ ((w = "either" ∧ v = "both") ∨ (w = "both" ∧ v = "either")) ∧
  ∀ (dm : Dm) o', dm.dp = 4 → (∀ p ∈ clm dm, p ∈ eightP) → HandOk o' → Q dm.th.d (M.upd h o')
theorem word_d {w : Str} (h : w = "either" ∨ w = "both") (a b : Dm) : ∃ dm : Dm, D.tup [.str w, a.th.d, b.th.d] = dm.th.d ∧ clm dm = clm a ++ clm b ∧ dm.dp = max a.dp b.dp + 1 := by
  rcases h with rfl | rfl
  · exact ⟨.eith a b, eith_d a b, rfl, rfl⟩
  · exact ⟨.both a b, both_d a b, rfl, rfl⟩
theorem pairs_eq (i : Nat) (hi : i < 8) : ∃ (s : Str) (n : Int), eightP[i]? = some (s, n) ∧ ([D.str "small", D.str "plain"] : List D)[i / 4]? = some (.str s) ∧ ([D.int 0, .int 1, .int 2, .int 19] : List D)[i % 4]? = some (.int n) := by
  have : i = 0 ∨ i = 1 ∨ i = 2 ∨ i = 3 ∨ i = 4 ∨ i = 5 ∨ i = 6 ∨ i = 7 := by omega
  rcases this with rfl | rfl | rfl | rfl | rfl | rfl | rfl | rfl <;> exact ⟨_, _, rfl, rfl, rfl⟩
theorem ok_law_wide : ∀ args M Q, spWide args M Q → t_law_wide spMixed (ends Q) (dstart N_law_wide.length args) M := by
  rintro args M Q ⟨h, o, w, v, rfl, hM, ho, hw, q⟩
  show t_law_wide spMixed (ends Q) [some (.ref h), some (.str w), some (.str v), none, none, none, none] M
  have w1 : w = "either" ∨ w = "both" := hw.imp (fun z => z.1) fun z => z.1
  have v1 : v = "either" ∨ v = "both" := (hw.imp (fun z => z.2) fun z => z.2).symm
  clear hw
  simp only [t_law_wide, dSeq, dAsg, dCall, dCons, dNil, dLc, iRange1, dC, dVar, dwipe, List.set, List.getElem?_cons_zero, List.getElem?_cons_succ]
  refine ⟨by decide, ?_⟩
  have er : rangeD 0 (8 : Int).toNat = (List.range 8).map fun i : Nat => D.int (i : Int) := by
    simp [rangeD]
  rw [er]
  refine comp_map (fun i : Nat => D.int (i : Int)) (fun i : Nat => prD ((eightP[i]?).getD ("", 0))) (List.range 8) [] _ (fun i hi K hK => ?_) (sl_le (by simp)) ?_
  · have hi : i < 8 := List.mem_range.mp hi
    obtain ⟨s, n, e1, e2, e3⟩ := pairs_eq i hi
    simp only [dTup, dCons, dNil, dOp, dLst, dCB, dC, dVar, List.set, List.getElem?_cons_zero, List.getElem?_cons_succ, List.length_cons, List.length_nil, Nat.zero_add, Nat.reduceAdd, size2, size4, true_and, gFdiv, gMod, gInt]
    refine ⟨⟨by decide, by decide⟩, ?_⟩
    have f1 : (i : Int) / 4 = ((i / 4 : Nat) : Int) := by omega
    have f2 : (i : Int) % 4 = ((i % 4 : Nat) : Int) := by omega
    rw [f1]
    refine gIx_seq rfl (by omega) (x := .str s) (by rw [Int.toNat_natCast]; exact e2) ?_
    refine ⟨by decide, ?_⟩
    rw [f2]
    refine gIx_seq rfl (by omega) (x := .int n) (by rw [Int.toNat_natCast]; exact e3) ?_
    rw [e1] at hK
    have hK : K (prD (s, n)) M := hK
    simp only [prD, prT_d] at hK
    exact hK
  rw [List.nil_append]
  have ee : ((List.range 8).map fun i : Nat => prD ((eightP[i]?).getD ("", 0))) = eightP.map prD := by
    have : (List.range 8).map (fun i : Nat => (eightP[i]?).getD ("", 0)) = eightP := rfl
    rw [← this, List.map_map]
    rfl
  rw [ee]
  refine ⟨h, _, eightP.map prD, o, rfl, hM, ho, rfl, by simp [eightP], fun ys o1 hys ho1 => ?_⟩
  obtain ⟨ps, hps, rfl⟩ := perm_lift prD hys eightP rfl
  have hl : ps.length = 8 := by rw [hps.length_eq]; rfl
  have hin : ∀ p ∈ ps, p ∈ eightP := fun p hp => hps.mem_iff.mp hp
  clear ee er hys hps
  simp only [dgName, List.set]
  simp only [t_law_wide_3, dSeq, dAsg, dLc, iSeq, dVar, dwipe, List.set, List.getElem?_cons_zero, List.getElem?_cons_succ]
  refine comp_map prD (fun p => (claimP p).th.d) ps [] _ (fun p hp K hK => ?_) (by rw [sizeLine_eq]; simp; omega) ?_
  · simp only [dOp, dTup, dCons, dNil, dC, dVar, List.set, List.getElem?_cons_zero, List.getElem?_cons_succ, List.length_cons, List.length_nil, Nat.zero_add, size1, true_and, prD, prT_d]
    refine add_tup (sl_le (by simp)) ?_
    rw [claimP_d]; exact hK
  rw [List.nil_append]
  simp only [dgName, List.set]
  obtain ⟨p0, p1, p2, p3, p4, p5, p6, p7, rfl⟩ : ∃ a b c d e f g i, ps = [a, b, c, d, e, f, g, i] := by
    match ps, hl with
    | [a, b, c, d, e, f, g, i], _ => exact ⟨_, _, _, _, _, _, _, _, rfl⟩
  have i0 := hin p0 (by simp); have i1 := hin p1 (by simp); have i2 := hin p2 (by simp); have i3 := hin p3 (by simp)
  have i4 := hin p4 (by simp); have i5 := hin p5 (by simp); have i6 := hin p6 (by simp); have i7 := hin p7 (by simp)
  clear hin hl
  obtain ⟨c0, hc0⟩ : ∃ c, c = claimP p0 := ⟨_, rfl⟩
  have cl : ∀ p : Pr, clm (claimP p) = [p] ∧ (claimP p).dp = 1 := fun p => ⟨rfl, rfl⟩
  have prs : ∀ p r : Pr, p ∈ eightP → r ∈ eightP → ∃ dm : Dm, D.tup [.str w, (claimP p).th.d, (claimP r).th.d] = dm.th.d ∧ (∀ z ∈ clm dm, z ∈ eightP) ∧ dm.dp = 2 := fun p r hp hr => by
    obtain ⟨dm, a1, a2, a3⟩ := word_d w1 (claimP p) (claimP r)
    refine ⟨dm, a1, fun z hz => ?_, by rw [a3, (cl p).2, (cl r).2]; rfl⟩
    rw [a2, (cl p).1, (cl r).1] at hz
    simp at hz
    rcases hz with rfl | rfl
    · exact hp
    · exact hr
  have two : ∀ a b : Dm, (∀ z ∈ clm a, z ∈ eightP) → (∀ z ∈ clm b, z ∈ eightP) → ∀ n, a.dp = n → b.dp = n → ∃ dm : Dm, D.tup [.str v, a.th.d, b.th.d] = dm.th.d ∧ (∀ z ∈ clm dm, z ∈ eightP) ∧ dm.dp = n + 1 := fun a b ha hb n h1 h2 => by
    obtain ⟨dm, a1, a2, a3⟩ := word_d v1 a b
    refine ⟨dm, a1, fun z hz => ?_, by rw [a3, h1, h2]; omega⟩
    rw [a2] at hz
    rcases List.mem_append.mp hz with hz | hz
    · exact ha z hz
    · exact hb z hz
  obtain ⟨a0, b0, c0, d0⟩ := prs p0 p1 i0 i1
  obtain ⟨a1, b1, c1, d1⟩ := prs p2 p3 i2 i3
  obtain ⟨a2, b2, c2, d2⟩ := prs p4 p5 i4 i5
  obtain ⟨a3, b3, c3, d3⟩ := prs p6 p7 i6 i7
  obtain ⟨l, l1, l2, l3⟩ := two a0 a1 c0 c1 2 d0 d1
  obtain ⟨r, r1, r2, r3⟩ := two a2 a3 c2 c3 2 d2 d3
  obtain ⟨z, z1, z2, z3⟩ := two l r l2 r2 3 l3 r3
  simp only [List.map_cons, List.map_nil]
  generalize (claimP p0).th.d = x0 at b0 ⊢
  generalize (claimP p1).th.d = x1 at b0 ⊢
  generalize (claimP p2).th.d = x2 at b1 ⊢
  generalize (claimP p3).th.d = x3 at b1 ⊢
  generalize (claimP p4).th.d = x4 at b2 ⊢
  generalize (claimP p5).th.d = x5 at b2 ⊢
  generalize (claimP p6).th.d = x6 at b3 ⊢
  generalize (claimP p7).th.d = x7 at b3 ⊢
  simp only [t_law_wide_2, dSeq, dAsg, dLc, iSeq, dTup, dCons, dNil, dC, dVar, dwipe, List.set, List.length_cons, List.length_nil, Nat.zero_add, Nat.reduceAdd, size4, true_and]
  have at_ : ∀ (i : Int) (n : Nat) (x : D) (K : DK), i = (n : Int) → [x0, x1, x2, x3, x4, x5, x6, x7][n]? = some x → K x (M.upd h o1) → gIx (.lst [x0, x1, x2, x3, x4, x5, x6, x7]) (.int i) (M.upd h o1) K := by
    rintro i n x K rfl hx hK
    exact gIx_seq rfl (by omega) (by rw [Int.toNat_natCast]; exact hx) hK
  have e4 : [D.int 0, .int 2, .int 4, .int 6] = ([(0, a0), (2, a1), (4, a2), (6, a3)] : List (Int × Dm)).map fun p => D.int p.1 := rfl
  rw [e4]
  refine comp_map (fun p : Int × Dm => D.int p.1) (fun p : Int × Dm => p.2.th.d) [(0, a0), (2, a1), (4, a2), (6, a3)] [] _ (fun p hp K hK => ?_) (sl_le (by simp)) ?_
  · simp only [dTup, dCons, dNil, dOp, dC, dVar, List.set, List.getElem?_cons_zero, List.getElem?_cons_succ, add_int]
    simp only [List.mem_cons, List.not_mem_nil, or_false] at hp
    rcases hp with rfl | rfl | rfl | rfl
    · refine at_ 0 0 x0 _ rfl rfl (at_ _ 1 x1 _ rfl rfl ⟨sl_le (by simp), ?_⟩)
      rw [b0]; exact hK
    · refine at_ 2 2 x2 _ rfl rfl (at_ _ 3 x3 _ rfl rfl ⟨sl_le (by simp), ?_⟩)
      rw [b1]; exact hK
    · refine at_ 4 4 x4 _ rfl rfl (at_ _ 5 x5 _ rfl rfl ⟨sl_le (by simp), ?_⟩)
      rw [b2]; exact hK
    · refine at_ 6 6 x6 _ rfl rfl (at_ _ 7 x7 _ rfl rfl ⟨sl_le (by simp), ?_⟩)
      rw [b3]; exact hK
  rw [List.nil_append]
  simp only [List.map_cons, List.map_nil, dgName, List.set]
  have ix : ∀ (i : Int) (n : Nat) (x : D) (K : DK), i = (n : Int) → [a0.th.d, a1.th.d, a2.th.d, a3.th.d][n]? = some x → K x (M.upd h o1) → gIx (.lst [a0.th.d, a1.th.d, a2.th.d, a3.th.d]) (.int i) (M.upd h o1) K := by
    rintro i n x K rfl hx hK
    exact gIx_seq rfl (by omega) (by rw [Int.toNat_natCast]; exact hx) hK
  simp only [t_law_wide_1, dRet, dTup, dCons, dNil, dOp, dC, dVar, List.getElem?_cons_zero, List.getElem?_cons_succ]
  refine ix 0 0 _ _ rfl rfl (ix 1 1 _ _ rfl rfl ⟨sl_le (by simp), ?_⟩)
  rw [l1]
  refine ix 2 2 _ _ rfl rfl (ix 3 3 _ _ rfl rfl ⟨sl_le (by simp), ?_⟩)
  rw [r1]
  refine ⟨sl_le (by simp), ?_⟩
  rw [z1]
  exact done (q z o1 (by omega) z2 ho1)
end DL

/-! A8: one demand implies another. -/
namespace DL
open PySem PySem.Spec PyProof.Rows L2
open Classical
/-- an ascending lot of the same pairs -/
theorem asc_ex : ∀ S : List Pr, ∃ T, Asc T ∧ ∀ p, p ∈ T ↔ p ∈ S
  | [] => ⟨[], ⟨by simp, by simp⟩, by simp⟩
  | a :: S => by
    obtain ⟨T, aT, mT⟩ := asc_ex S
    by_cases c : a ∈ T
    · refine ⟨T, aT, fun p => ?_⟩
      rw [List.mem_cons, ← mT]
      exact ⟨.inr, fun z => z.elim (fun e => e ▸ c) id⟩
    · have pm : ((a :: T).mergeSort (PySem.W.dataLe false fun p => pyD (prD p))).Perm (a :: T) := List.mergeSort_perm _ _
      have pw : ((a :: T).mergeSort (PySem.W.dataLe false fun p => pyD (prD p))).Pairwise fun p r => PySem.W.dataLe false (fun p => pyD (prD p)) p r = true := PySem.W.sort_pairwise (PySem.W.sortLe_total _ false _) _
      refine ⟨_, ⟨pm.nodup_iff.mpr (List.nodup_cons.mpr ⟨c, aT.nd⟩), pw⟩, fun p => ?_⟩
      rw [pm.mem_iff, List.mem_cons, List.mem_cons, mT]
theorem isNon_th (w : Dm) : isNon w.th.d = false := by cases w <;> simp [Dm.th, Th.d, isNon]
/-! ### by all truths -/
def HoldO : Option Dm → List Pr → Prop
  | none, _ => True
  | some dm, S => Hold dm S
theorem truthO_iff {o : Option Dm} {S : List Pr} : truthO S o = true ↔ HoldO o S := by cases o <;> simp [truthO, HoldO, Hold]
def Imp (o u : Option Dm) : Prop := ∀ S, HoldO o S → HoldO u S
theorem Imp.refl (o : Option Dm) : Imp o o := fun _ h => h
theorem Imp.trans {o u v : Option Dm} (a : Imp o u) (b : Imp u v) : Imp o v := fun S h => b S (a S h)
theorem imp_none (o : Option Dm) : Imp o none := fun _ _ => True.intro
theorem none_imp (o : Option Dm) : Imp none o ↔ o = none := by
  constructor
  · intro h
    cases o with
    | none => rfl
    | some dm => exact absurd (h [] True.intro) (hold_nil dm)
  · rintro rfl; exact Imp.refl _
theorem holdO_mono {o : Option Dm} {S T : List Pr} (h : ∀ p ∈ S, p ∈ T) (k : HoldO o S) : HoldO o T := by
  cases o with
  | none => exact True.intro
  | some dm => exact hold_mono h dm k
theorem holdO_only {o : Option Dm} {S T : List Pr} (h : ∀ p ∈ clmO o, p ∈ S → p ∈ T) (k : HoldO o S) : HoldO o T := by
  cases o with
  | none => exact True.intro
  | some dm => exact hold_only dm h k
theorem neatO_cover {o : Option Dm} {ls : List (List Pr)} (h : NeatO o ls) {S : List Pr} (k : HoldO o S) : ∃ l ∈ ls, ∀ p ∈ l, p ∈ S := by
  cases o with
  | none =>
    have e : ls = [[]] := h
    subst e
    exact ⟨[], by simp, by simp⟩
  | some dm =>
    obtain ⟨T, aT, mT⟩ := asc_ex S
    obtain ⟨m, hm, hs⟩ := least_in T.length T (Nat.le_refl _) aT (hold_mono (fun p hp => (mT p).mpr hp) dm k)
    exact ⟨m, (h.mem m).mpr hm, fun p hp => (mT p).mp (hs p hp)⟩
theorem neatO_hold {o : Option Dm} {ls : List (List Pr)} (h : NeatO o ls) {l : List Pr} (hl : l ∈ ls) : HoldO o l := by
  cases o with
  | none => exact True.intro
  | some dm => exact ((h.mem l).mp hl).2.2.1
theorem imp_neat {o u : Option Dm} {ls ms : List (List Pr)} (h : NeatO o ls) (g : NeatO u ms) : (ls.all fun l => ms.any fun m => hasAll l m) = decide (Imp o u) := by
  rw [Bool.eq_iff_iff, decide_eq_true_eq]
  simp only [List.all_eq_true, List.any_eq_true, hasAll_iff]
  constructor
  · intro z S hS
    obtain ⟨l, hl, ls'⟩ := neatO_cover h hS
    obtain ⟨m, hm, ms'⟩ := z l hl
    exact holdO_mono (fun p hp => ls' p (ms' p hp)) (neatO_hold g hm)
  · intro z l hl
    exact neatO_cover g (z l (neatO_hold h hl))
theorem imp_all {o u : Option Dm} {L : List Pr} (hL : ∀ p, p ∈ L ↔ p ∈ clmO o ++ clmO u) : ((allL L).all fun l => truthO l u || !truthO l o) = decide (Imp o u) := by
  rw [Bool.eq_iff_iff, decide_eq_true_eq]
  simp only [List.all_eq_true, Bool.or_eq_true, Bool.not_eq_true']
  constructor
  · intro z S hS
    have hf := z (L.filter fun p => decide (p ∈ S)) (mem_all.mpr List.filter_sublist)
    have k1 : HoldO o (L.filter fun p => decide (p ∈ S)) := holdO_only (fun p hp hs => List.mem_filter.mpr ⟨(hL p).mpr (by simp [hp]), decide_eq_true hs⟩) hS
    rcases hf with hf | hf
    · exact holdO_mono (fun p hp => of_decide_eq_true (List.mem_filter.mp hp).2) (truthO_iff.mp hf)
    · rw [truthO_iff.mpr k1] at hf; cases hf
  · intro z l _
    cases c : truthO l o with
    | false => exact .inr rfl
    | true => exact .inl (truthO_iff.mpr (z l (truthO_iff.mp c)))
/-! ### implied -/
structure Pl (pool : List Pr) : Prop where
  ne : pool ≠ []
  len : pool.length ≤ 8
  ok : ∀ p ∈ pool, okP p
structure DrO (o : Option Dm) (pool : List Pr) : Prop where
  dp : ∀ dm, o = some dm → dm.dp ≤ 4
  sub : ∀ p ∈ clmO o, p ∈ pool
theorem DrO.dr {o : Option Dm} {pool : List Pr} (h : DrO o pool) (k : Pl pool) : ∀ dm, o = some dm → ∃ pool, Dr dm pool := fun dm e => by
  subst e
  exact ⟨pool, h.dp dm rfl, h.sub, by have := k.len; omega, k.ok⟩
theorem neatO_ok {o : Option Dm} {pool : List Pr} {ls : List (List Pr)} (h : DrO o pool) (k : Pl pool) (n : NeatO o ls) : ∀ l ∈ ls, (∀ p ∈ l, okP p) ∧ l.length ≤ 8 := by
  intro l hl
  cases o with
  | none =>
    have e : ls = [[]] := n
    subst e
    rw [List.mem_singleton] at hl
    subst hl
    exact ⟨by simp, by simp⟩
  | some dm =>
    have z := (n.mem l).mp hl
    have s : ∀ p ∈ l, p ∈ pool := fun p hp => h.sub p (z.2.1 p hp)
    refine ⟨fun p hp => k.ok p (s p hp), ?_⟩
    have := nd_le z.1.nd s
    have := k.len
    omega
def spImplied : DSp := fun args M Q => ∃ (o u : Option Dm) (pool : List Pr), args = [oD o, oD u] ∧ Pl pool ∧ DrO o pool ∧ DrO u pool ∧ Q (.bl (decide (Imp o u))) M
theorem ok_implied : ∀ args M Q, spImplied args M Q → t_implied spNeat spHasAll (ends Q) (dstart N_implied.length args) M := by
  rintro args M Q ⟨o, u, pool, rfl, hp, ho, hu, q⟩
  show t_implied spNeat spHasAll (ends Q) [some (oD o), some (oD u), none, none, none] M
  simp only [t_implied, dSeq, dAsg, dCall, dCons, dNil, dVar, List.getElem?_cons_zero, List.getElem?_cons_succ]
  refine ⟨u, rfl, hu.dr hp, fun ms hm ml => ?_⟩
  have oku := neatO_ok hu hp hm
  simp only [dgName, List.set]
  simp only [t_implied_1, dRet, dCB, dCall, dCons, dNil, dLc, iSeq, dVar, dwipe, List.set, List.getElem?_cons_zero, List.getElem?_cons_succ]
  refine ⟨o, rfl, ho.dr hp, fun ls hl ll => ?_⟩
  have oko := neatO_ok ho hp hl
  dsimp only
  refine comp_map lotD (fun l => D.bl (ms.any fun m => hasAll l m)) ls [] _ (fun l hl' K hK => ?_) (by rw [sizeLine_eq]; simp; omega) ?_
  · simp only [dCB, dCall, dCons, dNil, dLc, iSeq, dVar, dwipe, List.set, List.getElem?_cons_zero, List.getElem?_cons_succ]
    refine comp_map lotD (fun m => D.bl (hasAll l m)) ms [] _ (fun m hm' K2 hK2 => ?_) (by rw [sizeLine_eq]; simp; omega) ?_
    · simp only [dCall, dCons, dNil, dVar, List.set, List.getElem?_cons_zero, List.getElem?_cons_succ]
      exact ⟨l, m, rfl, (oko l hl').1, (oku m hm').1, by have := (oku m hm').2; omega, hK2⟩
    · rw [List.nil_append]
      exact gAny_of hK
  · rw [List.nil_append]
    refine gAll_of ?_
    rw [imp_neat hl hm]
    exact done q
theorem ok_law_implied : ∀ args M Q, spImplied args M Q → t_law_implied (spClaims 4) spAll (spTruth 4) (ends Q) (dstart N_law_implied.length args) M := by
  rintro args M Q ⟨o, u, pool, rfl, hp, ho, hu, q⟩
  show t_law_implied (spClaims 4) spAll (spTruth 4) (ends Q) [some (oD o), some (oD u), none, none] M
  have h8 := hp.len
  have dmo : ∀ {o : Option Dm}, DrO o pool → ∀ dm, o = some dm → dm.dp ≤ 3 + 1 ∧ dm.ok := fun h dm e => by
    subst e
    exact ⟨h.dp dm rfl, dm_ok h.sub hp.ok⟩
  simp only [t_law_implied, dSeq, dAsg, dSortSet, dOp, dCall, dCons, dNil, dVar, List.getElem?_cons_zero, List.getElem?_cons_succ]
  refine ⟨o, pool, rfl, fun dm e => (dmo ho dm e).1, ho.sub, by omega, fun L1 a1 m1 l1 => ?_⟩
  refine ⟨u, pool, rfl, fun dm e => (dmo hu dm e).1, hu.sub, by omega, fun L2 a2 m2 l2 => ?_⟩
  simp only [gAdd, lst_lst, List.length_map]
  refine ⟨by rw [sizeLine_eq]; omega, ?_⟩
  rw [← List.map_append]
  refine ⟨setOk_prs (by simp; omega), fun ys hys => ?_⟩
  obtain ⟨L, rfl, aL, mL⟩ := sorted_prs hys
  have mem : ∀ p, p ∈ L ↔ p ∈ clmO o ++ clmO u := fun p => by rw [mL, List.mem_append, List.mem_append, m1, m2]
  have sub : ∀ p ∈ L, p ∈ pool := fun p hp => by
    rcases List.mem_append.mp ((mem p).mp hp) with z | z
    · exact ho.sub p z
    · exact hu.sub p z
  have lL := nd_le aL.nd sub
  simp only [dgName, List.set]
  simp only [t_law_implied_1, dRet, dCB, dCall, dCons, dNil, dLc, iSeq, dVar, dwipe, List.set, List.getElem?_cons_zero, List.getElem?_cons_succ]
  refine ⟨L, rfl, by omega, ?_⟩
  have al := allL_len L
  have a2 : 2 ^ L.length ≤ 2 ^ 8 := Nat.pow_le_pow_right (by decide) (by omega)
  dsimp only
  refine comp_map lotD (fun l => D.bl (truthO l u || !truthO l o)) (allL L) [] _ (fun l hl K hK => ?_) (by rw [sizeLine_eq]; simp; omega) ?_
  · have lok : ∀ p ∈ l, okP p := fun p hp' => hp.ok p (sub p ((mem_all.mp hl).subset hp'))
    simp only [dOrV, dNotV, dCall, dCons, dNil, dVar, List.set, List.getElem?_cons_zero, List.getElem?_cons_succ]
    refine ⟨u, l, rfl, dmo hu, lok, ?_⟩
    cases c : truthO l u with
    | true =>
      rw [c, Bool.true_or] at hK
      simp only [if_true]
      exact hK
    | false =>
      rw [c, Bool.false_or] at hK
      simp only [Bool.false_eq_true, if_false]
      exact ⟨o, l, rfl, dmo ho, lok, hK⟩
  · rw [List.nil_append]
    refine gAll_of ?_
    rw [imp_all mem]
    exact done q
/-! ### with one claim another -/
def spMoved : Nat → DSp
  | 0 => fun _ _ _ => False
  | k + 1 => fun args M Q => ∃ (h : Addr) (o : MO) (dm : Dm) (pool : List Pr), args = [.ref h, dm.th.d, .lst ((pool.map prT).map Th.d)] ∧ M h = some o ∧ HandOk o ∧ dm.dp ≤ k + 1 ∧ (∀ p ∈ clm dm, p ∈ pool) ∧ pool ≠ [] ∧ pool.length ≤ 20 ∧
    ∀ (dm' : Dm) o', dm'.dp ≤ dm.dp → (∀ p ∈ clm dm', p ∈ pool) → HandOk o' → Q dm'.th.d (M.upd h o')
theorem ok_law_moved (k : Nat) : ∀ args M Q, spMoved (k + 1) args M Q → t_law_moved spSome spDraw (spMoved k) (ends Q) (dstart N_law_moved.length args) M := by
  rintro args M Q ⟨h, o, dm, pool, rfl, hM, ho, hdp, hs, pn, pl, q⟩
  show t_law_moved spSome spDraw (spMoved k) (ends Q) [some (.ref h), some dm.th.d, some (.lst ((pool.map prT).map Th.d))] M
  have ix2 : ∀ (a b c : D) (M : Sto) (K : DK), gIx (.tup [a, b, c]) (.int 2) M K = K c M := fun a b c M K => by simp [gIx, seqOf, atI, ixN]
  have two : ∀ (a b : Dm) (hw : Str), (max a.dp b.dp + 1 ≤ k + 1) → hw ≠ "claim" → (∀ p ∈ clm a ++ clm b, p ∈ pool) →
      (∀ (a' b' : Dm) o', a'.dp ≤ a.dp → b'.dp ≤ b.dp → (∀ p ∈ clm a' ++ clm b', p ∈ pool) → HandOk o' → Q (.tup [.str hw, a'.th.d, b'.th.d]) (M.upd h o')) → t_law_moved spSome spDraw (spMoved k) (ends Q) [some (.ref h), some (.tup [.str hw, a.th.d, b.th.d]), some (.lst ((pool.map prT).map Th.d))] M := by
    intro a b hw hd hc hs q
    cases k with
    | zero => have := dp_pos a; omega
    | succ k =>
      simp only [t_law_moved, dSeq, dIfS, dTest, dOp, dVar, dC, List.getElem?_cons_zero, List.getElem?_cons_succ, ix_tup0, eq_str, hc, decide_false, Bool.false_eq_true, if_false, dNext]
      simp only [t_law_moved_2, dSeq, dIfS, dTest, dOp, dCall, dCons, dNil, dVar, dC, List.getElem?_cons_zero, List.getElem?_cons_succ]
      refine ⟨h, 2, o, rfl, hM, ho, by decide, by decide, fun r o1 r1 r2 ho1 => ?_⟩
      simp only [eq_int]
      by_cases c : r = 0
      · simp only [c, decide_true, if_true, dRet, dTup, dCall, dCons, dNil, dOp, dVar, dC, List.getElem?_cons_zero, List.getElem?_cons_succ, ix_tup0, ix_tup1, ix2]
        refine ⟨h, o1, a, pool, rfl, Sto.upd_same, ho1, by omega, fun p hp => hs p (by simp [hp]), pn, pl, fun a' o2 d1 d2 ho2 => ?_⟩
        rw [Sto.upd_upd]
        refine ⟨sl_le (by simp), done (q a' b o2 d1 (Nat.le_refl _) (fun p hp => ?_) ho2)⟩
        rcases List.mem_append.mp hp with z | z
        · exact d2 p z
        · exact hs p (by simp [z])
      · simp only [c, decide_false, Bool.false_eq_true, if_false, dNext]
        simp only [t_law_moved_1, dRet, dTup, dCall, dCons, dNil, dOp, dVar, dC, List.getElem?_cons_zero, List.getElem?_cons_succ, ix_tup0, ix_tup1, ix2]
        refine ⟨h, o1, b, pool, rfl, Sto.upd_same, ho1, by omega, fun p hp => hs p (by simp [hp]), pn, pl, fun b' o2 d1 d2 ho2 => ?_⟩
        rw [Sto.upd_upd]
        refine ⟨sl_le (by simp), done (q a b' o2 (Nat.le_refl _) d1 (fun p hp => ?_) ho2)⟩
        rcases List.mem_append.mp hp with z | z
        · exact hs p (by simp [z])
        · exact d2 p z
  cases dm with
  | claim s n =>
    obtain ⟨w, hw⟩ : ∃ w : Str, w = "claim" := ⟨_, rfl⟩
    have y : decide (w = "claim") = true := decide_eq_true hw
    simp only [Dm.th, Th.d, Th.ds]
    rw [← hw]
    simp only [t_law_moved, dSeq, dIfS, dTest, dOp, dVar, dC, List.getElem?_cons_zero, List.getElem?_cons_succ, ix_tup0, eq_str, y, if_true, dRet, dTup, dCall, dCons, dNil, List.length_cons, List.length_nil, Nat.zero_add, size1, true_and]
    refine some_lst hM ho (by simpa using pn) (by simp; omega) fun x o2 hx ho2 => ?_
    obtain ⟨t, ht, rfl⟩ := List.mem_map.mp hx
    obtain ⟨p, hp, rfl⟩ := List.mem_map.mp ht
    rw [prT_d]
    refine add_tup (sl_le (by simp)) ?_
    rw [claim_d]
    exact done (q (.claim p.1 p.2) o2 (by simp [Dm.dp]) (fun r hr => by simp [clm] at hr; subst hr; exact hp) ho2)
  | both a b =>
    have := two a b "both" hdp ne_cb.symm hs fun a' b' o' h1 h2 h3 h4 => by
      rw [both_d]
      exact q _ o' (by simp [Dm.dp]; omega) h3 h4
    simpa only [Dm.th, Th.d, Th.ds] using this
  | eith a b =>
    have := two a b "either" hdp ne_ce.symm hs fun a' b' o' h1 h2 h3 h4 => by
      rw [eith_d]
      exact q _ o' (by simp [Dm.dp]; omega) h3 h4
    simpa only [Dm.th, Th.d, Th.ds] using this
/-! ### near ones -/
def spNear : DSp := fun args M Q => ∃ (h : Addr) (o : MO) (dm : Dm) (pool : List Pr), args = [.ref h, dm.th.d, .lst ((pool.map prT).map Th.d)] ∧ M h = some o ∧ HandOk o ∧ dm.dp ≤ 4 ∧ (∀ p ∈ clm dm, p ∈ pool) ∧ Pl pool ∧
  ∀ (dm' : Dm) o', dm'.dp ≤ 4 → (∀ p ∈ clm dm', p ∈ pool) → HandOk o' → Q dm'.th.d (M.upd h o')
theorem ok_law_near : ∀ args M Q, spNear args M Q → t_law_near spDraw spOther (spMoved 4) (spDeep 4) spDemandA spSome (spTurned 4) (ends Q) (dstart N_law_near.length args) M := by
  rintro args M Q ⟨h, o, dm, pool, rfl, hM, ho, hdp, hs, hp, q⟩
  show t_law_near spDraw spOther (spMoved 4) (spDeep 4) spDemandA spSome (spTurned 4) (ends Q) [some (.ref h), some dm.th.d, some (.lst ((pool.map prT).map Th.d)), none, none, none] M
  have h8 := hp.len
  simp only [t_law_near, dSeq, dAsg, dCall, dCons, dNil, dC, dVar, List.getElem?_cons_zero, List.getElem?_cons_succ]
  refine ⟨h, 6, o, rfl, hM, ho, by decide, by decide, fun r o1 r1 r2 ho1 => ?_⟩
  have q : ∀ (dm' : Dm) o', dm'.dp ≤ 4 → (∀ p ∈ clm dm', p ∈ pool) → HandOk o' → Q dm'.th.d ((M.upd h o1).upd h o') := fun dm' o' h1 h2 h3 => by
    rw [Sto.upd_upd]; exact q dm' o' h1 h2 h3
  have hM1 : (M.upd h o1) h = some o1 := Sto.upd_same
  generalize M.upd h o1 = M1 at q hM1
  simp only [dgName, List.set]
  simp only [t_law_near_4, dSeq, dIfS, dTest, dOp, dVar, dC, List.getElem?_cons_zero, List.getElem?_cons_succ, eq_int]
  by_cases c0 : r = 0
  · simp only [c0, decide_true, if_true, dRet, dCall, dCons, dNil, dVar, dC, List.getElem?_cons_zero, List.getElem?_cons_succ]
    exact ⟨h, o1, dm, pool, rfl, hM1, ho1, hdp, hs, hp.ne, by omega, hp.ok, fun dm' o' hd ho' => done (q dm' o' hd.dp hd.sub ho')⟩
  simp only [c0, decide_false, Bool.false_eq_true, if_false, dNext]
  simp only [t_law_near_3, dSeq, dIfS, dTest, dOp, dVar, dC, List.getElem?_cons_zero, List.getElem?_cons_succ, eq_int]
  by_cases c1 : r = 1
  · simp only [c1, decide_true, if_true, dRet, dCall, dCons, dNil, dVar, dC, List.getElem?_cons_zero, List.getElem?_cons_succ]
    exact ⟨h, o1, dm, pool, rfl, hM1, ho1, hdp, hs, hp.ne, by omega, fun dm' o' h1 h2 ho' => done (q dm' o' (by omega) h2 ho')⟩
  simp only [c1, decide_false, Bool.false_eq_true, if_false, dNext]
  have last : t_law_near_1 spDraw spOther (spMoved 4) (spDeep 4) spDemandA spSome (spTurned 4) (ends Q) [some (.ref h), some dm.th.d, some (.lst ((pool.map prT).map Th.d)), some (.int r), none, none] M1 := by
    simp only [t_law_near_1, dRet, dCall, dCons, dNil, dVar, dC, List.getElem?_cons_zero, List.getElem?_cons_succ]
    exact ⟨3, by decide, h, o1, pool, rfl, hM1, ho1, hp.ne, by omega, fun m o2 m1 m2 m3 ho2 => done (q m o2 m1 m2 ho2)⟩
  simp only [t_law_near_2, dSeq, dIfS, dAnd, dTest, dOp, dVar, dC, dCall, dCons, dNil, List.getElem?_cons_zero, List.getElem?_cons_succ, gLt]
  by_cases c5 : r < 5
  · simp only [c5, decide_true, if_true]
    refine ⟨dm, rfl, hdp, ?_⟩
    by_cases c4 : (dm.dp : Int) < 4
    · simp only [c4, decide_true, if_true, dAsg, dCall, dCons, dNil, dC, dVar, List.getElem?_cons_zero, List.getElem?_cons_succ]
      refine ⟨2, by decide, h, o1, pool, rfl, hM1, ho1, hp.ne, by omega, fun m o2 m1 m2 m3 ho2 => ?_⟩
      have m1 : m.dp ≤ 3 := m1
      simp only [dgName, List.set, dSeq, dAsg, dCall, dLst, dCons, dNil, dC, dVar, List.getElem?_cons_zero, List.getElem?_cons_succ, List.length_cons, List.length_nil, Nat.zero_add, Nat.reduceAdd, size2, true_and]
      refine some_lst Sto.upd_same ho2 (by simp) (by simp) fun w o3 hw ho3 => ?_
      rw [Sto.upd_upd]
      simp only [dRet, dCall, dTup, dCons, dNil, dVar, List.set, List.getElem?_cons_zero, List.getElem?_cons_succ, List.length_cons, List.length_nil, Nat.zero_add, Nat.reduceAdd, size3, true_and]
      have sub : ∀ p ∈ clm dm ++ clm m, p ∈ pool := fun p hp => by
        rcases List.mem_append.mp hp with z | z
        · exact hs p z
        · exact m2 p z
      simp only [List.mem_cons, List.not_mem_nil, or_false] at hw
      rcases hw with rfl | rfl
      · refine ⟨h, o3, .both dm m, by rw [both_d], Sto.upd_same, ho3, by simp [Dm.dp]; omega, fun dm' o' ha ho' => ?_⟩
        rw [Sto.upd_upd]
        exact done (q dm' o' (by rw [ha.dp]; simp [Dm.dp]; omega) (fun p hp => sub p (ha.sub p hp)) ho')
      · refine ⟨h, o3, .eith dm m, by rw [eith_d], Sto.upd_same, ho3, by simp [Dm.dp]; omega, fun dm' o' ha ho' => ?_⟩
        rw [Sto.upd_upd]
        exact done (q dm' o' (by rw [ha.dp]; simp [Dm.dp]; omega) (fun p hp => sub p (ha.sub p hp)) ho')
    · simp only [c4, decide_false, Bool.false_eq_true, if_false, dNext]
      exact last
  · simp only [c5, decide_false, Bool.false_eq_true, if_false, dNext]
    exact last
/-! ### told right -/
theorem oD_py {o : Option Dm} {pool : List Pr} (h : DrO o pool) (k : Pl pool) : ∃ p, toPy (oD o) = some p ∧ p.showable = true ∧ p.hasDict = false ∧ p.depth ≤ 100 ∧ p.shown.length ≤ 100000 := by
  cases o with
  | none => exact ⟨_, rfl, by simp [PyData.showable], by simp [PyData.hasDict], by simp [PyData.depth], by decide +kernel⟩
  | some dm =>
    have hd := h.dp dm rfl
    obtain ⟨o1, o2, o3⟩ := Dm.th_ok dm (dm_ok h.sub k.ok)
    refine ⟨dm.th.py, toPy_d _, show_py _ o1, dict_py _, by rw [depth_py, o2]; omega, ?_⟩
    have := th_len o1
    have c := clm_le dm
    have : 2 ^ dm.dp ≤ 2 ^ 4 := Nat.pow_le_pow_right (by decide) hd
    omega
theorem say_oo {o u : Option Dm} {pool : List Pr} (h : DrO o pool) (g : DrO u pool) (k : Pl pool) : ∃ s, Say (.tup [oD o, oD u]) s := by
  obtain ⟨p, p1, p2, p3, p4, p5⟩ := oD_py h k
  obtain ⟨r, r1, r2, r3, r4, r5⟩ := oD_py g k
  refine ⟨_, .tuple [p, r], by simp [toPy, toPys, p1, r1], by simp [PyData.showable, PyData.showableAll, p2, r2], .inl (by simp [PyData.hasDict, PyData.hasDictAll, p3, r3]), by simp [PyData.depth, PyData.depthAll]; omega, ?_, rfl⟩
  have := tuple_len [p, r]
  simp [PyData.shownAll] at this
  rw [sizeLine_eq]; omega
theorem say_bl (b : Bool) : ∃ s, Say (.bl b) s := by
  refine ⟨_, .bool b, rfl, by simp [PyData.showable], .inl (by simp [PyData.hasDict]), by simp [PyData.depth], ?_, rfl⟩
  cases b
  · rw [sizeLine_eq]; decide +kernel
  · rw [sizeLine_eq]; decide +kernel
def spRight : DSp := fun args M Q => ∃ (o u : Option Dm) (pool : List Pr), args = [oD o, oD u] ∧ Pl pool ∧ DrO o pool ∧ DrO u pool ∧ Q (.bl true) M
theorem ok_law_is_right : ∀ args M Q, spRight args M Q → t_law_is_right spImplied spImplied (ends Q) (dstart N_law_is_right.length args) M := by
  rintro args M Q ⟨o, u, pool, rfl, hp, ho, hu, q⟩
  show t_law_is_right spImplied spImplied (ends Q) [some (oD o), some (oD u), none] M
  obtain ⟨s, hs⟩ := say_oo ho hu hp
  obtain ⟨s2, hs2⟩ := say_bl (decide (Imp o u))
  simp only [t_law_is_right, dSeq, dAsg, dCB, dTup, dCons, dNil, dVar, List.getElem?_cons_zero, List.getElem?_cons_succ, List.length_cons, List.length_nil, Nat.zero_add, Nat.reduceAdd, size2, true_and]
  refine repr_say hs ?_
  simp only [dgName, List.set]
  simp only [t_law_is_right_1, dRet, dAndV, dTup, dCall, dCB, dCons, dNil, dOp, dVar, List.getElem?_cons_zero, List.getElem?_cons_succ]
  refine ⟨o, u, pool, rfl, hp, ho, hu, ?_⟩
  refine repr_say hs2 ?_
  refine ⟨o, u, pool, rfl, hp, ho, hu, ?_⟩
  refine repr_say hs2 ?_
  simp only [eq_str, decide_true, if_true, List.length_cons, List.length_nil, Nat.zero_add, Nat.reduceAdd, size2, true_and]
  refine repr_say hs ?_
  simp only [eq_str, decide_true]
  exact done q
end DL

/-! A9: the law. -/
namespace DL
open PySem PySem.Spec PyProof.Rows L2
open Classical
theorem take_ne {α : Type} {xs : List α} {n : Nat} (h : xs ≠ []) (hn : 0 < n) : xs.take n ≠ [] := by
  cases xs with
  | nil => exact absurd rfl h
  | cons x r =>
    cases n with
    | zero => omega
    | succ n => simp
theorem comp_fil {α : Type} {e f : α → D} {i : Nat} {tt : DTT} {te : DTE} {τ : DSt} {M : Sto} (p : α → Bool) : ∀ (xs : List α) (acc : List D) (Q : List D → Sto → Prop), (∀ x ∈ xs, ∀ K : Bool → Sto → Prop, K (p x) M → tt (τ.set i (some (e x))) M K) → (∀ x ∈ xs, p x = true → ∀ K : DK, K (f x) M → te (τ.set i (some (e x))) M K) → acc.length + xs.length ≤ sizeLine →
    Q (acc ++ (xs.filter p).map f) M → compD (dgName i) tt te τ Q (xs.map e) acc M
  | [], acc, Q, _, _, _, q => by simpa [compD] using q
  | x :: xs, acc, Q, h, g, hz, q => by
    rw [List.map_cons]
    unfold compD
    simp only [dgName]
    refine h x (by simp) _ ?_
    by_cases c : p x = true
    · rw [if_pos c]
      refine g x (by simp) c _ ⟨by rw [List.length_cons] at hz; omega, comp_fil p xs _ Q (fun y hy => h y (by simp [hy])) (fun y hy => g y (by simp [hy])) (by simp at hz ⊢; omega) ?_⟩
      simpa [List.filter_cons, c] using q
    · rw [if_neg c]
      refine comp_fil p xs acc Q (fun y hy => h y (by simp [hy])) (fun y hy => g y (by simp [hy])) (by simp at hz ⊢; omega) ?_
      have c' : p x = false := by simpa using c
      simpa [List.filter_cons, c'] using q
theorem ne_strs {n : Nat} {a b : Str} {M : Sto} {Q : DK} : gNe n (.str a) (.str b) M Q = Q (.bl (!decide (a = b))) M := rfl
theorem isnot_bl {a b : Bool} {M : Sto} {Q : DK} : gIsNot (.bl a) (.bl b) M Q = Q (.bl (!decide (a = b))) M := rfl
theorem is_non {x : D} {M : Sto} {Q : DK} : gIs x .non M Q = Q (.bl (isNon x)) M := by cases x <;> rfl
theorem isNon_oD (o : Option Dm) : isNon (oD o) = decide (o = none) := by
  cases o with
  | none => rfl
  | some dm => simp [oD, isNon_th]
/-- those of a row -/
structure Row (os : List (Option Dm)) (pool : List Pr) : Prop where
  dr : ∀ o ∈ os, DrO o pool
  len : os.length ≤ 1000
theorem drO_none (pool : List Pr) : DrO none pool := ⟨fun _ e => (by cases e), fun p hp => by cases hp⟩
theorem drO_some {dm : Dm} {pool : List Pr} (h : dm.dp ≤ 4) (g : ∀ p ∈ clm dm, p ∈ pool) : DrO (some dm) pool := ⟨fun _ e => by cases e; exact h, g⟩
theorem all_right {os : List (Option Dm)} {pool : List Pr} {o : Option Dm} {M : Sto} {τ : DSt} {Q : DK} (hp : Pl pool) (ho : DrO o pool) (R : Row os pool) (h4 : τ[4]? = some (some (oD o))) (hl : τ.length = 13) (q : Q (.bl true) M) :
    compD (dgName 10) dYes (dCall spRight (dCons (dVar 4) (dCons (dVar 10) dNil))) (dwipe τ [10]) (fun acc M2 => gAll [.lst acc] M2 Q) (os.map oD) [] M := by
  refine comp_map oD (fun _ => D.bl true) os [] _ (fun u hu K hK => ?_) (by rw [sizeLine_eq]; have := R.len; simp; omega) ?_
  · have e4 : ((dwipe τ [10]).set 10 (some (oD u)))[4]? = some (some (oD o)) := by
      simp only [dwipe]
      rw [List.getElem?_set_ne (by decide), List.getElem?_set_ne (by decide)]; exact h4
    have e10 : ((dwipe τ [10]).set 10 (some (oD u)))[10]? = some (some (oD u)) := by
      simp only [dwipe]
      rw [List.getElem?_set_self (by simp [hl])]
    simp only [dCall, dCons, dNil, dVar, e4, e10]
    exact ⟨o, u, pool, rfl, hp, ho, R.dr u hu, hK⟩
  · rw [List.nil_append]
    refine gAll_of (p := fun _ => true) ?_
    have : (os.all fun _ => true) = true := by simp
    rw [this]
    exact q
abbrev T1 := t_law_1 spHand spWide spRight spMixed spDraw spSome spDemandA spNear spImplied
abbrev T2 := t_law_2 spHand spWide spRight spMixed spDraw spSome spDemandA spNear spImplied
abbrev T3 := t_law_3 spHand spWide spRight spMixed spDraw spSome spDemandA spNear spImplied
abbrev T4 := t_law_4 spHand spWide spRight spMixed spDraw spSome spDemandA spNear spImplied
theorem body1 {os : List (Option Dm)} {pool : List Pr} {o : Option Dm} {M : Sto} {E : DEnds} {a0 a1 a2 a5 a6 a7 a8 a9 a10 a11 a12 : Option D} (hp : Pl pool) (ho : DrO o pool) (R : Row os pool)
    (q : E.nx [a0, a1, a2, some (.lst (os.map oD)), some (oD o), a5, a6, a7, a8, a9, a10, a11, a12] M) : T1 E [a0, a1, a2, some (.lst (os.map oD)), some (oD o), a5, a6, a7, a8, a9, a10, a11, a12] M := by
  simp only [T1, t_law_1, dIfS, dNot, dTest, dCB, dCons, dNil, dLc, iSeq, dVar, List.getElem?_cons_zero, List.getElem?_cons_succ]
  refine all_right hp ho R rfl rfl ?_
  simp only [Bool.not_true, Bool.false_eq_true, if_false, dNext]
  exact q
theorem body2 {os : List (Option Dm)} {pool : List Pr} {o : Option Dm} {M : Sto} {E : DEnds} {a0 a1 a2 a5 a6 a7 a8 a9 a10 a11 a12 : Option D} (hp : Pl pool) (ho : DrO o pool) (R : Row os pool)
    (q : E.nx [a0, a1, a2, some (.lst (os.map oD)), some (oD o), a5, a6, a7, a8, a9, a10, a11, a12] M) : T2 E [a0, a1, a2, some (.lst (os.map oD)), some (oD o), a5, a6, a7, a8, a9, a10, a11, a12] M := by
  have t1 : decide (Imp o o) = true := decide_eq_true (Imp.refl o)
  have t2 : decide (Imp o none) = true := decide_eq_true (imp_none o)
  have t3 : decide (Imp none o) = isNon (oD o) := by rw [isNon_oD]; exact decide_eq_decide.mpr (none_imp o)
  obtain ⟨s, hs⟩ := say_bl (isNon (oD o))
  simp only [T2, t_law_2, dSeq, dIfS, dOr, dTest, dOp, dCall, dCons, dNil, dC, dVar, List.getElem?_cons_zero, List.getElem?_cons_succ]
  refine ⟨o, o, pool, rfl, hp, ho, ho, ?_⟩
  rw [t1]
  simp only [isnot_bl, decide_true, Bool.not_true, Bool.false_eq_true, if_false]
  refine ⟨o, none, pool, rfl, hp, ho, drO_none _, ?_⟩
  rw [t2]
  simp only [isnot_bl, decide_true, Bool.not_true, Bool.false_eq_true, if_false, dNext]
  simp only [dSeq, dIfS, dTest, dOp, dCB, dCall, dCons, dNil, dC, dVar, List.getElem?_cons_zero, List.getElem?_cons_succ]
  refine ⟨none, o, pool, rfl, hp, drO_none _, ho, ?_⟩
  rw [t3]
  refine repr_say hs ?_
  rw [is_non]
  refine repr_say hs ?_
  simp only [ne_strs, decide_true, Bool.not_true, Bool.false_eq_true, if_false, dNext]
  simp only [dIfS, dNot, dTest, dCB, dCons, dNil, dLc, iSeq, dVar, List.getElem?_cons_zero, List.getElem?_cons_succ]
  refine all_right hp ho R rfl rfl ?_
  simp only [Bool.not_true, Bool.false_eq_true, if_false, dNext]
  exact q
theorem body3 {os : List (Option Dm)} {pool : List Pr} {o u : Option Dm} {M : Sto} {E : DEnds} {a0 a1 a2 a5 a6 a7 a8 a9 a11 a12 : Option D} (hp : Pl pool) (ho : DrO o pool) (hu : DrO u pool) (R : Row os pool)
    (q : E.nx [a0, a1, a2, some (.lst (os.map oD)), some (oD o), a5, a6, a7, a8, a9, some (oD u), a11, a12] M) : T3 E [a0, a1, a2, some (.lst (os.map oD)), some (oD o), a5, a6, a7, a8, a9, some (oD u), a11, a12] M := by
  simp only [T3, t_law_3, dIfS, dAnd, dNot, dTest, dCall, dCB, dCons, dNil, dLc, iSeq, dVar, dwipe, List.set, List.getElem?_cons_zero, List.getElem?_cons_succ]
  refine ⟨o, u, pool, rfl, hp, ho, hu, ?_⟩
  by_cases c : Imp o u
  · simp only [c, decide_true, if_true]
    refine comp_fil (e := oD) (f := fun v => D.bl (decide (Imp o v))) (fun v => decide (Imp u v)) os [] _ (fun v hv K hK => ?_) (fun v hv _ K hK => ?_) (by rw [sizeLine_eq]; have := R.len; simp; omega) ?_
    · simp only [dTest, dCall, dCons, dNil, dVar, List.set, List.getElem?_cons_zero, List.getElem?_cons_succ]
      exact ⟨u, v, pool, rfl, hp, hu, R.dr v hv, hK⟩
    · simp only [dCall, dCons, dNil, dVar, List.set, List.getElem?_cons_zero, List.getElem?_cons_succ]
      exact ⟨o, v, pool, rfl, hp, ho, R.dr v hv, hK⟩
    · rw [List.nil_append]
      refine gAll_of ?_
      have : ((os.filter fun v => decide (Imp u v)).all fun v => decide (Imp o v)) = true := by
        rw [List.all_eq_true]
        intro v hv
        exact decide_eq_true (c.trans (of_decide_eq_true (List.mem_filter.mp hv).2))
      rw [this]
      simp only [Bool.not_true, Bool.false_eq_true, if_false, dNext]
      exact q
  · simp only [c, decide_false, Bool.false_eq_true, if_false, dNext]
    exact q
theorem list_of {os : List (Option Dm)} {d : D} {ds : List D} {rs : List (Option Dm)} (e : d :: ds = rs.map oD) : ∃ o r, rs = o :: r ∧ d = oD o ∧ ds = r.map oD := by
  cases rs with
  | nil => cases e
  | cons o r => simp at e; exact ⟨o, r, rfl, e.1, e.2⟩
theorem loop1 {os : List (Option Dm)} {pool : List Pr} {M : Sto} {E : DEnds} {a0 a1 a2 a5 a6 a7 a8 a9 a10 a11 a12 : Option D} (hp : Pl pool) (R : Row os pool)
    (q : ∀ a4, E.nx [a0, a1, a2, some (.lst (os.map oD)), a4, a5, a6, a7, a8, a9, a10, a11, a12] M) : ∀ (rs : List (Option Dm)) (a4 : Option D), (∀ o ∈ rs, o ∈ os) → loopD (dgName 4) T1 E (rs.map oD) [a0, a1, a2, some (.lst (os.map oD)), a4, a5, a6, a7, a8, a9, a10, a11, a12] M
  | [], a4, _ => q a4
  | o :: rs, a4, h => by
    rw [List.map_cons, loopD]
    simp only [dgName, List.set]
    exact body1 hp (R.dr o (h o (by simp))) R (loop1 hp R q rs _ fun u hu => h u (by simp [hu]))
theorem loop2 {os : List (Option Dm)} {pool : List Pr} {M : Sto} {E : DEnds} {a0 a1 a2 a5 a6 a7 a8 a9 a10 a11 a12 : Option D} (hp : Pl pool) (R : Row os pool)
    (q : ∀ a4, E.nx [a0, a1, a2, some (.lst (os.map oD)), a4, a5, a6, a7, a8, a9, a10, a11, a12] M) : ∀ (rs : List (Option Dm)) (a4 : Option D), (∀ o ∈ rs, o ∈ os) → loopD (dgName 4) T2 E (rs.map oD) [a0, a1, a2, some (.lst (os.map oD)), a4, a5, a6, a7, a8, a9, a10, a11, a12] M
  | [], a4, _ => q a4
  | o :: rs, a4, h => by
    rw [List.map_cons, loopD]
    simp only [dgName, List.set]
    exact body2 hp (R.dr o (h o (by simp))) R (loop2 hp R q rs _ fun u hu => h u (by simp [hu]))
theorem loop3 {os : List (Option Dm)} {pool : List Pr} {o : Option Dm} {M : Sto} {E : DEnds} {a0 a1 a2 a5 a6 a7 a8 a9 a11 a12 : Option D} (hp : Pl pool) (ho : DrO o pool) (R : Row os pool)
    (q : ∀ a10, E.nx [a0, a1, a2, some (.lst (os.map oD)), some (oD o), a5, a6, a7, a8, a9, a10, a11, a12] M) : ∀ (rs : List (Option Dm)) (a10 : Option D), (∀ o ∈ rs, o ∈ os) → loopD (dgName 10) T3 E (rs.map oD) [a0, a1, a2, some (.lst (os.map oD)), some (oD o), a5, a6, a7, a8, a9, a10, a11, a12] M
  | [], a10, _ => q a10
  | u :: rs, a10, h => by
    rw [List.map_cons, loopD]
    simp only [dgName, List.set]
    exact body3 hp ho (R.dr u (h u (by simp))) R (loop3 hp ho R q rs _ fun u hu => h u (by simp [hu]))
theorem loop4 {os : List (Option Dm)} {pool : List Pr} {M : Sto} {E : DEnds} {a0 a1 a2 a5 a6 a7 a8 a9 a11 a12 : Option D} (hp : Pl pool) (R : Row os pool)
    (q : ∀ a4 a10, E.nx [a0, a1, a2, some (.lst (os.map oD)), a4, a5, a6, a7, a8, a9, a10, a11, a12] M) : ∀ (rs : List (Option Dm)) (a4 a10 : Option D), (∀ o ∈ rs, o ∈ os) → loopD (dgName 4) T4 E (rs.map oD) [a0, a1, a2, some (.lst (os.map oD)), a4, a5, a6, a7, a8, a9, a10, a11, a12] M
  | [], a4, a10, _ => q a4 a10
  | o :: rs, a4, a10, h => by
    rw [List.map_cons, loopD]
    simp only [dgName, List.set, T4, t_law_4, dFor, iSeq, dVar, List.getElem?_cons_zero, List.getElem?_cons_succ]
    exact loop3 hp (R.dr o (h o (by simp))) R (fun b => loop4 hp R q rs _ b fun u hu => h u (by simp [hu])) os _ fun u hu => hu
theorem sto_back {N : Sto} {p r : Addr} {o o' l l2 : MO} (h : N r = none) (e : r ≠ p) : ((((N.upd p o).upd r l).upd p o').upd r l2).del r = N.upd p o' := by
  funext b
  by_cases c1 : b = r
  · subst c1
    rw [Sto.del_same, Sto.upd_ne e, h]
  · rw [Sto.del_ne c1, Sto.upd_ne c1]
    by_cases c2 : b = p
    · subst c2; rw [Sto.upd_same, Sto.upd_same]
    · rw [Sto.upd_ne c2, Sto.upd_ne c1, Sto.upd_ne c2, Sto.upd_ne c2]
theorem body5 {S : D} {N : Sto} {p : Addr} {o : MO} {a2 a3 a4 a5 a6 a7 a8 a9 a10 a11 a12 : Option D} {E : DEnds} (ho : HandOk o)
    (hK : ∀ a3 a4 a6 a7 a8 a9 a10 a11 a12 o', HandOk o' → E.nx [some S, some (.ref p), a2, a3, a4, a5, a6, a7, a8, a9, a10, a11, a12] (N.upd p o')) :
    t_law_5 spHand spWide spRight spMixed spDraw spSome spDemandA spNear spImplied E [some S, some (.ref p), a2, a3, a4, a5, a6, a7, a8, a9, a10, a11, a12] (N.upd p o) := by
  have H : ∀ o : MO, (N.upd p o) p = some o := fun _ => Sto.upd_same
  have UU : ∀ o o' : MO, (N.upd p o).upd p o' = N.upd p o' := fun _ _ => Sto.upd_upd
  simp only [t_law_5, dSeq, dAsg, dSl, dNoPart, dPart, dCall, dLst, dCons, dNil, dOp, dC, dVar, List.getElem?_cons_zero, List.getElem?_cons_succ, List.length_cons, List.length_nil, Nat.zero_add, Nat.reduceAdd, size4, true_and]
  -- names
  refine ⟨p, _, _, o, rfl, H o, ho, rfl, by simp, fun ys o1 hys ho1 => ?_⟩
  rw [UU]
  obtain ⟨ws, rfl, hws⟩ := list_pre (f := D.str) (S := fun s => nice s) (ys := ys) (fun y hy => by
    have hy := hys.mem_iff.mp hy
    simp only [List.mem_cons, List.not_mem_nil, or_false] at hy
    rcases hy with rfl | rfl | rfl | rfl
    · exact ⟨_, rfl, nice_by (by decide +kernel)⟩
    · exact ⟨_, rfl, nice_by (by decide +kernel)⟩
    · exact ⟨_, rfl, nice_by (by decide +kernel)⟩
    · exact ⟨_, rfl, nice_by (by decide +kernel)⟩)
  have hwl : ws.length = 4 := by have := hys.length_eq; simpa using this
  clear hys
  refine ⟨p, 3, o1, rfl, H o1, ho1, by decide, by decide, fun r o2 r1 r2 ho2 => ?_⟩
  rw [UU]
  have er : (1 + r) = ((1 + r.toNat : Nat) : Int) := by omega
  simp only [add_int, gCut, lst_lst, cut_map, er, cut_to]
  have nn : ws.take (1 + r.toNat) ≠ [] := take_ne (by intro z; rw [z] at hwl; cases hwl) (by omega)
  have nl : (ws.take (1 + r.toNat)).length ≤ 5 := by rw [List.length_take]; omega
  have nok : ∀ s ∈ ws.take (1 + r.toNat), nice s := fun s hs => hws s (List.mem_of_mem_take hs)
  generalize ws.take (1 + r.toNat) = names at nn nl nok
  clear er r1 r2 hwl hws
  -- many
  try simp only [dgName, List.set, dSeq, dAsg, dCall, dLst, dCons, dNil, dC, dVar, List.getElem?_cons_zero, List.getElem?_cons_succ, List.length_cons, List.length_nil, Nat.zero_add, Nat.reduceAdd, size5, true_and]
  refine some_lst (H o2) ho2 (by simp) (by simp) fun x o3 hx ho3 => ?_
  rw [UU]
  have hx' : ∃ n : Nat, 1 ≤ n ∧ n ≤ 6 ∧ x = .int (n : Int) := by
    simp only [List.mem_cons, List.not_mem_nil, or_false] at hx
    rcases hx with rfl | rfl | rfl | rfl | rfl
    · exact ⟨1, by omega, by omega, rfl⟩
    · exact ⟨2, by omega, by omega, rfl⟩
    · exact ⟨4, by omega, by omega, rfl⟩
    · exact ⟨6, by omega, by omega, rfl⟩
    · exact ⟨6, by omega, by omega, rfl⟩
  obtain ⟨n, n1, n6, rfl⟩ := hx'
  clear hx
  -- pool
  try simp only [dgName, List.set, dSeq, dAsg, dLc, iRange1, dVar, dwipe, List.getElem?_cons_zero, List.getElem?_cons_succ]
  refine ⟨by omega, ?_⟩
  refine comp_hand (P := fun y => ∃ e : Pr, y = prD e ∧ okP e) _ _ _ _ ho3 (by rw [rangeD_len, sizeLine_eq]; simp; omega) (fun x hx o6 K2 ho6 hK2 => ?_) fun ys o6 l1 l2 ho6 => ?_
  · simp only [dTup, dCall, dLst, dCons, dNil, dC, dVar, List.set, List.getElem?_cons_zero, List.getElem?_cons_succ, List.length_cons, List.length_nil, Nat.zero_add, Nat.reduceAdd, size4, true_and]
    refine some_lst (H o6) ho6 (by simpa using nn) (by simp; omega) fun x o7 hx ho7 => ?_
    obtain ⟨s, hs, rfl⟩ := List.mem_map.mp hx
    rw [UU]
    refine some_lst (H o7) ho7 (by simp) (by simp) fun x o8 hx ho8 => ?_
    rw [UU]
    have hx' : ∃ m : Int, small m ∧ x = .int m := by
      simp only [List.mem_cons, List.not_mem_nil, or_false] at hx
      rcases hx with rfl | rfl | rfl | rfl <;> exact ⟨_, small_lit (by decide), rfl⟩
    obtain ⟨m, hm, rfl⟩ := hx'
    exact ⟨sl_le (by simp), hK2 _ o8 ⟨(s, m), (prT_d (s, m)).symm, nok s hs, hm⟩ ho8⟩
  rw [List.nil_append]
  obtain ⟨pool, rfl, pok⟩ := list_pre (f := prD) (S := okP) (ys := ys) l2
  have pl : pool.length = n := by rw [List.length_map, rangeD_len] at l1; omega
  have pn : pool ≠ [] := by intro z; rw [z] at pl; simp at pl; omega
  have e1 : pool.map prD = (pool.map prT).map Th.d := by rw [List.map_map]; rfl
  rw [e1]
  clear l1 l2
  have hp : Pl pool := ⟨pn, by omega, pok⟩
  -- first
  try simp only [dgName, List.set, dSeq, dAsg, dCall, dCons, dNil, dOp, dC, dVar, List.getElem?_cons_zero, List.getElem?_cons_succ]
  refine ⟨p, 4, o6, rfl, H o6, ho6, by decide, by decide, fun r o7 r1 r2 ho7 => ?_⟩
  rw [UU]
  have er : (1 + r) = ((r.toNat + 1 : Nat) : Int) := by omega
  simp only [add_int, er]
  refine ⟨r.toNat, by omega, p, o7, pool, rfl, H o7, ho7, pn, by omega, fun dm o8 d1 d2 d3 ho8 => ?_⟩
  rw [UU]
  have dd : dm.dp ≤ 4 := by omega
  clear er r1 r2 d1 d3
  -- some
  try simp only [dgName, List.set, dSeq, dAsg, dLstM, dCall, dCons, dNil, dC, dVar, List.getElem?_cons_zero, List.getElem?_cons_succ]
  refine ⟨p, o8, dm, pool, rfl, H o8, ho8, dd, d2, hp, fun da o9 a1 a2 ho9 => ?_⟩
  rw [UU]
  refine ⟨p, o9, dm, pool, rfl, H o9, ho9, dd, d2, hp, fun db o10 b1 b2 ho10 => ?_⟩
  rw [UU]
  simp only [List.length_cons, List.length_nil, Nat.zero_add, Nat.reduceAdd, size4, true_and]
  intro r hr
  have hrp : r ≠ p := fun e => by rw [e, H] at hr; cases hr
  have hrN : N r = none := by rw [Sto.upd_ne hrp] at hr; exact hr
  try simp only [dgName, List.set, dSeq, dDrop, dAppend, dCall, dCons, dNil, dOp, dC, dVar, List.getElem?_cons_zero, List.getElem?_cons_succ]
  refine ⟨⟨_, Sto.upd_same⟩, ?_⟩
  refine gIx_seq (xs := [dm.th.d, da.th.d, db.th.d, .non]) (by simp [seqOf, lstOf]) (by decide) (x := da.th.d) rfl ?_
  refine ⟨p, o10, da, pool, rfl, by rw [Sto.upd_ne hrp.symm, H], ho10, a1, a2, hp, fun dc o11 c1 c2 ho11 => ?_⟩
  have e2 : (((N.upd p o10).upd r (.lst [dm.th.d, da.th.d, db.th.d, .non])).upd p o11) r = some (.lst [dm.th.d, da.th.d, db.th.d, .non]) := by rw [Sto.upd_ne hrp, Sto.upd_same]
  simp only [e2]
  refine ⟨by rw [sizeLine_eq]; simp, ?_⟩
  simp only [dFzV, List.getElem?_cons_zero, List.getElem?_cons_succ, Sto.upd_same, List.set]
  rw [sto_back hrN hrp]
  have eo : D.lst ([dm.th.d, da.th.d, db.th.d, .non] ++ [dc.th.d]) = .lst ([some dm, some da, some db, none, some dc].map oD) := rfl
  rw [eo]
  have R : Row [some dm, some da, some db, none, some dc] pool := ⟨fun o ho => by
    simp only [List.mem_cons, List.not_mem_nil, or_false] at ho
    rcases ho with rfl | rfl | rfl | rfl | rfl
    · exact drO_some dd d2
    · exact drO_some a1 a2
    · exact drO_some b1 b2
    · exact drO_none _
    · exact drO_some c1 c2, by simp⟩
  generalize [some dm, some da, some db, none, some dc] = os at R
  simp only [dSeq, dFor, iSeq, dVar, List.getElem?_cons_zero, List.getElem?_cons_succ]
  refine loop2 hp R (fun b4 => ?_) os _ fun o h => h
  simp only [dFor, iSeq, dVar, List.getElem?_cons_zero, List.getElem?_cons_succ]
  exact loop4 hp R (fun b4 b10 => hK _ _ _ _ _ _ _ _ _ o11 ho11) os _ _ fun o h => h
theorem sub_one {dm : Dm} (h : dm.dp = 4) : ∃ (w : Str) (a b : Dm), dm.th.d = .tup [.str w, a.th.d, b.th.d] ∧ a.dp ≤ 4 ∧ ∀ p ∈ clm a, p ∈ clm dm := by
  cases dm with
  | claim s n => simp [Dm.dp] at h
  | both a b => exact ⟨_, a, b, (both_d a b).symm, by simp [Dm.dp] at h; omega, fun p hp => by simp [clm, hp]⟩
  | eith a b => exact ⟨_, a, b, (eith_d a b).symm, by simp [Dm.dp] at h; omega, fun p hp => by simp [clm, hp]⟩
def spLaw : DSp := fun args M Q => ∃ ns : List Int, ns.length ≤ 63 ∧ args = [.rol (ns.map D.int)] ∧ M = (fun _ => none) ∧ ∀ M', Q (.bl true) M'
theorem ok_law : ∀ args M Q, spLaw args M Q → t_law spHand spWide spRight spMixed spDraw spSome spDemandA spNear spImplied (ends Q) (dstart N_law.length args) M := by
  rintro args M Q ⟨ns, hl, rfl, rfl, q⟩
  show t_law spHand spWide spRight spMixed spDraw spSome spDemandA spNear spImplied (ends Q) [some (.rol (ns.map D.int)), none, none, none, none, none, none, none, none, none, none, none, none] _
  simp only [t_law, dSeq, dAsg, dCall, dCons, dNil, dVar, List.getElem?_cons_zero, List.getElem?_cons_succ]
  refine ⟨ns, hl, rfl, fun p o hp ho => ?_⟩
  obtain ⟨N, hN⟩ : ∃ N : Sto, N = fun _ => none := ⟨_, rfl⟩
  rw [← hN]
  have H : ∀ o : MO, (N.upd p o) p = some o := fun _ => Sto.upd_same
  have UU : ∀ o o' : MO, (N.upd p o).upd p o' = N.upd p o' := fun _ _ => Sto.upd_upd
  simp only [dgName, List.set, t_law_10, dSeq, dAsg, dCall, dCons, dNil, dC, dVar, List.getElem?_cons_zero, List.getElem?_cons_succ]
  refine ⟨p, o, _, _, rfl, H o, ho, .inr ⟨rfl, rfl⟩, fun da o1 da1 da2 ho1 => ?_⟩
  rw [UU]
  simp only [dgName, List.set, t_law_9, dSeq, dAsg, dLstM, dCall, dCons, dNil, dOp, dC, dVar, List.getElem?_cons_zero, List.getElem?_cons_succ]
  refine ⟨p, o1, _, _, rfl, H o1, ho1, .inl ⟨rfl, rfl⟩, fun db o2 db1 db2 ho2 => ?_⟩
  rw [UU]
  obtain ⟨w, a, b, ed, ad, as⟩ := sub_one da1
  have i1 : ∀ (M : Sto) (K : DK), gIx da.th.d (.int 1) M K = K a.th.d M := fun M K => by rw [ed]; exact ix_tup1
  rw [i1]
  simp only [List.length_cons, List.length_nil, Nat.zero_add, Nat.reduceAdd, size3, true_and]
  intro r hr
  have hrp : r ≠ p := fun e => by rw [e, H] at hr; cases hr
  simp only [dFzV, dgName, List.set, List.getElem?_cons_zero, List.getElem?_cons_succ, Sto.upd_same]
  rw [Sto.del_new hr]
  have eo : D.lst [da.th.d, db.th.d, a.th.d] = .lst ([some da, some db, some a].map oD) := rfl
  rw [eo]
  have hp8 : Pl eightP := ⟨by simp [eightP], by simp [eightP], eight_ok⟩
  have R : Row [some da, some db, some a] eightP := ⟨fun o ho => by
    simp only [List.mem_cons, List.not_mem_nil, or_false] at ho
    rcases ho with rfl | rfl | rfl
    · exact drO_some (by omega) da2
    · exact drO_some (by omega) db2
    · exact drO_some ad fun p hp => da2 p (as p hp), by simp⟩
  generalize [some da, some db, some a] = os at R
  simp only [t_law_8, dSeq, dFor, iSeq, dVar, List.getElem?_cons_zero, List.getElem?_cons_succ]
  refine loop1 hp8 R (fun b4 => ?_) os _ fun o h => h
  simp only [t_law_7, dSeq, dFor, iRange1, dC]
  refine ⟨by decide, ?_⟩
  refine loop_inv (fun ds τ M' => (∃ a2 a3 a4 a5 a6 a7 a8 a9 a10 a11 a12, τ = [some (.rol (ns.map D.int)), some (.ref p), a2, a3, a4, a5, a6, a7, a8, a9, a10, a11, a12]) ∧ ∃ o, HandOk o ∧ M' = N.upd p o) ?_ ?_ _ _ _
    ⟨⟨_, _, _, _, _, _, _, _, _, _, _, rfl⟩, o2, ho2, rfl⟩
  · rintro d ds τ M' K ⟨⟨a2, a3, a4, a5, a6, a7, a8, a9, a10, a11, a12, rfl⟩, o, ho, rfl⟩ hK
    simp only [dgName, List.set]
    exact body5 ho fun b3 b4 b6 b7 b8 b9 b10 b11 b12 o' ho' => hK _ _ ⟨⟨_, _, _, _, _, _, _, _, _, _, _, rfl⟩, o', ho', rfl⟩
  · rintro τ M' ⟨⟨a2, a3, a4, a5, a6, a7, a8, a9, a10, a11, a12, rfl⟩, o, ho, rfl⟩
    simp only [t_law_6, dRet, dC]
    exact done (q _)
end DL

/-! printed by asm.py: the defs' promises, one after the other -/
namespace DL
open PySem PySem.Spec PyProof.Rows L2
theorem fnG_ok {P : Program} {w : World} {K : PySem.W.Frag} {mg : Str → Option Value} {base : Heap} {x qual : Str} {st : Stmt} {f : Addr} {fd : FuncData} {N ps : List Str} {k : Nat} {dsp : DSp} (F : Fun K x qual st f fd) (S : FnScope N ps (defScope st)) (len : ∀ ds M Q, dsp ds M Q → ds.length = ps.length)
    (hbody : ∀ (cdv : Value) (A : Around) (outer : List Env) (s : Shared) (H : Hp) (E : XK), (A.deeper (envOfC qual (defScope st) s.heap.objs.size f cdv)).guards = some [] → Room k (A.deeper (envOfC qual (defScope st) s.heap.objs.size f cdv)) →
      ∃ t, DSs (cxOf CX0 P w K mg base N qual (defScope st) f cdv A outer s H E).nox (defBody st) t ∧ ∀ ds M Q, dsp ds M Q → t (ends Q) (dstart N.length ds) M) :
    FnG P w K mg base CX0 (k + 1) f fd ps (spD K dsp) := by
  refine funG F S (fun h => ?_) (fun cdv A outer s H vs Q E hgd hr h => ?_)
  · obtain ⟨F0, M, ds, Qd, _, r, q, _⟩ := h
    rw [r.length]; exact len _ _ _ q
  · obtain ⟨F0, M, ds, Qd, R, r, q, kk⟩ := h
    obtain ⟨t, ht, hq⟩ := hbody cdv A outer s H E hgd hr
    obtain ⟨ts, pt, rt⟩ := ht.ex
    refine ⟨ts, pt.nox, rt F0 H _ _ M _ _ ⟨R, rel_start r⟩ (hq ds M Qd q) ⟨fun F' H' σ' τ' M' e' R' z => ?_, fun F' H' σ' τ' M' e' R' z => z.elim, fun F' H' σ' τ' M' e' R' z => z.elim, fun v F' H' d M' e' R' rd z => ?_⟩⟩
    · obtain ⟨M2, l, z⟩ := z
      exact kk .non F' H' .non M2 (e'.less l) (R'.heap.less l) .non z
    · obtain ⟨M2, l, z⟩ := z
      exact kk v F' H' d M2 (e'.less l) (R'.less l) rd z
theorem fnG_any {P : Program} {w : World} {K : PySem.W.Frag} {mg : Str → Option Value} {base : Heap} {f : Addr} {fd : FuncData} {ps : List Str} {k n : Nat} {sp : Nat → DSp} (h : ∀ d, d ≤ n → FnG P w K mg base CX0 k f fd ps (spD K (sp (d + 1)))) :
    FnG P w K mg base CX0 k f fd ps (spD K fun args M Q => ∃ d, d ≤ n ∧ sp (d + 1) args M Q) := by
  constructor
  · rintro vs H Q E ⟨F, M, ds, Qd, R, r, ⟨d, hd, q⟩, kk⟩
    exact (h d hd).many (H := H) (Q := Q) (E := E) ⟨F, M, ds, Qd, R, r, q, kk⟩
  · intro A outer s H args us vs Q E g r e b v hsp
    obtain ⟨F, M, ds, Qd, R, r', ⟨d, hd, q⟩, kk⟩ := hsp
    exact (h d hd).goes g r e b v ⟨F, M, ds, Qd, R, r', q, kk⟩
theorem dfn_of {P : Program} {w : World} {K : PySem.W.Frag} {mg : Str → Option Value} {base : Heap} {x qual : Str} {st : Stmt} {f : Addr} {fd : FuncData} {ps : List Str} {k : Nat} {dsp : DSp} (F : Fun K x qual st f fd) (hm : mg x = some (.ref f)) (hb : Binds K fd ps []) (G : FnG P w K mg base CX0 k f fd ps (spD K dsp)) : DFn P w K mg base k x ps dsp := ⟨⟨f, fd, G, hm, F.kp, hb⟩⟩
theorem len_lots_of : ∀ j ds M Q, spLots j ds M Q → ds.length = (["demand"] : List Str).length := by
  intro j
  cases j with
  | zero => intro ds M Q h; exact h.elim
  | succ j =>
    intro ds M Q h
    repeat (obtain ⟨x, h⟩ := h; try (subst x; rfl))
theorem len_has_all : ∀ ds M Q, spHasAll ds M Q → ds.length = (["lot", "other"] : List Str).length := by
  intro ds M Q h
  repeat (obtain ⟨x, h⟩ := h; try (subst x; rfl))
theorem len_neat : ∀ ds M Q, spNeat ds M Q → ds.length = (["demand"] : List Str).length := by
  intro ds M Q h
  repeat (obtain ⟨x, h⟩ := h; try (subst x; rfl))
theorem len_implied : ∀ ds M Q, spImplied ds M Q → ds.length = (["one", "other"] : List Str).length := by
  intro ds M Q h
  repeat (obtain ⟨x, h⟩ := h; try (subst x; rfl))
theorem len_law_hand : ∀ ds M Q, spHand ds M Q → ds.length = (["script"] : List Str).length := by
  intro ds M Q h
  repeat (obtain ⟨x, h⟩ := h; try (subst x; rfl))
theorem len_law_draw : ∀ ds M Q, spDraw ds M Q → ds.length = (["hand", "many"] : List Str).length := by
  intro ds M Q h
  repeat (obtain ⟨x, h⟩ := h; try (subst x; rfl))
theorem len_law_some : ∀ ds M Q, spSome ds M Q → ds.length = (["hand", "things"] : List Str).length := by
  intro ds M Q h
  repeat (obtain ⟨x, h⟩ := h; try (subst x; rfl))
theorem len_law_mixed : ∀ ds M Q, spMixed ds M Q → ds.length = (["hand", "things"] : List Str).length := by
  intro ds M Q h
  repeat (obtain ⟨x, h⟩ := h; try (subst x; rfl))
theorem len_law_demand : ∀ j ds M Q, spDemand j ds M Q → ds.length = (["hand", "pool", "deep"] : List Str).length := by
  intro j
  cases j with
  | zero => intro ds M Q h; exact h.elim
  | succ j =>
    intro ds M Q h
    repeat (obtain ⟨x, h⟩ := h; try (subst x; rfl))
theorem len_law_demand_deep : ∀ j ds M Q, spDeep j ds M Q → ds.length = (["demand"] : List Str).length := by
  intro j
  cases j with
  | zero => intro ds M Q h; exact h.elim
  | succ j =>
    intro ds M Q h
    repeat (obtain ⟨x, h⟩ := h; try (subst x; rfl))
theorem len_law_otherwise : ∀ ds M Q, spOther ds M Q → ds.length = (["hand", "demand", "pool", "deep"] : List Str).length := by
  intro ds M Q h
  repeat (obtain ⟨x, h⟩ := h; try (subst x; rfl))
theorem len_law_turned : ∀ j ds M Q, spTurned j ds M Q → ds.length = (["hand", "demand"] : List Str).length := by
  intro j
  cases j with
  | zero => intro ds M Q h; exact h.elim
  | succ j =>
    intro ds M Q h
    repeat (obtain ⟨x, h⟩ := h; try (subst x; rfl))
theorem len_law_claims : ∀ j ds M Q, spClaims j ds M Q → ds.length = (["demand"] : List Str).length := by
  intro j
  cases j with
  | zero => intro ds M Q h; exact h.elim
  | succ j =>
    intro ds M Q h
    repeat (obtain ⟨x, h⟩ := h; try (subst x; rfl))
theorem len_law_truth : ∀ j ds M Q, spTruth j ds M Q → ds.length = (["demand", "lot"] : List Str).length := by
  intro j
  cases j with
  | zero => intro ds M Q h; exact h.elim
  | succ j =>
    intro ds M Q h
    repeat (obtain ⟨x, h⟩ := h; try (subst x; rfl))
theorem len_law_lots : ∀ ds M Q, spAll ds M Q → ds.length = (["things"] : List Str).length := by
  intro ds M Q h
  repeat (obtain ⟨x, h⟩ := h; try (subst x; rfl))
theorem len_law_implied : ∀ ds M Q, spImplied ds M Q → ds.length = (["one", "other"] : List Str).length := by
  intro ds M Q h
  repeat (obtain ⟨x, h⟩ := h; try (subst x; rfl))
theorem len_law_moved : ∀ j ds M Q, spMoved j ds M Q → ds.length = (["hand", "demand", "pool"] : List Str).length := by
  intro j
  cases j with
  | zero => intro ds M Q h; exact h.elim
  | succ j =>
    intro ds M Q h
    repeat (obtain ⟨x, h⟩ := h; try (subst x; rfl))
theorem len_law_near : ∀ ds M Q, spNear ds M Q → ds.length = (["hand", "demand", "pool"] : List Str).length := by
  intro ds M Q h
  repeat (obtain ⟨x, h⟩ := h; try (subst x; rfl))
theorem len_law_is_right : ∀ ds M Q, spRight ds M Q → ds.length = (["one", "other"] : List Str).length := by
  intro ds M Q h
  repeat (obtain ⟨x, h⟩ := h; try (subst x; rfl))
theorem len_law_wide : ∀ ds M Q, spWide ds M Q → ds.length = (["hand", "word", "other"] : List Str).length := by
  intro ds M Q h
  repeat (obtain ⟨x, h⟩ := h; try (subst x; rfl))
theorem len_law : ∀ ds M Q, spLaw ds M Q → ds.length = (["script"] : List Str).length := by
  intro ds M Q h
  repeat (obtain ⟨x, h⟩ := h; try (subst x; rfl))
theorem law_goes_on {P : Program} {w : World} {K : PySem.W.Frag} {mg : Str → Option Value} {base : Heap} (T : Top mg)
    {f1 f2 f3 f4 f5 f6 f7 f8 f9 f10 f11 f12 f13 f14 f15 f16 f17 f18 f19 f20 f21 : Addr} {fd1 fd2 fd3 fd4 fd5 fd6 fd7 fd8 fd9 fd10 fd11 fd12 fd13 fd14 fd15 fd16 fd17 fd18 fd19 fd20 fd21 : FuncData}
    (F1 : Fun K "lots_of" "lots_of" s_lots_of f1 fd1) (m1 : mg "lots_of" = some (.ref f1)) (b1 : Binds K fd1 ["demand"] [])
    (F2 : Fun K "has_all" "has_all" s_has_all f2 fd2) (m2 : mg "has_all" = some (.ref f2)) (b2 : Binds K fd2 ["lot", "other"] [])
    (F3 : Fun K "neat" "neat" s_neat f3 fd3) (m3 : mg "neat" = some (.ref f3)) (b3 : Binds K fd3 ["demand"] [])
    (F4 : Fun K "implied" "implied" s_implied f4 fd4) (m4 : mg "implied" = some (.ref f4)) (b4 : Binds K fd4 ["one", "other"] [])
    (F5 : Fun K "_law_hand" "_law_hand" s_law_hand f5 fd5) (m5 : mg "_law_hand" = some (.ref f5)) (b5 : Binds K fd5 ["script"] [])
    (F6 : Fun K "_law_draw" "_law_draw" s_law_draw f6 fd6) (m6 : mg "_law_draw" = some (.ref f6)) (b6 : Binds K fd6 ["hand", "many"] [])
    (F7 : Fun K "_law_some" "_law_some" s_law_some f7 fd7) (m7 : mg "_law_some" = some (.ref f7)) (b7 : Binds K fd7 ["hand", "things"] [])
    (F8 : Fun K "_law_mixed" "_law_mixed" s_law_mixed f8 fd8) (m8 : mg "_law_mixed" = some (.ref f8)) (b8 : Binds K fd8 ["hand", "things"] [])
    (F9 : Fun K "_law_demand" "_law_demand" s_law_demand f9 fd9) (m9 : mg "_law_demand" = some (.ref f9)) (b9 : Binds K fd9 ["hand", "pool", "deep"] [])
    (F10 : Fun K "_law_demand_deep" "_law_demand_deep" s_law_demand_deep f10 fd10) (m10 : mg "_law_demand_deep" = some (.ref f10)) (b10 : Binds K fd10 ["demand"] [])
    (F11 : Fun K "_law_otherwise" "_law_otherwise" s_law_otherwise f11 fd11) (m11 : mg "_law_otherwise" = some (.ref f11)) (b11 : Binds K fd11 ["hand", "demand", "pool", "deep"] [])
    (F12 : Fun K "_law_turned" "_law_turned" s_law_turned f12 fd12) (m12 : mg "_law_turned" = some (.ref f12)) (b12 : Binds K fd12 ["hand", "demand"] [])
    (F13 : Fun K "_law_claims" "_law_claims" s_law_claims f13 fd13) (m13 : mg "_law_claims" = some (.ref f13)) (b13 : Binds K fd13 ["demand"] [])
    (F14 : Fun K "_law_truth" "_law_truth" s_law_truth f14 fd14) (m14 : mg "_law_truth" = some (.ref f14)) (b14 : Binds K fd14 ["demand", "lot"] [])
    (F15 : Fun K "_law_lots" "_law_lots" s_law_lots f15 fd15) (m15 : mg "_law_lots" = some (.ref f15)) (b15 : Binds K fd15 ["things"] [])
    (F16 : Fun K "_law_implied" "_law_implied" s_law_implied f16 fd16) (m16 : mg "_law_implied" = some (.ref f16)) (b16 : Binds K fd16 ["one", "other"] [])
    (F17 : Fun K "_law_moved" "_law_moved" s_law_moved f17 fd17) (m17 : mg "_law_moved" = some (.ref f17)) (b17 : Binds K fd17 ["hand", "demand", "pool"] [])
    (F18 : Fun K "_law_near" "_law_near" s_law_near f18 fd18) (m18 : mg "_law_near" = some (.ref f18)) (b18 : Binds K fd18 ["hand", "demand", "pool"] [])
    (F19 : Fun K "_law_is_right" "_law_is_right" s_law_is_right f19 fd19) (m19 : mg "_law_is_right" = some (.ref f19)) (b19 : Binds K fd19 ["one", "other"] [])
    (F20 : Fun K "_law_wide" "_law_wide" s_law_wide f20 fd20) (m20 : mg "_law_wide" = some (.ref f20)) (b20 : Binds K fd20 ["hand", "word", "other"] [])
    (F21 : Fun K "law" "law" s_law f21 fd21) (m21 : mg "law" = some (.ref f21)) (b21 : Binds K fd21 ["script"] [])
    : FnG P w K mg base CX0 15 f21 fd21 ["script"] (spD K spLaw) := by
  have g_lots_of : ∀ j, FnG P w K mg base CX0 (j + 6) f1 fd1 ["demand"] (spD K (spLots j)) := by
    intro j
    induction j with
    | zero => exact fnG_ok (k := 5) F1 sc_lots_of (len_lots_of 0) fun cdv A outer s H E hg hr => ⟨dNever, dss_never, fun ds M Q h => h.elim⟩
    | succ j ih => exact fnG_ok (k := j + 6) F1 sc_lots_of (len_lots_of (j + 1)) fun cdv A outer s H E hg hr => ⟨_, b_lots_of T (by omega) (dfn_of F1 m1 b1 ih) hg hr, ok_lots_of j⟩
  have d_lots_of := fun j => dfn_of F1 m1 b1 (g_lots_of j)
  have g_has_all : FnG P w K mg base CX0 (5 + 1) f2 fd2 ["lot", "other"] (spD K spHasAll) := fnG_ok (k := 5) F2 sc_has_all len_has_all fun cdv A outer s H E hg hr => ⟨_, b_has_all T (by omega)  hg hr, ok_has_all⟩
  have d_has_all := dfn_of F2 m2 b2 g_has_all
  have g_neat : FnG P w K mg base CX0 (10 + 1) f3 fd3 ["demand"] (spD K spNeat) := fnG_ok (k := 10) F3 sc_neat len_neat fun cdv A outer s H E hg hr => ⟨_, b_neat T (by omega) ((d_lots_of 4).mono (by omega)) (d_has_all.mono (by omega)) hg hr, ok_neat⟩
  have d_neat := dfn_of F3 m3 b3 g_neat
  have g_implied : FnG P w K mg base CX0 (11 + 1) f4 fd4 ["one", "other"] (spD K spImplied) := fnG_ok (k := 11) F4 sc_implied len_implied fun cdv A outer s H E hg hr => ⟨_, b_implied T (by omega) (d_neat.mono (by omega)) (d_has_all.mono (by omega)) hg hr, ok_implied⟩
  have d_implied := dfn_of F4 m4 b4 g_implied
  have g_law_hand : FnG P w K mg base CX0 (5 + 1) f5 fd5 ["script"] (spD K spHand) := fnG_ok (k := 5) F5 sc_law_hand len_law_hand fun cdv A outer s H E hg hr => ⟨_, b_law_hand T (by omega)  hg hr, ok_law_hand⟩
  have d_law_hand := dfn_of F5 m5 b5 g_law_hand
  have g_law_draw : FnG P w K mg base CX0 (5 + 1) f6 fd6 ["hand", "many"] (spD K spDraw) := fnG_ok (k := 5) F6 sc_law_draw len_law_draw fun cdv A outer s H E hg hr => ⟨_, b_law_draw T (by omega)  hg hr, ok_law_draw⟩
  have d_law_draw := dfn_of F6 m6 b6 g_law_draw
  have g_law_some : FnG P w K mg base CX0 (6 + 1) f7 fd7 ["hand", "things"] (spD K spSome) := fnG_ok (k := 6) F7 sc_law_some len_law_some fun cdv A outer s H E hg hr => ⟨_, b_law_some T (by omega) (d_law_draw.mono (by omega)) hg hr, ok_law_some⟩
  have d_law_some := dfn_of F7 m7 b7 g_law_some
  have g_law_mixed : FnG P w K mg base CX0 (6 + 1) f8 fd8 ["hand", "things"] (spD K spMixed) := fnG_ok (k := 6) F8 sc_law_mixed len_law_mixed fun cdv A outer s H E hg hr => ⟨_, b_law_mixed T (by omega) (d_law_draw.mono (by omega)) hg hr, ok_law_mixed⟩
  have d_law_mixed := dfn_of F8 m8 b8 g_law_mixed
  have g_law_demand : ∀ j, FnG P w K mg base CX0 (j + 8) f9 fd9 ["hand", "pool", "deep"] (spD K (spDemand j)) := by
    intro j
    induction j with
    | zero => exact fnG_ok (k := 7) F9 sc_law_demand (len_law_demand 0) fun cdv A outer s H E hg hr => ⟨dNever, dss_never, fun ds M Q h => h.elim⟩
    | succ j ih => exact fnG_ok (k := j + 8) F9 sc_law_demand (len_law_demand (j + 1)) fun cdv A outer s H E hg hr => ⟨_, b_law_demand T (by omega) (d_law_draw.mono (by omega)) (d_law_some.mono (by omega)) (dfn_of F9 m9 b9 ih) hg hr, ok_law_demand j⟩
  have d_law_demand := fun j => dfn_of F9 m9 b9 (g_law_demand j)
  have d_law_demand_any : DFn P w K mg base 12 "_law_demand" ["hand", "pool", "deep"] spDemandA := dfn_of F9 m9 b9 (fnG_any fun d hd => (g_law_demand (d + 1)).mono (by omega))
  have g_law_demand_deep : ∀ j, FnG P w K mg base CX0 (j + 6) f10 fd10 ["demand"] (spD K (spDeep j)) := by
    intro j
    induction j with
    | zero => exact fnG_ok (k := 5) F10 sc_law_demand_deep (len_law_demand_deep 0) fun cdv A outer s H E hg hr => ⟨dNever, dss_never, fun ds M Q h => h.elim⟩
    | succ j ih => exact fnG_ok (k := j + 6) F10 sc_law_demand_deep (len_law_demand_deep (j + 1)) fun cdv A outer s H E hg hr => ⟨_, b_law_demand_deep T (by omega) (dfn_of F10 m10 b10 ih) hg hr, ok_law_demand_deep j⟩
  have d_law_demand_deep := fun j => dfn_of F10 m10 b10 (g_law_demand_deep j)
  have g_law_turned : ∀ j, FnG P w K mg base CX0 (j + 7) f12 fd12 ["hand", "demand"] (spD K (spTurned j)) := by
    intro j
    induction j with
    | zero => exact fnG_ok (k := 6) F12 sc_law_turned (len_law_turned 0) fun cdv A outer s H E hg hr => ⟨dNever, dss_never, fun ds M Q h => h.elim⟩
    | succ j ih => exact fnG_ok (k := j + 7) F12 sc_law_turned (len_law_turned (j + 1)) fun cdv A outer s H E hg hr => ⟨_, b_law_turned T (by omega) (dfn_of F12 m12 b12 ih) (d_law_draw.mono (by omega)) hg hr, ok_law_turned j⟩
  have d_law_turned := fun j => dfn_of F12 m12 b12 (g_law_turned j)
  have g_law_otherwise : FnG P w K mg base CX0 (12 + 1) f11 fd11 ["hand", "demand", "pool", "deep"] (spD K spOther) := fnG_ok (k := 12) F11 sc_law_otherwise len_law_otherwise fun cdv A outer s H E hg hr => ⟨_, b_law_otherwise T (by omega) ((d_law_demand_deep 4).mono (by omega)) (d_law_draw.mono (by omega)) (d_law_demand_any.mono (by omega)) ((d_law_turned 4).mono (by omega)) (d_law_some.mono (by omega)) hg hr, ok_law_otherwise⟩
  have d_law_otherwise := dfn_of F11 m11 b11 g_law_otherwise
  have g_law_claims : ∀ j, FnG P w K mg base CX0 (j + 6) f13 fd13 ["demand"] (spD K (spClaims j)) := by
    intro j
    induction j with
    | zero => exact fnG_ok (k := 5) F13 sc_law_claims (len_law_claims 0) fun cdv A outer s H E hg hr => ⟨dNever, dss_never, fun ds M Q h => h.elim⟩
    | succ j ih => exact fnG_ok (k := j + 6) F13 sc_law_claims (len_law_claims (j + 1)) fun cdv A outer s H E hg hr => ⟨_, b_law_claims T (by omega) (dfn_of F13 m13 b13 ih) hg hr, ok_law_claims j⟩
  have d_law_claims := fun j => dfn_of F13 m13 b13 (g_law_claims j)
  have g_law_truth : ∀ j, FnG P w K mg base CX0 (j + 6) f14 fd14 ["demand", "lot"] (spD K (spTruth j)) := by
    intro j
    induction j with
    | zero => exact fnG_ok (k := 5) F14 sc_law_truth (len_law_truth 0) fun cdv A outer s H E hg hr => ⟨dNever, dss_never, fun ds M Q h => h.elim⟩
    | succ j ih => exact fnG_ok (k := j + 6) F14 sc_law_truth (len_law_truth (j + 1)) fun cdv A outer s H E hg hr => ⟨_, b_law_truth T (by omega) (dfn_of F14 m14 b14 ih) hg hr, ok_law_truth j⟩
  have d_law_truth := fun j => dfn_of F14 m14 b14 (g_law_truth j)
  have g_law_lots : FnG P w K mg base CX0 (5 + 1) f15 fd15 ["things"] (spD K spAll) := fnG_ok (k := 5) F15 sc_law_lots len_law_lots fun cdv A outer s H E hg hr => ⟨_, b_law_lots T (by omega)  hg hr, ok_law_lots⟩
  have d_law_lots := dfn_of F15 m15 b15 g_law_lots
  have g_law_implied : FnG P w K mg base CX0 (10 + 1) f16 fd16 ["one", "other"] (spD K spImplied) := fnG_ok (k := 10) F16 sc_law_implied len_law_implied fun cdv A outer s H E hg hr => ⟨_, b_law_implied T (by omega) ((d_law_claims 4).mono (by omega)) (d_law_lots.mono (by omega)) ((d_law_truth 4).mono (by omega)) hg hr, ok_law_implied⟩
  have d_law_implied := dfn_of F16 m16 b16 g_law_implied
  have g_law_moved : ∀ j, FnG P w K mg base CX0 (j + 8) f17 fd17 ["hand", "demand", "pool"] (spD K (spMoved j)) := by
    intro j
    induction j with
    | zero => exact fnG_ok (k := 7) F17 sc_law_moved (len_law_moved 0) fun cdv A outer s H E hg hr => ⟨dNever, dss_never, fun ds M Q h => h.elim⟩
    | succ j ih => exact fnG_ok (k := j + 8) F17 sc_law_moved (len_law_moved (j + 1)) fun cdv A outer s H E hg hr => ⟨_, b_law_moved T (by omega) (d_law_some.mono (by omega)) (d_law_draw.mono (by omega)) (dfn_of F17 m17 b17 ih) hg hr, ok_law_moved j⟩
  have d_law_moved := fun j => dfn_of F17 m17 b17 (g_law_moved j)
  have g_law_near : FnG P w K mg base CX0 (13 + 1) f18 fd18 ["hand", "demand", "pool"] (spD K spNear) := fnG_ok (k := 13) F18 sc_law_near len_law_near fun cdv A outer s H E hg hr => ⟨_, b_law_near T (by omega) (d_law_draw.mono (by omega)) (d_law_otherwise.mono (by omega)) ((d_law_moved 4).mono (by omega)) ((d_law_demand_deep 4).mono (by omega)) (d_law_demand_any.mono (by omega)) (d_law_some.mono (by omega)) ((d_law_turned 4).mono (by omega)) hg hr, ok_law_near⟩
  have d_law_near := dfn_of F18 m18 b18 g_law_near
  have g_law_is_right : FnG P w K mg base CX0 (12 + 1) f19 fd19 ["one", "other"] (spD K spRight) := fnG_ok (k := 12) F19 sc_law_is_right len_law_is_right fun cdv A outer s H E hg hr => ⟨_, b_law_is_right T (by omega) (d_implied.mono (by omega)) (d_law_implied.mono (by omega)) hg hr, ok_law_is_right⟩
  have d_law_is_right := dfn_of F19 m19 b19 g_law_is_right
  have g_law_wide : FnG P w K mg base CX0 (7 + 1) f20 fd20 ["hand", "word", "other"] (spD K spWide) := fnG_ok (k := 7) F20 sc_law_wide len_law_wide fun cdv A outer s H E hg hr => ⟨_, b_law_wide T (by omega) (d_law_mixed.mono (by omega)) hg hr, ok_law_wide⟩
  have d_law_wide := dfn_of F20 m20 b20 g_law_wide
  have g_law : FnG P w K mg base CX0 (14 + 1) f21 fd21 ["script"] (spD K spLaw) := fnG_ok (k := 14) F21 sc_law len_law fun cdv A outer s H E hg hr => ⟨_, b_law T (by omega) (d_law_hand.mono (by omega)) (d_law_wide.mono (by omega)) (d_law_is_right.mono (by omega)) (d_law_mixed.mono (by omega)) (d_law_draw.mono (by omega)) (d_law_some.mono (by omega)) (d_law_demand_any.mono (by omega)) (d_law_near.mono (by omega)) (d_implied.mono (by omega)) hg hr, ok_law⟩
  have d_law := dfn_of F21 m21 b21 g_law
  exact g_law
theorem all_mk {l : PySem.W.OpenLaw} {w : World} {K : PySem.W.Frag} {h : Heap} {mg : Str → Option Value} {fa f1 f2 f3 f4 f5 f6 f7 f8 f9 f10 f11 f12 f13 f14 f15 f16 f17 f18 f19 f20 f21 : Addr} (X : K.In h) (G : h.Ns mainGlobals mg) (hfa : mg "law" = some (.ref fa))
    {od1 an1 od2 an2 od3 an3 od4 an4 od5 an5 od6 an6 od7 an7 od8 an8 od9 an9 od10 an10 od11 an11 od12 an12 od13 an13 od14 an14 od15 an15 od16 an16 od17 an17 od18 an18 od19 an19 od20 an20 od21 an21 : Option Addr} {sl1 sl2 sl3 sl4 sl5 sl6 sl7 sl8 sl9 sl10 sl11 sl12 sl13 sl14 sl15 sl16 sl17 sl18 sl19 sl20 sl21 : Array (Option Value)}
    {oc1 kV1 dc1 pm1 cd1 ct1 oc2 kV2 dc2 pm2 cd2 ct2 oc3 kV3 dc3 pm3 cd3 ct3 oc4 kV4 dc4 pm4 cd4 ct4 oc5 kV5 dc5 pm5 cd5 ct5 oc6 kV6 dc6 pm6 cd6 ct6 oc7 kV7 dc7 pm7 cd7 ct7 oc8 kV8 dc8 pm8 cd8 ct8 oc9 kV9 dc9 pm9 cd9 ct9 oc10 kV10 dc10 pm10 cd10 ct10 oc11 kV11 dc11 pm11 cd11 ct11 oc12 kV12 dc12 pm12 cd12 ct12 oc13 kV13 dc13 pm13 cd13 ct13 oc14 kV14 dc14 pm14 cd14 ct14 oc15 kV15 dc15 pm15 cd15 ct15 oc16 kV16 dc16 pm16 cd16 ct16 oc17 kV17 dc17 pm17 cd17 ct17 oc18 kV18 dc18 pm18 cd18 ct18 oc19 kV19 dc19 pm19 cd19 ct19 oc20 kV20 dc20 pm20 cd20 ct20 oc21 kV21 dc21 pm21 cd21 ct21 : Value}
    {t_CLAIM t_EITHER}
    (a1 : PySem.W.nsIn K mainGlobals "lots_of" = some (some (.ref f1)))
    (l1 : K.lookup f1 = some ⟨oc1, od1, .func (PySem.W.fnOf "lots_of" "lots_of" (defArgs s_lots_of) (defBody s_lots_of) (defScope s_lots_of) .none kV1 dc1 pm1 an1 cd1 ct1), sl1⟩)
    (c1 : PySem.W.codeIn K cd1 "lots_of" = true) (k1 : PySem.W.keepIn K (.ref f1) = true)
    (a2 : PySem.W.nsIn K mainGlobals "has_all" = some (some (.ref f2)))
    (l2 : K.lookup f2 = some ⟨oc2, od2, .func (PySem.W.fnOf "has_all" "has_all" (defArgs s_has_all) (defBody s_has_all) (defScope s_has_all) .none kV2 dc2 pm2 an2 cd2 ct2), sl2⟩)
    (c2 : PySem.W.codeIn K cd2 "has_all" = true) (k2 : PySem.W.keepIn K (.ref f2) = true)
    (a3 : PySem.W.nsIn K mainGlobals "neat" = some (some (.ref f3)))
    (l3 : K.lookup f3 = some ⟨oc3, od3, .func (PySem.W.fnOf "neat" "neat" (defArgs s_neat) (defBody s_neat) (defScope s_neat) .none kV3 dc3 pm3 an3 cd3 ct3), sl3⟩)
    (c3 : PySem.W.codeIn K cd3 "neat" = true) (k3 : PySem.W.keepIn K (.ref f3) = true)
    (a4 : PySem.W.nsIn K mainGlobals "implied" = some (some (.ref f4)))
    (l4 : K.lookup f4 = some ⟨oc4, od4, .func (PySem.W.fnOf "implied" "implied" (defArgs s_implied) (defBody s_implied) (defScope s_implied) .none kV4 dc4 pm4 an4 cd4 ct4), sl4⟩)
    (c4 : PySem.W.codeIn K cd4 "implied" = true) (k4 : PySem.W.keepIn K (.ref f4) = true)
    (a5 : PySem.W.nsIn K mainGlobals "_law_hand" = some (some (.ref f5)))
    (l5 : K.lookup f5 = some ⟨oc5, od5, .func (PySem.W.fnOf "_law_hand" "_law_hand" (defArgs s_law_hand) (defBody s_law_hand) (defScope s_law_hand) .none kV5 dc5 pm5 an5 cd5 ct5), sl5⟩)
    (c5 : PySem.W.codeIn K cd5 "_law_hand" = true) (k5 : PySem.W.keepIn K (.ref f5) = true)
    (a6 : PySem.W.nsIn K mainGlobals "_law_draw" = some (some (.ref f6)))
    (l6 : K.lookup f6 = some ⟨oc6, od6, .func (PySem.W.fnOf "_law_draw" "_law_draw" (defArgs s_law_draw) (defBody s_law_draw) (defScope s_law_draw) .none kV6 dc6 pm6 an6 cd6 ct6), sl6⟩)
    (c6 : PySem.W.codeIn K cd6 "_law_draw" = true) (k6 : PySem.W.keepIn K (.ref f6) = true)
    (a7 : PySem.W.nsIn K mainGlobals "_law_some" = some (some (.ref f7)))
    (l7 : K.lookup f7 = some ⟨oc7, od7, .func (PySem.W.fnOf "_law_some" "_law_some" (defArgs s_law_some) (defBody s_law_some) (defScope s_law_some) .none kV7 dc7 pm7 an7 cd7 ct7), sl7⟩)
    (c7 : PySem.W.codeIn K cd7 "_law_some" = true) (k7 : PySem.W.keepIn K (.ref f7) = true)
    (a8 : PySem.W.nsIn K mainGlobals "_law_mixed" = some (some (.ref f8)))
    (l8 : K.lookup f8 = some ⟨oc8, od8, .func (PySem.W.fnOf "_law_mixed" "_law_mixed" (defArgs s_law_mixed) (defBody s_law_mixed) (defScope s_law_mixed) .none kV8 dc8 pm8 an8 cd8 ct8), sl8⟩)
    (c8 : PySem.W.codeIn K cd8 "_law_mixed" = true) (k8 : PySem.W.keepIn K (.ref f8) = true)
    (a9 : PySem.W.nsIn K mainGlobals "_law_demand" = some (some (.ref f9)))
    (l9 : K.lookup f9 = some ⟨oc9, od9, .func (PySem.W.fnOf "_law_demand" "_law_demand" (defArgs s_law_demand) (defBody s_law_demand) (defScope s_law_demand) .none kV9 dc9 pm9 an9 cd9 ct9), sl9⟩)
    (c9 : PySem.W.codeIn K cd9 "_law_demand" = true) (k9 : PySem.W.keepIn K (.ref f9) = true)
    (a10 : PySem.W.nsIn K mainGlobals "_law_demand_deep" = some (some (.ref f10)))
    (l10 : K.lookup f10 = some ⟨oc10, od10, .func (PySem.W.fnOf "_law_demand_deep" "_law_demand_deep" (defArgs s_law_demand_deep) (defBody s_law_demand_deep) (defScope s_law_demand_deep) .none kV10 dc10 pm10 an10 cd10 ct10), sl10⟩)
    (c10 : PySem.W.codeIn K cd10 "_law_demand_deep" = true) (k10 : PySem.W.keepIn K (.ref f10) = true)
    (a11 : PySem.W.nsIn K mainGlobals "_law_otherwise" = some (some (.ref f11)))
    (l11 : K.lookup f11 = some ⟨oc11, od11, .func (PySem.W.fnOf "_law_otherwise" "_law_otherwise" (defArgs s_law_otherwise) (defBody s_law_otherwise) (defScope s_law_otherwise) .none kV11 dc11 pm11 an11 cd11 ct11), sl11⟩)
    (c11 : PySem.W.codeIn K cd11 "_law_otherwise" = true) (k11 : PySem.W.keepIn K (.ref f11) = true)
    (a12 : PySem.W.nsIn K mainGlobals "_law_turned" = some (some (.ref f12)))
    (l12 : K.lookup f12 = some ⟨oc12, od12, .func (PySem.W.fnOf "_law_turned" "_law_turned" (defArgs s_law_turned) (defBody s_law_turned) (defScope s_law_turned) .none kV12 dc12 pm12 an12 cd12 ct12), sl12⟩)
    (c12 : PySem.W.codeIn K cd12 "_law_turned" = true) (k12 : PySem.W.keepIn K (.ref f12) = true)
    (a13 : PySem.W.nsIn K mainGlobals "_law_claims" = some (some (.ref f13)))
    (l13 : K.lookup f13 = some ⟨oc13, od13, .func (PySem.W.fnOf "_law_claims" "_law_claims" (defArgs s_law_claims) (defBody s_law_claims) (defScope s_law_claims) .none kV13 dc13 pm13 an13 cd13 ct13), sl13⟩)
    (c13 : PySem.W.codeIn K cd13 "_law_claims" = true) (k13 : PySem.W.keepIn K (.ref f13) = true)
    (a14 : PySem.W.nsIn K mainGlobals "_law_truth" = some (some (.ref f14)))
    (l14 : K.lookup f14 = some ⟨oc14, od14, .func (PySem.W.fnOf "_law_truth" "_law_truth" (defArgs s_law_truth) (defBody s_law_truth) (defScope s_law_truth) .none kV14 dc14 pm14 an14 cd14 ct14), sl14⟩)
    (c14 : PySem.W.codeIn K cd14 "_law_truth" = true) (k14 : PySem.W.keepIn K (.ref f14) = true)
    (a15 : PySem.W.nsIn K mainGlobals "_law_lots" = some (some (.ref f15)))
    (l15 : K.lookup f15 = some ⟨oc15, od15, .func (PySem.W.fnOf "_law_lots" "_law_lots" (defArgs s_law_lots) (defBody s_law_lots) (defScope s_law_lots) .none kV15 dc15 pm15 an15 cd15 ct15), sl15⟩)
    (c15 : PySem.W.codeIn K cd15 "_law_lots" = true) (k15 : PySem.W.keepIn K (.ref f15) = true)
    (a16 : PySem.W.nsIn K mainGlobals "_law_implied" = some (some (.ref f16)))
    (l16 : K.lookup f16 = some ⟨oc16, od16, .func (PySem.W.fnOf "_law_implied" "_law_implied" (defArgs s_law_implied) (defBody s_law_implied) (defScope s_law_implied) .none kV16 dc16 pm16 an16 cd16 ct16), sl16⟩)
    (c16 : PySem.W.codeIn K cd16 "_law_implied" = true) (k16 : PySem.W.keepIn K (.ref f16) = true)
    (a17 : PySem.W.nsIn K mainGlobals "_law_moved" = some (some (.ref f17)))
    (l17 : K.lookup f17 = some ⟨oc17, od17, .func (PySem.W.fnOf "_law_moved" "_law_moved" (defArgs s_law_moved) (defBody s_law_moved) (defScope s_law_moved) .none kV17 dc17 pm17 an17 cd17 ct17), sl17⟩)
    (c17 : PySem.W.codeIn K cd17 "_law_moved" = true) (k17 : PySem.W.keepIn K (.ref f17) = true)
    (a18 : PySem.W.nsIn K mainGlobals "_law_near" = some (some (.ref f18)))
    (l18 : K.lookup f18 = some ⟨oc18, od18, .func (PySem.W.fnOf "_law_near" "_law_near" (defArgs s_law_near) (defBody s_law_near) (defScope s_law_near) .none kV18 dc18 pm18 an18 cd18 ct18), sl18⟩)
    (c18 : PySem.W.codeIn K cd18 "_law_near" = true) (k18 : PySem.W.keepIn K (.ref f18) = true)
    (a19 : PySem.W.nsIn K mainGlobals "_law_is_right" = some (some (.ref f19)))
    (l19 : K.lookup f19 = some ⟨oc19, od19, .func (PySem.W.fnOf "_law_is_right" "_law_is_right" (defArgs s_law_is_right) (defBody s_law_is_right) (defScope s_law_is_right) .none kV19 dc19 pm19 an19 cd19 ct19), sl19⟩)
    (c19 : PySem.W.codeIn K cd19 "_law_is_right" = true) (k19 : PySem.W.keepIn K (.ref f19) = true)
    (a20 : PySem.W.nsIn K mainGlobals "_law_wide" = some (some (.ref f20)))
    (l20 : K.lookup f20 = some ⟨oc20, od20, .func (PySem.W.fnOf "_law_wide" "_law_wide" (defArgs s_law_wide) (defBody s_law_wide) (defScope s_law_wide) .none kV20 dc20 pm20 an20 cd20 ct20), sl20⟩)
    (c20 : PySem.W.codeIn K cd20 "_law_wide" = true) (k20 : PySem.W.keepIn K (.ref f20) = true)
    (a21 : PySem.W.nsIn K mainGlobals "law" = some (some (.ref f21)))
    (l21 : K.lookup f21 = some ⟨oc21, od21, .func (PySem.W.fnOf "law" "law" (defArgs s_law) (defBody s_law) (defScope s_law) .none kV21 dc21 pm21 an21 cd21 ct21), sl21⟩)
    (c21 : PySem.W.codeIn K cd21 "law" = true) (k21 : PySem.W.keepIn K (.ref f21) = true)
    (z_abs : PySem.W.nsIn K mainGlobals "abs" = some none)
    (z_all : PySem.W.nsIn K mainGlobals "all" = some none)
    (z_any : PySem.W.nsIn K mainGlobals "any" = some none)
    (z_int : PySem.W.nsIn K mainGlobals "int" = some none)
    (z_len : PySem.W.nsIn K mainGlobals "len" = some none)
    (z_list : PySem.W.nsIn K mainGlobals "list" = some none)
    (z_max : PySem.W.nsIn K mainGlobals "max" = some none)
    (z_range : PySem.W.nsIn K mainGlobals "range" = some none)
    (z_repr : PySem.W.nsIn K mainGlobals "repr" = some none)
    (z_set : PySem.W.nsIn K mainGlobals "set" = some none)
    (z_sorted : PySem.W.nsIn K mainGlobals "sorted" = some none)
    (z_tuple : PySem.W.nsIn K mainGlobals "tuple" = some none)
    (u_CLAIM : PySem.W.nsIn K mainGlobals "CLAIM" = some (some (.str "claim" t_CLAIM)))
    (u_EITHER : PySem.W.nsIn K mainGlobals "EITHER" = some (some (.str "either" t_EITHER)))
    : ∃ fd : FuncData, (∀ (s : Shared) (v : Value), BindsTo s fd ⟨[v], []⟩ [("script", v)]) ∧ ∀ base : Heap, K.In base → base.Ns mainGlobals mg → FnG l.prog w K mg base CX0 15 fa fd ["script"] (spD K spLaw) := by
  have e := hfa.symm.trans (PySem.W.mg_of X G a21)
  cases e
  have T : Top mg := ⟨PySem.W.mg_none_of X G z_abs, PySem.W.mg_none_of X G z_all, PySem.W.mg_none_of X G z_any, PySem.W.mg_none_of X G z_int, PySem.W.mg_none_of X G z_len, PySem.W.mg_none_of X G z_list, PySem.W.mg_none_of X G z_max, PySem.W.mg_none_of X G z_range, PySem.W.mg_none_of X G z_repr, PySem.W.mg_none_of X G z_set, PySem.W.mg_none_of X G z_sorted, PySem.W.mg_none_of X G z_tuple, ⟨_, PySem.W.mg_of X G u_CLAIM⟩, ⟨_, PySem.W.mg_of X G u_EITHER⟩⟩
  have F1 := fun_mk (st := s_lots_of) l1 c1 k1
  have b1 := F1.binds (ps := ["demand"]) fun _ _ _ _ _ _ us hl => match us, hl with | [_], _ => rfl
  have F2 := fun_mk (st := s_has_all) l2 c2 k2
  have b2 := F2.binds (ps := ["lot", "other"]) fun _ _ _ _ _ _ us hl => match us, hl with | [_, _], _ => rfl
  have F3 := fun_mk (st := s_neat) l3 c3 k3
  have b3 := F3.binds (ps := ["demand"]) fun _ _ _ _ _ _ us hl => match us, hl with | [_], _ => rfl
  have F4 := fun_mk (st := s_implied) l4 c4 k4
  have b4 := F4.binds (ps := ["one", "other"]) fun _ _ _ _ _ _ us hl => match us, hl with | [_, _], _ => rfl
  have F5 := fun_mk (st := s_law_hand) l5 c5 k5
  have b5 := F5.binds (ps := ["script"]) fun _ _ _ _ _ _ us hl => match us, hl with | [_], _ => rfl
  have F6 := fun_mk (st := s_law_draw) l6 c6 k6
  have b6 := F6.binds (ps := ["hand", "many"]) fun _ _ _ _ _ _ us hl => match us, hl with | [_, _], _ => rfl
  have F7 := fun_mk (st := s_law_some) l7 c7 k7
  have b7 := F7.binds (ps := ["hand", "things"]) fun _ _ _ _ _ _ us hl => match us, hl with | [_, _], _ => rfl
  have F8 := fun_mk (st := s_law_mixed) l8 c8 k8
  have b8 := F8.binds (ps := ["hand", "things"]) fun _ _ _ _ _ _ us hl => match us, hl with | [_, _], _ => rfl
  have F9 := fun_mk (st := s_law_demand) l9 c9 k9
  have b9 := F9.binds (ps := ["hand", "pool", "deep"]) fun _ _ _ _ _ _ us hl => match us, hl with | [_, _, _], _ => rfl
  have F10 := fun_mk (st := s_law_demand_deep) l10 c10 k10
  have b10 := F10.binds (ps := ["demand"]) fun _ _ _ _ _ _ us hl => match us, hl with | [_], _ => rfl
  have F11 := fun_mk (st := s_law_otherwise) l11 c11 k11
  have b11 := F11.binds (ps := ["hand", "demand", "pool", "deep"]) fun _ _ _ _ _ _ us hl => match us, hl with | [_, _, _, _], _ => rfl
  have F12 := fun_mk (st := s_law_turned) l12 c12 k12
  have b12 := F12.binds (ps := ["hand", "demand"]) fun _ _ _ _ _ _ us hl => match us, hl with | [_, _], _ => rfl
  have F13 := fun_mk (st := s_law_claims) l13 c13 k13
  have b13 := F13.binds (ps := ["demand"]) fun _ _ _ _ _ _ us hl => match us, hl with | [_], _ => rfl
  have F14 := fun_mk (st := s_law_truth) l14 c14 k14
  have b14 := F14.binds (ps := ["demand", "lot"]) fun _ _ _ _ _ _ us hl => match us, hl with | [_, _], _ => rfl
  have F15 := fun_mk (st := s_law_lots) l15 c15 k15
  have b15 := F15.binds (ps := ["things"]) fun _ _ _ _ _ _ us hl => match us, hl with | [_], _ => rfl
  have F16 := fun_mk (st := s_law_implied) l16 c16 k16
  have b16 := F16.binds (ps := ["one", "other"]) fun _ _ _ _ _ _ us hl => match us, hl with | [_, _], _ => rfl
  have F17 := fun_mk (st := s_law_moved) l17 c17 k17
  have b17 := F17.binds (ps := ["hand", "demand", "pool"]) fun _ _ _ _ _ _ us hl => match us, hl with | [_, _, _], _ => rfl
  have F18 := fun_mk (st := s_law_near) l18 c18 k18
  have b18 := F18.binds (ps := ["hand", "demand", "pool"]) fun _ _ _ _ _ _ us hl => match us, hl with | [_, _, _], _ => rfl
  have F19 := fun_mk (st := s_law_is_right) l19 c19 k19
  have b19 := F19.binds (ps := ["one", "other"]) fun _ _ _ _ _ _ us hl => match us, hl with | [_, _], _ => rfl
  have F20 := fun_mk (st := s_law_wide) l20 c20 k20
  have b20 := F20.binds (ps := ["hand", "word", "other"]) fun _ _ _ _ _ _ us hl => match us, hl with | [_, _, _], _ => rfl
  have F21 := fun_mk (st := s_law) l21 c21 k21
  have b21 := F21.binds (ps := ["script"]) fun _ _ _ _ _ _ us hl => match us, hl with | [_], _ => rfl
  exact ⟨_, fun s v => .of_eq rfl, fun base _ _ => law_goes_on T F1 (PySem.W.mg_of X G a1) b1 F2 (PySem.W.mg_of X G a2) b2 F3 (PySem.W.mg_of X G a3) b3 F4 (PySem.W.mg_of X G a4) b4 F5 (PySem.W.mg_of X G a5) b5 F6 (PySem.W.mg_of X G a6) b6 F7 (PySem.W.mg_of X G a7) b7 F8 (PySem.W.mg_of X G a8) b8 F9 (PySem.W.mg_of X G a9) b9 F10 (PySem.W.mg_of X G a10) b10 F11 (PySem.W.mg_of X G a11) b11 F12 (PySem.W.mg_of X G a12) b12 F13 (PySem.W.mg_of X G a13) b13 F14 (PySem.W.mg_of X G a14) b14 F15 (PySem.W.mg_of X G a15) b15 F16 (PySem.W.mg_of X G a16) b16 F17 (PySem.W.mg_of X G a17) b17 F18 (PySem.W.mg_of X G a18) b18 F19 (PySem.W.mg_of X G a19) b19 F20 (PySem.W.mg_of X G a20) b20 F21 (PySem.W.mg_of X G a21) b21⟩
end DL
open PySem PySem.W PyProof.Rows
set_option maxRecDepth 100000 in
set_option maxHeartbeats 0 in
theorem PySem.Challenge.cw_nearestkinds_k11_whole_implied_holds : PySem.Challenge.rw_nearestkinds_k11_whole_implied.Holds := by
  w_on; o_law; k_head; (case hw => w_witness2)
  k_fill
  refine DL.walkG (l := PySem.Challenge.rw_nearestkinds_k11_whole_implied) (n := 63) (k := 15) (x := "script") (dsp := DL.spLaw) rfl (by decide) rfl ⟨rfl, by decide, by decide⟩ (fun w h Y => PySem.W.kIn_of Y) ?F ?S
  case S => exact fun ns hl => ⟨ns, hl, rfl, rfl, fun _ => rfl⟩
  case F =>
    intro w mg fa h KX G hmg
    refine' DL.all_mk KX G hmg ?a1 ?l1 ?c1 ?k1 ?a2 ?l2 ?c2 ?k2 ?a3 ?l3 ?c3 ?k3 ?a4 ?l4 ?c4 ?k4 ?a5 ?l5 ?c5 ?k5 ?a6 ?l6 ?c6 ?k6 ?a7 ?l7 ?c7 ?k7 ?a8 ?l8 ?c8 ?k8 ?a9 ?l9 ?c9 ?k9 ?a10 ?l10 ?c10 ?k10 ?a11 ?l11 ?c11 ?k11 ?a12 ?l12 ?c12 ?k12 ?a13 ?l13 ?c13 ?k13 ?a14 ?l14 ?c14 ?k14 ?a15 ?l15 ?c15 ?k15 ?a16 ?l16 ?c16 ?k16 ?a17 ?l17 ?c17 ?k17 ?a18 ?l18 ?c18 ?k18 ?a19 ?l19 ?c19 ?k19 ?a20 ?l20 ?c20 ?k20 ?a21 ?l21 ?c21 ?k21 ?z_abs ?z_all ?z_any ?z_int ?z_len ?z_list ?z_max ?z_range ?z_repr ?z_set ?z_sorted ?z_tuple ?u_CLAIM ?u_EITHER
    (case a1 => k_is); (case l1 => k_is); (case c1 => k_is); (case k1 => k_is)
    (case a2 => k_is); (case l2 => k_is); (case c2 => k_is); (case k2 => k_is)
    (case a3 => k_is); (case l3 => k_is); (case c3 => k_is); (case k3 => k_is)
    (case a4 => k_is); (case l4 => k_is); (case c4 => k_is); (case k4 => k_is)
    (case a5 => k_is); (case l5 => k_is); (case c5 => k_is); (case k5 => k_is)
    (case a6 => k_is); (case l6 => k_is); (case c6 => k_is); (case k6 => k_is)
    (case a7 => k_is); (case l7 => k_is); (case c7 => k_is); (case k7 => k_is)
    (case a8 => k_is); (case l8 => k_is); (case c8 => k_is); (case k8 => k_is)
    (case a9 => k_is); (case l9 => k_is); (case c9 => k_is); (case k9 => k_is)
    (case a10 => k_is); (case l10 => k_is); (case c10 => k_is); (case k10 => k_is)
    (case a11 => k_is); (case l11 => k_is); (case c11 => k_is); (case k11 => k_is)
    (case a12 => k_is); (case l12 => k_is); (case c12 => k_is); (case k12 => k_is)
    (case a13 => k_is); (case l13 => k_is); (case c13 => k_is); (case k13 => k_is)
    (case a14 => k_is); (case l14 => k_is); (case c14 => k_is); (case k14 => k_is)
    (case a15 => k_is); (case l15 => k_is); (case c15 => k_is); (case k15 => k_is)
    (case a16 => k_is); (case l16 => k_is); (case c16 => k_is); (case k16 => k_is)
    (case a17 => k_is); (case l17 => k_is); (case c17 => k_is); (case k17 => k_is)
    (case a18 => k_is); (case l18 => k_is); (case c18 => k_is); (case k18 => k_is)
    (case a19 => k_is); (case l19 => k_is); (case c19 => k_is); (case k19 => k_is)
    (case a20 => k_is); (case l20 => k_is); (case c20 => k_is); (case k20 => k_is)
    (case a21 => k_is); (case l21 => k_is); (case c21 => k_is); (case k21 => k_is)
    (case z_abs => k_is); (case z_all => k_is); (case z_any => k_is); (case z_int => k_is)
    (case z_len => k_is); (case z_list => k_is); (case z_max => k_is); (case z_range => k_is)
    (case z_repr => k_is); (case z_set => k_is); (case z_sorted => k_is); (case z_tuple => k_is)
    (case u_CLAIM => k_is); (case u_EITHER => k_is)

