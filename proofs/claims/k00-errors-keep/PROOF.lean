import PyProof.Rows.All
import Wide.All
import OpenK.AllK
import Wide.FinOn
import HandS.ForMost
import KE.KeyNested
import KE.KDictKeyed
import HandS.TupAny
import HandS.TupMul
import HandS.Style
import HandS.Deep
import HandS.IsInst
import HandS.RaiseMore
import HandS.SortInts
import HandS.Conv
import HandS.SetKeys
import HandS.Finally
import HandS.Zip
import HandS.More
import KE.GoesMore
import KE.GoesZip
import KE.GoesEnum
import KE.KDictZip
import HandS.Exc
import HandS.ExcValue
import KE.KDictPairs
import HandS.TupSets
import KE.SortData
import HandS.ExcOwn
import HandS.TryOnly
import HandS.TryMany
import HandS.ExcInit
import KE.KExcSuper
import HandS.ExcField
import HandS.ExcIs
import KE.KExcIs
import HandS.NoneIn
import HandS.DictComp
import HandS.Text
import HandS.Strs
import HandS.Small
import HandS.ReplaceLit
import PyProof.StrBlock2
import HandS.Codes
import PyProof.Rows.ReprOcc
import PySem.Challenge.RW_nearestkinds_k00_errors_keep_what_is_pas
set_option Elab.async false
set_option linter.all false
set_option maxRecDepth 100000
set_option maxHeartbeats 4000000
/-! DA: values as trees (D), what is frozen (F), what may still change (M), and readings over these. -/
namespace DL
open PySem PySem.Spec PyProof.Rows L2

/-- a value seen as a tree; ref: a list, a dict, an instance that may still change, or a def, a class -/
inductive D where
  | non | bl (b : Bool) | int (i : Int) | str (s : Str)
  | tup (xs : List D) | lst (xs : List D) | dct (kvs : List (Key × D))
  | ref (a : Addr) | ty (n : String) | ins (C : Addr) (fs : List (Str × D))
  /-- a list that was there ahead of the law: read alone -/
  | rol (xs : List D)
  /-- a tuple of which it is known that nothing hangs at it -/
  | ptp (xs : List D)
  /-- an error in hand: where it stands, its own dict, its class's name, its fields -/
  | exc (a : Addr) (dx : Option Addr) (n : Str) (fs : List (Str × D))
  /-- an error kept as a value: where it stands, its class, its own dict, its fields -/
  | exv (a C : Addr) (dx : Option Addr) (fs : List (Str × D))
  /-- a dict with one key, which may be a tuple, and its value -/
  | dc1 (k v : D)
/-- an error of the class at C, whose dict is dx, stands at a -/
def ExV (C : Addr) (dx : Option Addr) (a : Addr) (h : Heap) : Prop := ∃ (oe : Obj) (vs : Array Value), h.get? a = some oe ∧ oe.cls = .ref C ∧ oe.dict = dx ∧ oe.data = .fields vs

/-- what stands at an address that may still change -/
inductive MO where
  | lst (xs : List D) | dct (kvs : List (Key × D)) | ins (C : Addr) (fs : List (Str × D))
  /-- a dict (at p, in world w) whose keys are tuples of numbers, texts, None and such tuples -/
  | dctN (w : World) (p : Addr) (kvs : List (NestedKey × D))
  /-- a dict whose keys are numbers, texts, None and tuples of such -/
  | dctT (w : World) (p : Addr) (kvs : List (NestedKey × D))

abbrev Sto := Addr → Option MO
def Sto.upd (M : Sto) (a : Addr) (o : MO) : Sto := fun b => if b = a then some o else M b
@[simp] theorem Sto.upd_same {M : Sto} {a : Addr} {o : MO} : M.upd a o a = some o := by unfold Sto.upd; rw [if_pos rfl]
theorem Sto.upd_ne {M : Sto} {a b : Addr} {o : MO} (h : b ≠ a) : M.upd a o b = M b := by unfold Sto.upd; rw [if_neg h]
theorem Sto.upd_upd {M : Sto} {a : Addr} {o u : MO} : (M.upd a o).upd a u = M.upd a u := by
  funext b; unfold Sto.upd; split <;> rfl
def Sto.del (M : Sto) (a : Addr) : Sto := fun b => if b = a then none else M b
theorem Sto.del_ne {M : Sto} {a b : Addr} (h : b ≠ a) : M.del a b = M b := by unfold Sto.del; rw [if_neg h]
theorem Sto.del_same {M : Sto} {a : Addr} : M.del a a = none := by unfold Sto.del; rw [if_pos rfl]
/-- M knows less than M' -/
def Sto.le (M M' : Sto) : Prop := ∀ a o, M a = some o → M' a = some o
theorem Sto.le_refl (M : Sto) : M.le M := fun _ _ h => h
theorem Sto.le_trans {M M1 M2 : Sto} (a : M.le M1) (b : M1.le M2) : M.le M2 := fun x o h => b x o (a x o h)
theorem Sto.ne {M : Sto} {a b : Addr} {o : MO} (h : M a = some o) (h' : M b = none) : a ≠ b := by
  intro e; subst e; rw [h] at h'; cases h'
theorem Sto.le_new {M : Sto} {a : Addr} {o : MO} (h : M a = none) : M.le (M.upd a o) := fun b u e => by
  rw [Sto.upd_ne (Sto.ne e h)]; exact e
theorem Sto.del_new {M : Sto} {a : Addr} {o : MO} (h : M a = none) : (M.upd a o).del a = M := by
  funext b
  by_cases e : b = a
  · rw [e, Sto.del_same, h]
  · rw [Sto.del_ne e, Sto.upd_ne e]

/-- the object at a is a dict with these entries: the key, what carries it, the value -/
def TObj (w : World) (a : Addr) (xs : List (NestedKey × V × V)) (h : Heap) : Prop :=
  xs.length ≤ sizeLine ∧ (a == sysModules) = false ∧ ∃ vs : List (NestedKey × Value × Value), Paired (fun p q => p.1 = q.1 ∧ L2.RelV p.2.1 q.2.1 ∧ L2.RelV p.2.2 q.2.2) xs vs ∧
    ∃ o es ep, h.get? a = some o ∧ o.ExactDict ∧ o.data = Data.dict es ep ∧ es.toList = vs.map (fun x => ({ hash := x.1.hash w, key := x.2.1, val := x.2.2 } : DictEntry)) ∧ (vs.map fun x => x.1).Nodup
/-! ### a value v, by what is frozen, is the tree d -/
mutual
inductive RelD (K : PySem.W.Frag) (F : Hp) : V → D → Prop
  | non : RelD K F .non .non
  | bl (b : Bool) : RelD K F (.bl b) (.bl b)
  | int (i : Int) : RelD K F (.int i) (.int i)
  | str (s : Str) : RelD K F (.str s) (.str s)
  | tup {a : Addr} {xs : List V} {ds : List D} : SqT K F a xs → RelDs K F xs ds → RelD K F (.ref a) (.tup ds)
  | lst {a : Addr} {xs : List V} {ds : List D} : F a = some (.lst xs) → RelDs K F xs ds → RelD K F (.ref a) (.lst ds)
  | rol {a : Addr} {xs : List V} {ds : List D} : SqL K F a xs → RelDs K F xs ds → RelD K F (.ref a) (.rol ds)
  | ptp {a : Addr} {o : Obj} {xs : List V} {ds : List D} : F a = some (.frz o (.tup xs)) → o.dict = none → RelDs K F xs ds → RelD K F (.ref a) (.ptp ds)
  | dct {a : Addr} {kvs : List (Key × V)} {ds : List (Key × D)} : Rd F a (.dK kvs) → RelKv K F kvs ds → RelD K F (.ref a) (.dct ds)
  | ref (a : Addr) : RelD K F (.ref a) (.ref a)
  | ty (n : String) : RelD K F (.ty n) (.ty n)
  | ins {a C dx : Addr} {fs : List (Str × V)} {ds : List (Str × D)} : F a = some (.ins C dx fs) → RelFs K F fs ds → RelD K F (.ref a) (.ins C ds)
  | exc0 (a : Addr) (n : Str) : RelD K F (.ref a) (.exc a none n [])
  | exc1 {a dx : Addr} {n : Str} {fs : List (Str × V)} {ds : List (Str × D)} : F dx = some (.xd fs) → RelFs K F fs ds → RelD K F (.ref a) (.exc a (some dx) n ds)
  | exv0 {a C : Addr} : F a = some (.ext (ExV C none a)) → RelD K F (.ref a) (.exv a C none [])
  | exv1 {a C dx : Addr} {fs : List (Str × V)} {ds : List (Str × D)} : F a = some (.ext (ExV C (some dx) a)) → F dx = some (.xd fs) → RelFs K F fs ds → RelD K F (.ref a) (.exv a C (some dx) ds)
  | dc1 {a : Addr} {w : World} {nk : NestedKey} {kv vv : V} {k v : D} : F a = some (.ext (TObj w a [(nk, kv, vv)])) → RelD K F kv k → RelD K F vv v → RelD K F (.ref a) (.dc1 k v)
inductive RelDs (K : PySem.W.Frag) (F : Hp) : List V → List D → Prop
  | nil : RelDs K F [] []
  | cons {v : V} {vs : List V} {d : D} {ds : List D} : RelD K F v d → RelDs K F vs ds → RelDs K F (v :: vs) (d :: ds)
inductive RelKv (K : PySem.W.Frag) (F : Hp) : List (Key × V) → List (Key × D) → Prop
  | nil : RelKv K F [] []
  | cons {k : Key} {v : V} {vs : List (Key × V)} {d : D} {ds : List (Key × D)} : RelD K F v d → RelKv K F vs ds → RelKv K F ((k, v) :: vs) ((k, d) :: ds)
inductive RelFs (K : PySem.W.Frag) (F : Hp) : List (Str × V) → List (Str × D) → Prop
  | nil : RelFs K F [] []
  | cons {k : Str} {v : V} {vs : List (Str × V)} {d : D} {ds : List (Str × D)} : RelD K F v d → RelFs K F vs ds → RelFs K F ((k, v) :: vs) ((k, d) :: ds)
end

/-- F' has all that F has -/
def Ext (F F' : Hp) : Prop := ∀ a o, F a = some o → F' a = some o
theorem Ext.refl (F : Hp) : Ext F F := fun _ _ h => h
theorem Ext.trans {F F1 F2 : Hp} (a : Ext F F1) (b : Ext F1 F2) : Ext F F2 := fun x o h => b x o (a x o h)
theorem Ext.new {F : Hp} {a : Addr} {o : HO} (h : F a = none) : Ext F (upd F a o) := fun b u e => by
  rw [upd_ne (ne_of_none e h)]; exact e
theorem Ext.rd {F F' : Hp} {a : Addr} {u : HO} (e : Ext F F') (h : Rd F a u) : Rd F' a u := by
  rcases h with h | ⟨o, h⟩
  · exact Or.inl (e a _ h)
  · exact Or.inr ⟨o, e a _ h⟩
theorem Ext.sqL {K : PySem.W.Frag} {F F' : Hp} {a : Addr} {xs : List V} (e : Ext F F') (h : SqL K F a xs) : SqL K F' a xs := by
  rcases h with h | h
  · exact Or.inl (e.rd h)
  · exact Or.inr h
theorem Ext.sqT {K : PySem.W.Frag} {F F' : Hp} {a : Addr} {xs : List V} (e : Ext F F') (h : SqT K F a xs) : SqT K F' a xs := by
  rcases h with h | h
  · exact Or.inl (e.rd h)
  · exact Or.inr h
mutual
theorem RelD.mono {K : PySem.W.Frag} {F F' : Hp} (e : Ext F F') : ∀ {v : V} {d : D}, RelD K F v d → RelD K F' v d
  | _, _, .non => .non
  | _, _, .bl b => .bl b
  | _, _, .int i => .int i
  | _, _, .str s => .str s
  | _, _, .tup h r => .tup (e.sqT h) (RelDs.mono e r)
  | _, _, .lst h r => .lst (e _ _ h) (RelDs.mono e r)
  | _, _, .rol h r => .rol (e.sqL h) (RelDs.mono e r)
  | _, _, .ptp h n r => .ptp (e _ _ h) n (RelDs.mono e r)
  | _, _, .dct h r => .dct (e.rd h) (RelKv.mono e r)
  | _, _, .ref a => .ref a
  | _, _, .ty n => .ty n
  | _, _, .ins h r => .ins (e _ _ h) (RelFs.mono e r)
  | _, _, .exc0 a C => .exc0 a C
  | _, _, .exc1 h r => .exc1 (e _ _ h) (RelFs.mono e r)
  | _, _, .exv0 h => .exv0 (e _ _ h)
  | _, _, .exv1 h g r => .exv1 (e _ _ h) (e _ _ g) (RelFs.mono e r)
  | _, _, .dc1 h r1 r2 => .dc1 (e _ _ h) (RelD.mono e r1) (RelD.mono e r2)
theorem RelDs.mono {K : PySem.W.Frag} {F F' : Hp} (e : Ext F F') : ∀ {v : List V} {d : List D}, RelDs K F v d → RelDs K F' v d
  | _, _, .nil => .nil
  | _, _, .cons h r => .cons (RelD.mono e h) (RelDs.mono e r)
theorem RelKv.mono {K : PySem.W.Frag} {F F' : Hp} (e : Ext F F') : ∀ {v : List (Key × V)} {d : List (Key × D)}, RelKv K F v d → RelKv K F' v d
  | _, _, .nil => .nil
  | _, _, .cons h r => .cons (RelD.mono e h) (RelKv.mono e r)
theorem RelFs.mono {K : PySem.W.Frag} {F F' : Hp} (e : Ext F F') : ∀ {v : List (Str × V)} {d : List (Str × D)}, RelFs K F v d → RelFs K F' v d
  | _, _, .nil => .nil
  | _, _, .cons h r => .cons (RelD.mono e h) (RelFs.mono e r)
end
section
variable {K : PySem.W.Frag} {F : Hp}
theorem RelDs.length : ∀ {vs : List V} {ds : List D}, RelDs K F vs ds → vs.length = ds.length
  | _, _, .nil => rfl
  | _, _, .cons _ r => by rw [List.length_cons, List.length_cons, RelDs.length r]
theorem RelDs.get : ∀ {vs : List V} {ds : List D}, RelDs K F vs ds → ∀ {i : Nat} {d : D}, ds[i]? = some d → ∃ v, vs[i]? = some v ∧ RelD K F v d
  | _, _, .nil, i, d, h => by simp at h
  | _, _, .cons h r, 0, d, e => by simp at e; subst e; exact ⟨_, rfl, h⟩
  | _, _, .cons h r, i + 1, d, e => by
    obtain ⟨v, h1, h2⟩ := RelDs.get r (i := i) (d := d) (by simpa using e)
    exact ⟨v, by simpa using h1, h2⟩
theorem RelDs.getV : ∀ {vs : List V} {ds : List D}, RelDs K F vs ds → ∀ {i : Nat} {v : V}, vs[i]? = some v → ∃ d, ds[i]? = some d ∧ RelD K F v d
  | _, _, .nil, i, d, h => by simp at h
  | _, _, .cons h r, 0, d, e => by simp at e; subst e; exact ⟨_, rfl, h⟩
  | _, _, .cons h r, i + 1, d, e => by
    obtain ⟨v, h1, h2⟩ := RelDs.getV r (i := i) (v := d) (by simpa using e)
    exact ⟨v, by simpa using h1, h2⟩
theorem RelDs.append : ∀ {vs ws : List V} {ds es : List D}, RelDs K F vs ds → RelDs K F ws es → RelDs K F (vs ++ ws) (ds ++ es)
  | _, _, _, _, .nil, s => s
  | _, _, _, _, .cons h r, s => .cons h (RelDs.append r s)
theorem RelDs.drop : ∀ {vs : List V} {ds : List D} (n : Nat), RelDs K F vs ds → RelDs K F (vs.drop n) (ds.drop n)
  | _, _, 0, r => r
  | _, _, _ + 1, .nil => .nil
  | _, _, n + 1, .cons _ r => RelDs.drop n r
theorem RelDs.take : ∀ {vs : List V} {ds : List D} (n : Nat), RelDs K F vs ds → RelDs K F (vs.take n) (ds.take n)
  | _, _, 0, _ => .nil
  | _, _, _ + 1, .nil => .nil
  | _, _, n + 1, .cons h r => .cons h (RelDs.take n r)
theorem RelDs.set : ∀ {vs : List V} {ds : List D} (i : Nat) {v : V} {d : D}, RelDs K F vs ds → RelD K F v d → RelDs K F (vs.set i v) (ds.set i d)
  | _, _, _, _, _, .nil, _ => .nil
  | _, _, 0, _, _, .cons _ r, q => .cons q r
  | _, _, i + 1, _, _, .cons h r, q => .cons h (RelDs.set i r q)
theorem RelDs.eraseIdx : ∀ {vs : List V} {ds : List D} (i : Nat), RelDs K F vs ds → RelDs K F (vs.eraseIdx i) (ds.eraseIdx i)
  | _, _, _, .nil => .nil
  | _, _, 0, .cons _ r => r
  | _, _, i + 1, .cons h r => .cons h (RelDs.eraseIdx i r)
theorem RelDs.reverse {vs : List V} {ds : List D} (r : RelDs K F vs ds) : RelDs K F vs.reverse ds.reverse := by
  have go : ∀ {vs ws : List V} {ds es : List D}, RelDs K F vs ds → RelDs K F ws es → RelDs K F (vs.reverseAux ws) (ds.reverseAux es) := by
    intro vs
    induction vs with
    | nil => intro ws ds es h k; cases h; exact k
    | cons v vs ih => intro ws ds es h k; cases h with
      | cons h1 h2 =>
        have z := ih h2 (RelDs.cons h1 k)
        exact z
  exact go r .nil
end

mutual
/-- the key that a tree is -/
def nkD : D → Option NestedKey
  | .int i => some (.num i)
  | .str s => some (.text s)
  | .non => some .none
  | .tup xs => (nkDs xs).map .tup
  | .bl _ => none
  | .lst _ => none
  | .dct _ => none
  | .ref _ => none
  | .ty _ => none
  | .ins _ _ => none
  | .rol _ => none
  | .ptp _ => none
  | .exc _ _ _ _ => none
  | .exv _ _ _ _ => none
  | .dc1 _ _ => none
def nkDs : List D → Option (List NestedKey)
  | [] => some []
  | d :: r => match nkD d, nkDs r with
    | some k, some ks => some (k :: ks)
    | _, _ => none
end
/-- the object at a is a dict with these entries: the key, its tuple, the value -/
def NObj (w : World) (a : Addr) (xs : List (NestedKey × Addr × V)) (h : Heap) : Prop :=
  xs.length ≤ sizeLine ∧ (a == sysModules) = false ∧ ∃ vs : List (NestedKey × Addr × Value), Paired (fun p q => p.1 = q.1 ∧ p.2.1 = q.2.1 ∧ L2.RelV p.2.2 q.2.2) xs vs ∧
    ∃ o es ep, h.get? a = some o ∧ o.ExactDict ∧ o.data = Data.dict es ep ∧ es.toList = vs.map (fun x => ({ hash := x.1.hash w, key := .ref x.2.1, val := x.2.2 } : DictEntry)) ∧ (vs.map fun x => x.1).Nodup
def RelNK (K : PySem.W.Frag) (F : Hp) : List (NestedKey × Addr × V) → List (NestedKey × D) → Prop
  | [], [] => True
  | x :: xs, d :: ds => x.1 = d.1 ∧ x.1.depth ≤ 8 ∧ (∃ dk, nkD dk = some x.1 ∧ RelD K F (.ref x.2.1) dk) ∧ RelD K F x.2.2 d.2 ∧ RelNK K F xs ds
  | _, _ => False
theorem RelNK.mono {K : PySem.W.Frag} {F F' : Hp} (e : Ext F F') : ∀ {xs : List (NestedKey × Addr × V)} {ds : List (NestedKey × D)}, RelNK K F xs ds → RelNK K F' xs ds
  | [], [], _ => True.intro
  | _ :: _, _ :: _, ⟨h1, h2, ⟨dk, h3, h4⟩, h5, h6⟩ => ⟨h1, h2, ⟨dk, h3, h4.mono e⟩, h5.mono e, RelNK.mono e h6⟩
  | [], _ :: _, h => h.elim
  | _ :: _, [], h => h.elim

def RelTK (K : PySem.W.Frag) (F : Hp) : List (NestedKey × V × V) → List (NestedKey × D) → Prop
  | [], [] => True
  | x :: xs, d :: ds => x.1 = d.1 ∧ x.1.depth ≤ 8 ∧ (∃ dk, nkD dk = some x.1 ∧ RelD K F x.2.1 dk) ∧ RelD K F x.2.2 d.2 ∧ RelTK K F xs ds
  | _, _ => False
theorem RelTK.mono {K : PySem.W.Frag} {F F' : Hp} (e : Ext F F') : ∀ {xs : List (NestedKey × V × V)} {ds : List (NestedKey × D)}, RelTK K F xs ds → RelTK K F' xs ds
  | [], [], _ => True.intro
  | _ :: _, _ :: _, ⟨h1, h2, ⟨dk, h3, h4⟩, h5, h6⟩ => ⟨h1, h2, ⟨dk, h3, h4.mono e⟩, h5.mono e, RelTK.mono e h6⟩
  | [], _ :: _, h => h.elim
  | _ :: _, [], h => h.elim

/-! ### the state -/
abbrev DSt := List (Option D)
def RelO (K : PySem.W.Frag) (F : Hp) : HO → MO → Prop
  | .lst vs, .lst ds => RelDs K F vs ds
  | .dK kvs, .dct ds => RelKv K F kvs ds
  | .ins C _ fs, .ins C' ds => C = C' ∧ RelFs K F fs ds
  | .ext phi, .dctN w p ds => ∃ xs, phi = NObj w p xs ∧ RelNK K F xs ds
  | .ext phi, .dctT w p ds => ∃ xs, phi = TObj w p xs ∧ RelTK K F xs ds
  | _, _ => False
theorem RelO.mono {K : PySem.W.Frag} {F F' : Hp} (e : Ext F F') {h : HO} {o : MO} (r : RelO K F h o) : RelO K F' h o := by
  cases h <;> cases o <;> first | exact False.elim r | skip
  · exact RelDs.mono e r
  · exact RelKv.mono e r
  · exact ⟨r.1, RelFs.mono e r.2⟩
  · obtain ⟨xs, h, r⟩ := r
    exact ⟨xs, h, RelNK.mono e r⟩
  · obtain ⟨xs, h, r⟩ := r
    exact ⟨xs, h, RelTK.mono e r⟩
/-- the heap without the slots -/
structure Rst0 (K : PySem.W.Frag) (F H : Hp) (M : Sto) : Prop where
  sub : Ext F H
  sto : ∀ a o, M a = some o → F a = none ∧ ∃ ho, H a = some ho ∧ RelO K F ho o
structure RelSl (K : PySem.W.Frag) (F : Hp) (σ : L2.St) (τ : DSt) : Prop where
  len : σ.length = τ.length
  get : ∀ (i : Nat) (d : D), τ[i]? = some (some d) → ∃ v, σ[i]? = some (some v) ∧ RelD K F v d
structure Rst (K : PySem.W.Frag) (F H : Hp) (σ : L2.St) (τ : DSt) (M : Sto) : Prop where
  heap : Rst0 K F H M
  slots : RelSl K F σ τ
section
variable {K : PySem.W.Frag} {F F' H : Hp} {σ : L2.St} {τ : DSt} {M M' : Sto} {a p : Addr} {v : V} {d : D}
theorem RelSl.mono (e : Ext F F') (r : RelSl K F σ τ) : RelSl K F' σ τ := ⟨r.len, fun i d h => by
  obtain ⟨v, h1, h2⟩ := r.get i d h
  exact ⟨v, h1, h2.mono e⟩⟩
theorem RelSl.set (r : RelSl K F σ τ) (i : Nat) (h : RelD K F v d) : RelSl K F (σ.set i (some v)) (τ.set i (some d)) := by
  refine ⟨by rw [List.length_set, List.length_set, r.len], fun j e he => ?_⟩
  by_cases hj : j = i
  · subst hj
    have hl : j < τ.length := by
      have := (List.getElem?_eq_some_iff.mp he).1
      rw [List.length_set] at this; exact this
    rw [List.getElem?_set_self hl] at he
    cases he
    exact ⟨v, List.getElem?_set_self (by rw [r.len]; exact hl), h⟩
  · rw [List.getElem?_set_ne (Ne.symm hj)] at he ⊢
    exact r.get j e he
theorem RelSl.forget (r : RelSl K F σ τ) (i : Nat) : RelSl K F σ (τ.set i none) := by
  refine ⟨by rw [List.length_set, r.len], fun j e he => ?_⟩
  by_cases hj : j = i
  · subst hj
    have hl : j < τ.length := by
      have := (List.getElem?_eq_some_iff.mp he).1
      rw [List.length_set] at this; exact this
    rw [List.getElem?_set_self hl] at he
    cases he
  · rw [List.getElem?_set_ne (Ne.symm hj)] at he
    exact r.get j e he
theorem Rst0.less (r : Rst0 K F H M') (h : M.le M') : Rst0 K F H M := ⟨r.sub, fun a o e => r.sto a o (h a o e)⟩
theorem Rst0.free (r : Rst0 K F H M) (h : H p = none) : F p = none ∧ M p = none := by
  constructor
  · cases e : F p with
    | none => rfl
    | some o => rw [r.sub p o e] at h; cases h
  · cases e : M p with
    | none => rfl
    | some o => obtain ⟨_, ho, h1, _⟩ := r.sto p o e; rw [h1] at h; cases h
/-- from F, H, M on: what is frozen stays, what M does not know is left alone -/
structure Stp (F H : Hp) (M : Sto) (F' H' : Hp) (M' : Sto) : Prop where
  ext : Ext F F'
  kp : ∀ a o, H a = some o → M a = none → H' a = some o ∧ M' a = none ∧ (F a = none → F' a = none)
  al : ∀ a, H' a = none → H a = none
theorem Stp.refl (F H : Hp) (M : Sto) : Stp F H M F H M := ⟨Ext.refl F, fun a o h m => ⟨h, m, fun z => z⟩, fun _ h => h⟩
theorem Stp.trans {F H F1 H1 F2 H2 : Hp} {M M1 M2 : Sto} (x : Stp F H M F1 H1 M1) (y : Stp F1 H1 M1 F2 H2 M2) : Stp F H M F2 H2 M2 :=
  ⟨x.ext.trans y.ext, fun a o h m => by
    obtain ⟨h1, m1, f1⟩ := x.kp a o h m
    obtain ⟨h2, m2, f2⟩ := y.kp a o h1 m1
    exact ⟨h2, m2, fun z => f2 (f1 z)⟩, fun a h => x.al a (y.al a h)⟩
theorem Stp.less {F H F1 H1 : Hp} {M M1 M2 : Sto} (x : Stp F H M F1 H1 M1) (h : M2.le M1) : Stp F H M F1 H1 M2 := by
  refine ⟨x.ext, fun a o e m => ?_, x.al⟩
  obtain ⟨h1, m1, f1⟩ := x.kp a o e m
  refine ⟨h1, ?_, f1⟩
  cases q : M2 a with
  | none => rfl
  | some u => rw [h a u q] at m1; cases m1
theorem upd_al {H : Hp} {p : Addr} {o : HO} (a : Addr) (h : upd H p o a = none) : H a = none := by
  by_cases e : a = p
  · subst e; rw [upd_same] at h; cases h
  · rw [upd_ne e] at h; exact h
/-- a new object that is frozen at once -/
theorem Rst0.frozen (r : Rst0 K F H M) {o : HO} (h : H p = none) : Stp F H M (upd F p o) (upd H p o) M ∧ Rst0 K (upd F p o) (upd H p o) M := by
  obtain ⟨hf, hm⟩ := r.free h
  have e := Ext.new (o := o) hf
  refine ⟨⟨e, fun b u q n => ?_, upd_al⟩, fun b u q => ?_, fun b u q => ?_⟩
  · have hb := ne_of_none q h
    exact ⟨by rw [upd_ne hb]; exact q, n, fun z => by rw [upd_ne hb]; exact z⟩
  · by_cases hb : b = p
    · subst hb; rw [upd_same] at q ⊢; exact q
    · rw [upd_ne hb] at q ⊢; exact r.sub b u q
  · have hb : b ≠ p := Sto.ne q hm
    obtain ⟨h1, ho, h2, h3⟩ := r.sto b u q
    exact ⟨by rw [upd_ne hb]; exact h1, ho, by rw [upd_ne hb]; exact h2, h3.mono e⟩
/-- a new object that may change -/
theorem Rst0.fresh (r : Rst0 K F H M) {o : HO} {u : MO} (h : H p = none) (q : RelO K F o u) : Stp F H M F (upd H p o) (M.upd p u) ∧ Rst0 K F (upd H p o) (M.upd p u) := by
  obtain ⟨hf, hm⟩ := r.free h
  refine ⟨⟨Ext.refl F, fun b w e n => ?_, upd_al⟩, fun b w e => ?_, fun b w e => ?_⟩
  · have hb := ne_of_none e h
    exact ⟨by rw [upd_ne hb]; exact e, by rw [Sto.upd_ne hb]; exact n, fun z => z⟩
  · rw [upd_ne (ne_of_none e hf)]; exact r.sub b w e
  · by_cases hb : b = p
    · subst hb
      rw [Sto.upd_same] at e; cases e
      exact ⟨hf, o, upd_same, q⟩
    · rw [Sto.upd_ne hb] at e
      obtain ⟨h1, ho, h2, h3⟩ := r.sto b w e
      exact ⟨h1, ho, by rw [upd_ne hb]; exact h2, h3⟩
/-- an object is written -/
theorem Rst0.write (r : Rst0 K F H M) {o : HO} {u w : MO} (h : M p = some w) (q : RelO K F o u) : Stp F H M F (upd H p o) (M.upd p u) ∧ Rst0 K F (upd H p o) (M.upd p u) := by
  obtain ⟨hf, _, _, _⟩ := r.sto p w h
  refine ⟨⟨Ext.refl F, fun b z e n => ?_, upd_al⟩, fun b z e => ?_, fun b z e => ?_⟩
  · have hb : b ≠ p := (Sto.ne h n).symm
    exact ⟨by rw [upd_ne hb]; exact e, by rw [Sto.upd_ne hb]; exact n, fun z => z⟩
  · rw [upd_ne (ne_of_none e hf)]; exact r.sub b z e
  · by_cases hb : b = p
    · subst hb
      rw [Sto.upd_same] at e; cases e
      exact ⟨hf, o, upd_same, q⟩
    · rw [Sto.upd_ne hb] at e
      obtain ⟨h1, ho, h2, h3⟩ := r.sto b z e
      exact ⟨h1, ho, by rw [upd_ne hb]; exact h2, h3⟩
/-- an object is frozen -/
theorem Rst0.freeze (r : Rst0 K F H M) {w : MO} (h : M p = some w) : ∃ ho, H p = some ho ∧ RelO K F ho w ∧ Ext F (upd F p ho) ∧ Stp F H M (upd F p ho) H (M.del p) ∧ Rst0 K (upd F p ho) H (M.del p) := by
  obtain ⟨hf, ho, h1, h2⟩ := r.sto p w h
  have e := Ext.new (o := ho) hf
  refine ⟨ho, h1, h2, e, ⟨e, fun b u q n => ?_, fun _ z => z⟩, fun b u q => ?_, fun b u q => ?_⟩
  · have hb : b ≠ p := (Sto.ne h n).symm
    exact ⟨q, by rw [Sto.del_ne hb]; exact n, fun z => by rw [upd_ne hb]; exact z⟩
  · by_cases hb : b = p
    · subst hb; rw [upd_same] at q; cases q; exact h1
    · rw [upd_ne hb] at q; exact r.sub b u q
  · have hb : b ≠ p := by intro z; subst z; rw [Sto.del_same] at q; cases q
    rw [Sto.del_ne hb] at q
    obtain ⟨g1, go, g2, g3⟩ := r.sto b u q
    exact ⟨by rw [upd_ne hb]; exact g1, go, g2, g3.mono e⟩
/-- an object that is known to nobody is frozen; it was not there at the start -/
theorem Rst0.adopt {F0 H0 : Hp} {M0 : Sto} (r : Rst0 K F H M) (st : Stp F0 H0 M0 F H M) {o : HO} (h : H p = some o) (hm : M p = none) (hf : F p = none) (h0 : H0 p = none) : Ext F (upd F p o) ∧ Stp F0 H0 M0 (upd F p o) H M ∧ Rst0 K (upd F p o) H M := by
  have e := Ext.new (o := o) hf
  refine ⟨e, ⟨st.ext.trans e, fun b u q n => ?_, st.al⟩, fun b u q => ?_, fun b u q => ?_⟩
  · obtain ⟨h1, m1, f1⟩ := st.kp b u q n
    exact ⟨h1, m1, fun z => by rw [upd_ne (ne_of_none q h0)]; exact f1 z⟩
  · by_cases hb : b = p
    · subst hb; rw [upd_same] at q; cases q; exact h
    · rw [upd_ne hb] at q; exact r.sub b u q
  · have hb : b ≠ p := Sto.ne q hm
    obtain ⟨g1, go, g2, g3⟩ := r.sto b u q
    exact ⟨by rw [upd_ne hb]; exact g1, go, g2, g3.mono e⟩
theorem Rst.mono (r : Rst K F H σ τ M) {H' : Hp} (e : Ext F F') (h : Rst0 K F' H' M') : Rst K F' H' σ τ M' := ⟨h, r.slots.mono e⟩
end

/-! ### judgements -/
abbrev DK := D → Sto → Prop
abbrev DTE := DSt → Sto → DK → Prop
abbrev DTT := DSt → Sto → (Bool → Sto → Prop) → Prop
abbrev DTA := DSt → Sto → (List D → Sto → Prop) → Prop
structure DEnds where
  nx : DSt → Sto → Prop
  rt : DK
  bk : DSt → Sto → Prop := fun _ _ => False
  ct : DSt → Sto → Prop := fun _ _ => False
  /-- an error of the class of this name, with these fields, leaves -/
  xr : Str → List (Str × D) → DSt → Sto → Prop := fun _ _ _ _ => False
abbrev DTS := DEnds → DSt → Sto → Prop

/-- the HandS reading te is refined by the reading t over trees -/
def RefE (K : PySem.W.Frag) (te : TE) (t : DTE) : Prop := ∀ (F H : Hp) (σ : L2.St) (τ : DSt) (M : Sto) (Qd : DK) (Q : VK), Rst K F H σ τ M → t τ M Qd →
  (∀ v F' H' d M', Stp F H M F' H' M' → Rst K F' H' σ τ M' → RelD K F' v d → Qd d M' → Q v H') → te σ H Q
def RefT (K : PySem.W.Frag) (te : TT) (t : DTT) : Prop := ∀ (F H : Hp) (σ : L2.St) (τ : DSt) (M : Sto) (Qd : Bool → Sto → Prop) (Q : Bool → Hp → Prop), Rst K F H σ τ M → t τ M Qd →
  (∀ b F' H' M', Stp F H M F' H' M' → Rst K F' H' σ τ M' → Qd b M' → Q b H') → te σ H Q
def RefA (K : PySem.W.Frag) (te : TA) (t : DTA) : Prop := ∀ (F H : Hp) (σ : L2.St) (τ : DSt) (M : Sto) (Qd : List D → Sto → Prop) (Q : List V → Hp → Prop), Rst K F H σ τ M → t τ M Qd →
  (∀ vs F' H' ds M', Stp F H M F' H' M' → Rst K F' H' σ τ M' → RelDs K F' vs ds → Qd ds M' → Q vs H') → te σ H Q
/-- what is wished for of an error that leaves (HandS.Exc's WX) -/
class Wsh where
  /-- where the class of a name stands -/
  cls : Str → Addr
  W : Value → Option Addr → L2.St → Hp → Prop
/-- an error's own dict d has these fields -/
def RelX (K : PySem.W.Frag) (F : Hp) (d : Option Addr) (fs : List (Str × D)) : Prop := (d = none ∧ fs = []) ∨ ∃ (dx : Addr) (vs : List (Str × V)), d = some dx ∧ F dx = some (.xd vs) ∧ RelFs K F vs fs
theorem RelX.mono {K : PySem.W.Frag} {F F' : Hp} {d : Option Addr} {fs : List (Str × D)} (e : Ext F F') (r : RelX K F d fs) : RelX K F' d fs := by
  rcases r with r | ⟨dx, vs, h1, h2, h3⟩
  · exact .inl r
  · exact .inr ⟨dx, vs, h1, e _ _ h2, h3.mono e⟩
variable [Wsh]
structure RefD (K : PySem.W.Frag) (F H : Hp) (M : Sto) (D : DEnds) (E : Ends) : Prop where
  nx : ∀ F' H' σ' τ' M', Stp F H M F' H' M' → Rst K F' H' σ' τ' M' → D.nx τ' M' → E.nx σ' H'
  bk : ∀ F' H' σ' τ' M', Stp F H M F' H' M' → Rst K F' H' σ' τ' M' → D.bk τ' M' → E.bk σ' H'
  ct : ∀ F' H' σ' τ' M', Stp F H M F' H' M' → Rst K F' H' σ' τ' M' → D.ct τ' M' → E.ct σ' H'
  rt : ∀ v F' H' d M', Stp F H M F' H' M' → Rst0 K F' H' M' → RelD K F' v d → D.rt d M' → E.rt v H'
  xr : ∀ F' H' σ' τ' M' C d fs, Stp F H M F' H' M' → Rst K F' H' σ' τ' M' → RelX K F' d fs → D.xr C fs τ' M' → Wsh.W (.ref (Wsh.cls C)) d σ' H'
def RefS (K : PySem.W.Frag) (ts : TS) (t : DTS) : Prop := ∀ (F H : Hp) (σ : L2.St) (τ : DSt) (M : Sto) (D : DEnds) (E : Ends), Rst K F H σ τ M → t D τ M → RefD K F H M D E → ts E σ H
theorem RefD.mono {K : PySem.W.Frag} {F H F' H' : Hp} {M M' : Sto} {D : DEnds} {E : Ends} (r : RefD K F H M D E) (e : Stp F H M F' H' M') : RefD K F' H' M' D E :=
  ⟨fun F2 H2 σ' τ' M2 e2 => r.nx F2 H2 σ' τ' M2 (e.trans e2), fun F2 H2 σ' τ' M2 e2 => r.bk F2 H2 σ' τ' M2 (e.trans e2), fun F2 H2 σ' τ' M2 e2 => r.ct F2 H2 σ' τ' M2 (e.trans e2), fun v F2 H2 d M2 e2 => r.rt v F2 H2 d M2 (e.trans e2), fun F2 H2 σ' τ' M2 C d fs e2 => r.xr F2 H2 σ' τ' M2 C d fs (e.trans e2)⟩

structure DE (X : Cx) (e : Expr) (t : DTE) : Prop where
  ex : ∃ te, PE X e te ∧ RefE X.K te t
structure DT (X : Cx) (e : Expr) (t : DTT) : Prop where
  ex : ∃ te, PT X e te ∧ RefT X.K te t
structure DA (X : Cx) (es : List Expr) (t : DTA) : Prop where
  ex : ∃ te, PA X es te ∧ RefA X.K te t
structure DS (X : Cx) (s : Stmt) (t : DTS) : Prop where
  ex : ∃ ts, PS X s ts ∧ RefS X.K ts t
structure DSs (X : Cx) (ss : List Stmt) (t : DTS) : Prop where
  ex : ∃ ts, PSs X ss ts ∧ RefS X.K ts t

/-! ### names, constants -/
section
variable {X : Cx} {e a b : Expr} {pos : Pos}
@[simp] def dVar (i : Nat) : DTE := fun τ M Q => match τ[i]? with
  | some (some d) => Q d M
  | _ => False
theorem dv (i : Nat) {x : Str} {pos : Pos} (hN : X.N[i]? = some x := by rfl) (hv : Vis X.env.scope x := by first | exact Or.inl rfl | exact Or.inr (Or.inl rfl) | exact Or.inr (Or.inr rfl)) (hd : (x == ("__debug__" : Str)) = false := by decide)
    (hcd : (x == ("__classdict__" : Str)) = false := by decide) : DE X (.Name x pos) (dVar i) := by
  refine ⟨tVar i, pe_var hN hv hd hcd, fun F H σ τ M Qd Q R h k => ?_⟩
  unfold dVar at h
  split at h
  · rename_i d e
    obtain ⟨v, h1, h2⟩ := R.slots.get i d e
    exact ⟨v, h1, k v F H d M (Stp.refl F H M) R h2 h⟩
  · exact h.elim
@[simp] def dC (d : D) : DTE := fun _ M Q => Q d M
theorem refC {K : PySem.W.Frag} {v : V} {d : D} (h : ∀ F, RelD K F v d) : RefE K (tC v) (dC d) := fun F H σ τ M Qd Q R q k => k v F H d M (Stp.refl F H M) R (h F) q
theorem de_int {i : Int} {j pos} : DE X (.Constant (.int i) j pos) (dC (.int i)) := ⟨_, pe_int, refC fun _ => .int i⟩
theorem de_bl {b : Bool} {j pos} : DE X (.Constant (.bool b) j pos) (dC (.bl b)) := ⟨_, pe_bl, refC fun _ => .bl b⟩
theorem de_non {j pos} : DE X (.Constant .none j pos) (dC .non) := ⟨_, pe_non, refC fun _ => .non⟩
theorem de_str {x : Str} {j pos} : DE X (.Constant (.str x) j pos) (dC (.str x)) := ⟨_, pe_str, refC fun _ => .str x⟩
/-- a constant of the module: a text, an int; a built-in type -/
theorem de_gstr {x z : Str} {t : Tok} {pos : Pos} (hg : Gl X x) (hm : X.mg x = some (.str z t)) (hd : (x == ("__debug__" : Str)) = false := by decide) : DE X (.Name x pos) (dC (.str z)) := ⟨_, pe_glob hg hm (v := .str z) ⟨_, rfl⟩ hd, refC fun _ => .str z⟩
theorem de_gint {x : Str} {z : Int} {t : Tok} {pos : Pos} (hg : Gl X x) (hm : X.mg x = some (.int z t)) (hd : (x == ("__debug__" : Str)) = false := by decide) : DE X (.Name x pos) (dC (.int z)) := ⟨_, pe_glob hg hm (v := .int z) ⟨_, rfl⟩ hd, refC fun _ => .int z⟩
theorem de_ty {x : Str} {n : String} {pos : Pos} (hg : Gl X x) (hm : X.mg x = none) (hv : bootBuiltins x = some (.type n)) (hn : x ≠ "__name__" := by decide) (hd : (x == ("__debug__" : Str)) = false := by decide) : DE X (.Name x pos) (dC (.ty n)) :=
  ⟨_, pe_bltn hg hm hv (v := .ty n) rfl hn hd, refC fun _ => .ty n⟩

/-! ### arguments, displays -/
@[simp] def dNil : DTA := fun _ M Q => Q [] M
@[simp] def dCons (ta : DTE) (tr : DTA) : DTA := fun τ M Q => ta τ M fun x M1 => tr τ M1 fun xs M2 => Q (x :: xs) M2
theorem da_nil : DA X [] dNil := ⟨tNil, pa_nil, fun F H σ τ M Qd Q R q k => k [] F H [] M (Stp.refl F H M) R .nil q⟩
theorem da_cons {es : List Expr} {te : DTE} {t : DTA} (ha : DE X e te) (hr : DA X es t) (hs : starEach (e :: es) X.env = (false, eval e X.env) :: starEach es X.env := by rfl) : DA X (e :: es) (dCons te t) := by
  obtain ⟨u, pu, ru⟩ := ha.ex
  obtain ⟨w, pw, rw'⟩ := hr.ex
  refine ⟨tCons u w, pa_cons pu pw hs, fun F H σ τ M Qd Q R q k => ?_⟩
  refine ru F H σ τ M _ _ R q fun v F1 H1 d M1 e1 R1 r1 q1 => ?_
  refine rw' F1 H1 σ τ M1 _ _ R1 q1 fun vs F2 H2 ds M2 e2 R2 r2 q2 => ?_
  exact k _ F2 H2 _ M2 (e1.trans e2) R2 (.cons (r1.mono e2.ext) r2) q2
@[simp] def dTup (t : DTA) : DTE := fun τ M Q => t τ M fun xs M1 => xs.length ≤ sizeLine ∧ Q (.tup xs) M1
@[simp] def dLst (t : DTA) : DTE := fun τ M Q => t τ M fun xs M1 => xs.length ≤ sizeLine ∧ Q (.lst xs) M1
@[simp] def dLstM (t : DTA) : DTE := fun τ M Q => t τ M fun xs M1 => xs.length ≤ sizeLine ∧ ∀ p, M1 p = none → Q (.ref p) (M1.upd p (.lst xs))
theorem de_tup {es : List Expr} {t : DTA} {x1} (h : DA X es t) : DE X (.Tuple es x1 pos) (dTup t) := by
  obtain ⟨u, pu, ru⟩ := h.ex
  refine ⟨tTup u, pe_tup pu, fun F H σ τ M Qd Q R q k => ?_⟩
  refine ru F H σ τ M _ _ R q fun vs F1 H1 ds M1 e1 R1 r1 ⟨z, q1⟩ => ⟨by rw [r1.length]; exact z, fun p hp => ?_⟩
  obtain ⟨e2, R2⟩ := R1.heap.frozen (o := .tup vs) hp
  exact k (.ref p) _ _ (.tup ds) M1 (e1.trans e2) (R1.mono e2.ext R2) (.tup (SqT.of upd_same) (r1.mono e2.ext)) q1
theorem de_lst {es : List Expr} {t : DTA} (h : DA X es t) : DE X (.List es pos) (dLst t) := by
  obtain ⟨u, pu, ru⟩ := h.ex
  refine ⟨tLst u, pe_lst pu, fun F H σ τ M Qd Q R q k => ?_⟩
  refine ru F H σ τ M _ _ R q fun vs F1 H1 ds M1 e1 R1 r1 ⟨z, q1⟩ => ⟨by rw [r1.length]; exact z, fun p hp => ?_⟩
  obtain ⟨e2, R2⟩ := R1.heap.frozen (o := .lst vs) hp
  exact k (.ref p) _ _ (.lst ds) M1 (e1.trans e2) (R1.mono e2.ext R2) (.lst upd_same (r1.mono e2.ext)) q1
theorem de_lstM {es : List Expr} {t : DTA} (h : DA X es t) : DE X (.List es pos) (dLstM t) := by
  obtain ⟨u, pu, ru⟩ := h.ex
  refine ⟨tLst u, pe_lst pu, fun F H σ τ M Qd Q R q k => ?_⟩
  refine ru F H σ τ M _ _ R q fun vs F1 H1 ds M1 e1 R1 r1 ⟨z, q1⟩ => ⟨by rw [r1.length]; exact z, fun p hp => ?_⟩
  obtain ⟨e2, R2⟩ := R1.heap.fresh (o := .lst vs) (u := .lst ds) hp r1
  exact k (.ref p) F1 _ (.ref p) _ (e1.trans e2) (R1.mono e2.ext R2) (.ref p) (q1 p (R1.heap.free hp).2)

/-! ### freezing: what an expression gives is from now on as it is -/
@[simp] def frz (Q : DK) : DK := fun d M => match d with
  | .ref a => (match M a with
    | some (.lst ds) => Q (.lst ds) (M.del a)
    | some (.dct ds) => Q (.dct ds) (M.del a)
    | some (.ins C ds) => Q (.ins C ds) (M.del a)
    | some (.dctN _ _ _) => False
    | some (.dctT _ _ _) => False
    | none => False)
  | _ => Q d M
@[simp] def dFrz (t : DTE) : DTE := fun τ M Q => t τ M (frz Q)
theorem frz_ok {K : PySem.W.Frag} {F H : Hp} {σ : L2.St} {τ : DSt} {M : Sto} {v : V} {d : D} {Q : DK} (R : Rst K F H σ τ M) (r : RelD K F v d) (q : frz Q d M) : ∃ F' d' M', Stp F H M F' H M' ∧ Rst K F' H σ τ M' ∧ RelD K F' v d' ∧ Q d' M' := by
  cases d with
  | ref a =>
    cases r
    unfold frz at q
    dsimp only at q
    split at q
    · rename_i ds e
      obtain ⟨ho, h1, h2, e2, e3, R2⟩ := R.heap.freeze e
      cases ho <;> first | exact False.elim h2 | skip
      exact ⟨_, .lst ds, _, e3, R.mono e2 R2, .lst upd_same (RelDs.mono e2 h2), q⟩
    · rename_i ds e
      obtain ⟨ho, h1, h2, e2, e3, R2⟩ := R.heap.freeze e
      cases ho <;> first | exact False.elim h2 | skip
      exact ⟨_, .dct ds, _, e3, R.mono e2 R2, .dct (.inl upd_same) (RelKv.mono e2 h2), q⟩
    · rename_i C ds e
      obtain ⟨ho, h1, h2, e2, e3, R2⟩ := R.heap.freeze e
      cases ho <;> first | exact False.elim h2 | skip
      obtain ⟨rfl, h3⟩ := h2
      exact ⟨_, .ins _ ds, _, e3, R.mono e2 R2, .ins upd_same (RelFs.mono e2 h3), q⟩
    · exact q.elim
    · exact q.elim
    · exact q.elim
  | _ => exact ⟨F, _, M, Stp.refl F H M, R, r, q⟩
theorem de_frz {t : DTE} (h : DE X e t) : DE X e (dFrz t) := by
  obtain ⟨u, pu, ru⟩ := h.ex
  refine ⟨u, pu, fun F H σ τ M Qd Q R q k => ?_⟩
  refine ru F H σ τ M _ _ R q fun v F1 H1 d M1 e1 R1 r1 q1 => ?_
  obtain ⟨F2, d', M2, e2, R2, r2, q2⟩ := frz_ok R1 r1 q1
  exact k v F2 H1 d' M2 (e1.trans e2) R2 r2 q2

/-! ### operators, by values -/
/-- g tells what is asked of two trees -/
abbrev G2 := D → D → Sto → DK → Prop
/-- f on values as g tells of trees -/
def OpD (X : Cx) (f : Value → Value → Sem Value) (g : G2) : Prop :=
  ∀ (F H : Hp) (M : Sto) (x y : V) (d e : D) (Qd : DK) (Q : VK), Rst0 X.K F H M → RelD X.K F x d → RelD X.K F y e → g d e M Qd →
    (∀ v F' H' z M', Stp F H M F' H' M' → Rst0 X.K F' H' M' → RelD X.K F' v z → Qd z M' → Q v H') → ∃ r, OpR X f r ∧ r x y H Q
def rAny (X : Cx) (f : Value → Value → Sem Value) : R2 := fun x y H Q => ∃ r, OpR X f r ∧ r x y H Q
theorem op_any (f : Value → Value → Sem Value) : OpR X f (rAny X f) := fun pins s σ H x y v u Q I rx ry ⟨r, h, q⟩ => h pins s σ H x y v u Q I rx ry q
@[simp] def dOp (g : G2) (ta tb : DTE) : DTE := fun τ M Q => ta τ M fun x M1 => tb τ M1 fun y M2 => g x y M2 Q
theorem refOp {f : Value → Value → Sem Value} {g : G2} {ta tb : TE} {da db : DTE} (ho : OpD X f g) (ha : RefE X.K ta da) (hb : RefE X.K tb db) : RefE X.K (tOp (rAny X f) ta tb) (dOp g da db) := fun F H σ τ M Qd Q R q k => by
  refine ha F H σ τ M _ _ R q fun v F1 H1 d M1 e1 R1 r1 q1 => ?_
  refine hb F1 H1 σ τ M1 _ _ R1 q1 fun u F2 H2 e M2 e2 R2 r2 q2 => ?_
  exact ho F2 H2 M2 v u d e Qd Q R2.heap (r1.mono e2.ext) r2 q2 fun w F3 H3 z M3 e3 R3 r3 q3 => k w F3 H3 z M3 ((e1.trans e2).trans e3) (R2.mono e3.ext R3) r3 q3
theorem de_op {op : Operator} {g : G2} {ta tb : DTE} (ho : OpD X (binaryOp op) g) (ha : DE X a ta) (hb : DE X b tb) : DE X (.BinOp a op b pos) (dOp g ta tb) := by
  obtain ⟨u, pu, ru⟩ := ha.ex
  obtain ⟨w, pw, rw'⟩ := hb.ex
  exact ⟨_, pe_op (op_any _) pu pw, refOp ho ru rw'⟩
theorem de_cmp {op : CmpOp} {g : G2} {ta tb : DTE} (ho : OpD X (compareOp op) g) (ha : DE X a ta) (hb : DE X b tb) (hm : behindInMarks op b = false := by first | exact nomark _ | with_unfolding_all rfl) : DE X (.Compare a [op] [b] pos) (dOp g ta tb) := by
  obtain ⟨u, pu, ru⟩ := ha.ex
  obtain ⟨w, pw, rw'⟩ := hb.ex
  exact ⟨_, pe_cmpR (op_any _) pu pw hm, refOp ho ru rw'⟩
/-- a reading whose value is True or False, as a test -/
@[simp] def dTest (t : DTE) : DTT := fun τ M Q => t τ M fun x M1 => match x with
  | .bl b => Q b M1
  | _ => False
theorem refTest {K : PySem.W.Frag} {te : TE} {t : DTE} (h : RefE K te t) : RefT K (tTest te) (dTest t) := fun F H σ τ M Qd Q R q k => by
  refine h F H σ τ M _ _ R q fun v F1 H1 d M1 e1 R1 r1 q1 => ?_
  cases d <;> first | exact False.elim q1 | skip
  cases r1
  exact ⟨_, rfl, k _ F1 H1 M1 e1 R1 q1⟩
theorem dt_cmp {op : CmpOp} {g : G2} {ta tb : DTE} (ho : OpD X (compareOp op) g) (ha : DE X a ta) (hb : DE X b tb) (hm : behindInMarks op b = false := by first | exact nomark _ | with_unfolding_all rfl) : DT X (.Compare a [op] [b] pos) (dTest (dOp g ta tb)) := by
  obtain ⟨u, pu, ru⟩ := ha.ex
  obtain ⟨w, pw, rw'⟩ := hb.ex
  exact ⟨_, pt_cmpR (op_any _) pu pw hm, refTest (refOp ho ru rw')⟩
theorem dt_val {t : DTE} (h : DE X e t) (he : ∀ whole, isTrue e X.env whole = (do let v ← whole; standAt e.pos; holding [v] (truthy v)) := by intro _; rfl) : DT X e (dTest t) := by
  obtain ⟨u, pu, ru⟩ := h.ex
  exact ⟨_, pt_val pu he, refTest ru⟩
/-- a op1 b op2 c -/
@[simp] def dChain (g g' : G2) (ta tb tc : DTE) : DTE := fun τ M Q => ta τ M fun x M1 => tb τ M1 fun y M2 => g x y M2 fun z M3 => match z with
  | .bl k => if k = true then tc τ M3 fun w M4 => g' y w M4 Q else Q (.bl false) M3
  | _ => False
theorem refChain {f f' : Value → Value → Sem Value} {g g' : G2} {ta tb tc : TE} {da db dc : DTE} (ho : OpD X f g) (ho' : OpD X f' g') (ha : RefE X.K ta da) (hb : RefE X.K tb db) (hc : RefE X.K tc dc) :
    RefE X.K (tChain (rAny X f) (rAny X f') ta tb tc) (dChain g g' da db dc) := fun F H σ τ M Qd Q R q k => by
  refine ha F H σ τ M _ _ R q fun v F1 H1 d M1 e1 R1 r1 q1 => ?_
  refine hb F1 H1 σ τ M1 _ _ R1 q1 fun u F2 H2 e M2 e2 R2 r2 q2 => ?_
  refine ho F2 H2 M2 v u d e _ _ R2.heap (r1.mono e2.ext) r2 q2 fun w F3 H3 z M3 e3 R3 r3 q3 => ?_
  cases z <;> first | exact False.elim q3 | skip
  rename_i bb
  cases r3
  refine ⟨bb, rfl, ?_⟩
  cases bb with
  | false => exact iteF (k _ F3 H3 _ M3 ((e1.trans e2).trans e3) (R2.mono e3.ext R3) (.bl false) q3)
  | true =>
    refine iteT (hc F3 H3 σ τ M3 _ _ (R2.mono e3.ext R3) q3 fun w' F4 H4 z' M4 e4 R4 r4 q4 => ?_)
    exact ho' F4 H4 M4 u w' e z' Qd Q R4.heap (r2.mono (e3.trans e4).ext) r4 q4 fun w5 F5 H5 z5 M5 e5 R5 r5 q5 => k w5 F5 H5 z5 M5 ((((e1.trans e2).trans e3).trans e4).trans e5) (R4.mono e5.ext R5) r5 q5
theorem de_chain {op op' : CmpOp} {g g' : G2} {c : Expr} {ta tb tc : DTE} (ho : OpD X (compareOp op) g) (ho' : OpD X (compareOp op') g') (ha : DE X a ta) (hb : DE X b tb) (hc : DE X c tc) (hm : lastMarks [op, op'] [b, c] = false := by with_unfolding_all rfl) :
    DE X (.Compare a [op, op'] [b, c] pos) (dChain g g' ta tb tc) := by
  obtain ⟨u, pu, ru⟩ := ha.ex
  obtain ⟨w, pw, rw'⟩ := hb.ex
  obtain ⟨z, pz, rz⟩ := hc.ex
  exact ⟨_, pe_chain (op_any _) (op_any _) pu pw pz hm, refChain ho ho' ru rw' rz⟩
theorem dt_chain {op op' : CmpOp} {g g' : G2} {c : Expr} {ta tb tc : DTE} (ho : OpD X (compareOp op) g) (ho' : OpD X (compareOp op') g') (ha : DE X a ta) (hb : DE X b tb) (hc : DE X c tc) (hm : lastMarks [op, op'] [b, c] = false := by with_unfolding_all rfl) :
    DT X (.Compare a [op, op'] [b, c] pos) (dTest (dChain g g' ta tb tc)) := by
  obtain ⟨u, pu, ru⟩ := ha.ex
  obtain ⟨w, pw, rw'⟩ := hb.ex
  obtain ⟨z, pz, rz⟩ := hc.ex
  exact ⟨_, pt_chain (op_any _) (op_any _) pu pw pz hm, refTest (refChain ho ho' ru rw' rz)⟩

/-! ### and, or, not, if else -/
structure DW (X : Cx) (e : Expr) (t : DTT) : Prop where
  ex : ∃ te, PW X e te ∧ RefT X.K te t
theorem DW.dt {t : DTT} (h : DW X e t) : DT X e t := by
  obtain ⟨u, pu, ru⟩ := h.ex
  exact ⟨u, pu.pt, ru⟩
@[simp] def dAnd (t u : DTT) : DTT := fun τ M Q => t τ M fun c M1 => if c = true then u τ M1 Q else Q false M1
@[simp] def dOr (t u : DTT) : DTT := fun τ M Q => t τ M fun c M1 => if c = true then Q true M1 else u τ M1 Q
@[simp] def dNot (t : DTT) : DTT := fun τ M Q => t τ M fun c M1 => Q (!c) M1
variable {rest : List Expr}
theorem dw_and1 {t : DTT} (ha : DT X a t) : DW X (.BoolOp .And [a] pos) t := by
  obtain ⟨u, pu, ru⟩ := ha.ex
  exact ⟨u, pw_and1 pu, ru⟩
theorem dw_or1 {t : DTT} (ha : DT X a t) : DW X (.BoolOp .Or [a] pos) t := by
  obtain ⟨u, pu, ru⟩ := ha.ex
  exact ⟨u, pw_or1 pu, ru⟩
theorem dw_and {t u : DTT} (ha : DT X a t) (hb : DW X (.BoolOp .And (b :: rest) pos) u) : DW X (.BoolOp .And (a :: b :: rest) pos) (dAnd t u) := by
  obtain ⟨u, pu, ru⟩ := ha.ex
  obtain ⟨w, pw, rw'⟩ := hb.ex
  refine ⟨_, pw_and pu pw, fun F H σ τ M Qd Q R q k => ?_⟩
  refine ru F H σ τ M _ _ R q fun c F1 H1 M1 e1 R1 q1 => ?_
  cases c with
  | true => exact iteT (rw' F1 H1 σ τ M1 _ _ R1 q1 fun c F2 H2 M2 e2 R2 q2 => k c F2 H2 M2 (e1.trans e2) R2 q2)
  | false => exact iteF (k false F1 H1 M1 e1 R1 q1)
theorem dw_or {t u : DTT} (ha : DT X a t) (hb : DW X (.BoolOp .Or (b :: rest) pos) u) : DW X (.BoolOp .Or (a :: b :: rest) pos) (dOr t u) := by
  obtain ⟨u, pu, ru⟩ := ha.ex
  obtain ⟨w, pw, rw'⟩ := hb.ex
  refine ⟨_, pw_or pu pw, fun F H σ τ M Qd Q R q k => ?_⟩
  refine ru F H σ τ M _ _ R q fun c F1 H1 M1 e1 R1 q1 => ?_
  cases c with
  | true => exact iteT (k true F1 H1 M1 e1 R1 q1)
  | false => exact iteF (rw' F1 H1 σ τ M1 _ _ R1 q1 fun c F2 H2 M2 e2 R2 q2 => k c F2 H2 M2 (e1.trans e2) R2 q2)
theorem dt_not {t : DTT} (ha : DT X a t) : DT X (.UnaryOp .Not a pos) (dNot t) := by
  obtain ⟨u, pu, ru⟩ := ha.ex
  exact ⟨_, pt_not pu, fun F H σ τ M Qd Q R q k => ru F H σ τ M _ _ R q fun c F1 H1 M1 e1 R1 q1 => k (!c) F1 H1 M1 e1 R1 q1⟩
/-- .. as values -/
@[simp] def dAndV (ta tb : DTE) : DTE := fun τ M Q => ta τ M fun x M1 => match x with
  | .bl c => if c = true then tb τ M1 Q else Q (.bl false) M1
  | _ => False
@[simp] def dOrV (ta tb : DTE) : DTE := fun τ M Q => ta τ M fun x M1 => match x with
  | .bl c => if c = true then Q (.bl true) M1 else tb τ M1 Q
  | _ => False
@[simp] def dNotV (ta : DTE) : DTE := fun τ M Q => ta τ M fun x M1 => match x with
  | .bl c => Q (.bl (!c)) M1
  | _ => False
theorem de_one {op} {t : DTE} (h : DE X a t) : DE X (.BoolOp op [a] pos) t := by
  obtain ⟨u, pu, ru⟩ := h.ex
  exact ⟨u, pe_one pu, ru⟩
theorem de_and {ta tb : DTE} (ha : DE X a ta) (hb : DE X (.BoolOp .And (b :: rest) pos) tb) : DE X (.BoolOp .And (a :: b :: rest) pos) (dAndV ta tb) := by
  obtain ⟨u, pu, ru⟩ := ha.ex
  obtain ⟨w, pw, rw'⟩ := hb.ex
  refine ⟨_, pe_and pu pw, fun F H σ τ M Qd Q R q k => ?_⟩
  refine ru F H σ τ M _ _ R q fun v F1 H1 d M1 e1 R1 r1 q1 => ?_
  cases d <;> first | exact False.elim q1 | skip
  rename_i c
  cases r1
  refine ⟨c, rfl, ?_⟩
  cases c with
  | true => exact iteT (rw' F1 H1 σ τ M1 _ _ R1 q1 fun v F2 H2 d M2 e2 R2 r2 q2 => k v F2 H2 d M2 (e1.trans e2) R2 r2 q2)
  | false => exact iteF (k _ F1 H1 _ M1 e1 R1 (.bl false) q1)
theorem de_or {ta tb : DTE} (ha : DE X a ta) (hb : DE X (.BoolOp .Or (b :: rest) pos) tb) : DE X (.BoolOp .Or (a :: b :: rest) pos) (dOrV ta tb) := by
  obtain ⟨u, pu, ru⟩ := ha.ex
  obtain ⟨w, pw, rw'⟩ := hb.ex
  refine ⟨_, pe_or pu pw, fun F H σ τ M Qd Q R q k => ?_⟩
  refine ru F H σ τ M _ _ R q fun v F1 H1 d M1 e1 R1 r1 q1 => ?_
  cases d <;> first | exact False.elim q1 | skip
  rename_i c
  cases r1
  refine ⟨c, rfl, ?_⟩
  cases c with
  | true => exact iteT (k _ F1 H1 _ M1 e1 R1 (.bl true) q1)
  | false => exact iteF (rw' F1 H1 σ τ M1 _ _ R1 q1 fun v F2 H2 d M2 e2 R2 r2 q2 => k v F2 H2 d M2 (e1.trans e2) R2 r2 q2)
theorem de_not {ta : DTE} (ha : DE X a ta) : DE X (.UnaryOp .Not a pos) (dNotV ta) := by
  obtain ⟨u, pu, ru⟩ := ha.ex
  refine ⟨_, pe_not pu, fun F H σ τ M Qd Q R q k => ?_⟩
  refine ru F H σ τ M _ _ R q fun v F1 H1 d M1 e1 R1 r1 q1 => ?_
  cases d <;> first | exact False.elim q1 | skip
  rename_i c
  cases r1
  exact ⟨c, rfl, k _ F1 H1 _ M1 e1 R1 (.bl (!c)) q1⟩
@[simp] def dIf (t : DTT) (ta tb : DTE) : DTE := fun τ M Q => t τ M fun c M1 => if c = true then ta τ M1 Q else tb τ M1 Q
theorem de_if {c : Expr} {t : DTT} {ta tb : DTE} (hc : DT X c t) (ha : DE X a ta) (hb : DE X b tb) : DE X (.IfExp c a b pos) (dIf t ta tb) := by
  obtain ⟨z, pz, rz⟩ := hc.ex
  obtain ⟨u, pu, ru⟩ := ha.ex
  obtain ⟨w, pw, rw'⟩ := hb.ex
  refine ⟨_, pe_ifExp pz pu pw, fun F H σ τ M Qd Q R q k => ?_⟩
  refine rz F H σ τ M _ _ R q fun c F1 H1 M1 e1 R1 q1 => ?_
  cases c with
  | true => exact iteT (ru F1 H1 σ τ M1 _ _ R1 q1 fun v F2 H2 d M2 e2 R2 r2 q2 => k v F2 H2 d M2 (e1.trans e2) R2 r2 q2)
  | false => exact iteF (rw' F1 H1 σ τ M1 _ _ R1 q1 fun v F2 H2 d M2 e2 R2 r2 q2 => k v F2 H2 d M2 (e1.trans e2) R2 r2 q2)
end
end DL

/-! DB: statements, loops, comprehensions, calls of the text's own defs, over trees. -/
namespace DL
open PySem PySem.Spec PyProof.Rows L2
variable [Wsh]

/-! ### blocks and small statements -/
section
variable {X : Cx} {st : Stmt} {rest : List Stmt} {e : Expr} {pos : Pos}
@[simp] def dNext : DTS := fun D τ M => D.nx τ M
@[simp] def dSeq (t u : DTS) : DTS := fun D τ M => t { D with nx := u D } τ M
theorem dss_nil : DSs X [] dNext := ⟨tNext, pss_nil, fun F H σ τ M D E R q r => r.nx F H σ τ M (Stp.refl F H M) R q⟩
theorem dss_cons {t u : DTS} (h1 : DS X st t) (h2 : DSs X rest u) : DSs X (st :: rest) (dSeq t u) := by
  obtain ⟨t1, p1, r1⟩ := h1.ex
  obtain ⟨t2, p2, r2⟩ := h2.ex
  refine ⟨_, pss_cons p1 p2, fun F H σ τ M D E R q r => ?_⟩
  exact r1 F H σ τ M { D with nx := u D } { E with nx := t2 E } R q ⟨fun F1 H1 σ1 τ1 M1 e1 R1 q1 => r2 F1 H1 σ1 τ1 M1 D E R1 q1 (r.mono e1), r.bk, r.ct, r.rt, r.xr⟩
theorem dss_one {t : DTS} (h1 : DS X st t) : DSs X [st] t := by
  obtain ⟨t1, p1, r1⟩ := h1.ex
  exact ⟨_, pss_one p1, r1⟩
@[simp] def dBreak : DTS := fun D τ M => D.bk τ M
@[simp] def dCont : DTS := fun D τ M => D.ct τ M
theorem ds_pass : DS X (.Pass pos) dNext := ⟨tNext, ps_pass, fun F H σ τ M D E R q r => r.nx F H σ τ M (Stp.refl F H M) R q⟩
theorem ds_break : DS X (.Break pos) dBreak := ⟨tBreak, ps_break, fun F H σ τ M D E R q r => r.bk F H σ τ M (Stp.refl F H M) R q⟩
theorem ds_continue : DS X (.Continue pos) dCont := ⟨tCont, ps_continue, fun F H σ τ M D E R q r => r.ct F H σ τ M (Stp.refl F H M) R q⟩
@[simp] def dDrop (t : DTE) : DTS := fun D τ M => t τ M fun _ M1 => D.nx τ M1
theorem ds_expr {t : DTE} (he : DE X e t) (hs : swapsWith e none pos.line X.env = pure false := by rfl) : DS X (.Expr e pos) (dDrop t) := by
  obtain ⟨u, pu, ru⟩ := he.ex
  exact ⟨_, ps_expr pu hs, fun F H σ τ M D E R q r => ru F H σ τ M _ _ R q fun v F1 H1 d M1 e1 R1 r1 q1 => r.nx F1 H1 σ τ M1 e1 R1 q1⟩
@[simp] def dRet (t : DTE) : DTS := fun D τ M => t τ M D.rt
theorem ds_ret {t : DTE} (he : DE X e t) : DS X (.Return (some e) pos) (dRet t) := by
  obtain ⟨u, pu, ru⟩ := he.ex
  exact ⟨_, ps_ret pu, fun F H σ τ M D E R q r => ru F H σ τ M _ _ R q fun v F1 H1 d M1 e1 R1 r1 q1 => r.rt v F1 H1 d M1 e1 R1.heap r1 q1⟩
@[simp] def dRetN : DTS := fun D _ M => D.rt .non M
theorem ds_retN : DS X (.Return none pos) dRetN := ⟨_, ps_retN, fun F H σ τ M D E R q r => r.rt .non F H .non M (Stp.refl F H M) R.heap .non q⟩
@[simp] def dIfS (c : DTT) (t u : DTS) : DTS := fun D τ M => c τ M fun b M1 => if b = true then t D τ M1 else u D τ M1
theorem ds_if {c : Expr} {a b : List Stmt} {tc : DTT} {t u : DTS} (hc : DT X c tc) (ha : DSs X a t) (hb : DSs X b u) : DS X (.If c a b pos) (dIfS tc t u) := by
  obtain ⟨z, pz, rz⟩ := hc.ex
  obtain ⟨t1, p1, r1⟩ := ha.ex
  obtain ⟨t2, p2, r2⟩ := hb.ex
  refine ⟨_, ps_if pz p1 p2, fun F H σ τ M D E R q r => ?_⟩
  refine rz F H σ τ M _ _ R q fun b F1 H1 M1 e1 R1 q1 => ?_
  cases b with
  | true => exact iteT (r1 F1 H1 σ τ M1 D E R1 q1 (r.mono e1))
  | false => exact iteF (r2 F1 H1 σ τ M1 D E R1 q1 (r.mono e1))
def dNever : DTS := fun _ _ _ => False
theorem ds_never : DS X st dNever := ⟨_, ps_never, fun _ _ _ _ _ _ _ _ q _ => False.elim q⟩
theorem dss_never {sts : List Stmt} : DSs X sts dNever := ⟨_, pss_never, fun _ _ _ _ _ _ _ _ q _ => False.elim q⟩
def dNeverE : DTE := fun _ _ _ => False
end

/-! ### targets -/
abbrev DTG := D → DSt → Sto → (DSt → Sto → Prop) → Prop
abbrev DTGs := List D → DSt → Sto → (DSt → Sto → Prop) → Prop
def RefG (K : PySem.W.Frag) (tg : TG) (g : DTG) : Prop := ∀ (F H : Hp) (σ : L2.St) (τ : DSt) (M : Sto) (v : V) (d : D) (Qd : DSt → Sto → Prop) (Q : L2.St → Hp → Prop), Rst K F H σ τ M → RelD K F v d → g d τ M Qd →
  (∀ F' H' σ' τ' M', Stp F H M F' H' M' → Rst K F' H' σ' τ' M' → Qd τ' M' → Q σ' H') → tg v σ H Q
def RefGs (K : PySem.W.Frag) (tg : TGs) (g : DTGs) : Prop := ∀ (F H : Hp) (σ : L2.St) (τ : DSt) (M : Sto) (vs : List V) (ds : List D) (Qd : DSt → Sto → Prop) (Q : L2.St → Hp → Prop), Rst K F H σ τ M → RelDs K F vs ds → g ds τ M Qd →
  (∀ F' H' σ' τ' M', Stp F H M F' H' M' → Rst K F' H' σ' τ' M' → Qd τ' M' → Q σ' H') → tg vs σ H Q
structure DG (X : Cx) (tg : Expr) (g : DTG) : Prop where
  ex : ∃ t, PG X tg t ∧ RefG X.K t g
structure DGs (X : Cx) (ts : List Expr) (g : DTGs) : Prop where
  ex : ∃ t, PGs X ts t ∧ RefGs X.K t g
section
variable {X : Cx} {pos : Pos} {e : Expr}
@[simp] def dgName (i : Nat) : DTG := fun d τ M Q => Q (τ.set i (some d)) M
theorem Rst.set {K : PySem.W.Frag} {F H : Hp} {σ : L2.St} {τ : DSt} {M : Sto} {v : V} {d : D} (R : Rst K F H σ τ M) (i : Nat) (r : RelD K F v d) : Rst K F H (σ.set i (some v)) (τ.set i (some d)) M := ⟨R.heap, R.slots.set i r⟩
theorem refGName {K : PySem.W.Frag} {i : Nat} : RefG K (gName i) (dgName i) := fun F H σ τ M v d Qd Q R r q k => k F H _ _ M (Stp.refl F H M) (R.set i r) q
theorem dg_name {i : Nat} {x : Str} (hN : X.N.Nodup) (hi : X.N[i]? = some x := by rfl) (hx : Loc X.env.scope x := by first | exact .inl rfl | exact .inr rfl) (hf : X.fn x = true ∨ X.env.scope.names.lookup x = some .local := by first | exact .inl rfl | exact .inr rfl | assumption) : DG X (.Name x pos) (dgName i) :=
  ⟨_, pg_name hN hi hx hf, refGName⟩
@[simp] def dgNil : DTGs := fun ds τ M Q => match ds with
  | [] => Q τ M
  | _ => False
@[simp] def dgCons (g : DTG) (u : DTGs) : DTGs := fun ds τ M Q => match ds with
  | d :: r => g d τ M fun τ1 M1 => u r τ1 M1 Q
  | [] => False
theorem refGNil {K : PySem.W.Frag} : RefGs K gNil dgNil := fun F H σ τ M vs ds Qd Q R r q k => by
  cases r with
  | nil => exact ⟨rfl, k F H σ τ M (Stp.refl F H M) R q⟩
  | cons _ _ => exact False.elim q
theorem refGCons {K : PySem.W.Frag} {t : TG} {u : TGs} {g : DTG} {w : DTGs} (h1 : RefG K t g) (h2 : RefGs K u w) : RefGs K (gCons t u) (dgCons g w) := fun F H σ τ M vs ds Qd Q R r q k => by
  cases r with
  | nil => exact False.elim q
  | cons a b =>
    refine ⟨_, _, rfl, h1 F H σ τ M _ _ _ _ R a q fun F1 H1 σ1 τ1 M1 e1 R1 q1 => ?_⟩
    exact h2 F1 H1 σ1 τ1 M1 _ _ _ _ R1 (b.mono e1.ext) q1 fun F2 H2 σ2 τ2 M2 e2 R2 q2 => k F2 H2 σ2 τ2 M2 (e1.trans e2) R2 q2
theorem dgs_nil : DGs X [] dgNil := ⟨_, pgs_nil, refGNil⟩
theorem dgs_cons {es : List Expr} {t : DTG} {u : DTGs} (h1 : DG X e t) (h2 : DGs X es u) (hs : (assignEach (e :: es) X.env).map (·.2) = assign e X.env :: (assignEach es X.env).map (·.2) := by rfl) : DGs X (e :: es) (dgCons t u) := by
  obtain ⟨a, pa, ra⟩ := h1.ex
  obtain ⟨b, pb, rb⟩ := h2.ex
  exact ⟨_, pgs_cons pa pb hs, refGCons ra rb⟩
@[simp] def dgTup (n : Nat) (t : DTGs) : DTG := fun d τ M Q => match d with
  | .tup xs => xs.length = n ∧ t xs τ M Q
  | _ => False
theorem refGTup {K : PySem.W.Frag} {n : Nat} {t : TGs} {g : DTGs} (h : RefGs K t g) : RefG K (gTup K n t) (dgTup n g) := fun F H σ τ M v d Qd Q R r q k => by
  cases d <;> first | exact False.elim q | skip
  cases r with
  | tup hs rs =>
    obtain ⟨hl, q⟩ := q
    have hs' : SqT K H _ _ := Ext.sqT R.heap.sub hs
    exact ⟨_, _, rfl, hs', by rw [rs.length]; exact hl, h F H σ τ M _ _ _ _ R rs q k⟩
theorem dg_tup {es : List Expr} {k : Nat} {t : DTGs} {n : Nat} (hc : X.calm = true) (h : DGs X es t) (hn : (assignEach es X.env).length = n := by rfl) (hst : (assignEach es X.env).findIdx? (·.1) = none := by rfl) : DG X (.Tuple es k pos) (dgTup n t) := by
  obtain ⟨a, pa, ra⟩ := h.ex
  exact ⟨_, pg_tup hc pa hn hst, refGTup ra⟩
@[simp] def dAsg (t : DTE) (g : DTG) : DTS := fun D τ M => t τ M fun d M1 => g d τ M1 D.nx
theorem refAsg {K : PySem.W.Frag} {te : TE} {t : DTE} {tg : TG} {g : DTG} (h : RefE K te t) (hg : RefG K tg g) : RefS K (tAsg te tg) (dAsg t g) := fun F H σ τ M D E R q r =>
  h F H σ τ M _ _ R q fun v F1 H1 d M1 e1 R1 r1 q1 => hg F1 H1 σ τ M1 v d _ _ R1 r1 q1 fun F2 H2 σ2 τ2 M2 e2 R2 q2 => r.nx F2 H2 σ2 τ2 M2 (e1.trans e2) R2 q2
theorem ds_asg {tg e : Expr} {t : DTE} {g : DTG} (he : DE X e t) (hg : DG X tg g) (hs : swapsWithSole [tg] e pos.line X.env = pure false := by rfl) (hw : swappedStores [tg] e X.env = pure none := by rfl)
    (h1 : (assignEach [tg] X.env).map (·.2) = [assign tg X.env] := by rfl) : DS X (.Assign [tg] e pos) (dAsg t g) := by
  obtain ⟨u, pu, ru⟩ := he.ex
  obtain ⟨w, pw, rw'⟩ := hg.ex
  exact ⟨_, ps_asg pu pw hs hw h1, refAsg ru rw'⟩
theorem ds_set {i : Nat} {x : Str} {e : Expr} {t : DTE} {pos' : Pos} (hN : X.N.Nodup) (he : DE X e t) (hi : X.N[i]? = some x := by rfl) (hx : Loc X.env.scope x := by first | exact .inl rfl | exact .inr rfl) (hs : swapsWith e (some (.Name x pos')) pos.line X.env = pure false := by rfl)
    (hf : X.fn x = true ∨ X.env.scope.names.lookup x = some .local := by first | exact .inl rfl | exact .inr rfl | assumption) : DS X (.Assign [.Name x pos'] e pos) (dAsg t (dgName i)) := by
  obtain ⟨u, pu, ru⟩ := he.ex
  exact ⟨_, ps_set hN hi hx pu hs hf, refAsg ru refGName⟩
/-- a, b = x, y -/
@[simp] def dPar (i j : Nat) (ta tb : DTE) : DTS := fun D τ M => ta τ M fun v M1 => tb τ M1 fun w M2 => D.nx ((τ.set i (some v)).set j (some w)) M2
theorem ds_par {i j : Nat} {x y : Str} {a b : Expr} {ta tb : DTE} {px py pt : Pos} {kt k2 pt2} (hc : X.calm = true) (hN : X.N.Nodup) (ha : DE X a ta) (hb : DE X b tb) (hi : X.N[i]? = some x := by rfl) (hj : X.N[j]? = some y := by rfl) (hij : i ≠ j := by decide)
    (hx : X.env.scope.names.lookup x = some .local := by rfl) (hy : X.env.scope.names.lookup y = some .local := by rfl)
    (hw : swappedStores [.Tuple [.Name x px, .Name y py] kt pt] (.Tuple [a, b] k2 pt2) X.env = pure (some [x, y]) := by rfl)
    (hs : swapsWithSole [.Tuple [.Name x px, .Name y py] kt pt] (.Tuple [a, b] k2 pt2) pos.line X.env = pure false := by rfl)
    (h1 : starEach [a, b] X.env = (false, eval a X.env) :: starEach [b] X.env := by rfl) (h2 : starEach [b] X.env = (false, eval b X.env) :: starEach [] X.env := by rfl) :
    DS X (.Assign [.Tuple [.Name x px, .Name y py] kt pt] (.Tuple [a, b] k2 pt2) pos) (dPar i j ta tb) := by
  obtain ⟨u, pu, ru⟩ := ha.ex
  obtain ⟨w, pw, rw'⟩ := hb.ex
  refine ⟨_, ps_par hc hN hi hj hij hx hy (pa_cons pu (pa_cons pw pa_nil h2) h1) hw hs, fun F H σ τ M D E R q r => ?_⟩
  refine ru F H σ τ M _ _ R q fun v F1 H1 d M1 e1 R1 r1 q1 => ?_
  refine rw' F1 H1 σ τ M1 _ _ R1 q1 fun v' F2 H2 d' M2 e2 R2 r2 q2 => ?_
  exact ⟨v, v', rfl, r.nx F2 H2 _ _ M2 (e1.trans e2) ((R2.set i (r1.mono e2.ext)).set j r2) q2⟩
end

/-! ### while -/
section
variable {X : Cx} {pos : Pos}
def dWhile (c : DTT) (tb : DTS) : DTS := fun D τ M => ∃ W : Nat → DSt → Sto → Prop, (∃ m, W m τ M) ∧ ∀ m τ M, W m τ M →
  c τ M fun b M1 => if b = true then tb { D with nx := fun τ' M' => ∃ m', m' < m ∧ W m' τ' M', ct := fun τ' M' => ∃ m', m' < m ∧ W m' τ' M', bk := D.nx } τ M1 else D.nx τ M1
theorem ds_while {c : Expr} {body : List Stmt} {tc : DTT} {tb : DTS} (hp : PassesOwn (model X.prog X.w) X.A X.env X.xe) (hc : DT X c tc) (hb : DSs X body tb) : DS X (.While c body [] pos) (dWhile tc tb) := by
  obtain ⟨u, pu, ru⟩ := hc.ex
  obtain ⟨w, pw, rw'⟩ := hb.ex
  refine ⟨_, ps_while hp pu pw, fun F H σ τ M D E R q r => ?_⟩
  obtain ⟨W, ⟨m0, w0⟩, turn⟩ := q
  refine ⟨fun m σ' H' => ∃ F' τ' M', Stp F H M F' H' M' ∧ Rst X.K F' H' σ' τ' M' ∧ W m τ' M', ⟨m0, F, τ, M, Stp.refl F H M, R, w0⟩, ?_⟩
  rintro m σ1 H1 ⟨F1, τ1, M1, e1, R1, w1⟩
  refine ru F1 H1 σ1 τ1 M1 _ _ R1 (turn m τ1 M1 w1) fun b F2 H2 M2 e2 R2 q2 => ?_
  cases b with
  | false => exact iteF (r.nx F2 H2 σ1 τ1 M2 (e1.trans e2) R2 q2)
  | true =>
    refine iteT ⟨fun σ' H' => ∃ m', m' < m ∧ ∃ F' τ' M', Stp F H M F' H' M' ∧ Rst X.K F' H' σ' τ' M' ∧ W m' τ' M', fun σ' H' z => z, ?_⟩
    have go : ∀ F' H' σ' τ' M', Stp F2 H2 M2 F' H' M' → Rst X.K F' H' σ' τ' M' → (∃ m', m' < m ∧ W m' τ' M') → ∃ m', m' < m ∧ ∃ F' τ' M', Stp F H M F' H' M' ∧ Rst X.K F' H' σ' τ' M' ∧ W m' τ' M' :=
      fun F' H' σ' τ' M' e' R' ⟨m', l, w'⟩ => ⟨m', l, F', τ', M', (e1.trans e2).trans e', R', w'⟩
    exact rw' F2 H2 σ1 τ1 M2 _ _ R2 q2 ⟨go, fun F' H' σ' τ' M' e' R' z => r.nx F' H' σ' τ' M' ((e1.trans e2).trans e') R' z, go, fun v F' H' d M' e' R' rd z => r.rt v F' H' d M' ((e1.trans e2).trans e') R' rd z, fun F' H' σ' τ' M' C d fs e' => r.xr F' H' σ' τ' M' C d fs ((e1.trans e2).trans e')⟩
omit [Wsh] in
/-- the while by an invariant and a measure -/
theorem while_inv {c : DTT} {tb : DTS} {D : DEnds} {τ : DSt} {M : Sto} (W : Nat → DSt → Sto → Prop) (m0 : Nat) (w0 : W m0 τ M)
    (turn : ∀ m τ M, W m τ M → c τ M fun b M1 => if b = true then tb { D with nx := fun τ' M' => ∃ m', m' < m ∧ W m' τ' M', ct := fun τ' M' => ∃ m', m' < m ∧ W m' τ' M', bk := D.nx } τ M1 else D.nx τ M1) : dWhile c tb D τ M := ⟨W, ⟨m0, w0⟩, turn⟩
end

/-! ### what is walked -/
/-- J walks ds, whatever happens to the rest -/
structure ItD (K : PySem.W.Frag) (F : Hp) (J : It) (ds : List D) : Prop where
  go : ∀ i F2 H2 M2, i < ds.length → Ext F F2 → Rst0 K F2 H2 M2 → J.go i H2
  yld : ∀ i F2 H2 M2 d x H', ds[i]? = some d → Ext F F2 → Rst0 K F2 H2 M2 → J.yld i H2 x H' → ∃ F3, Stp F2 H2 M2 F3 H' M2 ∧ Rst0 K F3 H' M2 ∧ RelD K F3 x d
  stop : ∀ F2 H2 M2, Ext F F2 → Rst0 K F2 H2 M2 → J.stop ds.length H2
theorem ItD.mono {K : PySem.W.Frag} {F F' : Hp} {J : It} {ds : List D} (h : ItD K F J ds) (e : Ext F F') : ItD K F' J ds :=
  ⟨fun i F2 H2 M2 hi e2 => h.go i F2 H2 M2 hi (e.trans e2), fun i F2 H2 M2 d x H' hd e2 => h.yld i F2 H2 M2 d x H' hd (e.trans e2), fun F2 H2 M2 e2 => h.stop F2 H2 M2 (e.trans e2)⟩
abbrev DTI := DSt → Sto → (List D → Sto → Prop) → Prop
def RefI (K : PySem.W.Frag) (wi : TI) (it : DTI) : Prop := ∀ (F H : Hp) (σ : L2.St) (τ : DSt) (M : Sto) (Qd : List D → Sto → Prop) (Q : It → Hp → Prop), Rst K F H σ τ M → it τ M Qd →
  (∀ J F' H' ds M', Stp F H M F' H' M' → Rst K F' H' σ τ M' → ItD K F' J ds → Qd ds M' → Q J H') → wi σ H Q
structure DI (X : Cx) (tg iter : Expr) (it : DTI) : Prop where
  ex : ∃ wi, PI X tg iter wi ∧ RefI X.K wi it
/-- the loop, item by item -/
def loopD (g : DTG) (tb : DTS) (E : DEnds) : List D → DSt → Sto → Prop
  | [], τ, M => E.nx τ M
  | d :: ds, τ, M => g d τ M fun τ1 M1 => tb { E with nx := loopD g tb E ds, ct := loopD g tb E ds, bk := E.nx } τ1 M1
@[simp] def dFor (it : DTI) (g : DTG) (tb : DTS) : DTS := fun E τ M => it τ M fun ds M1 => loopD g tb E ds τ M1
omit [Wsh] in
theorem drop_cons {α : Type} {l : List α} {i : Nat} {x : α} (h : l[i]? = some x) : l.drop i = x :: l.drop (i + 1) := by
  obtain ⟨hi, e⟩ := List.getElem?_eq_some_iff.mp h
  rw [List.drop_eq_getElem_cons hi, e]
theorem ds_for {X : Cx} {tg iter : Expr} {body : List Stmt} {it : DTI} {g : DTG} {tb : DTS} {pos : Pos} (hp : PassesOwn (model X.prog X.w) X.A X.env X.xe) (hc : X.calm = true) (hi : DI X tg iter it) (hg : DG X tg g) (hb : DSs X body tb)
    (hs : ∀ x, foldedSetIterable iter X.env x = pure x := by intro _; rfl) : DS X (.For tg iter body [] pos) (dFor it g tb) := by
  obtain ⟨wi, pi, ri⟩ := hi.ex
  obtain ⟨gg, pg, rg⟩ := hg.ex
  obtain ⟨bb, pb, rb⟩ := hb.ex
  refine ⟨_, ps_for hp hc pi pg pb hs, fun F H σ τ M D E R q r => ?_⟩
  refine ri F H σ τ M _ _ R q fun J F1 H1 ds M1 e1 R1 hJ q1 => ?_
  refine ⟨fun i m σ' H' => m = ds.length - i ∧ i ≤ ds.length ∧ ∃ F' τ' M', Stp F H M F' H' M' ∧ Ext F1 F' ∧ Rst X.K F' H' σ' τ' M' ∧ loopD g tb D (ds.drop i) τ' M', ⟨ds.length, by simp, Nat.zero_le _, F1, τ, M1, e1, Ext.refl _, R1, by simpa using q1⟩, ?_⟩
  rintro i m σ2 H2 ⟨rfl, hil, F2, τ2, M2, e2, x2, R2, q2⟩
  by_cases hlt : i < ds.length
  · obtain ⟨d, hd⟩ : ∃ d, ds[i]? = some d := ⟨ds[i], List.getElem?_eq_getElem hlt⟩
    rw [drop_cons hd] at q2
    refine .inr ⟨hJ.go i F2 H2 M2 hlt x2 R2.heap, fun σ' H' => ∃ F' τ' M', Stp F H M F' H' M' ∧ Ext F1 F' ∧ Rst X.K F' H' σ' τ' M' ∧ loopD g tb D (ds.drop (i + 1)) τ' M', fun σ' H' z => ⟨ds.length - (i + 1), by omega, rfl, hlt, z⟩, fun x H' y => ?_⟩
    obtain ⟨F3, e3, R3, r3⟩ := hJ.yld i F2 H2 M2 d x H' hd x2 R2.heap y
    refine rg F3 H' σ2 τ2 M2 x d _ _ (R2.mono e3.ext R3) r3 q2 fun F4 H4 σ4 τ4 M4 e4 R4 q4 => ?_
    have s4 : Stp F H M F4 H4 M4 := (e2.trans e3).trans e4
    have x4 : Ext F1 F4 := (x2.trans e3.ext).trans e4.ext
    have go : ∀ F' H' σ' τ' M', Stp F4 H4 M4 F' H' M' → Rst X.K F' H' σ' τ' M' → loopD g tb D (ds.drop (i + 1)) τ' M' → ∃ F' τ' M', Stp F H M F' H' M' ∧ Ext F1 F' ∧ Rst X.K F' H' σ' τ' M' ∧ loopD g tb D (ds.drop (i + 1)) τ' M' :=
      fun F' H' σ' τ' M' e' R' q' => ⟨F', τ', M', s4.trans e', x4.trans e'.ext, R', q'⟩
    exact rb F4 H4 σ4 τ4 M4 _ _ R4 q4 ⟨go, fun F' H' σ' τ' M' e' R' z => r.nx F' H' σ' τ' M' (s4.trans e') R' z, go, fun v F' H' d M' e' R' rd z => r.rt v F' H' d M' (s4.trans e') R' rd z, fun F' H' σ' τ' M' C d fs e' => r.xr F' H' σ' τ' M' C d fs (s4.trans e')⟩
  · have e : i = ds.length := by omega
    subst e
    rw [List.drop_length] at q2
    exact .inl ⟨hJ.stop F2 H2 M2 x2 R2.heap, r.nx F2 H2 σ2 τ2 M2 e2 R2 q2⟩

/-! ### the ways of walking: lists, tuples, ranges -/
theorem sqL_fix {K : PySem.W.Frag} {F F2 H2 : Hp} {M2 : Sto} {a : Addr} {xs : List V} (h : SqL K F a xs) (e : Ext F F2) (R : Rst0 K F2 H2 M2) : SqL K H2 a xs := (e.trans R.sub).sqL h
theorem itd_list {K : PySem.W.Frag} {F : Hp} {a : Addr} {xs : List V} {ds : List D} (h : SqL K F a xs) (r : RelDs K F xs ds) : ItD K F (Itl K a) ds where
  go := fun i F2 H2 M2 hi e R => by
    have hx : i < xs.length := by rw [r.length]; exact hi
    exact ⟨xs, xs[i], sqL_fix h e R, List.getElem?_eq_getElem hx⟩
  yld := fun i F2 H2 M2 d x H' hd e R y => by
    obtain ⟨rfl, y⟩ := y
    obtain ⟨v, h1, h2⟩ := r.get hd
    have z := y xs (sqL_fix h e R)
    rw [h1] at z
    cases z
    exact ⟨F2, Stp.refl _ _ _, R, h2.mono e⟩
  stop := fun F2 H2 M2 e R => ⟨xs, sqL_fix h e R, by rw [r.length]; exact Nat.le_refl _⟩
theorem itd_tup {K : PySem.W.Frag} {F : Hp} {a : Addr} {xs : List V} {ds : List D} (h : SqT K F a xs) (r : RelDs K F xs ds) : ItD K F (Itt K a) ds where
  go := fun i F2 H2 M2 hi e R => by
    have hx : i < xs.length := by rw [r.length]; exact hi
    exact ⟨xs, xs[i], (e.trans R.sub).sqT h, List.getElem?_eq_getElem hx⟩
  yld := fun i F2 H2 M2 d x H' hd e R y => by
    obtain ⟨rfl, y⟩ := y
    obtain ⟨v, h1, h2⟩ := r.get hd
    have z := y xs ((e.trans R.sub).sqT h)
    rw [h1] at z
    cases z
    exact ⟨F2, Stp.refl _ _ _, R, h2.mono e⟩
  stop := fun F2 H2 M2 e R => ⟨xs, (e.trans R.sub).sqT h, by rw [r.length]; exact Nat.le_refl _⟩
def rangeD (lo : Int) (n : Nat) : List D := (List.range n).map fun (i : Nat) => .int (lo + (i : Int))
theorem itd_range {K : PySem.W.Frag} {F : Hp} {lo : Int} {n : Nat} : ItD K F (Itr lo n) (rangeD lo n) where
  go := fun i F2 H2 M2 hi e R => by
    show i < n
    simpa [rangeD] using hi
  yld := fun i F2 H2 M2 d x H' hd e R y => by
    obtain ⟨rfl, rfl⟩ := y
    have hd' : d = .int (lo + (i : Int)) := by
      unfold rangeD at hd
      rw [List.getElem?_map] at hd
      cases q : (List.range n)[i]? with
      | none => rw [q] at hd; cases hd
      | some j =>
        rw [q] at hd
        have hj : j = i := by
          obtain ⟨h1, h2⟩ := List.getElem?_eq_some_iff.mp q
          simpa using h2.symm
        subst hj
        exact (Option.some.inj hd).symm
    subst hd'
    exact ⟨F2, Stp.refl _ _ _, R, .int _⟩
  stop := fun F2 H2 M2 e R => by
    show n ≤ (rangeD lo n).length
    simp [rangeD]
section
variable {X : Cx} {tg : Expr}
@[simp] def iSeq (t : DTE) : DTI := fun τ M Q => t τ M fun d M1 => match d with
  | .lst xs => Q xs M1
  | .tup xs => Q xs M1
  | .ptp xs => Q xs M1
  | _ => False
/-- a list or a tuple: as it is written -/
theorem di_lst {l : Expr} {t : DTE} (hl : DE X l t) : DI X tg l (fun τ M Q => t τ M fun d M1 => match d with | .lst xs => Q xs M1 | _ => False) := by
  obtain ⟨u, pu, ru⟩ := hl.ex
  refine ⟨_, pi_list pu, fun F H σ τ M Qd Q R q k => ?_⟩
  refine ru F H σ τ M _ _ R q fun v F1 H1 d M1 e1 R1 r1 q1 => ?_
  cases d <;> first | exact False.elim q1 | skip
  cases r1 with
  | lst hs rs => exact ⟨_, rfl, ⟨_, SqL.of (R1.heap.sub _ _ hs)⟩, k _ F1 H1 _ M1 e1 R1 (itd_list (SqL.of hs) rs) q1⟩
theorem di_tup {l : Expr} {t : DTE} (hl : DE X l t) : DI X tg l (fun τ M Q => t τ M fun d M1 => match d with | .tup xs => Q xs M1 | _ => False) := by
  obtain ⟨u, pu, ru⟩ := hl.ex
  refine ⟨_, pi_tup pu, fun F H σ τ M Qd Q R q k => ?_⟩
  refine ru F H σ τ M _ _ R q fun v F1 H1 d M1 e1 R1 r1 q1 => ?_
  cases d <;> first | exact False.elim q1 | skip
  cases r1 with
  | tup hs rs => exact ⟨_, rfl, ⟨_, R1.heap.sub.sqT hs⟩, k _ F1 H1 _ M1 e1 R1 (itd_tup hs rs) q1⟩
@[simp] def iRange1 (t : DTE) : DTI := fun τ M Q => t τ M fun d M1 => match d with
  | .int j => (-(2 ^ 62) ≤ j ∧ j < 2 ^ 62) ∧ Q (rangeD 0 j.toNat) M1
  | _ => False
@[simp] def iRange2 (t u : DTE) : DTI := fun τ M Q => t τ M fun d M1 => u τ M1 fun e M2 => match d, e with
  | .int i, .int j => (-(2 ^ 62) ≤ i ∧ i < 2 ^ 62 ∧ -(2 ^ 62) ≤ j ∧ j < 2 ^ 62) ∧ Q (rangeD i (j - i).toNat) M2
  | _, _ => False
theorem di_range1 {a : Expr} {t : DTE} {p pos : Pos} (hg : Gl X "range") (hm : X.mg "range" = none) (ha : DE X a t) (hs : starEach [a] X.env = (false, eval a X.env) :: starEach [] X.env := by rfl) (hs' : starEach [a] X.env = [(false, eval a X.env)] := by rfl) : DI X tg (.Call (.Name "range" p) [a] [] pos) (iRange1 t) := by
  obtain ⟨u, pu, ru⟩ := ha.ex
  refine ⟨_, pi_range1 hg hm (pa_cons pu pa_nil hs) hs', fun F H σ τ M Qd Q R q k => ?_⟩
  refine ru F H σ τ M _ _ R q fun v F1 H1 d M1 e1 R1 r1 q1 => ?_
  cases d <;> first | exact False.elim q1 | skip
  cases r1
  exact ⟨_, rfl, q1.1.1, q1.1.2, k _ F1 H1 _ M1 e1 R1 itd_range q1.2⟩
theorem di_range2 {a b : Expr} {t t' : DTE} {p pos : Pos} (hg : Gl X "range") (hm : X.mg "range" = none) (ha : DE X a t) (hb : DE X b t') (hs : starEach [a, b] X.env = (false, eval a X.env) :: starEach [b] X.env := by rfl) (hs1 : starEach [b] X.env = (false, eval b X.env) :: starEach [] X.env := by rfl)
    (hs' : starEach [a, b] X.env = [(false, eval a X.env), (false, eval b X.env)] := by rfl) (hs2 : starEach [b] X.env = [(false, eval b X.env)] := by rfl) : DI X tg (.Call (.Name "range" p) [a, b] [] pos) (iRange2 t t') := by
  obtain ⟨u, pu, ru⟩ := ha.ex
  obtain ⟨w, pw, rw'⟩ := hb.ex
  refine ⟨_, pi_range2 hg hm (pa_cons pu (pa_cons pw pa_nil hs1) hs) hs' hs2, fun F H σ τ M Qd Q R q k => ?_⟩
  refine ru F H σ τ M _ _ R q fun v F1 H1 d M1 e1 R1 r1 q1 => ?_
  refine rw' F1 H1 σ τ M1 _ _ R1 q1 fun v' F2 H2 d' M2 e2 R2 r2 q2 => ?_
  cases d <;> cases d' <;> first | exact False.elim q2 | skip
  cases r1
  cases r2
  exact ⟨_, _, rfl, q2.1, k _ F2 H2 _ M2 (e1.trans e2) R2 itd_range q2.2⟩
end

/-! ### list comprehensions -/
@[simp] def dwipe (τ : DSt) : List Nat → DSt
  | [] => τ
  | v :: vs => (dwipe τ vs).set v none
theorem dwipe_length (τ : DSt) : ∀ vs : List Nat, (dwipe τ vs).length = τ.length
  | [] => rfl
  | v :: vs => by unfold dwipe; rw [List.length_set, dwipe_length τ vs]
theorem dwipe_some {τ : DSt} {i : Nat} {x : D} : ∀ {vs : List Nat}, (dwipe τ vs)[i]? = some (some x) → τ[i]? = some (some x) ∧ i ∉ vs
  | [], h => ⟨h, by simp⟩
  | v :: vs, h => by
    unfold dwipe at h
    by_cases hi : v = i
    · subst hi
      by_cases hv : v < (dwipe τ vs).length
      · rw [List.getElem?_set_self hv] at h; cases h
      · rw [List.getElem?_eq_none (by simpa using hv)] at h; cases h
    · rw [List.getElem?_set_ne hi] at h
      obtain ⟨h1, h2⟩ := dwipe_some h
      exact ⟨h1, by simp only [List.mem_cons, not_or]; exact ⟨fun e => hi e.symm, h2⟩⟩
theorem wipe_keep {σ : L2.St} {i : Nat} : ∀ {vs : List Nat}, i ∉ vs → (wipe σ vs)[i]? = σ[i]?
  | [], _ => rfl
  | v :: vs, h => by
    unfold wipe
    rw [List.getElem?_set_ne (fun e => h (by simp [e]))]
    exact wipe_keep fun z => h (by simp [z])
theorem RelSl.wipe {K : PySem.W.Frag} {F : Hp} {σ : L2.St} {τ : DSt} (r : RelSl K F σ τ) (vs : List Nat) : RelSl K F (L2.wipe σ vs) (dwipe τ vs) := by
  refine ⟨by rw [wipe_length, dwipe_length, r.len], fun i d h => ?_⟩
  obtain ⟨h1, h2⟩ := dwipe_some h
  obtain ⟨v, g1, g2⟩ := r.get i d h1
  exact ⟨v, by rw [wipe_keep h2]; exact g1, g2⟩
/-- a target that stores only what the block forgets again -/
def Own (g : TG) (vs : List Nat) : Prop := ∀ x σ H Q, g x (wipe σ vs) H Q → g x (wipe σ vs) H fun σ2 H2 => wipe σ2 vs = wipe σ vs ∧ Q σ2 H2
def OwnAny (g : TG) (vs : List Nat) : Prop := ∀ x σ H Q, g x σ H Q → g x σ H fun σ2 H2 => wipe σ2 vs = wipe σ vs ∧ Q σ2 H2
def OwnAnys (g : TGs) (vs : List Nat) : Prop := ∀ x σ H Q, g x σ H Q → g x σ H fun σ2 H2 => wipe σ2 vs = wipe σ vs ∧ Q σ2 H2
theorem wipe_set {σ : L2.St} {i : Nat} {x : Option V} : ∀ {vs : List Nat}, i ∈ vs → wipe (σ.set i x) vs = wipe σ vs
  | [], h => by cases h
  | v :: vs, h => by
    by_cases hv : i ∈ vs
    · unfold wipe; rw [wipe_set hv]
    · have e : i = v := by
        rcases List.mem_cons.mp h with z | z
        · exact z
        · exact absurd z hv
      subst e
      unfold wipe
      have go : ∀ ws : List Nat, i ∉ ws → wipe (σ.set i x) ws = (wipe σ ws).set i x := by
        intro ws
        induction ws with
        | nil => intro _; rfl
        | cons w ws ih =>
          intro hw
          unfold wipe
          rw [ih fun z => hw (by simp [z]), List.set_comm _ _ (fun z => hw (by simp [z]))]
      rw [go vs hv, List.set_set]
theorem wipe_wipe (σ : L2.St) (vs : List Nat) : wipe (wipe σ vs) vs = wipe σ vs := by
  apply List.ext_getElem?
  intro i
  by_cases h : i ∈ vs
  · have go : ∀ (ρ : L2.St) (ws : List Nat), i ∈ ws → (wipe ρ ws)[i]? = if i < ρ.length then some none else none := by
      intro ρ ws
      induction ws with
      | nil => intro z; cases z
      | cons w ws ih =>
        intro z
        unfold wipe
        by_cases e : w = i
        · subst e
          rw [List.getElem?_set]
          simp [wipe_length]
        · rw [List.getElem?_set_ne e]
          rcases List.mem_cons.mp z with z | z
          · exact absurd z.symm e
          · exact ih z
    rw [go _ _ h, go _ _ h, wipe_length]
  · rw [wipe_keep h]
theorem OwnAny.own {g : TG} {vs : List Nat} (h : OwnAny g vs) : Own g vs := fun x σ H Q q => by
  have z := h x (wipe σ vs) H Q q
  rw [wipe_wipe] at z
  exact z
theorem own_name {i : Nat} {vs : List Nat} (h : i ∈ vs) : OwnAny (gName i) vs := fun x σ H Q q => ⟨wipe_set h, q⟩
theorem own_nil {vs : List Nat} : OwnAnys gNil vs := fun x σ H Q q => ⟨q.1, rfl, q.2⟩
theorem own_cons {g : TG} {u : TGs} {vs : List Nat} (hm : ∀ x σ H Q Q', (∀ σ2 H2, Q σ2 H2 → Q' σ2 H2) → g x σ H Q → g x σ H Q') (hmu : ∀ x σ H Q Q', (∀ σ2 H2, Q σ2 H2 → Q' σ2 H2) → u x σ H Q → u x σ H Q') (h : OwnAny g vs) (h' : OwnAnys u vs) : OwnAnys (gCons g u) vs := fun x σ H Q q => by
  obtain ⟨v, r, e, q⟩ := q
  refine ⟨v, r, e, ?_⟩
  have z := h v σ H _ q
  refine hm _ _ _ _ _ (fun σ2 H2 ⟨e2, q2⟩ => ?_) z
  refine hmu _ _ _ _ _ (fun σ3 H3 ⟨e3, q3⟩ => ?_) (h' r σ2 H2 _ q2)
  exact ⟨e3.trans e2, q3⟩
theorem own_tup {K : PySem.W.Frag} {n : Nat} {u : TGs} {vs : List Nat} (h : OwnAnys u vs) : OwnAny (gTup K n u) vs := fun x σ H Q q => by
  obtain ⟨a, xs, e, hs, hl, q⟩ := q
  exact ⟨a, xs, e, hs, hl, h xs σ H Q q⟩
/-- a comprehension's target, wherever the block runs -/
structure DGC (X : Cx) (scope : Scope) (tg : Expr) (vs : List Nat) (g : DTG) : Prop where
  ex : ∃ t, (∀ (s : Shared) (H : Hp) (C : Addr) (cl : List (Str × Addr)) (fp : List Addr), PG (X.blk s H scope (compEnvC scope cl C X.env) fp) tg t) ∧ RefG X.K t g ∧ OwnAny t vs ∧ ∀ x σ H Q Q', (∀ σ2 H2, Q σ2 H2 → Q' σ2 H2) → t x σ H Q → t x σ H Q'
structure DGCs (X : Cx) (scope : Scope) (tgs : List Expr) (vs : List Nat) (g : DTGs) : Prop where
  ex : ∃ t, (∀ (s : Shared) (H : Hp) (C : Addr) (cl : List (Str × Addr)) (fp : List Addr), PGs (X.blk s H scope (compEnvC scope cl C X.env) fp) tgs t) ∧ RefGs X.K t g ∧ OwnAnys t vs ∧ ∀ x σ H Q Q', (∀ σ2 H2, Q σ2 H2 → Q' σ2 H2) → t x σ H Q → t x σ H Q'
section
variable {X : Cx} {scope : Scope} {vs : List Nat} {pos : Pos}
theorem dgc_name {i : Nat} {x : Str} (hN : X.N.Nodup) (hv : i ∈ vs := by decide) (hi : X.N[i]? = some x := by rfl)
    (hx : ∀ (s : Shared) (H : Hp) (C : Addr) (cl : List (Str × Addr)) (fp : List Addr), Loc (X.blk s H scope (compEnvC scope cl C X.env) fp).env.scope x := by intro _ _ _ _ _; first | exact .inl rfl | exact .inr rfl)
    (hf : ∀ (s : Shared) (H : Hp) (C : Addr) (cl : List (Str × Addr)) (fp : List Addr), (X.blk s H scope (compEnvC scope cl C X.env) fp).fn x = true ∨ (X.blk s H scope (compEnvC scope cl C X.env) fp).env.scope.names.lookup x = some .local := by intro _ _ _ _ _; first | exact .inl rfl | exact .inr rfl) :
    DGC X scope (.Name x pos) vs (dgName i) := ⟨gName i, fun s H C cl fp => pg_name hN hi (hx s H C cl fp) (hf s H C cl fp), refGName, own_name hv, fun x σ H Q Q' h q => h _ _ q⟩
theorem dgcs_nil : DGCs X scope [] vs dgNil := ⟨gNil, fun s H C cl fp => pgs_nil, refGNil, own_nil, fun x σ H Q Q' h q => ⟨q.1, h _ _ q.2⟩⟩
theorem dgcs_cons {e : Expr} {es : List Expr} {g : DTG} {u : DTGs} (h1 : DGC X scope e vs g) (h2 : DGCs X scope es vs u)
    (hs : ∀ (s : Shared) (H : Hp) (C : Addr) (cl : List (Str × Addr)) (fp : List Addr), (assignEach (e :: es) (X.blk s H scope (compEnvC scope cl C X.env) fp).env).map (·.2) = assign e (X.blk s H scope (compEnvC scope cl C X.env) fp).env :: (assignEach es (X.blk s H scope (compEnvC scope cl C X.env) fp).env).map (·.2) := by intro _ _ _ _ _; rfl) :
    DGCs X scope (e :: es) vs (dgCons g u) := by
  obtain ⟨a, pa, ra, oa, ma⟩ := h1.ex
  obtain ⟨b, pb, rb, ob, mb⟩ := h2.ex
  refine ⟨gCons a b, fun s H C cl fp => pgs_cons (pa s H C cl fp) (pb s H C cl fp) (hs s H C cl fp), refGCons ra rb, own_cons ma mb oa ob, fun x σ H Q Q' h q => ?_⟩
  obtain ⟨v, r, e, q⟩ := q
  exact ⟨v, r, e, ma _ _ _ _ _ (fun σ2 H2 q2 => mb _ _ _ _ _ h q2) q⟩
theorem dgc_tup {es : List Expr} {k n : Nat} {t : DTGs} (hc : X.calm = true) (h : DGCs X scope es vs t)
    (hn : ∀ (s : Shared) (H : Hp) (C : Addr) (cl : List (Str × Addr)) (fp : List Addr), (assignEach es (X.blk s H scope (compEnvC scope cl C X.env) fp).env).length = n := by intro _ _ _ _ _; rfl)
    (hst : ∀ (s : Shared) (H : Hp) (C : Addr) (cl : List (Str × Addr)) (fp : List Addr), (assignEach es (X.blk s H scope (compEnvC scope cl C X.env) fp).env).findIdx? (·.1) = none := by intro _ _ _ _ _; rfl) : DGC X scope (.Tuple es k pos) vs (dgTup n t) := by
  obtain ⟨a, pa, ra, oa, ma⟩ := h.ex
  refine ⟨gTup X.K n a, fun s H C cl fp => pg_tup hc (pa s H C cl fp) (hn s H C cl fp) (hst s H C cl fp), refGTup ra, own_tup oa, fun x σ H Q Q' h q => ?_⟩
  obtain ⟨b, xs, e, hs, hl, q⟩ := q
  exact ⟨b, xs, e, hs, hl, ma _ _ _ _ _ h q⟩
end
/-- a comprehension's tests -/
structure DTs (X : Cx) (ifs : List Expr) (t : DTT) : Prop where
  ex : ∃ te, PTs X ifs te ∧ RefT X.K te t
@[simp] def dYes : DTT := fun _ M Q => Q true M
theorem dts_nil {X : Cx} : DTs X [] dYes := ⟨tYes, pts_nil, fun F H σ τ M Qd Q R q k => k true F H M (Stp.refl F H M) R q⟩
theorem dts_one {X : Cx} {c : Expr} {t : DTT} (h : DT X c t) : DTs X [c] t := by
  obtain ⟨u, pu, ru⟩ := h.ex
  exact ⟨u, pts_one pu, ru⟩
/-- item by item: what is made so far, then the rest -/
def compD (g : DTG) (tt : DTT) (te : DTE) (τ : DSt) (Q : List D → Sto → Prop) : List D → List D → Sto → Prop
  | [], acc, M => Q acc M
  | d :: ds, acc, M => g d τ M fun τ2 M2 => tt τ2 M2 fun b M3 => if b = true then te τ2 M3 fun y M4 => acc.length < sizeLine ∧ compD g tt te τ Q ds (acc ++ [y]) M4 else compD g tt te τ Q ds acc M3
@[simp] def dLc (it : DTI) (g : DTG) (tt : DTT) (te : DTE) (vs : List Nat) : DTE := fun τ M Q => it τ M fun ds M1 => compD g tt te (dwipe τ vs) (fun acc M2 => Q (.lst acc) M2) ds [] M1
@[simp] def dLcM (it : DTI) (g : DTG) (tt : DTT) (te : DTE) (vs : List Nat) : DTE := fun τ M Q => it τ M fun ds M1 => compD g tt te (dwipe τ vs) (fun acc M2 => ∀ p, M2 p = none → Q (.ref p) (M2.upd p (.lst acc))) ds [] M1
section
variable {K : PySem.W.Frag} {F H : Hp} {M : Sto} {p : Addr}
/-- a thing that only H knows is written -/
theorem Rst0.side (r : Rst0 K F H M) (hm : M p = none) (hf : F p = none) (o : HO) : Rst0 K F (upd H p o) M := ⟨fun b u e => by rw [upd_ne (ne_of_none e hf)]; exact r.sub b u e, fun b u e => by
  obtain ⟨h1, ho, h2, h3⟩ := r.sto b u e
  exact ⟨h1, ho, by rw [upd_ne (Sto.ne e hm)]; exact h2, h3⟩⟩
theorem Stp.side {F1 H1 : Hp} {M1 : Sto} (s : Stp F H M F1 H1 M1) (h0 : H p = none) (o : HO) : Stp F H M F1 (upd H1 p o) M1 := ⟨s.ext, fun b u e n => by
  obtain ⟨h1, m1, f1⟩ := s.kp b u e n
  exact ⟨by rw [upd_ne (ne_of_none e h0)]; exact h1, m1, f1⟩, fun a z => s.al a (upd_al a z)⟩
end
theorem lc_coreD {K : PySem.W.Frag} {wi : TI} {it : DTI} {tg : TG} {g : DTG} {tt : TT} {dt : DTT} {te : TE} {de : DTE} {vs : List Nat} (hi : RefI K wi it) (hg : RefG K tg g) (ho : OwnAny tg vs) (hm : ∀ x σ H Q Q', (∀ σ2 H2, Q σ2 H2 → Q' σ2 H2) → tg x σ H Q → tg x σ H Q') (ht : RefT K tt dt) (he : RefE K te de)
    {F H : Hp} {σ : L2.St} {τ : DSt} {M : Sto} {Qc : List D → Sto → Prop} {Q : VK} (R : Rst K F H σ τ M) (q : it τ M fun ds M1 => compD g dt de (dwipe τ vs) Qc ds [] M1)
    (k : ∀ p F' H' M' xs acc, Stp F H M F' H' M' → Rst K F' H' σ τ M' → H p = none → M' p = none → F' p = none → H' p = some (.lst xs) → RelDs K F' xs acc → Qc acc M' → Q (.ref p) H') : tLc wi tg tt te vs σ H Q := by
  refine hi F H σ τ M _ _ R q fun J F1 H1 ds M1 e1 R1 hJ q1 p hp => ?_
  have hp0 : H p = none := e1.al p hp
  obtain ⟨hf1, hm1⟩ := R1.heap.free hp
  refine ⟨fun i m H' => m = ds.length - i ∧ i ≤ ds.length ∧ ∃ F' M' xs acc, Stp F H M F' H' M' ∧ Ext F1 F' ∧ Rst K F' H' σ τ M' ∧ M' p = none ∧ F' p = none ∧ H' p = some (.lst xs) ∧ RelDs K F' xs acc ∧ compD g dt de (dwipe τ vs) Qc (ds.drop i) acc M',
    ⟨ds.length, by simp, Nat.zero_le _, F1, M1, [], [], e1.side hp0 _, Ext.refl _, ⟨R1.heap.side hm1 hf1 _, R1.slots⟩, hm1, hf1, upd_same, .nil, by simpa using q1⟩, ?_⟩
  rintro i m H2 ⟨rfl, hil, F2, M2, xs, acc, s2, x2, R2, m2, f2, h2, rl2, q2⟩
  by_cases hlt : i < ds.length
  · obtain ⟨d, hd⟩ : ∃ d, ds[i]? = some d := ⟨ds[i], List.getElem?_eq_getElem hlt⟩
    rw [drop_cons hd] at q2
    refine .inr ⟨hJ.go i F2 H2 M2 hlt x2 R2.heap, fun H' => ∃ F' M' xs acc, Stp F H M F' H' M' ∧ Ext F1 F' ∧ Rst K F' H' σ τ M' ∧ M' p = none ∧ F' p = none ∧ H' p = some (.lst xs) ∧ RelDs K F' xs acc ∧ compD g dt de (dwipe τ vs) Qc (ds.drop (i + 1)) acc M', fun H' z => ⟨ds.length - (i + 1), by omega, rfl, hlt, z⟩, fun x H' y => ?_⟩
    obtain ⟨F3, e3, R3, r3⟩ := hJ.yld i F2 H2 M2 d x H' hd x2 R2.heap y
    have sl3 : RelSl K F3 (wipe σ vs) (dwipe τ vs) := (R2.slots.mono e3.ext).wipe vs
    refine ho.own _ _ _ _ (hg F3 H' (wipe σ vs) (dwipe τ vs) M2 x d _ _ ⟨R3, sl3⟩ r3 q2 fun F4 H4 σ4 τ4 M4 e4 R4 q4 => ?_)
    refine ht F4 H4 σ4 τ4 M4 _ _ R4 q4 fun b F5 H5 M5 e5 R5 q5 => ?_
    have s5 : Stp F2 H2 M2 F5 H5 M5 := (e3.trans e4).trans e5
    cases b with
    | false =>
      obtain ⟨h5, m5, f5⟩ := s5.kp p _ h2 m2
      exact iteF ⟨F5, M5, xs, acc, s2.trans s5, x2.trans s5.ext, ⟨R5.heap, R2.slots.mono s5.ext⟩, m5, f5 f2, h5, rl2.mono s5.ext, q5⟩
    | true =>
      refine iteT (he F5 H5 σ4 τ4 M5 _ _ R5 q5 fun y F6 H6 dy M6 e6 R6 r6 q6 => ?_)
      have s6 := s5.trans e6
      obtain ⟨h6, m6, f6⟩ := s6.kp p _ h2 m2
      refine ⟨xs, h6, by rw [rl2.length]; exact q6.1, F6, M6, xs ++ [y], acc ++ [dy], (s2.trans s6).side hp0 _, x2.trans s6.ext, ⟨R6.heap.side m6 (f6 f2) _, R2.slots.mono s6.ext⟩, m6, f6 f2, upd_same, (rl2.mono s6.ext).append (.cons r6 .nil), q6.2⟩
  · have e : i = ds.length := by omega
    subst e
    rw [List.drop_length] at q2
    exact .inl ⟨hJ.stop F2 H2 M2 x2 R2.heap, k p F2 H2 M2 xs acc s2 R2 hp0 m2 f2 h2 rl2 q2⟩
theorem refLc {K : PySem.W.Frag} {wi : TI} {it : DTI} {tg : TG} {g : DTG} {tt : TT} {dt : DTT} {te : TE} {de : DTE} {vs : List Nat} (hi : RefI K wi it) (hg : RefG K tg g) (ho : OwnAny tg vs) (hm : ∀ x σ H Q Q', (∀ σ2 H2, Q σ2 H2 → Q' σ2 H2) → tg x σ H Q → tg x σ H Q') (ht : RefT K tt dt) (he : RefE K te de) :
    RefE K (tLc wi tg tt te vs) (dLc it g dt de vs) := fun F H σ τ M Qd Q R q k =>
  lc_coreD hi hg ho hm ht he R q fun p F' H' M' xs acc s' R' h0 m' f' h' rl q' => by
    obtain ⟨e, s2, R2⟩ := R'.heap.adopt s' h' m' f' h0
    exact k (.ref p) _ H' (.lst acc) M' s2 (R'.mono e R2) (.lst upd_same (rl.mono e)) q'
theorem refLcM {K : PySem.W.Frag} {wi : TI} {it : DTI} {tg : TG} {g : DTG} {tt : TT} {dt : DTT} {te : TE} {de : DTE} {vs : List Nat} (hi : RefI K wi it) (hg : RefG K tg g) (ho : OwnAny tg vs) (hm : ∀ x σ H Q Q', (∀ σ2 H2, Q σ2 H2 → Q' σ2 H2) → tg x σ H Q → tg x σ H Q') (ht : RefT K tt dt) (he : RefE K te de) :
    RefE K (tLc wi tg tt te vs) (dLcM it g dt de vs) := fun F H σ τ M Qd Q R q k =>
  lc_coreD hi hg ho hm ht he R q fun p F' H' M' xs acc s' R' h0 m' f' h' rl q' => by
    refine k (.ref p) F' H' (.ref p) (M'.upd p (.lst acc)) ⟨s'.ext, fun b u e n => ?_, s'.al⟩ ⟨⟨R'.heap.sub, fun b u e => ?_⟩, R'.slots⟩ (.ref p) (q' p m')
    · obtain ⟨h1, m1, f1⟩ := s'.kp b u e n
      exact ⟨h1, by rw [Sto.upd_ne (ne_of_none e h0)]; exact m1, f1⟩
    · by_cases hb : b = p
      · subst hb
        rw [Sto.upd_same] at e; cases e
        exact ⟨f', _, h', rl⟩
      · rw [Sto.upd_ne hb] at e
        exact R'.heap.sto b u e
section
variable {X : Cx} {elt tg iter : Expr} {ifs : List Expr} {scope : Scope} {own : List (Str × Nat)} {pos spos : Pos} {it : DTI} {g : DTG} {tt : DTT} {te : DTE} {i : Nat} {y : Str} {py : Pos}
theorem uni_e {t : DTE} (h : ∀ (s : Shared) (H : Hp) (C : Addr) (cl : List (Str × Addr)) (fp : List Addr), DE (X.blk s H scope (compEnvC scope cl C X.env) fp) elt t) :
    ∃ te, (∀ (s : Shared) (H : Hp) (C : Addr) (cl : List (Str × Addr)) (fp : List Addr), PE (X.blk s H scope (compEnvC scope cl C X.env) fp) elt te) ∧ RefE X.K te t := by
  refine ⟨fun σ Hh Q => ∀ (s : Shared) (H : Hp) (C : Addr) (cl : List (Str × Addr)) (fp : List Addr) (te : TE), PE (X.blk s H scope (compEnvC scope cl C X.env) fp) elt te → RefE X.K te t → te σ Hh Q, fun s H C cl fp => ?_, fun F H σ τ M Qd Q R q k => ?_⟩
  · obtain ⟨te, p, r⟩ := (h s H C cl fp).ex
    exact ⟨fun pins s' σ H' Q I q => p.run pins s' σ H' Q I (q s H C cl fp te p r)⟩
  · intro s H' C cl fp te p r
    exact r F H σ τ M Qd Q R q k
theorem uni_t {t : DTT} (h : ∀ (s : Shared) (H : Hp) (C : Addr) (cl : List (Str × Addr)) (fp : List Addr), DTs (X.blk s H scope (compEnvC scope cl C X.env) fp) ifs t) :
    ∃ te, (∀ (s : Shared) (H : Hp) (C : Addr) (cl : List (Str × Addr)) (fp : List Addr), PTs (X.blk s H scope (compEnvC scope cl C X.env) fp) ifs te) ∧ RefT X.K te t := by
  refine ⟨fun σ Hh Q => ∀ (s : Shared) (H : Hp) (C : Addr) (cl : List (Str × Addr)) (fp : List Addr) (te : TT), PTs (X.blk s H scope (compEnvC scope cl C X.env) fp) ifs te → RefT X.K te t → te σ Hh Q, fun s H C cl fp => ?_, fun F H σ τ M Qd Q R q k => ?_⟩
  · obtain ⟨te, p, r⟩ := (h s H C cl fp).ex
    exact ⟨fun pins s' σ H' Q I q => p.run pins s' σ H' Q I (q s H C cl fp te p r)⟩
  · intro s H' C cl fp te p r
    exact r F H σ τ M Qd Q R q k
theorem de_lc (hc : X.calm = true) (hN : X.N.Nodup) (hi : DI X tg iter it) (ok : BlkOk X.N X.env.scope scope own) (hg : DGC X scope tg (own.map (·.2)) g)
    (ht : ∀ (s : Shared) (H : Hp) (C : Addr) (cl : List (Str × Addr)) (fp : List Addr), DTs (X.blk s H scope (compEnvC scope cl C X.env) fp) ifs tt) (he : ∀ (s : Shared) (H : Hp) (C : Addr) (cl : List (Str × Addr)) (fp : List Addr), DE (X.blk s H scope (compEnvC scope cl C X.env) fp) elt te)
    (hs : ∀ x, foldedSetIterable iter X.env x = pure x := by intro _; rfl) : DE X (.ListComp elt [⟨tg, iter, ifs, 0⟩] scope pos) (dLc it g tt te (own.map (·.2))) := by
  obtain ⟨wi, pi, ri⟩ := hi.ex
  obtain ⟨gg, pg, rg, og, mg⟩ := hg.ex
  obtain ⟨ee, pe, re⟩ := uni_e he
  obtain ⟨t', pt, rt⟩ := uni_t ht
  exact ⟨_, pe_lc hc hN pi ok pg pt pe hs, refLc ri rg og mg rt re⟩
theorem de_lcM (hc : X.calm = true) (hN : X.N.Nodup) (hi : DI X tg iter it) (ok : BlkOk X.N X.env.scope scope own) (hg : DGC X scope tg (own.map (·.2)) g)
    (ht : ∀ (s : Shared) (H : Hp) (C : Addr) (cl : List (Str × Addr)) (fp : List Addr), DTs (X.blk s H scope (compEnvC scope cl C X.env) fp) ifs tt) (he : ∀ (s : Shared) (H : Hp) (C : Addr) (cl : List (Str × Addr)) (fp : List Addr), DE (X.blk s H scope (compEnvC scope cl C X.env) fp) elt te)
    (hs : ∀ x, foldedSetIterable iter X.env x = pure x := by intro _; rfl) : DE X (.ListComp elt [⟨tg, iter, ifs, 0⟩] scope pos) (dLcM it g tt te (own.map (·.2))) := by
  obtain ⟨wi, pi, ri⟩ := hi.ex
  obtain ⟨gg, pg, rg, og, mg⟩ := hg.ex
  obtain ⟨ee, pe, re⟩ := uni_e he
  obtain ⟨t', pt, rt⟩ := uni_t ht
  exact ⟨_, pe_lc hc hN pi ok pg pt pe hs, refLcM ri rg og mg rt re⟩
/-- name = [..] -/
theorem ds_setLc (hc : X.calm = true) (hN : X.N.Nodup) (hi : DI X tg iter it) (ok : BlkOk X.N X.env.scope scope own) (hg : DGC X scope tg (own.map (·.2)) g)
    (ht : ∀ (s : Shared) (H : Hp) (C : Addr) (cl : List (Str × Addr)) (fp : List Addr), DTs (X.blk s H scope (compEnvC scope cl C X.env) fp) ifs tt) (he : ∀ (s : Shared) (H : Hp) (C : Addr) (cl : List (Str × Addr)) (fp : List Addr), DE (X.blk s H scope (compEnvC scope cl C X.env) fp) elt te)
    (hsw : swapsWith (.ListComp elt [⟨tg, iter, ifs, 0⟩] scope pos) (some (.Name y py)) spos.line X.env = pure true) (hy : X.N[i]? = some y := by rfl) (hyl : X.env.scope.names.lookup y = some .local := by rfl) (hs : ∀ x, foldedSetIterable iter X.env x = pure x := by intro _; rfl) :
    DS X (.Assign [.Name y py] (.ListComp elt [⟨tg, iter, ifs, 0⟩] scope pos) spos) (dAsg (dLc it g tt te (own.map (·.2))) (dgName i)) := by
  obtain ⟨wi, pi, ri⟩ := hi.ex
  obtain ⟨gg, pg, rg, og, mg⟩ := hg.ex
  obtain ⟨ee, pe, re⟩ := uni_e he
  obtain ⟨t', pt, rt⟩ := uni_t ht
  exact ⟨_, ps_setLc hc hN hy hyl hsw pi ok pg pt pe hs, refAsg (refLc ri rg og mg rt re) refGName⟩
theorem ds_setLcM (hc : X.calm = true) (hN : X.N.Nodup) (hi : DI X tg iter it) (ok : BlkOk X.N X.env.scope scope own) (hg : DGC X scope tg (own.map (·.2)) g)
    (ht : ∀ (s : Shared) (H : Hp) (C : Addr) (cl : List (Str × Addr)) (fp : List Addr), DTs (X.blk s H scope (compEnvC scope cl C X.env) fp) ifs tt) (he : ∀ (s : Shared) (H : Hp) (C : Addr) (cl : List (Str × Addr)) (fp : List Addr), DE (X.blk s H scope (compEnvC scope cl C X.env) fp) elt te)
    (hsw : swapsWith (.ListComp elt [⟨tg, iter, ifs, 0⟩] scope pos) (some (.Name y py)) spos.line X.env = pure true) (hy : X.N[i]? = some y := by rfl) (hyl : X.env.scope.names.lookup y = some .local := by rfl) (hs : ∀ x, foldedSetIterable iter X.env x = pure x := by intro _; rfl) :
    DS X (.Assign [.Name y py] (.ListComp elt [⟨tg, iter, ifs, 0⟩] scope pos) spos) (dAsg (dLcM it g tt te (own.map (·.2))) (dgName i)) := by
  obtain ⟨wi, pi, ri⟩ := hi.ex
  obtain ⟨gg, pg, rg, og, mg⟩ := hg.ex
  obtain ⟨ee, pe, re⟩ := uni_e he
  obtain ⟨t', pt, rt⟩ := uni_t ht
  exact ⟨_, ps_setLc hc hN hy hyl hsw pi ok pg pt pe hs, refAsg (refLcM ri rg og mg rt re) refGName⟩
end

/-! ### calls of the text's own defs; no repr is under way around them -/
/-- a def keeps its promise sp, wherever nothing is being shown -/
structure FnG (P : Program) (w : World) (K : PySem.W.Frag) (mg : Str → Option Value) (base : Heap) (CX : CXT) (k : Nat) (f : Addr) (fd : FuncData) (ps : List Str) (sp : Sp) : Prop where
  many : ∀ {vs H Q E}, sp vs H Q E → vs.length = ps.length
  goes : ∀ {A : Around} {outer : List Env} {s : Shared} {H : Hp} {args : Args} {us : List Value} {vs : List V} {Q : VK} {E : XK}, A.guards = some [] → Room k A → Env0 P w K mg base A outer s H →
    BindsTo s fd args (ps.zip us) → Vals vs us → sp vs H Q E →
      codeAny (model P w) A (.call (.ref f) args) (CR CX outer P w H s Q E) s
theorem FnG.mono {P : Program} {w : World} {K : PySem.W.Frag} {mg : Str → Option Value} {base : Heap} {CX : CXT} {j k : Nat} {f : Addr} {fd : FuncData} {ps : List Str} {sp : Sp} (G : FnG P w K mg base CX j f fd ps sp) (h : j ≤ k) :
    FnG P w K mg base CX k f fd ps sp := ⟨G.many, fun g r => G.goes g (r.mono h)⟩
section
variable {X : Cx} {CX : CXT} {k : Nat} {f : Addr} {fd : FuncData} {ps : List Str} {sp : Sp} {E : XK} {x : Str} {p pos : Pos} {e : Expr} {es : List Expr} {t : TA}
theorem goG {pins : List (Addr × Obj)} {σ : L2.St} {H : Hp} {s : Shared} {Q : VK} {us : List Value} {vs : List V} (G : FnG X.prog X.w X.K X.mg X.base CX k f fd ps sp)
    (g : X.A.guards = some []) (hr : Room k X.A) (hb : Binds X.K fd ps []) (hx : Passes CX X E) (I : Inv X pins σ H s) (r : Vals vs us) (h : sp vs H Q E) :
    wpAny (model X.prog X.w) X.A (call (.ref f) us) (EP X pins σ Q) X.xe s := by
  have n1 : (us ++ ([] : List Value)).length = ps.length := by rw [List.append_nil, ← r.length, G.many h]
  have bd := hb s us I.kIn n1
  rw [List.append_nil] at bd
  have c := G.goes (args := ⟨us, []⟩) g hr I.env0 bd r h
  refine wpAny_call (codeAny_mono c ?_)
  intro res s' z
  match res, z with
  | .error er, z => exact hx pins σ H s er s' I z
  | .ok (.ret u), z => exact I.after z
  | .ok .next, z => exact z.elim
  | .ok .brk, z => exact z.elim
  | .ok .cont, z => exact z.elim
theorem peG (G : FnG X.prog X.w X.K X.mg X.base CX k f fd ps sp) (g : X.A.guards = some []) (hr : Room k X.A) (hg : Gl X x) (hm : X.mg x = some (.ref f)) (hk : PySem.W.keepIn X.K (.ref f) = true) (hb : Binds X.K fd ps []) (hx : Passes CX X E)
    (ha : PA X (e :: es) t) (hdb : (x == ("__debug__" : Str)) = false) (he : starEach (e :: es) X.env = (false, eval e X.env) :: starEach es X.env) (hpl : (backTo pos (starEach es X.env)).any (·.1) = false) :
    PE X (.Call (.Name x p) (e :: es) [] pos) (fun σ H Q => t σ H fun vs H1 => sp vs H1 Q E) := by
  constructor
  intro pins s σ H Q I h
  apply wpAny_Call_Name_kw
  apply ld_glob I hg hm _ hdb
  apply PySem.W.callWith_K (h₀ := X.base) I.ok.mod.kin hk _ he hpl
  refine thn (ha.run pos pins s σ H _ I h) ?_
  rintro us s1 ⟨vs, H1, I1, r, q⟩
  exact ⟨I1.kIn, goG G g hr hb hx I1 r q⟩
theorem peG0 (G : FnG X.prog X.w X.K X.mg X.base CX k f fd ps sp) (g : X.A.guards = some []) (hr : Room k X.A) (hg : Gl X x) (hm : X.mg x = some (.ref f)) (hk : PySem.W.keepIn X.K (.ref f) = true) (hb : Binds X.K fd ps []) (hx : Passes CX X E)
    (hdb : (x == ("__debug__" : Str)) = false) : PE X (.Call (.Name x p) [] [] pos) (fun σ H Q => sp [] H Q E) := by
  constructor
  intro pins s σ H Q I h
  apply wpAny_Call_Name_kw
  apply ld_glob I hg hm _ hdb
  exact PySem.W.callWith_K0 I.kIn hk (goG G g hr hb hx I .nil h)
end
section
variable {P : Program} {w : World} {K : PySem.W.Frag} {mg : Str → Option Value} {base : Heap} {CX : CXT}
/-- a def's promise by its body -/
theorem fnG_of {k : Nat} {f : Addr} {name qual : Str} {params : Arguments} {body : List Stmt} {scope : Scope} {dV kV doc pm cdv ct oc : Value} {an od : Option Addr} {osl : Array (Option Value)} {N ps : List Str} {sp : Sp}
    (lk : K.lookup f = some ⟨oc, od, .func (PySem.W.fnOf name qual params body scope dV kV doc pm an cdv ct), osl⟩) (hcd : PySem.W.codeIn K cdv qual = true) (S : FnScope N ps scope) (many : ∀ {vs H Q E}, sp vs H Q E → vs.length = ps.length)
    (hbody : ∀ (A : Around) (outer : List Env) (s : Shared) (H : Hp) (vs : List V) (Q : VK) (E : XK), (A.deeper (envOfC qual scope s.heap.objs.size f cdv)).guards = some [] → Room k (A.deeper (envOfC qual scope s.heap.objs.size f cdv)) → sp vs H Q E →
      ∃ t, PSs (cxOf CX P w K mg base N qual scope f cdv A outer s H E) body t ∧ t { nx := fun _ H' => Q .non H', rt := Q } (start N vs) H) :
    FnG P w K mg base CX (k + 1) f (PySem.W.fnOf name qual params body scope dV kV doc pm an cdv ct) ps sp := by
  refine ⟨many, ?_⟩
  intro A outer s H args us vs Q E hgd hr e0 hb r hsp
  have hl := many hsp
  have kept : ∀ b o, base.get? b = some o → s.heap.get? b = some o := fun b o z => (e0.bs b o z).1
  have KX := e0.mod.kin.keeps kept
  have lim := e0.mod.nolimit.keeps kept
  have hkind : ∀ y ∈ ps.zip us, scope.names.lookup y.1 = some .local ∨ (scope.names.lookup y.1 = some .cell ∧ ((cellsFrom (s.heap.objs.size + 1) scope.names []).lookup y.1).isSome = true) := by
    rintro ⟨n, v⟩ hy
    have q := S.par n (List.of_mem_zip hy).1
    cases q with
    | inl q => exact .inl q
    | inr q => exact .inr ⟨q, PySem.W.cellsFrom_some _ _ _ (.inl q)⟩
  apply codeAny_call_function hr.depth (KX _ _ lk) rfl S.co S.gen rfl (PySem.W.codeRec_of KX hcd)
  refine hb _ _ _ _ (wpAny_newFunctionEnv_cells S.kind hkind ?_)
  intro env he s1 x
  subst he
  constructor
  · exact lim.keeps x.toInCall.keep
  apply codeAny_func
  obtain ⟨t, ht, hq⟩ := hbody A outer s H vs Q E hgd (hr.deeper _) hsp
  have I : Inv (cxOf CX P w K mg base N qual scope f cdv A outer s H E) [] (start N vs) H s1 := inv_start S hr.hd e0 hl r x
  refine wpAny_mono (ht.run [] s1 _ H _ I hq) ?_ (fun _ _ z => z)
  intro fl s' hs
  match fl, hs with
  | .ret u, ⟨v, σ', H', J, rv, q⟩ => exact ⟨v, H', J.os, J.bare, J.base, J.hok, rv, q⟩
  | .next, ⟨σ', H', J, q⟩ => exact ⟨V.non, H', J.os, J.bare, J.base, J.hok, rfl, q⟩
  | .brk, ⟨_, _, _, q⟩ => exact q.elim
  | .cont, ⟨_, _, _, q⟩ => exact q.elim
theorem funG {x qual : Str} {st : Stmt} {f : Addr} {fd : FuncData} {N ps : List Str} {k : Nat} {sp : Sp} (F : Fun K x qual st f fd) (S : FnScope N ps (defScope st)) (many : ∀ {vs H Q E}, sp vs H Q E → vs.length = ps.length)
    (hbody : ∀ (cdv : Value) (A : Around) (outer : List Env) (s : Shared) (H : Hp) (vs : List V) (Q : VK) (E : XK), (A.deeper (envOfC qual (defScope st) s.heap.objs.size f cdv)).guards = some [] → Room k (A.deeper (envOfC qual (defScope st) s.heap.objs.size f cdv)) → sp vs H Q E →
      ∃ t, PSs (cxOf CX P w K mg base N qual (defScope st) f cdv A outer s H E) (defBody st) t ∧ t { nx := fun _ H' => Q .non H', rt := Q } (start N vs) H) : FnG P w K mg base CX (k + 1) f fd ps sp := by
  obtain ⟨oc, od, kV, doc, pm, an, cdv, ct, osl, e, lk, hcd⟩ := F.ex
  subst e
  exact fnG_of lk hcd S many fun A outer s H vs Q E g hr hsp => hbody cdv A outer s H vs Q E g hr hsp
end

/-- a def's promise over trees -/
abbrev DSp := List D → Sto → DK → Prop
def spD (K : PySem.W.Frag) (dsp : DSp) : Sp := fun vs H Q _ => ∃ (F : Hp) (M : Sto) (ds : List D) (Qd : DK), Rst0 K F H M ∧ RelDs K F vs ds ∧ dsp ds M Qd ∧
  ∀ v F' H' d M', Stp F H M F' H' M' → Rst0 K F' H' M' → RelD K F' v d → Qd d M' → Q v H'
/-- a def of the text keeps its promise over trees; its names: where it stands -/
structure DFn (P : Program) (w : World) (K : PySem.W.Frag) (mg : Str → Option Value) (base : Heap) (k : Nat) (x : Str) (ps : List Str) (dsp : DSp) : Prop where
  ex : ∃ f fd, FnG P w K mg base CX0 k f fd ps (spD K dsp) ∧ mg x = some (.ref f) ∧ PySem.W.keepIn K (.ref f) = true ∧ Binds K fd ps []
theorem DFn.mono {P : Program} {w : World} {K : PySem.W.Frag} {mg : Str → Option Value} {base : Heap} {j k : Nat} {x : Str} {ps : List Str} {dsp : DSp} (G : DFn P w K mg base j x ps dsp) (h : j ≤ k) : DFn P w K mg base k x ps dsp := by
  obtain ⟨f, fd, g, r⟩ := G.ex
  exact ⟨f, fd, g.mono h, r⟩
@[simp] def dCall (dsp : DSp) (t : DTA) : DTE := fun τ M Q => t τ M fun ds M1 => dsp ds M1 Q
section
variable {X : Cx} {k : Nat} {ps : List Str} {dsp : DSp} {x : Str} {p pos : Pos} {e : Expr} {es : List Expr} {t : DTA}
theorem de_call (G : DFn X.prog X.w X.K X.mg X.base k x ps dsp) (g : X.A.guards = some []) (hr : Room k X.A) (ha : DA X (e :: es) t) (hg : Gl X x := by rfl)
    (hdb : (x == ("__debug__" : Str)) = false := by decide) (he : starEach (e :: es) X.env = (false, eval e X.env) :: starEach es X.env := by rfl) (hpl : (backTo pos (starEach es X.env)).any (·.1) = false := by rfl) :
    DE X (.Call (.Name x p) (e :: es) [] pos) (dCall dsp t) := by
  obtain ⟨u, pu, ru⟩ := ha.ex
  obtain ⟨f, fd, G, hm, hk, hb⟩ := G.ex
  refine ⟨_, peG G g hr hg hm hk hb pass0 pu hdb he hpl, fun F H σ τ M Qd Q R q k => ?_⟩
  refine ru F H σ τ M _ _ R q fun vs F1 H1 ds M1 e1 R1 r1 q1 => ?_
  exact ⟨F1, M1, ds, Qd, R1.heap, r1, q1, fun v F2 H2 d M2 e2 R2 r2 q2 => k v F2 H2 d M2 (e1.trans e2) (R1.mono e2.ext R2) r2 q2⟩
theorem de_call0 (G : DFn X.prog X.w X.K X.mg X.base k x ps dsp) (g : X.A.guards = some []) (hr : Room k X.A) (hg : Gl X x := by rfl)
    (hdb : (x == ("__debug__" : Str)) = false := by decide) : DE X (.Call (.Name x p) [] [] pos) (dCall dsp dNil) := by
  obtain ⟨f, fd, G, hm, hk, hb⟩ := G.ex
  refine ⟨_, peG0 G g hr hg hm hk hb pass0 hdb, fun F H σ τ M Qd Q R q k => ?_⟩
  exact ⟨F, M, [], Qd, R.heap, .nil, q, fun v F2 H2 d M2 e2 R2 r2 q2 => k v F2 H2 d M2 e2 (R.mono e2.ext R2) r2 q2⟩
end
/-- the names' values at the entry -/
def dstart (n : Nat) (ds : List D) : DSt := ds.map some ++ List.replicate (n - ds.length) none
theorem rel_start {K : PySem.W.Frag} {F : Hp} {N : List Str} {vs : List V} {ds : List D} (r : RelDs K F vs ds) : RelSl K F (L2.start N vs) (dstart N.length ds) := by
  refine ⟨by unfold L2.start dstart; simp [r.length], fun i d h => ?_⟩
  unfold dstart at h
  by_cases hi : i < ds.length
  · rw [List.getElem?_append_left (by simpa using hi), List.getElem?_map] at h
    cases q : ds[i]? with
    | none => rw [q] at h; cases h
    | some d' =>
      rw [q] at h
      cases h
      obtain ⟨v, h1, h2⟩ := r.get q
      refine ⟨v, ?_, h2⟩
      unfold L2.start
      rw [List.getElem?_append_left (by simpa [r.length] using hi), List.getElem?_map, h1]
      rfl
  · rw [List.getElem?_append_right (by simpa using hi), List.getElem?_replicate] at h
    split at h <;> cases h
section
variable {P : Program} {w : World} {K : PySem.W.Frag} {mg : Str → Option Value} {base : Heap}
/-- THE RULE: a def keeps its promise over trees -/
theorem fn_ok {x qual : Str} {st : Stmt} {f : Addr} {fd : FuncData} {N ps : List Str} {k : Nat} {dsp : DSp} (F : Fun K x qual st f fd) (S : FnScope N ps (defScope st)) (hm : mg x = some (.ref f)) (hb : Binds K fd ps []) (len : ∀ ds M Q, dsp ds M Q → ds.length = ps.length)
    (hbody : ∀ (cdv : Value) (A : Around) (outer : List Env) (s : Shared) (H : Hp) (E : XK), (A.deeper (envOfC qual (defScope st) s.heap.objs.size f cdv)).guards = some [] → Room k (A.deeper (envOfC qual (defScope st) s.heap.objs.size f cdv)) →
      ∃ t, DSs (cxOf CX0 P w K mg base N qual (defScope st) f cdv A outer s H E).nox (defBody st) t ∧ ∀ ds M Q, dsp ds M Q → t { nx := fun _ M' => ∃ M2, M2.le M' ∧ Q .non M2, rt := fun d M' => ∃ M2, M2.le M' ∧ Q d M2 } (dstart N.length ds) M) :
    DFn P w K mg base (k + 1) x ps dsp := by
  refine ⟨f, fd, funG F S (fun h => ?_) (fun cdv A outer s H vs Q E hgd hr h => ?_), hm, F.kp, hb⟩
  · obtain ⟨F0, M, ds, Qd, _, r, q, _⟩ := h
    rw [r.length]; exact len _ _ _ q
  · obtain ⟨F0, M, ds, Qd, R, r, q, kk⟩ := h
    obtain ⟨t, ht, hq⟩ := hbody cdv A outer s H E hgd hr
    obtain ⟨ts, pt, rt⟩ := ht.ex
    refine ⟨ts, pt.nox, rt F0 H _ _ M _ _ ⟨R, rel_start r⟩ (hq ds M Qd q) ⟨fun F' H' σ' τ' M' e' R' z => ?_, fun F' H' σ' τ' M' e' R' z => z.elim, fun F' H' σ' τ' M' e' R' z => z.elim, fun v F' H' d M' e' R' rd z => ?_, fun F' H' σ' τ' M' C d fs e' R' rx z => z.elim⟩⟩
    · obtain ⟨M2, l, z⟩ := z
      exact kk .non F' H' .non M2 (e'.less l) (R'.heap.less l) .non z
    · obtain ⟨M2, l, z⟩ := z
      exact kk v F' H' d M2 (e'.less l) (R'.less l) rd z
end

/-! ### the law itself, called from outside -/
/-- where the law is called nothing is tracked but the script -/
theorem law_start {P : Program} {w : World} {K : PySem.W.Frag} {mg mb : Str → Option Value} {k : Nat} {a : Addr} {s : Shared} {vs : List Value} {ns : List Int} {H : Hp} {fa : Addr} {fd : FuncData} {x : Str} {sp : Sp}
    (KX : K.In s.heap) (hns : s.heap.Ns mainGlobals mg) (hb : s.heap.Ns builtinsNs mb) (hbb : ∀ y : Str, y ≠ "__name__" → mb y = bootBuiltins y) (hlim : s.heap.NoLimit) (hgens : s.gens = #[])
    (ha : s.heap.get? a = some { cls := .type "list", data := .seq vs.toArray }) (hr : Room k callerA) (hO : Only H) (hok : HOk P w H s.heap) (hA : ∀ b, H b ≠ none → b = a) (hK : H a ≠ none → K.lookup a = none)
    (G : ∀ base : Heap, K.In base → base.Ns mainGlobals mg → FnG P w K mg base CX0 k fa fd [x] sp) (hbind : ∀ (s : Shared) (u : Value), BindsTo s fd ⟨[u], []⟩ [(x, u)])
    (hsp : sp [.ref a] H (fun v _ => v = .bl true) fun _ _ _ => False) :
    codeAny (model P w) callerA (.call (.ref fa) ⟨[.ref a], []⟩) (fun r s' => r = .ok (.ret (.bool true)) ∧ OldK s.heap s'.heap ∧ s'.os = s.os ∧ AllBare s'.gens) s := by
  have dictFree : ∀ {b : Addr} {o : Obj} {es : Array DictEntry} {ep : Nat}, s.heap.get? b = some o → o.data = .dict es ep → H b = none := by
    intro b o es ep e d
    apply Classical.byContradiction
    intro n
    have z := hA b n
    subst z
    rw [ha] at e
    cases e
    cases d
  have low : ∀ {b : Addr} {o : Obj}, s.heap.get? b = some o → H b = none → (hidT s.heap H).get? b = some o := fun e n => hidT_get e n
  have ns2 : ∀ {b : Addr} {m : Str → Option Value}, s.heap.Ns b m → (hidT s.heap H).Ns b m := by
    rintro b m ⟨o, es, ep, e, d, r⟩
    exact ⟨o, es, ep, low e (dictFree e d), d, r⟩
  have kin : K.In (hidT s.heap H) := by
    intro b o e
    apply low (KX b o e)
    apply Classical.byContradiction
    intro n
    have z := hA b n
    subst z
    rw [hK n] at e
    cases e
  obtain ⟨mc, l1, l2⟩ := hlim
  have md : Mod K mg (hidT s.heap H) := ⟨kin, ns2 hns, ⟨mb, ns2 hb, hbb⟩, ⟨mc, ns2 l1, l2⟩⟩
  have e0 : Env0 P w K mg (hidT s.heap H) callerA [] s H := by
    refine ⟨rfl, md, ?_, ?_, trivial, ?_, hok, .of_eq hgens⟩
    · intro b o e; exact of_hidT e
    · rw [hidT_size]; exact Nat.le_refl _
    · intro b z; cases z
  have run := (G _ kin (ns2 hns)).goes (args := ⟨[.ref a], []⟩) (us := [.ref a]) rfl hr e0 (vs := [V.ref a]) (hbind s (.ref a)) (Paired.cons (show RelV (V.ref a) (Value.ref a) from rfl) .nil) hsp
  refine codeAny_mono run ?_
  intro r s' h
  match r, h with
  | .error e, h => exact h.elim
  | .ok .next, h => exact h.elim
  | .ok .brk, h => exact h.elim
  | .ok .cont, h => exact h.elim
  | .ok (.ret u), ⟨v, H', os, bare, un, hok', r', q⟩ =>
    subst q
    cases r'
    refine ⟨rfl, OldK.of_keep ?_, os, bare⟩
    intro b o e
    rcases hO b with z | ⟨ob, xs, z⟩
    · exact un.keep b o e z (fun y => nomatch y) (fun y => nomatch y)
    · have z2 := un.frzs b ob _ z
      have y1 : s.heap.get? b = some ob := (hok b _ z).1
      have y2 : s'.heap.get? b = some ob := (hok' b _ z2).1
      rw [e] at y1
      rw [y2, y1]
theorem law_goes {P : Program} {w : World} {K : PySem.W.Frag} {mg mb : Str → Option Value} {k : Nat} {fa a : Addr} {fd : FuncData} {x : Str} {sp : Sp} {s : Shared} {vs : List Value} {ns : List Int}
    (KX : K.In s.heap) (hns : s.heap.Ns mainGlobals mg) (hb : s.heap.Ns builtinsNs mb) (hbb : ∀ y : Str, y ≠ "__name__" → mb y = bootBuiltins y) (hlim : s.heap.NoLimit) (hgens : s.gens = #[])
    (ha : s.heap.get? a = some { cls := .type "list", data := .seq vs.toArray }) (hi : IntsAre vs ns) (hl : ns.length ≤ sizeLine) (hr : Room k callerA)
    (G : ∀ base : Heap, K.In base → base.Ns mainGlobals mg → FnG P w K mg base CX0 k fa fd [x] sp) (hbind : ∀ (s : Shared) (u : Value), BindsTo s fd ⟨[u], []⟩ [(x, u)])
    (hsp : ∀ H : Hp, Only H → SqL K H a (ns.map V.int) → sp [.ref a] H (fun v _ => v = .bl true) fun _ _ _ => False) :
    codeAny (model P w) callerA (.call (.ref fa) ⟨[.ref a], []⟩) (fun r s' => r = .ok (.ret (.bool true)) ∧ OldK s.heap s'.heap ∧ s'.os = s.os ∧ AllBare s'.gens) s := by
  have rv := vals_ints hi
  have n1 : vs.length = ns.length := hi.length
  cases hk : K.lookup a with
  | some o =>
    have e := KX a o hk
    rw [ha] at e
    cases e
    have hS : SqL K (fun _ => none) a (ns.map V.int) := by
      refine .inr ⟨_, vs.toArray, _, hk, rfl, rfl, rfl, ?_, ?_⟩
      · rw [List.size_toArray, n1]; exact hl
      · simpa using rv
    refine law_start (ns := ns) KX hns hb hbb hlim hgens ha hr (H := fun _ => none) (fun _ => .inl rfl) ?_ ?_ ?_ G hbind (hsp _ (fun _ => .inl rfl) hS)
    · intro b u z; cases z
    · intro b z; exact absurd rfl z
    · intro z; exact absurd rfl z
  | none =>
    let HS : Hp := upd (fun _ => none) a (.frz { cls := .type "list", data := .seq vs.toArray } (.lst (ns.map V.int)))
    have at_a : HS a = some (.frz { cls := .type "list", data := .seq vs.toArray } (.lst (ns.map V.int))) := upd_same
    have off : ∀ b, b ≠ a → HS b = none := fun b n => upd_ne n
    have only : Only HS := by
      intro b
      by_cases z : b = a
      · subst z; exact .inr ⟨_, _, at_a⟩
      · exact .inl (off b z)
    refine law_start (ns := ns) KX hns hb hbb hlim hgens ha hr (H := HS) only ?_ ?_ (fun _ => hk) G hbind (hsp _ only (.inl (.inr ⟨_, at_a⟩)))
    · intro b u z
      by_cases y : b = a
      · subst y
        rw [at_a] at z
        cases z
        exact ⟨ha, by rw [List.length_map]; exact hl, vs, _, rv, ha⟩
      · rw [off b y] at z; cases z
    · intro b z
      apply Classical.byContradiction
      intro y
      exact z (off b y)
/-- the goal behind the head, from the law's promise over trees -/
theorem walkG {l : PySem.W.OpenLaw} {n k : Nat} {q : Program} {loose : List Str} {XP : (Str → Option Value) → Heap → Prop} {YP : World → Heap → Prop} {d : DefRec} {K : Params → PySem.W.Frag} {dsp : DSp} {x : Str}
    (hn : l.most = some n) (hn2 : n ≤ sizeLine) (hdf : d.params.defaults = []) (hr : Room k callerA)
    (hY : ∀ (w : World) (h : Heap), YP w h → (K w.params).In h)
    (G : ∀ (w : World) (mg : Str → Option Value) (fa : Addr) (h : Heap), (K w.params).In h → h.Ns mainGlobals mg → mg d.name = some (.ref fa) →
      ∃ fd : FuncData, (∀ (s : Shared) (u : Value), BindsTo s fd ⟨[u], []⟩ [(x, u)]) ∧
        ∀ base : Heap, (K w.params).In base → base.Ns mainGlobals mg → FnG l.prog w (K w.params) mg base CX0 k fa fd [x] (spD (K w.params) dsp))
    (hsp : ∀ ns : List Int, ns.length ≤ n → dsp [.rol (ns.map D.int)] (fun _ => none) (fun d _ => d = .bl true)) :
    PySem.W.WalkO q loose XP YP l.row.toRowW d [] (fun f vs => PySem.call f vs) := by
  apply Att.attach_call hn hdf
  intro w s₀ s₁ mg mb fa o pm cd doc a vs ns Gf Y ho hd hcd hmg hobj hints hlen hg
  have KX := hY w _ Y
  obtain ⟨fd, hb, hF⟩ := G w mg fa _ KX Gf.T.g hmg
  apply law_goes KX Gf.T.g Gf.T.b Gf.T.builtins Gf.T.nolimit hg hobj hints (Nat.le_trans hlen hn2) hr hF hb
  intro H hO hS
  have allInts : ∀ ns : List Int, RelDs (K w.params) H (ns.map V.int) (ns.map D.int) := by
    intro ns
    induction ns with
    | nil => exact .nil
    | cons i r ih => exact .cons (.int i) ih
  refine ⟨H, fun _ => none, [.rol (ns.map D.int)], fun d _ => d = .bl true, ⟨Ext.refl H, fun b u z => nomatch z⟩, .cons (.rol hS (allInts ns)) .nil, hsp ns hlen, ?_⟩
  intro v F' H' d M' _ _ rd e
  subst e
  cases rd
  rfl
end DL

/-! DO: operators, subscripts, slices, built-in calls over trees. -/
namespace DL
open PySem PySem.Spec PyProof.Rows L2

/-! ### data -/
mutual
def toPy : D → Option PyData
  | .non => some .none
  | .bl b => some (.bool b)
  | .int i => some (.int i)
  | .str s => some (.str s)
  | .tup xs => (toPys xs).map .tuple
  | .lst xs => (toPys xs).map .list
  | .dct kvs => (toPyKv kvs).map .dict
  | .dc1 k v => match toPy k, toPy v with
    | some p, some q => some (.dict [(p, q)])
    | _, _ => none
  | _ => none
def toPys : List D → Option (List PyData)
  | [] => some []
  | x :: xs => match toPy x, toPys xs with
    | some p, some ps => some (p :: ps)
    | _, _ => none
def toPyKv : List (Key × D) → Option (List (PyData × PyData))
  | [] => some []
  | (k, x) :: xs => match toPy x, toPyKv xs with
    | some p, some ps => some ((match k with | .inl i => PyData.int i | .inr s => PyData.str s, p) :: ps)
    | _, _ => none
end
mutual
/-- no list within -/
def noLst : D → Bool
  | .tup xs => noLsts xs
  | .lst _ => false
  | .dct kvs => noLstKv kvs
  | .dc1 k v => noLst k && noLst v
  | _ => true
def noLsts : List D → Bool
  | [] => true
  | x :: xs => noLst x && noLsts xs
def noLstKv : List (Key × D) → Bool
  | [] => true
  | (_, x) :: xs => noLst x && noLstKv xs
end
section
variable {X : Cx} {pins : List (Addr × Obj)} {σ : L2.St} {H F : Hp} {s : Shared}
theorem reads_keys {P : Program} {w : World} {h : Heap} : ∀ {es : List DictEntry} {kvs : List (Key × Value)}, Pairs (mixKind P w) es kvs → ReadsAll h (es.map (·.key)) (kvs.map fun kv => match kv.1 with | .inl i => PyData.int i | .inr x => PyData.str x) []
  | _, _, .nil => .nil
  | _, _, .cons (e := e0) (kv := (k, v)) h1 h2 r => by
    have z := reads_keys (h := h) r
    cases k with
    | inl i =>
      have h3 : keyIs (Sum.inl i) e0.key = true := h1
      rcases keyIs_shape h3 with ⟨j, t, e1, e2⟩ | ⟨x, t, e1, e2⟩
      · cases e1
        rw [List.map_cons, e2]
        exact ReadsAll.cons (as := []) (.int _ _) z
      · cases e1
    | inr x =>
      have h3 : keyIs (Sum.inr x) e0.key = true := h1
      rcases keyIs_shape h3 with ⟨j, t, e1, e2⟩ | ⟨y, t, e1, e2⟩
      · cases e1
      · cases e1
        rw [List.map_cons, e2]
        exact ReadsAll.cons (as := []) (.str _ _) z
theorem keys_py : ∀ {kvs : List (Key × D)} {ps : List (PyData × PyData)}, toPyKv kvs = some ps → ps.map (·.1) = kvs.map fun kv => match kv.1 with | .inl i => PyData.int i | .inr x => PyData.str x
  | [], _, h => by cases h; rfl
  | (k, x) :: r, _, h => by
    unfold toPyKv at h
    split at h
    · rename_i p ps hp hps
      cases h
      simp only [List.map_cons, keys_py hps]
    · cases h
/-- where sys.modules stands there is no list -/
def NoLstAt (X : Cx) (s : Shared) (H : Hp) : Prop := H sysModules = none
theorem noLst_at (I : Inv X pins σ H s) (h : ∃ o, X.base.get? sysModules = some o) : NoLstAt X s H := let ⟨o, e⟩ := h; (I.bs _ o e).2
mutual
/-- a tree of data is read off the heap; where it has no list within, no address but those of dicts is met -/
theorem reads_of (I : Inv X pins σ H s) (e : Ext F H) : ∀ (d : D) (p : PyData) (v : V) (u : Value), toPy d = some p → RelD X.K F v d → RelV v u → ∃ as, Reads s.heap u p as ∧ ((noLst d = true ∨ NoLstAt X s H) → sysModules ∉ as)
  | .non, p, v, u, h, r, q => by cases h; cases r; cases q; exact ⟨_, .none, fun _ => by simp⟩
  | .bl b, p, v, u, h, r, q => by cases h; cases r; cases q; exact ⟨_, .bool b, fun _ => by simp⟩
  | .int i, p, v, u, h, r, q => by cases h; cases r; obtain ⟨t, rfl⟩ := q; exact ⟨_, .int i t, fun _ => by simp⟩
  | .str x, p, v, u, h, r, q => by cases h; cases r; obtain ⟨t, rfl⟩ := q; exact ⟨_, .str x t, fun _ => by simp⟩
  | .tup xs, p, v, u, h, r, q => by
    unfold toPy at h
    cases hp : toPys xs with
    | none => rw [hp] at h; cases h
    | some ps =>
      rw [hp] at h
      cases h
      cases r with
      | tup hs rs =>
        cases q
        obtain ⟨its, rv, ⟨o, ho, hc, n, hd⟩, _⟩ := I.tuple (e.sqT hs)
        obtain ⟨as, ra, hn⟩ := readsAll_of I e xs ps _ its hp rs rv
        exact ⟨as, .tuple ho hc hd ra, fun z => hn (z.imp_left fun z => by simpa [noLst] using z)⟩
  | .lst xs, p, v, u, h, r, q => by
    unfold toPy at h
    cases hp : toPys xs with
    | none => rw [hp] at h; cases h
    | some ps =>
      rw [hp] at h
      cases h
      cases r with
      | lst hs rs =>
        cases q
        obtain ⟨its, rv, ⟨o, n, ho, hc, _, hd⟩, _⟩ := I.list (SqL.of (e _ _ hs))
        obtain ⟨as, ra, hn⟩ := readsAll_of I e xs ps _ its hp rs rv
        exact ⟨_, .list ho hc hd ra, fun z => by
          rcases z with z | z
          · simp [noLst] at z
          · simp only [List.mem_cons, not_or]
            refine ⟨fun y => ?_, hn (.inr z)⟩
            have z1 : H sysModules = none := z
            rw [y, e _ _ hs] at z1
            cases z1⟩
  | .dct kvs, p, v, u, h, r, q => by
    unfold toPy at h
    cases hp : toPyKv kvs with
    | none => rw [hp] at h; cases h
    | some ps =>
      rw [hp] at h
      cases h
      cases r with
      | @dct a ws _ hs rs =>
        cases q
        obtain ⟨z1, z2, vs, rel, o, es, ep, ho, hx, hd, hk, pr, nd⟩ := (show ObjOk X.prog X.w H s.heap a (.dK ws) from (e.rd hs).elim (fun z => I.hok _ _ z) fun ⟨_, z⟩ => (I.hok _ _ z).2)
        have hkeys : vs.map (·.1) = kvs.map (·.1) := by
          have g1 : ∀ {a : List (Key × V)} {b : List (Key × Value)}, KV a b → b.map (·.1) = a.map (·.1) := by
            intro a b r
            induction r with
            | nil => rfl
            | cons h _ ih => simp only [List.map_cons, ih, h.1]
          have g2 : ∀ {a : List (Key × V)} {b : List (Key × D)}, RelKv X.K F a b → a.map (·.1) = b.map (·.1) := by
            intro a
            induction a with
            | nil => intro b r; cases r; rfl
            | cons x xs ih => intro b r; cases r with
              | cons h1 h2 => simp only [List.map_cons, ih h2]
          rw [g1 rel, g2 rs]
        have hvals : ∀ {a : List (Key × V)} {b : List (Key × Value)}, KV a b → Vals (a.map (·.2)) (b.map (·.2)) := by
          intro a b r
          induction r with
          | nil => exact .nil
          | cons h _ ih => exact .cons h.2 ih
        have pv : ∀ {es : List DictEntry} {vs : List (Key × Value)}, Pairs (mixKind X.prog X.w) es vs → es.map (·.val) = vs.map (·.2) := by
          intro es vs r
          induction r with
          | nil => rfl
          | cons h1 h2 _ ih => simp only [List.map_cons, ih, h2]
        obtain ⟨bs, rb, hn⟩ := readsKv_of I e kvs ps ws (vs.map (·.2)) hp rs (hvals rel)
        have rk := reads_keys (h := s.heap) pr
        have ek : (vs.map fun kv => match kv.1 with | .inl i => PyData.int i | .inr x => PyData.str x) = ps.map (·.1) := by
          rw [keys_py hp]
          have : ∀ {a : List (Key × Value)} {b : List (Key × D)}, a.map (·.1) = b.map (·.1) → (a.map fun kv => match kv.1 with | .inl i => PyData.int i | .inr x => PyData.str x) = b.map fun kv => match kv.1 with | .inl i => PyData.int i | .inr x => PyData.str x := by
            intro a
            induction a with
            | nil => intro b z; cases b with
              | nil => rfl
              | cons _ _ => cases z
            | cons x xs ih => intro b z; cases b with
              | nil => cases z
              | cons y ys =>
                simp only [List.map_cons, List.cons.injEq] at z
                simp only [List.map_cons, ih z.2, z.1]
          exact this hkeys
        rw [ek] at rk
        refine ⟨a :: [] ++ bs, Reads.dict ho hx.1 hd rk (by rw [pv pr]; exact rb), fun z => ?_⟩
        have z2' : a ≠ sysModules := by simpa using z2
        have := hn (z.imp_left fun z => by simpa [noLst] using z)
        simp only [List.cons_append, List.nil_append, List.mem_cons, not_or]
        exact ⟨fun y => z2' y.symm, this⟩
  | .dc1 k v, p, x, u, h, r, q => by
    unfold toPy at h
    split at h
    · rename_i pk pv hk hv
      cases h
      cases r with
      | dc1 hs r1 r2 =>
        cases q
        obtain ⟨⟨z1, z2, vs, rel, o, es, ep, ho, hx, hd, he, nd⟩, _, _⟩ := I.hok _ _ (e _ _ hs)
        cases rel with
        | @cons _ y _ ys hp0 rt =>
        cases rt
        obtain ⟨h1, h2, h3⟩ := hp0
        obtain ⟨as, ra, hna⟩ := reads_of I e k pk _ _ hk r1 h2
        obtain ⟨bs, rb, hnb⟩ := reads_of I e v pv _ _ hv r2 h3
        have ek : es.toList.map (·.key) = [y.2.1] := by rw [he]; rfl
        have ev : es.toList.map (·.val) = [y.2.2] := by rw [he]; rfl
        refine ⟨_, Reads.dict ho hx.1 hd (by rw [ek]; exact ReadsAll.cons ra .nil) (by rw [ev]; exact ReadsAll.cons rb .nil), fun z => ?_⟩
        have z2' : _ ≠ sysModules := beq_eq_false_iff_ne.mp z2
        simp only [List.cons_append, List.nil_append, List.append_nil, List.mem_cons, List.mem_append, not_or]
        refine ⟨fun y => z2' y.symm, hna (z.imp_left fun z => ?_), hnb (z.imp_left fun z => ?_)⟩
        · simp only [noLst, Bool.and_eq_true] at z; exact z.1
        · simp only [noLst, Bool.and_eq_true] at z; exact z.2
    · cases h
  | .ref _, _, _, _, h, _, _ => by cases h
  | .ty _, _, _, _, h, _, _ => by cases h
  | .ins _ _, _, _, _, h, _, _ => by cases h
  | .rol _, _, _, _, h, _, _ => by cases h
  | .ptp _, _, _, _, h, _, _ => by cases h
theorem readsAll_of (I : Inv X pins σ H s) (e : Ext F H) : ∀ (ds : List D) (ps : List PyData) (vs : List V) (us : List Value), toPys ds = some ps → RelDs X.K F vs ds → Vals vs us → ∃ as, ReadsAll s.heap us ps as ∧ ((noLsts ds = true ∨ NoLstAt X s H) → sysModules ∉ as)
  | [], ps, vs, us, h, r, q => by cases h; cases r; cases q; exact ⟨_, .nil, fun _ => by simp⟩
  | d :: ds, ps, vs, us, h, r, q => by
    unfold toPys at h
    split at h
    · rename_i p ps' hp hps
      cases h
      cases r with
      | cons r1 r2 =>
        cases q with
        | cons q1 q2 =>
          obtain ⟨as, ra, ha⟩ := reads_of I e d p _ _ hp r1 q1
          obtain ⟨bs, rb, hb⟩ := readsAll_of I e ds ps' _ _ hps r2 q2
          refine ⟨_, .cons ra rb, fun z => ?_⟩
          simp only [List.mem_append, not_or]
          refine ⟨ha (z.imp_left fun z => ?_), hb (z.imp_left fun z => ?_)⟩
          · simp only [noLsts, Bool.and_eq_true] at z; exact z.1
          · simp only [noLsts, Bool.and_eq_true] at z; exact z.2
    · cases h
theorem readsKv_of (I : Inv X pins σ H s) (e : Ext F H) : ∀ (ds : List (Key × D)) (ps : List (PyData × PyData)) (vs : List (Key × V)) (us : List Value), toPyKv ds = some ps → RelKv X.K F vs ds → Vals (vs.map (·.2)) us → ∃ as, ReadsAll s.heap us (ps.map (·.2)) as ∧ ((noLstKv ds = true ∨ NoLstAt X s H) → sysModules ∉ as)
  | [], ps, vs, us, h, r, q => by cases h; cases r; cases q; exact ⟨_, .nil, fun _ => by simp⟩
  | (k, d) :: ds, ps, vs, us, h, r, q => by
    unfold toPyKv at h
    split at h
    · rename_i p ps' hp hps
      cases h
      cases r with
      | cons r1 r2 =>
        cases q with
        | cons q1 q2 =>
          obtain ⟨as, ra, ha⟩ := reads_of I e d p _ _ hp r1 q1
          obtain ⟨bs, rb, hb⟩ := readsKv_of I e ds ps' _ _ hps r2 q2
          refine ⟨_, .cons ra rb, fun z => ?_⟩
          simp only [List.mem_append, not_or]
          refine ⟨ha (z.imp_left fun z => ?_), hb (z.imp_left fun z => ?_)⟩
          · simp only [noLstKv, Bool.and_eq_true] at z; exact z.1
          · simp only [noLstKv, Bool.and_eq_true] at z; exact z.2
    · cases h
end
end
end DL

/-! DP: operators, comparisons, subscripts, slices over trees. -/
namespace DL
open PySem PySem.Spec PyProof.Rows L2
variable [Wsh]

/-- the items of a list, of a list or a tuple -/
def lstOf (d : D) (M : Sto) : Option (List D) := match d with
  | .lst xs => some xs
  | .ref a => (match M a with
    | some (.lst xs) => some xs
    | _ => none)
  | _ => none
def seqOf (d : D) (M : Sto) : Option (List D) := match d with
  | .tup xs => some xs
  | .ptp xs => some xs
  | d => lstOf d M
section
variable {K : PySem.W.Frag} {F H : Hp} {M : Sto} {v : V} {d : D} {xs : List D}
theorem lst_ok (R : Rst0 K F H M) (r : RelD K F v d) (h : lstOf d M = some xs) : ∃ a vs, v = .ref a ∧ H a = some (.lst vs) ∧ RelDs K F vs xs := by
  cases d <;> first | (simp [lstOf] at h; done) | skip
  · cases h
    cases r with
    | lst h1 h2 => exact ⟨_, _, rfl, R.sub _ _ h1, h2⟩
  · rename_i a
    cases r
    unfold lstOf at h
    dsimp only at h
    split at h
    · rename_i ys e
      cases h
      obtain ⟨_, ho, h1, h2⟩ := R.sto a _ e
      cases ho <;> first | exact False.elim h2 | skip
      exact ⟨_, _, rfl, h1, h2⟩
    · cases h
theorem seq_ok (R : Rst0 K F H M) (r : RelD K F v d) (h : seqOf d M = some xs) : ∃ a vs, v = .ref a ∧ (H a = some (.lst vs) ∨ SqT K H a vs) ∧ RelDs K F vs xs := by
  cases d with
  | tup ys =>
    cases h
    cases r with
    | tup h1 h2 => exact ⟨_, _, rfl, .inr (R.sub.sqT h1), h2⟩
  | ptp ys =>
    cases h
    cases r with
    | ptp h1 _ h2 => exact ⟨_, _, rfl, .inr (.inl (.inr ⟨_, R.sub _ _ h1⟩)), h2⟩
  | _ =>
    obtain ⟨a, vs, e, h1, h2⟩ := lst_ok R r (show lstOf _ M = some xs from h)
    exact ⟨a, vs, e, .inl h1, h2⟩
end

/-! ### + - * % // ** -/
def gAdd : G2 := fun x y M Q => match x, y with
  | .int i, .int j => Q (.int (i + j)) M
  | .str a, .str b => a.length + b.length ≤ sizeLine ∧ Q (.str (a ++ b)) M
  | .tup a, .tup b => a.length + b.length ≤ sizeLine ∧ Q (.tup (a ++ b)) M
  | x, y => match lstOf x M, lstOf y M with
    | some a, some b => a.length + b.length ≤ sizeLine ∧ Q (.lst (a ++ b)) M
    | _, _ => False
@[simp] def gSub : G2 := fun x y M Q => match x, y with
  | .int i, .int j => Q (.int (i - j)) M
  | _, _ => False
def gMul : G2 := fun x y M Q => match x, y with
  | .int i, .int j => CMul i j ∧ Q (.int (i * j)) M
  | .tup a, .int k => (a ≠ [] ∧ 2 ≤ k ∧ k ≤ 1000 ∧ a.length ≤ 1000) ∧ Q (.tup (List.replicate k.toNat a).flatten) M
  | x, .int k => (match lstOf x M with
    | some a => (-(2 ^ 63) ≤ k ∧ k < 2 ^ 63 ∧ a.length * k.toNat ≤ sizeLine) ∧ Q (.lst (List.replicate k.toNat a).flatten) M
    | none => False)
  | _, _ => False
@[simp] def gMod : G2 := fun x y M Q => match x, y with
  | .int i, .int j => 0 < j ∧ Q (.int (i % j)) M
  | _, _ => False
@[simp] def gFdiv : G2 := fun x y M Q => match x, y with
  | .int i, .int j => CDiv i j ∧ Q (.int (i / j)) M
  | _, _ => False
@[simp] def gPow : G2 := fun x y M Q => match x, y with
  | .int i, .int j => CPow i j ∧ Q (.int (i ^ j.toNat)) M
  | _, _ => False
section
variable {X : Cx}
theorem RelDs.rep {K : PySem.W.Frag} {F : Hp} {xs : List V} {ds : List D} (h : RelDs K F xs ds) : ∀ k : Nat, RelDs K F (List.replicate k xs).flatten (List.replicate k ds).flatten
  | 0 => .nil
  | k + 1 => by
    rw [List.replicate_succ, List.replicate_succ, List.flatten_cons, List.flatten_cons]
    exact h.append (RelDs.rep h k)
/-- two ints in, a value out: as the rule of HandS says -/
theorem od_int {f : Value → Value → Sem Value} {C : Int → Int → Prop} {g : Int → Int → V} {h : Int → Int → D} (op : OpR X f (rI C g)) (hr : ∀ F i j, RelD X.K F (g i j) (h i j)) :
    OpD X f (fun x y M Q => match x, y with | .int i, .int j => C i j ∧ Q (h i j) M | _, _ => False) := fun F H M x y d e Qd Q R rx ry q k => by
  cases d <;> first | exact False.elim q | skip
  cases e <;> first | exact False.elim q | skip
  cases rx
  cases ry
  exact ⟨_, op, _, _, rfl, rfl, q.1, k _ F H _ M (Stp.refl F H M) R (hr F _ _) q.2⟩
theorem od_int0 {f : Value → Value → Sem Value} {g : Int → Int → V} {h : Int → Int → D} (op : OpR X f (rI0 g)) (hr : ∀ F i j, RelD X.K F (g i j) (h i j)) :
    OpD X f (fun x y M Q => match x, y with | .int i, .int j => Q (h i j) M | _, _ => False) := fun F H M x y d e Qd Q R rx ry q k => by
  cases d <;> first | exact False.elim q | skip
  cases e <;> first | exact False.elim q | skip
  cases rx
  cases ry
  exact ⟨_, op, _, _, rfl, rfl, k _ F H _ M (Stp.refl F H M) R (hr F _ _) q⟩
theorem od_sub : OpD X (binaryOp .Sub) gSub := od_int0 op_sub fun _ _ _ => .int _
theorem od_mod : OpD X (binaryOp .Mod) gMod := od_int op_mod fun _ _ _ => .int _
theorem od_fdiv : OpD X (binaryOp .FloorDiv) gFdiv := od_int op_fdiv fun _ _ _ => .int _
theorem od_pow : OpD X (binaryOp .Pow) gPow := od_int op_pow fun _ _ _ => .int _
theorem od_add : OpD X (binaryOp .Add) gAdd := fun F H M x y d e Qd Q R rx ry q k => by
  have lists : (∃ a b, lstOf d M = some a ∧ lstOf e M = some b ∧ a.length + b.length ≤ sizeLine ∧ Qd (.lst (a ++ b)) M) → ∃ r, OpR X (binaryOp .Add) r ∧ r x y H Q := by
    rintro ⟨a, b, ha, hb, hz, q⟩
    obtain ⟨p1, v1, rfl, h1, r1⟩ := lst_ok R rx ha
    obtain ⟨p2, v2, rfl, h2, r2⟩ := lst_ok R ry hb
    refine ⟨_, op_cat, p1, p2, v1, v2, rfl, rfl, h1, h2, by rw [r1.length, r2.length]; exact hz, fun p hp => ?_⟩
    obtain ⟨e2, R2⟩ := R.frozen (o := .lst (v1 ++ v2)) hp
    exact k _ _ _ (.lst (a ++ b)) M e2 R2 (.lst upd_same ((r1.append r2).mono e2.ext)) q
  unfold gAdd at q
  split at q
  · cases rx; cases ry
    exact ⟨_, op_add, _, _, rfl, rfl, k _ F H _ M (Stp.refl F H M) R (.int _) q⟩
  · cases rx; cases ry
    exact ⟨_, op_add_str, _, _, rfl, rfl, q.1, k _ F H _ M (Stp.refl F H M) R (.str _) q.2⟩
  · rename_i a b
    obtain ⟨hz, q⟩ := q
    cases id rx with
    | @tup p1 v1 _ h1 r1 =>
      cases id ry with
      | @tup p2 v2 _ h2 r2 =>
        refine ⟨_, op_catA, p1, p2, v1, v2, rfl, rfl, R.sub.sqT h1, R.sub.sqT h2, by rw [r1.length, r2.length]; exact hz, fun n => ?_, fun n m => ?_, fun n m p hp => ?_⟩
        · subst n
          cases r1
          exact k _ F H _ M (Stp.refl F H M) R ry q
        · subst m
          cases r2
          rw [List.append_nil] at q
          exact k _ F H _ M (Stp.refl F H M) R rx q
        · obtain ⟨e2, R2⟩ := R.frozen (o := .tup (v1 ++ v2)) hp
          exact k _ _ _ _ M e2 R2 (.tup (SqT.of upd_same) ((r1.append r2).mono e2.ext)) q
  · split at q
    · rename_i a b ha hb
      exact lists ⟨a, b, ha, hb, q⟩
    · exact q.elim
theorem od_mul : OpD X (binaryOp .Mult) gMul := fun F H M x y d e Qd Q R rx ry q k => by
  unfold gMul at q
  split at q
  · cases rx; cases ry
    exact ⟨_, op_mul, _, _, rfl, rfl, q.1, k _ F H _ M (Stp.refl F H M) R (.int _) q.2⟩
  · rename_i a kk
    cases ry
    obtain ⟨⟨h1, h2, h3, h4⟩, q⟩ := q
    cases rx with
    | @tup p1 v1 _ hs r1 =>
      refine ⟨_, op_repT, p1, kk, v1, rfl, rfl, R.sub.sqT hs, ?_, h2, h3, by rw [r1.length]; exact h4, fun p hp => ?_⟩
      · intro z; subst z; cases r1; exact h1 rfl
      · obtain ⟨e2, R2⟩ := R.frozen (o := .tup (List.replicate kk.toNat v1).flatten) hp
        exact k _ _ _ _ M e2 R2 (.tup (SqT.of upd_same) ((r1.rep kk.toNat).mono e2.ext)) q
  · rename_i kk _ _
    split at q
    · rename_i a ha
      obtain ⟨⟨h1, h2, h3⟩, q⟩ := q
      cases ry
      obtain ⟨p1, v1, rfl, hs, r1⟩ := lst_ok R rx ha
      refine ⟨_, op_rep, p1, kk, v1, rfl, rfl, hs, h1, h2, by rw [r1.length]; exact h3, fun p hp => ?_⟩
      obtain ⟨e2, R2⟩ := R.frozen (o := .lst (List.replicate kk.toNat v1).flatten) hp
      exact k _ _ _ _ M e2 R2 (.lst upd_same ((r1.rep kk.toNat).mono e2.ext)) q
    · exact q.elim
  · exact q.elim
/-- -a -/
@[simp] def dNeg (t : DTE) : DTE := fun τ M Q => t τ M fun d M1 => match d with
  | .int i => Q (.int (-i)) M1
  | _ => False
theorem de_neg {e : Expr} {pos : Pos} {t : DTE} (h : DE X e t) : DE X (.UnaryOp .USub e pos) (dNeg t) := by
  obtain ⟨u, pu, ru⟩ := h.ex
  refine ⟨_, pe_un un_neg pu, fun F H σ τ M Qd Q R q k => ?_⟩
  refine ru F H σ τ M _ _ R q fun v F1 H1 d M1 e1 R1 r1 q1 => ?_
  cases d <;> first | exact False.elim q1 | skip
  cases r1
  exact ⟨_, rfl, k _ F1 H1 _ M1 e1 R1 (.int _) q1⟩

/-! ### comparisons -/
@[simp] def gLt : G2 := fun x y M Q => match x, y with
  | .int i, .int j => Q (.bl (decide (i < j))) M
  | _, _ => False
@[simp] def gLe : G2 := fun x y M Q => match x, y with
  | .int i, .int j => Q (.bl (decide (i ≤ j))) M
  | _, _ => False
@[simp] def gGt : G2 := fun x y M Q => match x, y with
  | .int i, .int j => Q (.bl (decide (j < i))) M
  | _, _ => False
@[simp] def gGe : G2 := fun x y M Q => match x, y with
  | .int i, .int j => Q (.bl (decide (j ≤ i))) M
  | _, _ => False
theorem od_lt : OpD X (compareOp .Lt) gLt := od_int0 op_lt fun _ _ _ => .bl _
theorem od_le : OpD X (compareOp .LtE) gLe := od_int0 op_le fun _ _ _ => .bl _
theorem od_gt : OpD X (compareOp .Gt) gGt := od_int0 op_gt fun _ _ _ => .bl _
theorem od_ge : OpD X (compareOp .GtE) gGe := od_int0 op_ge fun _ _ _ => .bl _
/-- is None, is not None; is, is not of flags -/
def isNon : D → Bool
  | .non => true
  | _ => false
def gIs : G2 := fun x y M Q => match x, y with
  | x, .non => Q (.bl (isNon x)) M
  | .bl a, .bl b => Q (.bl (decide (a = b))) M
  | _, _ => False
def gIsNot : G2 := fun x y M Q => match x, y with
  | x, .non => Q (.bl (!isNon x)) M
  | .bl a, .bl b => Q (.bl (!decide (a = b))) M
  | _, _ => False
theorem isNon_ok {K : PySem.W.Frag} {F : Hp} {v : V} {d : D} (r : RelD K F v d) : decide (v = .non) = isNon d := by
  cases r <;> simp [isNon]
theorem od_is : OpD X (compareOp .Is) gIs := fun F H M x y d e Qd Q R rx ry q k => by
  unfold gIs at q
  split at q
  · cases ry
    exact ⟨_, op_isN, rfl, by rw [isNon_ok rx]; exact k _ F H _ M (Stp.refl F H M) R (.bl _) q⟩
  · cases rx; cases ry
    exact ⟨_, op_isBl, _, _, rfl, rfl, k _ F H _ M (Stp.refl F H M) R (.bl _) q⟩
  · exact q.elim
theorem od_isNot : OpD X (compareOp .IsNot) gIsNot := fun F H M x y d e Qd Q R rx ry q k => by
  unfold gIsNot at q
  split at q
  · cases ry
    exact ⟨_, op_notN, rfl, by rw [isNon_ok rx]; exact k _ F H _ M (Stp.refl F H M) R (.bl _) q⟩
  · cases rx; cases ry
    exact ⟨_, op_notBl, _, _, rfl, rfl, k _ F H _ M (Stp.refl F H M) R (.bl _) q⟩
  · exact q.elim
/-! == of data -/
def eqData (n : Nat) (x y : D) (k : Bool → Prop) : Prop := ∃ p q, toPy x = some p ∧ toPy y = some q ∧ p.canLay0 = true ∧ q.canLay0 = true ∧ min p.depth q.depth ≤ n ∧ k (PyData.eqv p q)
def gEq (n : Nat) : G2 := fun x y M Q => match x, y with
  | .str a, .str b => Q (.bl (decide (a = b))) M
  | .int a, .int b => Q (.bl (decide (a = b))) M
  | .bl a, .bl b => Q (.bl (decide (a = b))) M
  | .non, .str _ => Q (.bl false) M
  | .str _, .non => Q (.bl false) M
  | .int _, .str _ => Q (.bl false) M
  | .str _, .int _ => Q (.bl false) M
  | .bl _, .str _ => Q (.bl false) M
  | .str _, .bl _ => Q (.bl false) M
  | x, y => eqData n x y fun b => Q (.bl b) M
def gNe (n : Nat) : G2 := fun x y M Q => match x, y with
  | .str a, .str b => Q (.bl (!decide (a = b))) M
  | .int a, .int b => Q (.bl (!decide (a = b))) M
  | .bl a, .bl b => Q (.bl (!decide (a = b))) M
  | .non, .str _ => Q (.bl true) M
  | .str _, .non => Q (.bl true) M
  | .int _, .str _ => Q (.bl true) M
  | .str _, .int _ => Q (.bl true) M
  | .bl _, .str _ => Q (.bl true) M
  | .str _, .bl _ => Q (.bl true) M
  | x, y => eqData n x y fun b => Q (.bl (!b)) M
/-- two trees of data, as the heap has them -/
def rEqP (K : PySem.W.Frag) (n : Nat) (neg : Bool) : R2 := fun x y H Q => ∃ F d e p q, Ext F H ∧ RelD K F x d ∧ RelD K F y e ∧ toPy d = some p ∧ toPy e = some q ∧ p.canLay0 = true ∧ q.canLay0 = true ∧ min p.depth q.depth ≤ n ∧ Q (.bl (if neg then !PyData.eqv p q else PyData.eqv p q)) H
theorem op_eqP {n : Nat} (hu : X.A.units + n < cLine) : OpR X (compareOp .Eq) (rEqP X.K n false) := by
  intro pins s σ H x y v u Q I rx ry h
  obtain ⟨F, d, e, p, q, ex, rd, re, hp, hq, cp, cq, hn, k⟩ := h
  obtain ⟨as, r1, _⟩ := reads_of I ex d p x v hp rd rx
  obtain ⟨bs, r2, _⟩ := reads_of I ex e q y u hq re ry
  exact SeqAt.compareEq_reads r1 r2 cp cq (by omega) ⟨.bl _, H, I, rfl, k⟩
theorem op_neP {n : Nat} (hu : X.A.units + n < cLine) : OpR X (compareOp .NotEq) (rEqP X.K n true) := by
  intro pins s σ H x y v u Q I rx ry h
  obtain ⟨F, d, e, p, q, ex, rd, re, hp, hq, cp, cq, hn, k⟩ := h
  obtain ⟨as, r1, _⟩ := reads_of I ex d p x v hp rd rx
  obtain ⟨bs, r2, _⟩ := reads_of I ex e q y u hq re ry
  exact SeqAt.compareNe_reads r1 r2 cp cq (by omega) ⟨.bl _, H, I, rfl, k⟩
theorem dec_V {a b : Str} : decide (V.str a = V.str b) = decide (a = b) := by simp
theorem od_eq {n : Nat} (hu : X.A.units + n < cLine) : OpD X (compareOp .Eq) (gEq n) := fun F H M x y d e Qd Q R rx ry q k => by
  unfold gEq at q
  split at q
  all_goals first
    | (cases rx; cases ry; refine ⟨_, op_eq, rfl, ?_⟩; refine k _ F H _ M (Stp.refl F H M) R (.bl _) ?_; simpa using q)
    | (obtain ⟨p, z, h1, h2, h3, h4, h5, q⟩ := q; exact ⟨_, op_eqP hu, F, _, _, p, z, R.sub, rx, ry, h1, h2, h3, h4, h5, k _ F H _ M (Stp.refl F H M) R (.bl _) q⟩)
theorem od_ne {n : Nat} (hu : X.A.units + n < cLine) : OpD X (compareOp .NotEq) (gNe n) := fun F H M x y d e Qd Q R rx ry q k => by
  unfold gNe at q
  split at q
  all_goals first
    | (cases rx; cases ry; refine ⟨_, op_ne, rfl, ?_⟩; refine k _ F H _ M (Stp.refl F H M) R (.bl _) ?_; simpa using q)
    | (obtain ⟨p, z, h1, h2, h3, h4, h5, q⟩ := q; exact ⟨_, op_neP hu, F, _, _, p, z, R.sub, rx, ry, h1, h2, h3, h4, h5, k _ F H _ M (Stp.refl F H M) R (.bl _) q⟩)
/-! in, not in: a thing among data -/
def inData (n : Nat) (x : D) (ys : List D) (k : Bool → Prop) : Prop := ∃ p qs, toPy x = some p ∧ toPys ys = some qs ∧ p.canLay0 = true ∧ PyData.canLayAll0 qs = true ∧ min (PyData.depthAll qs) p.depth ≤ n ∧ k (qs.any fun z => PyData.eqv z p)
@[simp] def dKey : D → Option Key
  | .int i => some (.inl i)
  | .str x => some (.inr x)
  | _ => none
def dctOf (d : D) (M : Sto) : Option (List (Key × D)) := match d with
  | .dct xs => some xs
  | .ref a => (match M a with
    | some (.dct xs) => some xs
    | _ => none)
  | _ => none
def valD (kvs : List (Key × D)) (k : Key) : Option D := (kvs.find? fun kv => decide (kv.1 = k)).map (·.2)
/-- x in y: y a list or tuple of data, or a dict -/
def gIn (n : Nat) (neg : Bool) : G2 := fun x y M Q => match seqOf y M with
  | some ys => inData n x ys fun b => Q (.bl (if neg then !b else b)) M
  | none => (match dctOf y M, dKey x with
    | some kvs, some k => Q (.bl (if neg then !(valD kvs k).isSome else (valD kvs k).isSome)) M
    | _, _ => False)
end
section
variable {K : PySem.W.Frag} {F H : Hp} {M : Sto} {v : V} {d : D}
theorem dct_ok {kvs : List (Key × D)} (R : Rst0 K F H M) (r : RelD K F v d) (h : dctOf d M = some kvs) : ∃ a vs, v = .ref a ∧ Rd H a (.dK vs) ∧ RelKv K F vs kvs := by
  cases d <;> first | (simp [dctOf] at h; done) | skip
  · cases h
    cases r with
    | dct h1 h2 => exact ⟨_, _, rfl, R.sub.rd h1, h2⟩
  · rename_i a
    cases r
    unfold dctOf at h
    dsimp only at h
    split at h
    · rename_i ys e
      cases h
      obtain ⟨_, ho, h1, h2⟩ := R.sto a _ e
      cases ho <;> first | exact False.elim h2 | skip
      exact ⟨_, _, rfl, .inl h1, h2⟩
    · cases h
theorem dKey_ok {k : Key} (r : RelD K F v d) (h : dKey d = some k) : v = kV k := by
  cases d <;> first | (simp [dKey] at h; done) | skip
  · cases h; cases r; rfl
  · cases h; cases r; rfl
theorem RelKv.val : ∀ {vs : List (Key × V)} {ds : List (Key × D)}, RelKv K F vs ds → ∀ k, (valD ds k = none ∧ valV vs k = none) ∨ ∃ d v, valD ds k = some d ∧ valV vs k = some v ∧ RelD K F v d
  | _, _, .nil, k => .inl ⟨rfl, rfl⟩
  | _, _, .cons (k := j) (v := v) (d := d) (vs := vs) (ds := ds) h r, k => by
    by_cases e : j = k
    · exact .inr ⟨d, v, by simp [valD, List.find?_cons, e], by simp [valV, List.find?_cons, e], h⟩
    · have a : valD ((j, d) :: ds) k = valD ds k := by simp [valD, List.find?_cons, e]
      have b : valV ((j, v) :: vs) k = valV vs k := by simp [valV, List.find?_cons, e]
      rw [a, b]
      exact RelKv.val r k
end
section
variable {X : Cx}
theorem dget_of {K : PySem.W.Frag} {F H : Hp} {a : Addr} {vs : List (Key × V)} {ds : List (Key × D)} {k : Key} (h : Rd H a (.dK vs)) (r : RelKv K F vs ds) : ∃ o, DGet H a (kV k) o ∧ o.isSome = (valD ds k).isSome := by
  refine ⟨valV vs k, .inl ⟨_, _, h, rfl, rfl⟩, ?_⟩
  rcases r.val k with ⟨h1, h2⟩ | ⟨d, v, h1, h2, _⟩
  · rw [h1, h2]; rfl
  · rw [h1, h2]; rfl
/-- in and not in of the model, data or dicts -/
def rInP (K : PySem.W.Frag) (n : Nat) (neg : Bool) : R2 := fun x y H Q =>
  (∃ F d p a vs ds qs, Ext F H ∧ RelD K F x d ∧ toPy d = some p ∧ y = .ref a ∧ (H a = some (.lst vs) ∨ SqT K H a vs) ∧ RelDs K F vs ds ∧ toPys ds = some qs ∧ p.canLay0 = true ∧ PyData.canLayAll0 qs = true ∧ min (PyData.depthAll qs) p.depth ≤ n ∧
    Q (.bl (if neg then !(qs.any fun z => PyData.eqv z p) else qs.any fun z => PyData.eqv z p)) H) ∨
  ∃ a o, y = .ref a ∧ DGet H a x o ∧ Q (.bl (if neg then !o.isSome else o.isSome)) H
theorem op_inP {n : Nat} (hu : X.A.units + (n + 2) < cLine) : OpR X (compareOp .In) (rInP X.K n false) := by
  intro pins s σ H x y v u Q I rx ry h
  rcases h with ⟨F, d, p, a, vs, ds, qs, ex, rd, hp, rfl, hs, rs, hq, cp, cq, hn, k⟩ | ⟨a, o, rfl, g, k⟩
  · cases ry
    obtain ⟨as, r1, _⟩ := reads_of I ex d p x v hp rd rx
    rcases hs with hs | hs
    · obtain ⟨its, rv, ⟨ob, m, ho, hc, _, hd⟩, _⟩ := I.list (SqL.of hs)
      obtain ⟨bs, r2, _⟩ := readsAll_of I ex ds qs vs its hq rs rv
      exact SeqAt.in_list_reads (.list ho hc hd r2) r1 cq cp (by omega) ⟨.bl _, H, I, rfl, k⟩
    · obtain ⟨its, rv, ⟨ob, ho, hc, m, hd⟩, _⟩ := I.tuple hs
      obtain ⟨bs, r2, _⟩ := readsAll_of I ex ds qs vs its hq rs rv
      exact SeqAt.in_tuple_reads (.tuple ho hc hd r2) r1 cq cp (by omega) ⟨.bl _, H, I, rfl, k⟩
  · cases ry
    exact d_in (by omega) I g rx fun s' I' => ⟨.bl _, H, I', rfl, k⟩
theorem op_notInP {n : Nat} (hu : X.A.units + (n + 2) < cLine) : OpR X (compareOp .NotIn) (rInP X.K n true) := by
  intro pins s σ H x y v u Q I rx ry h
  rcases h with ⟨F, d, p, a, vs, ds, qs, ex, rd, hp, rfl, hs, rs, hq, cp, cq, hn, k⟩ | ⟨a, o, rfl, g, k⟩
  · cases ry
    obtain ⟨as, r1, _⟩ := reads_of I ex d p x v hp rd rx
    rcases hs with hs | hs
    · obtain ⟨its, rv, ⟨ob, m, ho, hc, _, hd⟩, _⟩ := I.list (SqL.of hs)
      obtain ⟨bs, r2, _⟩ := readsAll_of I ex ds qs vs its hq rs rv
      exact SeqAt.notIn_list_reads (.list ho hc hd r2) r1 cq cp (by omega) ⟨.bl _, H, I, rfl, k⟩
    · obtain ⟨its, rv, ⟨ob, ho, hc, m, hd⟩, _⟩ := I.tuple hs
      obtain ⟨bs, r2, _⟩ := readsAll_of I ex ds qs vs its hq rs rv
      exact SeqAt.notIn_tuple_reads (.tuple ho hc hd r2) r1 cq cp (by omega) ⟨.bl _, H, I, rfl, k⟩
  · cases ry
    exact d_notIn (by omega) I g rx fun s' I' => ⟨.bl _, H, I', rfl, k⟩
theorem in_ref {n : Nat} {neg : Bool} {f : Value → Value → Sem Value} (ho : OpR X f (rInP X.K n neg)) : OpD X f (gIn n neg) := fun F H M x y d e Qd Q R rx ry q k => by
  unfold gIn at q
  split at q
  · rename_i ys hy
    obtain ⟨a, vs, rfl, hs, rs⟩ := seq_ok R ry hy
    obtain ⟨p, qs, h1, h2, h3, h4, h5, q⟩ := q
    exact ⟨_, ho, .inl ⟨F, d, p, a, vs, ys, qs, R.sub, rx, h1, rfl, hs, rs, h2, h3, h4, h5, k _ F H _ M (Stp.refl F H M) R (.bl _) q⟩⟩
  · split at q
    · rename_i kvs kk hd hk
      obtain ⟨a, vs, rfl, hs, rs⟩ := dct_ok R ry hd
      have ek := dKey_ok rx hk
      subst ek
      obtain ⟨o, g, e1⟩ := dget_of (k := kk) hs rs
      exact ⟨_, ho, .inr ⟨a, o, rfl, g, by rw [e1]; exact k _ F H _ M (Stp.refl F H M) R (.bl _) q⟩⟩
    · exact q.elim
theorem od_in {n : Nat} (hu : X.A.units + (n + 2) < cLine) : OpD X (compareOp .In) (gIn n false) := in_ref (op_inP hu)
theorem od_notIn {n : Nat} (hu : X.A.units + (n + 2) < cLine) : OpD X (compareOp .NotIn) (gIn n true) := in_ref (op_notInP hu)

/-! ### subscripts -/
def gIx : G2 := fun x y M Q => match x, y with
  | .str z, .int i => z.length ≤ sizeLine ∧ (match atI z.cps.toList i with
    | some c => Q (.str ⟨#[c]⟩) M
    | none => False)
  | x, .int i => (match seqOf x M with
    | some xs => (match atI xs i with
      | some d => Q d M
      | none => False)
    | none => False)
  | _, _ => False
def rIxAny (X : Cx) : R2 := fun x y H Q => ∃ r, IxR X r ∧ r x y H Q
theorem ix_any : IxR X (rIxAny X) := fun value slice pins s σ H x y v u Q I rx ry ⟨r, h, q⟩ hs => h value slice pins s σ H x y v u Q I rx ry q hs
theorem atI_rel {K : PySem.W.Frag} {F : Hp} {xs : List V} {ds : List D} {i : Int} {d : D} (r : RelDs K F xs ds) (h : atI ds i = some d) : ∃ v, atI xs i = some v ∧ RelD K F v d := by
  unfold atI at h ⊢
  rw [r.length]
  cases e : ixN ds.length i with
  | none => rw [e] at h; cases h
  | some j =>
    rw [e] at h
    exact r.get (i := j) h
theorem de_ix {a b : Expr} {pos : Pos} {ta tb : DTE} (ha : DE X a ta) (hb : DE X b tb) (hs : PlainIx b := by exact fun _ _ => rfl) : DE X (.Subscript a b pos) (dOp gIx ta tb) := by
  obtain ⟨u, pu, ru⟩ := ha.ex
  obtain ⟨w, pw, rw'⟩ := hb.ex
  refine ⟨_, pe_ix ix_any pu pw hs, fun F H σ τ M Qd Q R q k => ?_⟩
  refine ru F H σ τ M _ _ R q fun v F1 H1 d M1 e1 R1 r1 q1 => ?_
  refine rw' F1 H1 σ τ M1 _ _ R1 q1 fun v' F2 H2 d' M2 e2 R2 r2 q2 => ?_
  have r1' := r1.mono e2.ext
  unfold gIx at q2
  split at q2
  · rename_i z i
    obtain ⟨hz, q2⟩ := q2
    split at q2
    · rename_i c hc
      cases r1'
      cases r2
      exact ⟨_, ix_str, z, i, c, rfl, rfl, hz, hc, k _ F2 H2 _ M2 (e1.trans e2) R2 (.str _) q2⟩
    · exact q2.elim
  · rename_i i _
    cases r2
    split at q2
    · rename_i xs hx
      split at q2
      · rename_i d0 hd
        obtain ⟨p, vs, rfl, hs2, rs⟩ := seq_ok R2.heap r1' hx
        obtain ⟨v0, h0, rd⟩ := atI_rel rs hd
        have fin := k v0 F2 H2 d0 M2 (e1.trans e2) R2 rd q2
        rcases hs2 with hs2 | hs2
        · exact ⟨_, ix_list, p, vs, i, v0, rfl, rfl, SqL.of hs2, h0, fin⟩
        · exact ⟨_, ix_tup, p, vs, i, v0, rfl, rfl, hs2, h0, fin⟩
      · exact q2.elim
    · exact q2.elim
  · exact q2.elim
/-- d[k], k there -/
@[simp] def gIxD : G2 := fun x y M Q => match dctOf x M, dKey y with
  | some kvs, some k => (match valD kvs k with
    | some d => Q d M
    | none => False)
  | _, _ => False
theorem de_ixD {a b : Expr} {pos : Pos} {ta tb : DTE} (hu : X.A.units + 1 < cLine) (ha : DE X a ta) (hb : DE X b tb) (hs : NoSl b := by exact fun _ _ => rfl) : DE X (.Subscript a b pos) (dOp gIxD ta tb) := by
  obtain ⟨u, pu, ru⟩ := ha.ex
  obtain ⟨w, pw, rw'⟩ := hb.ex
  refine ⟨_, pe_dget hu pu pw hs, fun F H σ τ M Qd Q R q k => ?_⟩
  refine ru F H σ τ M _ _ R q fun v F1 H1 d M1 e1 R1 r1 q1 => ?_
  refine rw' F1 H1 σ τ M1 _ _ R1 q1 fun v' F2 H2 d' M2 e2 R2 r2 q2 => ?_
  have r1' := r1.mono e2.ext
  unfold gIxD at q2
  split at q2
  · rename_i kvs kk hd hk
    obtain ⟨p, vs, rfl, hs2, rs⟩ := dct_ok R2.heap r1' hd
    have ek := dKey_ok r2 hk
    subst ek
    rcases rs.val kk with ⟨h1, _⟩ | ⟨d0, v0, h1, h2, rd⟩
    · rw [h1] at q2; exact q2.elim
    · rw [h1] at q2
      exact ⟨p, v0, rfl, .inl ⟨vs, kk, hs2, rfl, h2.symm⟩, k v0 F2 H2 d0 M2 (e1.trans e2) R2 rd q2⟩
  · exact q2.elim

/-! ### slices -/
abbrev DTO := DSt → Sto → (Option Int → Sto → Prop) → Prop
structure DO (X : Cx) (e : Option Expr) (t : DTO) : Prop where
  ex : ∃ to, PO X e to ∧ ∀ (F H : Hp) (σ : L2.St) (τ : DSt) (M : Sto) (Qd : Option Int → Sto → Prop) (Q : Option Int → Hp → Prop), Rst X.K F H σ τ M → t τ M Qd →
    (∀ o F' H' M', Stp F H M F' H' M' → Rst X.K F' H' σ τ M' → Qd o M' → Q o H') → to σ H Q
@[simp] def dNoPart : DTO := fun _ M Q => Q none M
@[simp] def dPart (t : DTE) : DTO := fun τ M Q => t τ M fun d M1 => match d with
  | .int i => Q (some i) M1
  | _ => False
theorem do_none : DO X none dNoPart := ⟨_, po_none, fun F H σ τ M Qd Q R q k => k none F H M (Stp.refl F H M) R q⟩
theorem do_some {e : Expr} {t : DTE} (h : DE X e t) : DO X (some e) (dPart t) := by
  obtain ⟨u, pu, ru⟩ := h.ex
  refine ⟨_, po_some pu, fun F H σ τ M Qd Q R q k => ?_⟩
  refine ru F H σ τ M _ _ R q fun v F1 H1 d M1 e1 R1 r1 q1 => ?_
  cases d <;> first | exact False.elim q1 | skip
  cases r1
  exact ⟨_, rfl, k _ F1 H1 M1 e1 R1 q1⟩
/-- the items of xs[lo:hi] -/
def cutL {α : Type} (xs : List α) (lo hi : Option Int) : List α := (xs.drop (HT.sIx xs.length 0 lo)).take (HT.sIx xs.length xs.length hi - HT.sIx xs.length 0 lo)
theorem RelDs.cut {K : PySem.W.Frag} {F : Hp} {xs : List V} {ds : List D} (r : RelDs K F xs ds) (lo hi : Option Int) : RelDs K F (cutV xs lo hi) (cutL ds lo hi) := by
  unfold cutV cutL
  rw [r.length]
  exact (r.drop _).take _
def gCut (x : D) (lo hi : Option Int) (M : Sto) (Q : DK) : Prop := match x with
  | .tup xs => Q (.tup (cutL xs lo hi)) M
  | .rol xs => Q (.lst (cutL xs lo hi)) M
  | x => (match lstOf x M with
    | some xs => Q (.lst (cutL xs lo hi)) M
    | none => False)
@[simp] def dSl (t : DTE) (tl th : DTO) : DTE := fun τ M Q => t τ M fun x M1 => tl τ M1 fun lo M2 => th τ M2 fun hi M3 => gCut x lo hi M3 Q
def rSlAny (X : Cx) : V → Option Int → Option Int → Hp → VK → Prop := fun x lo hi H Q => ∃ r, SlR X r ∧ r x lo hi H Q
theorem sl_any : SlR X (rSlAny X) := fun pins s σ H x v vl vu lo hi sl Q I rx hs pl pu ⟨r, h, q⟩ => h pins s σ H x v vl vu lo hi sl Q I rx hs pl pu q
theorem cut_ok {F H : Hp} {M : Sto} {x : V} {d : D} {lo hi : Option Int} {Qd : DK} {Q : VK} (R : Rst0 X.K F H M) (r : RelD X.K F x d) (q : gCut d lo hi M Qd)
    (k : ∀ v F' H' z M', Stp F H M F' H' M' → Rst0 X.K F' H' M' → RelD X.K F' v z → Qd z M' → Q v H') : rSlAny X x lo hi H Q := by
  have asL : ∀ {a : Addr} {vs : List V} {xs : List D}, SqL X.K H a vs → RelDs X.K F vs xs → Qd (.lst (cutL xs lo hi)) M → rSlAny X (.ref a) lo hi H Q := fun {a vs xs} h1 h2 q => by
    refine ⟨_, sl_list, a, vs, rfl, h1, fun p hp => ?_⟩
    obtain ⟨e2, R2⟩ := R.frozen (o := .lst (cutV vs lo hi)) hp
    exact k _ _ _ _ M e2 R2 (.lst upd_same ((h2.cut lo hi).mono e2.ext)) q
  unfold gCut at q
  split at q
  · rename_i xs
    cases id r with
    | @tup a vs _ h1 h2 =>
      refine ⟨_, sl_tupA, a, vs, rfl, R.sub.sqT h1, ?_⟩
      have hz := h2.length
      have whole : HT.sIx vs.length 0 lo = 0 ∧ HT.sIx vs.length vs.length hi = vs.length → Q (.ref a) H := fun ⟨z1, z2⟩ => by
        have : cutL xs lo hi = xs := by
          unfold cutL
          rw [← hz, z1, z2, List.drop_zero, Nat.sub_zero, hz, List.take_length]
        rw [this] at q
        exact k _ F H _ M (Stp.refl F H M) R r q
      have part : ∀ p, H p = none → Q (.ref p) (upd H p (.tup (cutV vs lo hi))) := fun p hp => by
        obtain ⟨e2, R2⟩ := R.frozen (o := .tup (cutV vs lo hi)) hp
        exact k _ _ _ _ M e2 R2 (.tup (SqT.of upd_same) ((h2.cut lo hi).mono e2.ext)) q
      first
        | exact ⟨whole, fun _ => part⟩
        | exact ⟨whole, part⟩
  · cases r with
    | rol h1 h2 => exact asL (R.sub.sqL h1) h2 q
  · split at q
    · rename_i xs hx
      obtain ⟨a, vs, rfl, h1, h2⟩ := lst_ok R r hx
      exact asL (SqL.of h1) h2 q
    · exact q.elim
theorem de_sl {e : Expr} {lo hi : Option Expr} {p2 pos : Pos} {t : DTE} {tl th : DTO} (he : DE X e t) (hl : DO X lo tl) (hh : DO X hi th) : DE X (.Subscript e (.Slice lo hi none p2) pos) (dSl t tl th) := by
  obtain ⟨u, pu, ru⟩ := he.ex
  obtain ⟨ul, pl, rl⟩ := hl.ex
  obtain ⟨uh, ph, rh⟩ := hh.ex
  refine ⟨_, pe_slice sl_any pu pl ph, fun F H σ τ M Qd Q R q k => ?_⟩
  refine ru F H σ τ M _ _ R q fun v F1 H1 d M1 e1 R1 r1 q1 => ?_
  refine rl F1 H1 σ τ M1 _ _ R1 q1 fun o F2 H2 M2 e2 R2 q2 => ?_
  refine rh F2 H2 σ τ M2 _ _ R2 q2 fun o' F3 H3 M3 e3 R3 q3 => ?_
  exact cut_ok R3.heap (r1.mono (e2.trans e3).ext) q3 fun v4 F4 H4 z M4 e4 R4 r4 q4 => k v4 F4 H4 z M4 (((e1.trans e2).trans e3).trans e4) (R3.mono e4.ext R4) r4 q4
end
end DL

/-! DQ: built-in calls, methods, stores over trees. -/
namespace DL
open PySem PySem.Spec PyProof.Rows L2
variable [Wsh]

/-! ### a call of a built-in, by values -/
def rCallAny (X : Cx) (f : Value) : List V → Hp → VK → Prop := fun xs H Q => ∃ r, CallR X f r ∧ r xs H Q
theorem call_any {X : Cx} (f : Value) : CallR X f (rCallAny X f) := fun pins s σ H xs us Q I r ⟨rr, h, q⟩ => h pins s σ H xs us Q I r q
abbrev GC := List D → Sto → DK → Prop
def CallD (X : Cx) (f : Value) (g : GC) : Prop :=
  ∀ (F H : Hp) (M : Sto) (xs : List V) (ds : List D) (Qd : DK) (Q : VK), Rst0 X.K F H M → RelDs X.K F xs ds → g ds M Qd →
    (∀ v F' H' z M', Stp F H M F' H' M' → Rst0 X.K F' H' M' → RelD X.K F' v z → Qd z M' → Q v H') → rCallAny X f xs H Q
@[simp] def dCB (g : GC) (t : DTA) : DTE := fun τ M Q => t τ M fun ds M1 => g ds M1 Q
section
variable {X : Cx} {x : Str} {p pos : Pos} {e : Expr} {es : List Expr} {t : DTA} {bid T : String} {g : GC}
theorem ref_cb {f : Value} {u : TA} (hc : CallD X f g) (ru : RefA X.K u t) : RefE X.K (tCB (rCallAny X f) u) (dCB g t) := fun F H σ τ M Qd Q R q k => by
  refine ru F H σ τ M _ _ R q fun vs F1 H1 ds M1 e1 R1 r1 q1 => ?_
  exact hc F1 H1 M1 vs ds Qd Q R1.heap r1 q1 fun v F2 H2 z M2 e2 R2 r2 q2 => k v F2 H2 z M2 (e1.trans e2) (R1.mono e2.ext R2) r2 q2
theorem de_callB (hc : CallD X (.builtin bid) g) (hm : X.mg x = none) (ha : DA X (e :: es) t) (hv : bootBuiltins x = some (.builtin bid) := by decide +kernel) (hg : Gl X x := by rfl) (hn : x ≠ "__name__" := by decide) (hdb : (x == ("__debug__" : Str)) = false := by decide)
    (he : starEach (e :: es) X.env = (false, eval e X.env) :: starEach es X.env := by rfl) (hpl : (backTo pos (starEach es X.env)).any (·.1) = false := by rfl) : DE X (.Call (.Name x p) (e :: es) [] pos) (dCB g t) := by
  obtain ⟨u, pu, ru⟩ := ha.ex
  exact ⟨_, pe_callB (call_any _) hg hm hv pu hn hdb he hpl, ref_cb hc ru⟩
theorem de_callTy (hc : CallD X (.type T) g) (hm : X.mg x = none) (ha : DA X (e :: es) t) (hv : bootBuiltins x = some (.type T) := by decide +kernel) (hg : Gl X x := by rfl) (hn : x ≠ "__name__" := by decide) (hdb : (x == ("__debug__" : Str)) = false := by decide)
    (he : starEach (e :: es) X.env = (false, eval e X.env) :: starEach es X.env := by rfl) (hpl : (backTo pos (starEach es X.env)).any (·.1) = false := by rfl) : DE X (.Call (.Name x p) (e :: es) [] pos) (dCB g t) := by
  obtain ⟨u, pu, ru⟩ := ha.ex
  exact ⟨_, pe_callTy (call_any _) hg hm hv pu hn hdb he hpl, ref_cb hc ru⟩

/-! ### len, abs, int, list, tuple, max, min, str, repr -/
def gLen : GC := fun ds M Q => match ds with
  | [.str z] => z.length ≤ sizeLine ∧ Q (.int z.length) M
  | [x] => (match seqOf x M with
    | some xs => Q (.int xs.length) M
    | none => False)
  | _ => False
theorem cd_len : CallD X (.builtin "len") gLen := fun F H M xs ds Qd Q R r q k => by
  unfold gLen at q
  split at q
  · cases r with
    | cons r1 r2 =>
      cases r1; cases r2
      exact ⟨_, call_len_str, _, rfl, q.1, k _ F H _ M (Stp.refl F H M) R (.int _) q.2⟩
  · split at q
    · rename_i ys hy
      cases r with
      | cons r1 r2 =>
        cases r2
        obtain ⟨a, vs, rfl, hs, rs⟩ := seq_ok R r1 hy
        refine ⟨_, call_len_seq, a, vs, rfl, ?_, by rw [rs.length]; exact k _ F H _ M (Stp.refl F H M) R (.int _) q⟩
        rcases hs with hs | hs
        · exact .inl (SqL.of hs)
        · exact .inr hs
    · exact q.elim
  · exact q.elim
def dctLen (x : D) (M : Sto) : Option Nat := (dctOf x M).map (·.length)
@[simp] def gAbs : GC := fun ds M Q => match ds with
  | [.int i] => Q (.int (if i < 0 then -i else i)) M
  | _ => False
theorem cd_abs : CallD X (.builtin "abs") gAbs := fun F H M xs ds Qd Q R r q k => by
  unfold gAbs at q
  split at q
  · cases r with
    | cons r1 r2 =>
      cases r1; cases r2
      exact ⟨_, call_abs, _, rfl, k _ F H _ M (Stp.refl F H M) R (.int _) q⟩
  · exact q.elim
@[simp] def gInt : GC := fun ds M Q => match ds with
  | [.int i] => Q (.int i) M
  | _ => False
theorem cd_int : CallD X (.type "int") gInt := fun F H M xs ds Qd Q R r q k => by
  unfold gInt at q
  split at q
  · cases r with
    | cons r1 r2 =>
      cases r1; cases r2
      exact ⟨_, call_int1, .inl ⟨_, rfl, k _ F H _ M (Stp.refl F H M) R (.int _) q⟩⟩
  · exact q.elim
@[simp] def gStr : GC := fun ds M Q => match ds with
  | [.int i] => i.natAbs.log2 < 1920 ∧ Q (.str (toString i)) M
  | _ => False
theorem cd_str : CallD X (.type "str") gStr := fun F H M xs ds Qd Q R r q k => by
  unfold gStr at q
  split at q
  · cases r with
    | cons r1 r2 =>
      cases r1; cases r2
      exact ⟨_, call_str_int, _, rfl, q.1, k _ F H _ M (Stp.refl F H M) R (.str _) q.2⟩
  · exact q.elim
def gMax2 : GC := fun ds M Q => match ds with
  | [.int i, .int j] => Q (.int (if j > i then j else i)) M
  | _ => False
theorem cd_max2 (hc : X.calm = true) : CallD X (.builtin "max") gMax2 := fun F H M xs ds Qd Q R r q k => by
  unfold gMax2 at q
  split at q
  · cases r with
    | cons r1 r2 => cases r2 with
      | cons r2 r3 =>
        cases r1; cases r2; cases r3
        exact ⟨_, call_max2 hc, _, _, rfl, k _ F H _ M (Stp.refl F H M) R (.int _) q⟩
  · exact q.elim
/-- list(x), tuple(x): frozen; list(x) that may change -/
def gListOf : GC := fun ds M Q => match ds with
  | [x] => (match seqOf x M with
    | some xs => Q (.lst xs) M
    | none => False)
  | _ => False
def gListOfM : GC := fun ds M Q => match ds with
  | [x] => (match seqOf x M with
    | some xs => ∀ p, M p = none → Q (.ref p) (M.upd p (.lst xs))
    | none => False)
  | _ => False
def gTupOf : GC := fun ds M Q => match ds with
  | [x] => (match seqOf x M with
    | some xs => Q (.tup xs) M
    | none => False)
  | _ => False
theorem cd_list : CallD X (.type "list") gListOf := fun F H M xs ds Qd Q R r q k => by
  unfold gListOf at q
  split at q
  · split at q
    · rename_i ys hy
      cases r with
      | cons r1 r2 =>
        cases r2
        obtain ⟨a, vs, rfl, hs, rs⟩ := seq_ok R r1 hy
        refine ⟨_, call_list_of, a, vs, rfl, ?_, fun p hp => ?_⟩
        · rcases hs with hs | hs
          · exact .inl (SqL.of hs)
          · exact .inr hs
        · obtain ⟨e2, R2⟩ := R.frozen (o := .lst vs) hp
          exact k _ _ _ _ M e2 R2 (.lst upd_same (rs.mono e2.ext)) q
    · exact q.elim
  · exact q.elim
theorem cd_listM : CallD X (.type "list") gListOfM := fun F H M xs ds Qd Q R r q k => by
  unfold gListOfM at q
  split at q
  · split at q
    · rename_i ys hy
      cases r with
      | cons r1 r2 =>
        cases r2
        obtain ⟨a, vs, rfl, hs, rs⟩ := seq_ok R r1 hy
        refine ⟨_, call_list_of, a, vs, rfl, ?_, fun p hp => ?_⟩
        · rcases hs with hs | hs
          · exact .inl (SqL.of hs)
          · exact .inr hs
        · obtain ⟨e2, R2⟩ := R.fresh (o := .lst vs) (u := .lst ys) hp rs
          exact k _ _ _ (.ref p) _ e2 R2 (.ref p) (q p (R.free hp).2)
    · exact q.elim
  · exact q.elim
theorem cd_tuple : CallD X (.type "tuple") gTupOf := fun F H M xs ds Qd Q R r q k => by
  match ds, r, q with
  | [x0], .cons (v := v0) r1 .nil, q =>
    have q : (match seqOf x0 M with | some xs => Qd (.tup xs) M | none => False) := q
    split at q
    · rename_i ys hy
      have asL : lstOf x0 M = some ys → rCallAny X (.type "tuple") [v0] H Q := fun h => by
        obtain ⟨a, vs, rfl, hs, rs⟩ := lst_ok R r1 h
        refine ⟨_, call_tuple_of, a, vs, rfl, .inl ⟨SqL.of hs, fun p hp => ?_⟩⟩
        obtain ⟨e2, R2⟩ := R.frozen (o := .tup vs) hp
        exact k _ _ _ _ M e2 R2 (.tup (SqT.of upd_same) (rs.mono e2.ext)) q
      cases x0 with
      | tup zs =>
        cases hy
        cases r1 with
        | tup h1 h2 => exact ⟨_, call_tuple_of, _, _, rfl, .inr ⟨R.sub.sqT h1, k _ F H _ M (Stp.refl F H M) R (.tup h1 h2) q⟩⟩
      | ptp zs =>
        cases hy
        cases r1 with
        | ptp h1 _ h2 => exact ⟨_, call_tuple_of, _, _, rfl, .inr ⟨.inl (.inr ⟨_, R.sub _ _ h1⟩), k _ F H _ M (Stp.refl F H M) R (.tup (.inl (.inr ⟨_, h1⟩)) h2) q⟩⟩
      | _ => exact asL hy
    · exact q.elim
  | [], _, q => exact q.elim
  | _ :: _ :: _, _, q => exact q.elim
/-- repr of data -/
def gRepr (n : Nat) : GC := fun ds M Q => match ds with
  | [x] => ∃ p, toPy x = some p ∧ p.showable = true ∧ (p.hasDict = false ∨ noLst x = true) ∧ p.depth ≤ n ∧ p.shown.length ≤ sizeLine ∧ Q (.str p.shown) M
  | _ => False
def rReprP (K : PySem.W.Frag) (n : Nat) : List V → Hp → VK → Prop := fun xs H Q => ∃ F d p x, xs = [x] ∧ Ext F H ∧ RelD K F x d ∧ toPy d = some p ∧ p.showable = true ∧ (p.hasDict = false ∨ noLst d = true) ∧ p.depth ≤ n ∧ p.shown.length ≤ sizeLine ∧ Q (.str p.shown) H
theorem cr_reprP {n : Nat} (hgd : X.A.guards = some []) (hu : X.A.units + (n + 2) < cLine) : CallR X (.builtin "repr") (rReprP X.K n) := by
  intro pins s σ H xs us Q I r h
  obtain ⟨F, d, p, x, rfl, ex, rd, hp, hs, hdict, hn, hz, q⟩ := h
  obtain ⟨u, rfl, ru⟩ := vals1 r
  have big : ∀ a, u = .ref a → wpAny (model X.prog X.w) X.A (call (.builtin "repr") [u]) (EP X pins σ Q) X.xe s := by
    intro a e
    subst e
    obtain ⟨as, rr, hno⟩ := reads_of I ex d p x (.ref a) hp rd ru
    refine repr_of_reads' rr hs ?_ hgd (by omega) (fun _ _ z => z) ?_ hz
    · intro z
      rcases hdict with w | w
      · rw [w] at z; cases z
      · exact hno (.inl w)
    · intro h' t tk hk
      exact ⟨.str p.shown, H, I.kept hk, ⟨_, rfl⟩, q⟩
  cases rd with
  | non => cases ru; cases hp; exact PySem.P.repr_of_none ⟨.str _, H, I.tok _, ⟨_, rfl⟩, (by simpa only [PyData.shown] using q)⟩
  | bl b => cases ru; cases hp; exact PySem.P.repr_of_bool ⟨.str _, H, I.tok _, ⟨_, rfl⟩, (by simpa only [PyData.shown] using q)⟩
  | int i =>
    obtain ⟨t, rfl⟩ := ru
    cases hp
    have hs' : i.natAbs.log2 < 1920 := by simpa [PyData.showable] using hs
    exact PySem.P.repr_of_int hs' ⟨.str _, H, I.tok _, ⟨_, rfl⟩, (by simpa only [PyData.shown] using q)⟩
  | str z =>
    obtain ⟨t, rfl⟩ := ru
    cases hp
    exact PySem.P.repr_of_str ⟨.str _, H, I.tok _, ⟨_, rfl⟩, (by simpa only [PyData.shown] using q)⟩ (by simpa only [PyData.shown] using hz)
  | tup _ _ => cases ru; exact big _ rfl
  | lst _ _ => cases ru; exact big _ rfl
  | rol _ _ => cases hp
  | ptp _ _ _ => cases hp
  | dct _ _ => cases ru; exact big _ rfl
  | ref _ => cases hp
  | ty _ => cases hp
  | ins _ _ => cases hp
  | exc0 _ _ => cases hp
  | exc1 _ _ => cases hp
  | exv0 _ => cases hp
  | exv1 _ _ _ => cases hp
  | dc1 _ _ _ => cases ru; exact big _ rfl
theorem cd_repr {n : Nat} (hgd : X.A.guards = some []) (hu : X.A.units + (n + 2) < cLine) : CallD X (.builtin "repr") (gRepr n) := fun F H M xs ds Qd Q R r q k => by
  unfold gRepr at q
  split at q
  · obtain ⟨p, h1, h2, h3, h4, h5, q⟩ := q
    cases r with
    | cons r1 r2 =>
      cases r2
      exact ⟨_, cr_reprP hgd hu, F, _, p, _, rfl, R.sub, r1, h1, h2, h3, h4, h5, k _ F H _ M (Stp.refl F H M) R (.str _) q⟩
  · exact q.elim

/-- repr of data with lists and dicts within -/
def gReprA (n : Nat) : GC := fun ds M Q => match ds with
  | [x] => ∃ p, toPy x = some p ∧ p.showable = true  ∧ p.depth ≤ n ∧ p.shown.length ≤ sizeLine ∧ Q (.str p.shown) M
  | _ => False
def rReprA (K : PySem.W.Frag) (n : Nat) : List V → Hp → VK → Prop := fun xs H Q => ∃ F d p x, xs = [x] ∧ Ext F H ∧ RelD K F x d ∧ toPy d = some p ∧ p.showable = true  ∧ p.depth ≤ n ∧ p.shown.length ≤ sizeLine ∧ Q (.str p.shown) H
theorem cr_reprA {n : Nat} (hsys : ∃ o, X.base.get? sysModules = some o) (hgd : X.A.guards = some []) (hu : X.A.units + (n + 2) < cLine) : CallR X (.builtin "repr") (rReprA X.K n) := by
  intro pins s σ H xs us Q I r h
  obtain ⟨F, d, p, x, rfl, ex, rd, hp, hs, hn, hz, q⟩ := h
  obtain ⟨u, rfl, ru⟩ := vals1 r
  have big : ∀ a, u = .ref a → wpAny (model X.prog X.w) X.A (call (.builtin "repr") [u]) (EP X pins σ Q) X.xe s := by
    intro a e
    subst e
    obtain ⟨as, rr, hno⟩ := reads_of I ex d p x (.ref a) hp rd ru
    refine repr_of_reads' rr hs ?_ hgd (by omega) (fun _ _ z => z) ?_ hz
    · intro z
      exact hno (.inr (noLst_at I hsys))
    · intro h' t tk hk
      exact ⟨.str p.shown, H, I.kept hk, ⟨_, rfl⟩, q⟩
  cases rd with
  | non => cases ru; cases hp; exact PySem.P.repr_of_none ⟨.str _, H, I.tok _, ⟨_, rfl⟩, (by simpa only [PyData.shown] using q)⟩
  | bl b => cases ru; cases hp; exact PySem.P.repr_of_bool ⟨.str _, H, I.tok _, ⟨_, rfl⟩, (by simpa only [PyData.shown] using q)⟩
  | int i =>
    obtain ⟨t, rfl⟩ := ru
    cases hp
    have hs' : i.natAbs.log2 < 1920 := by simpa [PyData.showable] using hs
    exact PySem.P.repr_of_int hs' ⟨.str _, H, I.tok _, ⟨_, rfl⟩, (by simpa only [PyData.shown] using q)⟩
  | str z =>
    obtain ⟨t, rfl⟩ := ru
    cases hp
    exact PySem.P.repr_of_str ⟨.str _, H, I.tok _, ⟨_, rfl⟩, (by simpa only [PyData.shown] using q)⟩ (by simpa only [PyData.shown] using hz)
  | tup _ _ => cases ru; exact big _ rfl
  | lst _ _ => cases ru; exact big _ rfl
  | rol _ _ => cases hp
  | ptp _ _ _ => cases hp
  | dct _ _ => cases ru; exact big _ rfl
  | ref _ => cases hp
  | ty _ => cases hp
  | ins _ _ => cases hp
  | exc0 _ _ => cases hp
  | exc1 _ _ => cases hp
  | exv0 _ => cases hp
  | exv1 _ _ _ => cases hp
  | dc1 _ _ _ => cases ru; exact big _ rfl
theorem cd_reprA {n : Nat} (hsys : ∃ o, X.base.get? sysModules = some o) (hgd : X.A.guards = some []) (hu : X.A.units + (n + 2) < cLine) : CallD X (.builtin "repr") (gReprA n) := fun F H M xs ds Qd Q R r q k => by
  unfold gReprA at q
  split at q
  · obtain ⟨p, h1, h2, h4, h5, q⟩ := q
    cases r with
    | cons r1 r2 =>
      cases r2
      exact ⟨_, cr_reprA hsys hgd hu, F, _, p, _, rfl, R.sub, r1, h1, h2, h4, h5, k _ F H _ M (Stp.refl F H M) R (.str _) q⟩
  · exact q.elim

/-! ### all, any of lists of flags -/
def blsOf : List D → Option (List Bool)
  | [] => some []
  | .bl b :: r => (blsOf r).map (b :: ·)
  | _ :: _ => none
theorem bls_ok {K : PySem.W.Frag} {F : Hp} : ∀ {vs : List V} {ds : List D} {bs : List Bool}, RelDs K F vs ds → blsOf ds = some bs → vs = bs.map V.bl
  | _, _, _, .nil, h => by cases h; rfl
  | _, _, _, .cons (d := d) h1 h2, h => by
    cases d <;> first | (simp [blsOf] at h; done) | skip
    rename_i vs ds b
    unfold blsOf at h
    cases e : blsOf ds with
    | none => rw [e] at h; cases h
    | some cs =>
      rw [e] at h
      cases h
      cases h1
      rw [bls_ok h2 e, List.map_cons]
@[simp] def gAll : GC := fun ds M Q => match ds with
  | [x] => (match lstOf x M with
    | some xs => (match blsOf xs with
      | some bs => Q (.bl (bs.all id)) M
      | none => False)
    | none => False)
  | _ => False
@[simp] def gAny : GC := fun ds M Q => match ds with
  | [x] => (match lstOf x M with
    | some xs => (match blsOf xs with
      | some bs => Q (.bl (bs.any id)) M
      | none => False)
    | none => False)
  | _ => False
theorem cd_all (hc : X.calm = true) : CallD X (.builtin "all") gAll := fun F H M xs ds Qd Q R r q k => by
  unfold gAll at q
  split at q
  · split at q
    · rename_i ys hy
      split at q
      · rename_i bs hb
        cases r with
        | cons r1 r2 =>
          cases r2
          obtain ⟨a, vs, rfl, hs, rs⟩ := lst_ok R r1 hy
          have e := bls_ok rs hb
          subst e
          exact ⟨_, cr_all hc, a, bs, rfl, SqL.of hs, k _ F H _ M (Stp.refl F H M) R (.bl _) q⟩
      · exact q.elim
    · exact q.elim
  · exact q.elim
theorem cd_any (hc : X.calm = true) : CallD X (.builtin "any") gAny := fun F H M xs ds Qd Q R r q k => by
  unfold gAny at q
  split at q
  · split at q
    · rename_i ys hy
      split at q
      · rename_i bs hb
        cases r with
        | cons r1 r2 =>
          cases r2
          obtain ⟨a, vs, rfl, hs, rs⟩ := lst_ok R r1 hy
          have e := bls_ok rs hb
          subst e
          exact ⟨_, cr_any hc, a, bs, rfl, SqL.of hs, k _ F H _ M (Stp.refl F H M) R (.bl _) q⟩
      · exact q.elim
    · exact q.elim
  · exact q.elim

/-! ### {}: a dict that may change, or stays empty -/
@[simp] def dDictM : DTE := fun _ M Q => ∀ p, M p = none → Q (.ref p) (M.upd p (.dct []))
@[simp] def dDict : DTE := fun _ M Q => Q (.dct []) M
theorem de_dictM : DE X (.Dict [] [] pos) dDictM := ⟨_, pe_dnewK, fun F H σ τ M Qd Q R q k p hp => by
  obtain ⟨e2, R2⟩ := R.heap.fresh (o := .dK []) (u := .dct []) hp .nil
  exact k _ _ _ (.ref p) _ e2 (R.mono e2.ext R2) (.ref p) (q p (R.heap.free hp).2)⟩
theorem de_dict : DE X (.Dict [] [] pos) dDict := ⟨_, pe_dnewK, fun F H σ τ M Qd Q R q k p hp => by
  obtain ⟨e2, R2⟩ := R.heap.frozen (o := .dK []) hp
  exact k _ _ _ (.dct []) M e2 (R.mono e2.ext R2) (.dct (.inl upd_same) .nil) q⟩
end

/-! ### stores: xs[i] = v, d[k] = v -/
section
variable {X : Cx} {o i value : Expr} {pos pos' : Pos} {td ti tv : DTE}
def putD (kvs : List (Key × D)) (k : Key) (v : D) : List (Key × D) :=
  if (kvs.any fun kv => decide (kv.1 = k)) = true then kvs.map (fun kv => if kv.1 = k then (kv.1, v) else kv) else kvs ++ [(k, v)]
theorem RelKv.keys {K : PySem.W.Frag} {F : Hp} : ∀ {vs : List (Key × V)} {ds : List (Key × D)}, RelKv K F vs ds → vs.map (·.1) = ds.map (·.1)
  | _, _, .nil => rfl
  | _, _, .cons _ r => by rw [List.map_cons, List.map_cons, RelKv.keys r]
theorem RelKv.length {K : PySem.W.Frag} {F : Hp} {vs : List (Key × V)} {ds : List (Key × D)} (r : RelKv K F vs ds) : vs.length = ds.length := by
  have := congrArg List.length r.keys
  simpa using this
theorem RelKv.snoc {K : PySem.W.Frag} {F : Hp} {k : Key} {v : V} {d : D} (h : RelD K F v d) : ∀ {vs : List (Key × V)} {ds : List (Key × D)}, RelKv K F vs ds → RelKv K F (vs ++ [(k, v)]) (ds ++ [(k, d)])
  | _, _, .nil => .cons h .nil
  | _, _, .cons g r => .cons g (RelKv.snoc h r)
theorem RelKv.upd {K : PySem.W.Frag} {F : Hp} {k : Key} {v : V} {d : D} (h : RelD K F v d) : ∀ {vs : List (Key × V)} {ds : List (Key × D)}, RelKv K F vs ds → RelKv K F (vs.map fun kv => if kv.1 = k then (kv.1, v) else kv) (ds.map fun kv => if kv.1 = k then (kv.1, d) else kv)
  | _, _, .nil => .nil
  | _, _, .cons (k := j) g r => by
    rw [List.map_cons, List.map_cons]
    by_cases e : j = k
    · rw [if_pos e, if_pos e]; exact .cons h (RelKv.upd h r)
    · rw [if_neg e, if_neg e]; exact .cons g (RelKv.upd h r)
theorem RelKv.put {K : PySem.W.Frag} {F : Hp} {k : Key} {v : V} {d : D} {vs : List (Key × V)} {ds : List (Key × D)} (h : RelD K F v d) (r : RelKv K F vs ds) : RelKv K F (putK vs k v) (putD ds k d) := by
  have e : (vs.any fun kv => decide (kv.1 = k)) = ds.any fun kv => decide (kv.1 = k) := by
    have : ∀ {vs : List (Key × V)} {ds : List (Key × D)}, RelKv K F vs ds → (vs.any fun kv => decide (kv.1 = k)) = ds.any fun kv => decide (kv.1 = k) := by
      intro vs
      induction vs with
      | nil => intro ds r; cases r; rfl
      | cons x xs ih => intro ds r; cases r with
        | cons g r => simp only [List.any_cons, ih r]
    exact this r
  unfold putK putD
  rw [e]
  split
  · exact r.upd h
  · exact r.snoc h
/-- the value first, then the object, then the place -/
@[simp] def dPutL (td ti tv : DTE) : DTS := fun E τ M => tv τ M fun v M1 => td τ M1 fun x M2 => ti τ M2 fun y M3 => match x, y with
  | .ref p, .int i => (match M3 p with
    | some (.lst xs) => (match ixN xs.length i with
      | some j => E.nx τ (M3.upd p (.lst (xs.set j v)))
      | none => False)
    | _ => False)
  | _, _ => False
@[simp] def dPutK (td ti tv : DTE) : DTS := fun E τ M => tv τ M fun v M1 => td τ M1 fun x M2 => ti τ M2 fun y M3 => match x, dKey y with
  | .ref p, some k => (match M3 p with
    | some (.dct kvs) => kvs.length < sizeLine ∧ E.nx τ (M3.upd p (.dct (putD kvs k v)))
    | _ => False)
  | _, _ => False
theorem ds_putL (ho : DE X o td) (hi : DE X i ti) (hv : DE X value tv)
    (ha : ∀ v, assign (.Subscript o i pos') X.env v = (do
      let ov ← holding [v] (eval o X.env)
      let iv ← holding [v, ov] (eval i X.env)
      standAt pos'
      holding [v, ov, iv] (setItem ov iv v)
      release [v, ov, iv] []) := by intro _; rfl) (hs : swapsWithSole [.Subscript o i pos'] value pos.line X.env = pure false := by rfl) (hw : swappedStores [.Subscript o i pos'] value X.env = pure none := by rfl)
    (h1 : (assignEach [.Subscript o i pos'] X.env).map (·.2) = [assign (.Subscript o i pos') X.env] := by rfl) : DS X (.Assign [.Subscript o i pos'] value pos) (dPutL td ti tv) := by
  obtain ⟨uo, po, ro⟩ := ho.ex
  obtain ⟨ui, pi, ri⟩ := hi.ex
  obtain ⟨uv, pv', rv⟩ := hv.ex
  refine ⟨_, ps_asg pv' (pg_sub po pi set_list ha) hs hw h1, fun F H σ τ M D E R q r => ?_⟩
  refine rv F H σ τ M _ _ R q fun v F1 H1 d M1 e1 R1 r1 q1 => ?_
  refine ro F1 H1 σ τ M1 _ _ R1 q1 fun x F2 H2 dx M2 e2 R2 r2 q2 => ?_
  refine ri F2 H2 σ τ M2 _ _ R2 q2 fun y F3 H3 dy M3 e3 R3 r3 q3 => ?_
  cases dx <;> first | exact False.elim q3 | skip
  cases dy <;> first | exact False.elim q3 | skip
  rename_i p j0
  cases r2
  cases r3
  dsimp only at q3
  split at q3
  · rename_i xs hp
    split at q3
    · rename_i j hj
      obtain ⟨_, hob, hh, hr⟩ := R3.heap.sto p _ hp
      cases hob <;> first | exact False.elim hr | skip
      rename_i vs
      have hr' : RelDs X.K F3 vs xs := hr
      refine ⟨p, vs, j0, j, rfl, rfl, hh, by rw [hr'.length]; exact hj, ?_⟩
      obtain ⟨e4, R4⟩ := R3.heap.write (o := .lst (vs.set j v)) (u := .lst (xs.set j d)) hp (hr'.set j (r1.mono (e2.trans e3).ext))
      exact r.nx _ _ _ _ _ (((e1.trans e2).trans e3).trans e4) (R3.mono e4.ext R4) q3
    · exact q3.elim
  · exact q3.elim
theorem ds_putK (hu : X.A.units + 1 < cLine) (ho : DE X o td) (hi : DE X i ti) (hv : DE X value tv) (hs : swapsWith value (some (.Subscript o i pos')) pos.line X.env = pure false := by rfl) : DS X (.Assign [.Subscript o i pos'] value pos) (dPutK td ti tv) := by
  obtain ⟨uo, po, ro⟩ := ho.ex
  obtain ⟨ui, pi, ri⟩ := hi.ex
  obtain ⟨uv, pv', rv⟩ := hv.ex
  refine ⟨_, ps_dput hu po pi pv' hs, fun F H σ τ M D E R q r => ?_⟩
  refine rv F H σ τ M _ _ R q fun v F1 H1 d M1 e1 R1 r1 q1 => ?_
  refine ro F1 H1 σ τ M1 _ _ R1 q1 fun x F2 H2 dx M2 e2 R2 r2 q2 => ?_
  refine ri F2 H2 σ τ M2 _ _ R2 q2 fun y F3 H3 dy M3 e3 R3 r3 q3 => ?_
  cases dx <;> first | exact False.elim q3 | skip
  rename_i p
  cases r2
  cases hk : dKey dy with
  | none => rw [hk] at q3; exact q3.elim
  | some kk =>
    rw [hk] at q3
    dsimp only at q3
    have ek := dKey_ok r3 hk
    subst ek
    split at q3
    · rename_i kvs hp
      obtain ⟨hz, q3⟩ := q3
      obtain ⟨_, hob, hh, hr⟩ := R3.heap.sto p _ hp
      cases hob <;> first | exact False.elim hr | skip
      rename_i vs
      have hr' : RelKv X.K F3 vs kvs := hr
      obtain ⟨e4, R4⟩ := R3.heap.write (o := .dK (putK vs kk v)) (u := .dct (putD kvs kk d)) hp (hr'.put (r1.mono (e2.trans e3).ext))
      exact ⟨p, _, rfl, DPut.k hh (by rw [hr'.length]; exact hz), r.nx _ _ _ _ _ (((e1.trans e2).trans e3).trans e4) (R3.mono e4.ext R4) q3⟩
    · exact q3.elim
end

/-! ### methods of lists -/
section
variable {X : Cx} {o e : Expr} {apos cpos : Pos} {to te : DTE}
@[simp] def dAppend (to te : DTE) : DTE := fun τ M Q => to τ M fun x M1 => match x with
  | .ref p => (∃ xs, M1 p = some (.lst xs)) ∧ te τ M1 fun y M2 => (match M2 p with
    | some (.lst xs) => xs.length < sizeLine ∧ Q .non (M2.upd p (.lst (xs ++ [y])))
    | _ => False)
  | _ => False
theorem de_append (ho : DE X o to) (he : DE X e te)
    (hbase : attributeBase o "append" X.env (eval o X.env) = eval o X.env := by rfl)
    (hfew : ((backTo cpos (starEach [e] X.env)).all (fun x => !x.1) && (backToKw cpos (keywordEach [] X.env)).all (fun x => x.1.isSome)
      && decide ([e].length + ([] : List Keyword).length + (if ([] : List Keyword).isEmpty then 0 else 1) < 30)) = true := by rfl)
    (hline : (apos.endLine == cpos.line) = true := by rfl) (hs : starEach [e] X.env = (false, eval e X.env) :: starEach [] X.env := by rfl) (hplain : (backTo cpos (starEach [] X.env)).any (·.1) = false := by rfl) :
    DE X (.Call (.Attribute o "append" apos) [e] [] cpos) (dAppend to te) := by
  obtain ⟨uo, po, ro⟩ := ho.ex
  obtain ⟨ue, pe, re⟩ := he.ex
  refine ⟨_, pe_bm PySem.F.plainAttrs_list PySem.F.slot_list_append PySem.F.type_list_append mt_append po (pa_cons pe pa_nil hs) hbase hfew hline hs hplain, fun F H σ τ M Qd Q R q k => ?_⟩
  refine ro F H σ τ M _ _ R q fun v F1 H1 d M1 e1 R1 r1 q1 => ?_
  cases d <;> first | exact False.elim q1 | skip
  rename_i p
  cases r1
  obtain ⟨⟨xs0, h0⟩, q1⟩ := q1
  obtain ⟨_, ho0, hh0, hr0⟩ := R1.heap.sto p _ h0
  cases ho0 <;> first | exact False.elim hr0 | skip
  refine ⟨Or.inl ⟨rfl, _, SqL.of hh0⟩, ?_⟩
  refine re F1 H1 σ τ M1 _ _ R1 q1 fun y F2 H2 dy M2 e2 R2 r2 q2 => ?_
  split at q2
  · rename_i xs hp
    obtain ⟨_, hob, hh, hr⟩ := R2.heap.sto p _ hp
    cases hob <;> first | exact False.elim hr | skip
    rename_i vs
    have hr' : RelDs X.K F2 vs xs := hr
    refine ⟨p, vs, y, rfl, rfl, hh, by rw [hr'.length]; exact q2.1, ?_⟩
    obtain ⟨e4, R4⟩ := R2.heap.write (o := .lst (vs ++ [y])) (u := .lst (xs ++ [dy])) hp (hr'.append (.cons r2 .nil))
    exact k _ _ _ .non _ ((e1.trans e2).trans e4) (R2.mono e4.ext R4) .non q2.2
  · exact q2.elim
/-- xs.pop(i) -/
@[simp] def dPopAt (to te : DTE) : DTE := fun τ M Q => to τ M fun x M1 => match x with
  | .ref p => (∃ xs, M1 p = some (.lst xs)) ∧ te τ M1 fun y M2 => (match y, M2 p with
    | .int i, some (.lst xs) => 0 ≤ i ∧ i < 2 ^ 63 ∧ (match xs[i.toNat]? with
      | some d => Q d (M2.upd p (.lst (xs.eraseIdx i.toNat)))
      | none => False)
    | _, _ => False)
  | _ => False
theorem de_popAt (ho : DE X o to) (he : DE X e te)
    (hbase : attributeBase o "pop" X.env (eval o X.env) = eval o X.env := by rfl)
    (hfew : ((backTo cpos (starEach [e] X.env)).all (fun x => !x.1) && (backToKw cpos (keywordEach [] X.env)).all (fun x => x.1.isSome)
      && decide ([e].length + ([] : List Keyword).length + (if ([] : List Keyword).isEmpty then 0 else 1) < 30)) = true := by rfl)
    (hline : (apos.endLine == cpos.line) = true := by rfl) (hs : starEach [e] X.env = (false, eval e X.env) :: starEach [] X.env := by rfl) (hplain : (backTo cpos (starEach [] X.env)).any (·.1) = false := by rfl) :
    DE X (.Call (.Attribute o "pop" apos) [e] [] cpos) (dPopAt to te) := by
  obtain ⟨uo, po, ro⟩ := ho.ex
  obtain ⟨ue, pe, re⟩ := he.ex
  refine ⟨_, pe_bm PySem.F.plainAttrs_list PySem.F.slot_list_pop PySem.F.type_list_pop mt_popAt po (pa_cons pe pa_nil hs) hbase hfew hline hs hplain, fun F H σ τ M Qd Q R q k => ?_⟩
  refine ro F H σ τ M _ _ R q fun v F1 H1 d M1 e1 R1 r1 q1 => ?_
  cases d <;> first | exact False.elim q1 | skip
  rename_i p
  cases r1
  obtain ⟨⟨xs0, h0⟩, q1⟩ := q1
  obtain ⟨_, ho0, hh0, hr0⟩ := R1.heap.sto p _ h0
  cases ho0 <;> first | exact False.elim hr0 | skip
  refine ⟨Or.inl ⟨rfl, _, SqL.of hh0⟩, ?_⟩
  refine re F1 H1 σ τ M1 _ _ R1 q1 fun y F2 H2 dy M2 e2 R2 r2 q2 => ?_
  split at q2
  · rename_i i xs hp
    obtain ⟨g0, g1, q2⟩ := q2
    split at q2
    · rename_i d hd
      obtain ⟨_, hob, hh, hr⟩ := R2.heap.sto p _ hp
      cases hob <;> first | exact False.elim hr | skip
      rename_i vs
      have hr' : RelDs X.K F2 vs xs := hr
      obtain ⟨v, hv, rv⟩ := hr'.get hd
      cases r2
      have hl : i.toNat < vs.length := (List.getElem?_eq_some_iff.mp hv).1
      refine ⟨p, vs, i, i.toNat, v, rfl, rfl, hh, by omega, g1, seqIndex_of g0 (by omega), hv, ?_⟩
      obtain ⟨e4, R4⟩ := R2.heap.write (o := .lst (vs.eraseIdx i.toNat)) (u := .lst (xs.eraseIdx i.toNat)) hp (hr'.eraseIdx i.toNat)
      exact k _ _ _ d _ ((e1.trans e2).trans e4) (R2.mono e4.ext R4) (rv.mono e4.ext) q2
    · exact q2.elim
  · exact q2.elim
end
end DL

/-! DR: more ways of walking; slices backwards; extend, pop; dicts' get, setdefault. -/
namespace DL
open PySem PySem.Spec PyProof.Rows L2
variable [Wsh]
section
variable {X : Cx} {tg l : Expr} {t : DTE}
/-- a list or a tuple is walked -/
def iAnySeq (K : PySem.W.Frag) (tl : TE) : TI := fun σ H R => tl σ H fun x H1 => ∃ a, x = .ref a ∧ (((∃ xs, SqL K H1 a xs) ∧ R (Itl K a) H1) ∨ ((∃ xs, SqT K H1 a xs) ∧ R (Itt K a) H1))
theorem pi_anySeq {tl : TE} (hl : PE X l tl) : PI X tg l (iAnySeq X.K tl) := by
  constructor
  intro pins s σ H R I h
  refine thn (hl.run pins s σ H _ I h) ?_
  rintro v s1 ⟨x, H1, I1, r1, a, e, q⟩
  subst e
  cases r1
  have newIt : ∀ b ∈ [s1.heap.objs.size], FpOk X pins H1 b := by
    intro b hb
    rw [List.mem_singleton] at hb
    subst hb
    exact I1.fpOk (Nat.le_refl _) (I1.hok.fresh (Nat.le_refl _))
  have keepAll : ∀ (o : Obj) (b : Addr) (u : Obj), s1.heap.get? b = some u → (s1.heap.push o).get? b = some u := fun o b u z => Heap.get?_push_of_some _ z
  rcases q with ⟨⟨xs, hq⟩, q⟩ | ⟨⟨xs, hq⟩, q⟩
  · obtain ⟨its, rv, p, hz⟩ := I1.list hq
    apply wpAny_pyIter_list p.isList
    exact ⟨s1.heap.objs.size, [s1.heap.objs.size], _, Itl X.K a, H1, rfl, I1.kept (t' := s1.toks) (keepAll _), turn_list a _, ⟨_, Heap.get?_push_size _ rfl, rfl, rfl⟩, newIt, q⟩
  · obtain ⟨its, rv, p, hz⟩ := I1.tuple hq
    apply wpAny_pyIter_tuple (show s1.heap.IsTuple a its.toArray from p)
    exact ⟨s1.heap.objs.size, [s1.heap.objs.size], _, Itt X.K a, H1, rfl, I1.kept (t' := s1.toks) (keepAll _), turn_tuple a _, ⟨_, Heap.get?_push_size _ rfl, rfl, rfl⟩, newIt, q⟩
theorem di_seq (hl : DE X l t) : DI X tg l (iSeq t) := by
  obtain ⟨u, pu, ru⟩ := hl.ex
  refine ⟨_, pi_anySeq pu, fun F H σ τ M Qd Q R q k => ?_⟩
  refine ru F H σ τ M _ _ R q fun v F1 H1 d M1 e1 R1 r1 q1 => ?_
  cases d <;> first | exact False.elim q1 | skip
  · cases r1 with
    | tup hs rs => exact ⟨_, rfl, .inr ⟨⟨_, R1.heap.sub.sqT hs⟩, k _ F1 H1 _ M1 e1 R1 (itd_tup hs rs) q1⟩⟩
  · cases r1 with
    | lst hs rs => exact ⟨_, rfl, .inl ⟨⟨_, SqL.of (R1.heap.sub _ _ hs)⟩, k _ F1 H1 _ M1 e1 R1 (itd_list (SqL.of hs) rs) q1⟩⟩
  · cases r1 with
    | ptp hs _ rs => exact ⟨_, rfl, .inr ⟨⟨_, .inl (.inr ⟨_, R1.heap.sub _ _ hs⟩)⟩, k _ F1 H1 _ M1 e1 R1 (itd_tup (.inl (.inr ⟨_, hs⟩)) rs) q1⟩⟩
end

/-! ### x[::-1] of lists and tuples -/
theorem sliceApplied_back {prog : Program} {w : World} {A : Around} {E : Value → Shared → Prop} {s : Shared} {sl : Addr} {vl vu vs : Value} {n : Nat} {Q : Int × Int × Nat → Shared → Prop}
    (hs : s.heap.IsSliceOf sl vl vu vs) (pl : IsPart vl none) (pu : IsPart vu none) (ps : IsPart vs (some (-1))) (h : Q ((n : Int) - 1, -1, n) s) : wpAny (model prog w) A (Builtin.Slice.sliceApplied (.ref sl) (pure (n : Int))) Q E s := by
  obtain ⟨os, hos, hcs, hds⟩ := id hs
  have e2 : Builtin.Slice.sliceAdjust none none (-1) (n : Int) = ((n : Int) - 1, -1) := rfl
  have e3 : Builtin.Slice.slicePlaces ((n : Int) - 1) (-1) (-1) = n := by
    unfold Builtin.Slice.slicePlaces
    rw [if_neg (by decide)]
    by_cases h0 : n = 0
    · subst h0; rfl
    · rw [if_pos (by omega)]
      have : ((n : Int) - 1 - -1 - 1) / (- -1) + 1 = n := by
        rw [show (- -1 : Int) = 1 from rfl, Int.ediv_one]; omega
      rw [this, Int.toNat_natCast]
  unfold Builtin.Slice.sliceApplied Builtin.Slice.sliceFields
  apply wpAny_bind
  apply wpAny_bind
  apply wpAny_field hos hds (x := vl) rfl
  apply wpAny_bind
  apply wpAny_field hos hds (x := vu) rfl
  apply wpAny_bind
  apply wpAny_field hos hds (x := vs) rfl
  apply wpAny_pure
  apply wpAny_bind
  apply HT.slicePart_ ps
  show wpAny _ _ (if ((-1 : Int) == 0) = true then _ else _) _ _ s
  rw [if_neg (by decide)]
  apply wpAny_bind
  apply HT.slicePart_ pl
  apply wpAny_bind
  apply HT.slicePart_ pu
  apply wpAny_bind
  apply wpAny_pure
  show wpAny _ _ (match Builtin.Slice.sliceAdjust none none (-1) (n : Int) with | (lo, hi) => pure (lo, (-1 : Int), Builtin.Slice.slicePlaces lo hi (-1))) _ _ s
  rw [e2]
  show wpAny _ _ (pure ((n : Int) - 1, (-1 : Int), Builtin.Slice.slicePlaces ((n : Int) - 1) (-1) (-1))) _ _ s
  rw [e3]
  exact wpAny_pure h
theorem filterMap_as {α β : Type} {f : α → Option β} {g : α → β} : ∀ {l : List α}, (∀ m ∈ l, f m = some (g m)) → l.filterMap f = l.map g
  | [], _ => rfl
  | x :: r, h => by
    rw [List.filterMap_cons, h x (by simp), List.map_cons, filterMap_as fun m hm => h m (by simp [hm])]
theorem back_list {α : Type} [Inhabited α] (xs : List α) : ((List.range xs.length).map fun m => xs.getD (xs.length - 1 - m) default) = xs.reverse := by
  apply List.ext_getElem?
  intro i
  rw [List.getElem?_map]
  by_cases hi : i < xs.length
  · rw [List.getElem?_range hi, List.getElem?_reverse hi]
    have hlt : xs.length - 1 - i < xs.length := by omega
    simp [List.getD, List.getElem?_eq_getElem hlt]
  · rw [List.getElem?_eq_none (by simpa using hi), List.getElem?_eq_none (by simpa using hi)]
    rfl
theorem pick_back (xs : List Value) : ((List.range xs.length).filterMap fun (m : Nat) => xs.toArray[(((xs.length : Int) - 1) + (m : Int) * (-1)).toNat]?) = xs.reverse := by
  rw [← back_list xs]
  apply filterMap_as
  intro m hm
  have hm' : m < xs.length := by simpa using hm
  have e : (((xs.length : Int) - 1) + (m : Int) * (-1)).toNat = xs.length - 1 - m := by omega
  rw [e]
  have hlt : xs.length - 1 - m < xs.length := by omega
  simp [List.getElem?_eq_getElem hlt, List.getD]
theorem getItem_tuple_back {prog : Program} {w : World} {A : Around} {E : Value → Shared → Prop} {s : Shared} {t sl : Addr} {its : List Value} {vl vu vs : Value} {Q : Value → Shared → Prop} (ht : IsTup s.heap t its.toArray)
    (hs : s.heap.IsSliceOf sl vl vu vs) (pl : IsPart vl none) (pu : IsPart vu none) (ps : IsPart vs (some (-1))) (hz : its.length ≤ sizeLine)
    (h : Q (.ref s.heap.objs.size) { s with heap := s.heap.push { cls := .type "tuple", data := .seq its.reverse.toArray } }) : wpAny (model prog w) A (getItem (.ref t) (.ref sl)) Q E s := by
  obtain ⟨os, hos, hcs, hds⟩ := id hs
  have hTs : s.TypeIs (.ref sl) "slice" := ⟨os, hos, hcs⟩
  have hok : sizeOk (.seq its.reverse.toArray) := by
    show its.reverse.toArray.size ≤ sizeLine
    rw [List.size_toArray, List.length_reverse]; exact hz
  unfold getItem
  try with_reducible apply wpAny_holding
  first | (apply wpAny_bind; apply wpAny_pure) | skip
  apply wpAny_bind
  apply wpAny_sequenceKey ht.typeIs (by decide)
  apply wpAny_bind
  apply wpAny_callSpecial?_slot (name := Str.ofString "__getitem__") ht.typeIs PyProof.Rows.slot_tuple_getitem
  refine wpAny_call_entry PyProof.Rows.slot_tuple_getitem ht.typeIs entry_tuple_getitem ?_ (args_tuple_getitem _ _)
  show wpAny _ _ (Builtin.Tuple.tupleItemsOf (.ref t) >>= _) _ _ s
  apply wpAny_bind
  apply tupleItemsOf_ ht
  apply wpAny_bind
  apply wpAny_typeOf hTs
  rw [if_pos (by decide)]
  apply wpAny_bind
  apply sliceApplied_back hs pl pu ps
  have hno : ¬ (((its.toArray.size : Int) - 1 == 0 && (-1 : Int) == 1 && its.toArray.size == its.toArray.size) = true) := by
    intro z
    rw [Bool.and_eq_true, Bool.and_eq_true] at z
    exact absurd z.1.2 (by decide)
  show wpAny _ _ (if ((its.toArray.size : Int) - 1 == 0 && (-1 : Int) == 1 && its.toArray.size == its.toArray.size) = true then _ else _) _ _ s
  rw [if_neg hno]
  have ep : ((List.range its.toArray.size).filterMap fun (m : Nat) => its.toArray[(((its.toArray.size : Int) - 1) + (m : Int) * (-1)).toNat]?) = its.reverse := pick_back its
  rw [ep]
  first
    | exact wpAny_bind (m := Builtin.Tuple.tupleExact _) (wpAny_newObj_type (wpAny_pure ⟨_, rfl, wpAny_pure h⟩) hok)
    | exact wpAny_bind (m := Builtin.Tuple.tupleExact _) (wpAny_newObj_type (wpAny_bind (wpAny_pure (wpAny_pure ⟨_, rfl, wpAny_pure h⟩))) hok)
    | exact wpAny_bind (wpAny_bind (m := Builtin.Tuple.tupleExact _) (wpAny_newObj_type (wpAny_pure (wpAny_pure ⟨_, rfl, wpAny_pure h⟩)) hok))
    | exact wpAny_bind (wpAny_bind (m := Builtin.Tuple.tupleExact _) (wpAny_newObj_type (wpAny_pure ⟨_, rfl, wpAny_pure h⟩) hok))
theorem slicePick_back (its : List Value) : slicePick its.toArray none none (some (-1)) = its.reverse.toArray := by
  unfold slicePick
  have e : sliceBounds none none (some (-1)) its.toArray.size = ((its.length : Int) - 1, -1, -1) := rfl
  rw [e]
  have e2 : sliceRange ((its.length : Int) - 1) (-1) (-1) = (List.range its.length).map fun (m : Nat) => (its.length - 1 - m : Nat) := by
    unfold sliceRange
    have c : (if (-1 : Int) > 0 then (if (its.length : Int) - 1 < -1 then (-1 - ((its.length : Int) - 1) + -1 - 1) / -1 else 0) else (if (its.length : Int) - 1 > -1 then ((its.length : Int) - 1 - -1 - -1 - 1) / (- -1) else 0)) = (its.length : Int) := by
      rw [if_neg (by decide), show (- -1 : Int) = 1 from rfl, Int.ediv_one]
      split <;> omega
    dsimp only
    rw [c, Int.toNat_natCast]
    apply List.map_congr_left
    intro m hm
    have hm' : m < its.length := by simpa using hm
    omega
  rw [e2, List.filterMap_map, ← back_list its]
  congr 1
  apply filterMap_as
  intro m hm
  have hm' : m < its.length := by simpa using hm
  have hlt : its.length - 1 - m < its.length := by omega
  simp [List.getElem?_eq_getElem hlt, List.getD]
section
variable {X : Cx} {e : Expr} {k : Nat} {p1 p2 p3 pos : Pos}
def tBack (K : PySem.W.Frag) (te : TE) : TE := fun σ H Q => te σ H fun x H1 => ∃ a xs, x = .ref a ∧ ((SqL K H1 a xs ∧ ∀ p, H1 p = none → Q (.ref p) (upd H1 p (.lst xs.reverse))) ∨ (SqT K H1 a xs ∧ ∀ p, H1 p = none → Q (.ref p) (upd H1 p (.tup xs.reverse))))
theorem pe_back {te : TE} (he : PE X e te) : PE X (.Subscript e (.Slice none none (some (.UnaryOp .USub (.Constant (.int 1) k p1) p2)) p3) pos) (tBack X.K te) := by
  constructor
  intro pins s σ H Q I h
  apply Subscript_
  refine thn (he.run pins s σ H _ I h) ?_
  rintro v s1 ⟨x, H1, I1, r1, a, xs, ex, q1⟩
  subst ex
  cases r1
  have step : PO X (some (.UnaryOp .USub (.Constant (.int 1) k p1) p2)) (tPart (tUn (rU fun i => .int (-i)) (tC (.int 1)))) := po_some (pe_un un_neg pe_int)
  apply wpAny_Slice
  refine thn (po_none.run pins s1 σ H1 (fun o H2 => o = none ∧ H2 = H1) I1 ⟨rfl, rfl⟩) ?_
  rintro vl s2 ⟨l, H2, I2, pl, el, e2⟩
  subst el e2
  refine thn (po_none.run pins s2 σ H2 (fun o H3 => o = none ∧ H3 = H2) I2 ⟨rfl, rfl⟩) ?_
  rintro vu s3 ⟨u, H3, I3, pu, eu, e3⟩
  subst eu e3
  refine thn (step.run pins s3 σ H3 (fun o H4 => o = some (-1) ∧ H4 = H3) I3 ⟨1, rfl, _, rfl, rfl, rfl⟩) ?_
  rintro vs s4 ⟨st, H4, I4, ps, es, e4⟩
  subst es e4
  have I5 : Inv X pins σ H4 { s4 with heap := s4.heap.push { cls := .type "slice", data := .fields #[vl, vu, vs] } } := I4.kept (t' := s4.toks) fun b ob z => Heap.get?_push_of_some _ z
  have hsl := Heap.IsSliceOf.new s4.heap vl vu vs
  rcases q1 with ⟨hs, q1⟩ | ⟨hs, q1⟩
  · obtain ⟨its, r, pl', hz⟩ := I5.list hs
    refine tail_any (ops := [.ref a, .ref s4.heap.objs.size]) pl'.isList.typeIs slot_list_getitem.lookup ?_ (by with_unfolding_all rfl)
    refine wpAny_getItem_list_slice pl'.isList hsl pl pu ps (by simp) ?_ (by rw [List.size_toArray, ← r.length]; exact hz)
    rw [slicePick_back]
    have I6 := I5.laid (t' := s4.toks) (a := (s4.heap.push { cls := .type "slice", data := .fields #[vl, vu, vs] }).objs.size) (o := .lst xs.reverse) (h' := (s4.heap.push { cls := .type "slice", data := .fields #[vl, vu, vs] }).push { cls := .type "list", data := .seq its.reverse.toArray }) (fun b ob z => Heap.get?_push_of_some _ z) (Nat.le_refl _) ⟨by rw [List.length_reverse]; exact hz, _, 0, r.reverse, Heap.get?_push_size _ rfl⟩
    exact ⟨.ref _, _, I6, rfl, q1 _ (I5.hok.fresh (Nat.le_refl _))⟩
  · obtain ⟨its, r, pl', hz⟩ := I5.tuple hs
    refine tail_any (ops := [.ref a, .ref s4.heap.objs.size]) pl'.typeIs PyProof.Rows.slot_tuple_getitem.lookup ?_ (by with_unfolding_all rfl)
    refine getItem_tuple_back pl' hsl pl pu ps (by rw [← r.length]; exact hz) ?_
    have I6 := I5.laid (t' := s4.toks) (a := (s4.heap.push { cls := .type "slice", data := .fields #[vl, vu, vs] }).objs.size) (o := .tup xs.reverse) (h' := (s4.heap.push { cls := .type "slice", data := .fields #[vl, vu, vs] }).push { cls := .type "tuple", data := .seq its.reverse.toArray }) (fun b ob z => Heap.get?_push_of_some _ z) (Nat.le_refl _) ⟨by rw [List.length_reverse]; exact hz, _, r.reverse, IsTup.new _ _⟩
    exact ⟨.ref _, _, I6, rfl, q1 _ (I5.hok.fresh (Nat.le_refl _))⟩
@[simp] def dBack (t : DTE) : DTE := fun τ M Q => t τ M fun x M1 => match x with
  | .tup xs => Q (.tup xs.reverse) M1
  | x => (match lstOf x M1 with
    | some xs => Q (.lst xs.reverse) M1
    | none => False)
theorem de_back {t : DTE} (he : DE X e t) : DE X (.Subscript e (.Slice none none (some (.UnaryOp .USub (.Constant (.int 1) k p1) p2)) p3) pos) (dBack t) := by
  obtain ⟨u, pu, ru⟩ := he.ex
  refine ⟨_, pe_back pu, fun F H σ τ M Qd Q R q k => ?_⟩
  refine ru F H σ τ M _ _ R q fun v F1 H1 d M1 e1 R1 r1 q1 => ?_
  split at q1
  · cases r1 with
    | tup hs rs =>
      refine ⟨_, _, rfl, .inr ⟨R1.heap.sub.sqT hs, fun p hp => ?_⟩⟩
      obtain ⟨e2, R2⟩ := R1.heap.frozen (o := .tup _) hp
      exact k _ _ _ _ M1 (e1.trans e2) (R1.mono e2.ext R2) (.tup (SqT.of upd_same) (rs.reverse.mono e2.ext)) q1
  · split at q1
    · rename_i xs hx
      obtain ⟨a, vs, rfl, hs, rs⟩ := lst_ok R1.heap r1 hx
      refine ⟨_, _, rfl, .inl ⟨SqL.of hs, fun p hp => ?_⟩⟩
      obtain ⟨e2, R2⟩ := R1.heap.frozen (o := .lst _) hp
      exact k _ _ _ _ M1 (e1.trans e2) (R1.mono e2.ext R2) (.lst upd_same (rs.reverse.mono e2.ext)) q1
    · exact q1.elim
end
end DL

/-! DS: isinstance; dicts; pop, extend; a, b, c = ..; zip; list(range(..)); sorted; ghost steps. -/
namespace DL
open PySem PySem.Spec PyProof.Rows L2
variable [Wsh]

/-! ### isinstance -/
@[simp] def tyName (d : D) (M : Sto) : Option String := match d with
  | .non => some "NoneType"
  | .bl _ => some "bool"
  | .int _ => some "int"
  | .str _ => some "str"
  | .tup _ => some "tuple"
  | .lst _ => some "list"
  | .dct _ => some "dict"
  | .ref a => (match M a with
    | some (.lst _) => some "list"
    | some (.dct _) => some "dict"
    | _ => none)
  | _ => none
@[simp] def gIsi : GC := fun ds M Q => match ds with
  | [x, .ty n] => (match tyName x M with
    | some t => (match kitB t n with
      | some b => Q (.bl b) M
      | none => False)
    | none => False)
  | _ => False
theorem tyX_ok {K : PySem.W.Frag} {F H : Hp} {M : Sto} {v : V} {d : D} {t : String} (R : Rst0 K F H M) (r : RelD K F v d) (h : tyName d M = some t) : TyX K H v (.type t) := by
  cases d <;> first | (simp [tyName] at h; done) | skip
  · cases h; cases r; exact .base .non
  · cases h; cases r; exact .base (.bl _)
  · cases h; cases r; exact .base (.int _)
  · cases h; cases r; exact .base (.str _)
  · cases h
    cases r with
    | tup h1 h2 =>
      rcases R.sub.sqT h1 with (e | ⟨o, e⟩) | ⟨o, its, n, e, c, _⟩
      · exact .base (.tup e)
      · exact .fTuple e
      · exact .kTuple e c
  · cases h
    cases r with
    | lst h1 h2 => exact .base (.lst (R.sub _ _ h1))
  · cases h
    cases r with
    | dct h1 h2 =>
      rcases R.sub.rd h1 with e | ⟨o, e⟩
      · exact .base (.dK e)
      · exact .fDict e
  · rename_i a
    cases r
    unfold tyName at h
    dsimp only at h
    split at h
    · rename_i ys e
      cases h
      obtain ⟨_, ho, h1, h2⟩ := R.sto a _ e
      cases ho <;> first | exact False.elim h2 | skip
      exact .base (.lst h1)
    · rename_i ys e
      cases h
      obtain ⟨_, ho, h1, h2⟩ := R.sto a _ e
      cases ho <;> first | exact False.elim h2 | skip
      exact .base (.dK h1)
    · cases h
section
variable {X : Cx}
theorem cd_isi : CallD X (.builtin "isinstance") gIsi := fun F H M xs ds Qd Q R r q k => by
  unfold gIsi at q
  split at q
  · rename_i x n
    split at q
    · rename_i t ht
      split at q
      · rename_i b hb
        cases r with
        | cons r1 r2 => cases r2 with
          | cons r2 r3 =>
            cases r3; cases r2
            exact ⟨_, call_isi, _, _, _, _, b, rfl, .ty n, tyX_ok R r1 ht, kit_ty hb, k _ F H _ M (Stp.refl F H M) R (.bl _) q⟩
      · exact q.elim
    · exact q.elim
  · exact q.elim

/-! ### d.get(k, x), d.setdefault(k, x), d.clear(), len(d), dict(d), dict(pairs) -/
variable {o e f : Expr} {apos cpos pos : Pos} {to te tf : DTE}
@[simp] def dDGet2 (to te tf : DTE) : DTE := fun τ M Q => to τ M fun x M1 => (dctOf x M1).isSome = true ∧ te τ M1 fun y M2 => tf τ M2 fun z M3 => match dctOf x M3, dKey y with
  | some kvs, some k => (match valD kvs k with
    | some d => Q d M3
    | none => Q z M3)
  | _, _ => False
theorem de_dget2 (hu : X.A.units + 1 < cLine) (ho : DE X o to) (he : DE X e te) (hf : DE X f tf) (m : M2 X o "get" apos e f cpos := by exact ⟨rfl, rfl, rfl, rfl⟩) : DE X (.Call (.Attribute o "get" apos) [e, f] [] cpos) (dDGet2 to te tf) := by
  obtain ⟨uo, po, ro⟩ := ho.ex
  obtain ⟨ue, pe, re⟩ := he.ex
  obtain ⟨uf, pf, rf⟩ := hf.ex
  refine ⟨_, pe_dget2 hu po pe pf m, fun F H σ τ M Qd Q R q k => ?_⟩
  refine ro F H σ τ M _ _ R q fun v F1 H1 d M1 e1 R1 r1 q1 => ?_
  obtain ⟨hd, q1⟩ := q1
  obtain ⟨kvs0, hd⟩ := Option.isSome_iff_exists.mp hd
  obtain ⟨a, vs0, rfl, hh, _⟩ := dct_ok R1.heap r1 hd
  refine ⟨a, rfl, .inl ⟨_, hh⟩, ?_⟩
  refine re F1 H1 σ τ M1 _ _ R1 q1 fun y F2 H2 dy M2 e2 R2 r2 q2 => ?_
  refine rf F2 H2 σ τ M2 _ _ R2 q2 fun z F3 H3 dz M3 e3 R3 r3 q3 => ?_
  split at q3
  · rename_i kvs kk hk hy
    have r2' := dKey_ok r2 hy
    subst r2'
    obtain ⟨a', vs, e, hs, rs⟩ := dct_ok R3.heap (r1.mono (e2.trans e3).ext) hk
    cases e
    rcases rs.val kk with ⟨h1, h2⟩ | ⟨d0, v0, h1, h2, rd⟩
    · rw [h1] at q3
      refine ⟨valV vs kk, .inl ⟨_, _, hs, rfl, rfl⟩, ?_⟩
      rw [h2]
      exact k z F3 H3 dz M3 ((e1.trans e2).trans e3) R3 r3 q3
    · rw [h1] at q3
      refine ⟨valV vs kk, .inl ⟨_, _, hs, rfl, rfl⟩, ?_⟩
      rw [h2]
      exact k v0 F3 H3 d0 M3 ((e1.trans e2).trans e3) R3 rd q3
  · exact q3.elim
@[simp] def dDSetd (to te tf : DTE) : DTE := fun τ M Q => to τ M fun x M1 => (dctOf x M1).isSome = true ∧ te τ M1 fun y M2 => tf τ M2 fun z M3 => match x, dKey y with
  | .ref p, some k => (match M3 p with
    | some (.dct kvs) => kvs.length < sizeLine ∧ (match valD kvs k with
      | some d => Q d M3
      | none => Q z (M3.upd p (.dct (putD kvs k z))))
    | _ => False)
  | _, _ => False
theorem de_dsetd (ho : DE X o to) (he : DE X e te) (hf : DE X f tf) (m : M2 X o "setdefault" apos e f cpos := by exact ⟨rfl, rfl, rfl, rfl⟩) : DE X (.Call (.Attribute o "setdefault" apos) [e, f] [] cpos) (dDSetd to te tf) := by
  obtain ⟨uo, po, ro⟩ := ho.ex
  obtain ⟨ue, pe, re⟩ := he.ex
  obtain ⟨uf, pf, rf⟩ := hf.ex
  refine ⟨_, pe_dsetd po pe pf m, fun F H σ τ M Qd Q R q k => ?_⟩
  refine ro F H σ τ M _ _ R q fun v F1 H1 d M1 e1 R1 r1 q1 => ?_
  obtain ⟨hd, q1⟩ := q1
  obtain ⟨kvs0, hd⟩ := Option.isSome_iff_exists.mp hd
  obtain ⟨a, vs0, rfl, hh, _⟩ := dct_ok R1.heap r1 hd
  refine ⟨a, rfl, .inl ⟨_, hh⟩, ?_⟩
  refine re F1 H1 σ τ M1 _ _ R1 q1 fun y F2 H2 dy M2 e2 R2 r2 q2 => ?_
  refine rf F2 H2 σ τ M2 _ _ R2 q2 fun z F3 H3 dz M3 e3 R3 r3 q3 => ?_
  cases d <;> first | exact False.elim q3 | skip
  rename_i p
  cases r1
  cases hk : dKey dy with
  | none => rw [hk] at q3; exact q3.elim
  | some kk =>
    rw [hk] at q3
    dsimp only at q3
    have ek := dKey_ok r2 hk
    subst ek
    split at q3
    · rename_i kvs hp
      obtain ⟨hz, q3⟩ := q3
      obtain ⟨_, hob, hh3, hr⟩ := R3.heap.sto a _ hp
      cases hob <;> first | exact False.elim hr | skip
      rename_i vs
      have hr' : RelKv X.K F3 vs kvs := hr
      refine ⟨vs, kk, hh3, rfl, by rw [hr'.length]; exact hz, fun v0 hv => ?_, fun hv => ?_⟩
      · rcases hr'.val kk with ⟨_, h2⟩ | ⟨d0, v1, h1, h2, rd⟩
        · rw [h2] at hv; cases hv
        · rw [h2] at hv; cases hv
          rw [h1] at q3
          exact k v0 F3 H3 d0 M3 ((e1.trans e2).trans e3) R3 rd q3
      · rcases hr'.val kk with ⟨h1, _⟩ | ⟨d0, v1, _, h2, _⟩
        · rw [h1] at q3
          obtain ⟨e4, R4⟩ := R3.heap.write (o := .dK (putK vs kk z)) (u := .dct (putD kvs kk dz)) hp (hr'.put r3)
          exact k z F3 _ dz _ (((e1.trans e2).trans e3).trans e4) (R3.mono e4.ext R4) (r3.mono e4.ext) q3
        · rw [h2] at hv; cases hv
    · exact q3.elim
@[simp] def dClear (to : DTE) : DTE := fun τ M Q => to τ M fun x M1 => match x with
  | .ref p => (match M1 p with
    | some (.dct _) => Q .non (M1.upd p (.dct []))
    | _ => False)
  | _ => False
theorem de_clear (ho : DE X o to) (hbase : attributeBase o "clear" X.env (eval o X.env) = eval o X.env := by rfl) (hline : (apos.endLine == cpos.line) = true := by rfl) : DE X (.Call (.Attribute o "clear" apos) [] [] cpos) (dClear to) := by
  obtain ⟨uo, po, ro⟩ := ho.ex
  refine ⟨_, pe_dclear po hbase hline, fun F H σ τ M Qd Q R q k => ?_⟩
  refine ro F H σ τ M _ _ R q fun v F1 H1 d M1 e1 R1 r1 q1 => ?_
  cases d <;> first | exact False.elim q1 | skip
  rename_i p
  cases r1
  dsimp only at q1
  split at q1
  · rename_i kvs hp
    obtain ⟨_, hob, hh, hr⟩ := R1.heap.sto p _ hp
    cases hob <;> first | exact False.elim hr | skip
    rename_i vs
    obtain ⟨e2, R2⟩ := R1.heap.write (o := .dK []) (u := .dct []) hp RelKv.nil
    exact ⟨.inr (.inr (.inl ⟨rfl, .inl ⟨_, hh⟩⟩)), p, vs, rfl, rfl, hh, k _ _ _ .non _ (e1.trans e2) (R1.mono e2.ext R2) .non q1⟩
  · exact q1.elim
@[simp] def gLenD : GC := fun ds M Q => match ds with
  | [x] => (match dctOf x M with
    | some kvs => Q (.int kvs.length) M
    | none => False)
  | _ => False
theorem call_lenDR : CallR X (.builtin "len") (fun xs H Q => ∃ a kvs, xs = [V.ref a] ∧ Rd H a (.dK kvs) ∧ Q (.int kvs.length) H) := by
  intro pins s σ H xs us Q I r h
  obtain ⟨a, kvs, rfl, ha, q⟩ := h
  obtain ⟨u, rfl, ru⟩ := vals1 r
  cases ru
  exact d_len I ha fun t s' I' => ⟨.int kvs.length, H, I', ⟨t, rfl⟩, q⟩
theorem cd_lenD : CallD X (.builtin "len") gLenD := fun F H M xs ds Qd Q R r q k => by
  unfold gLenD at q
  split at q
  · split at q
    · rename_i kvs hy
      cases r with
      | cons r1 r2 =>
        cases r2
        obtain ⟨a, vs, rfl, hs, rs⟩ := dct_ok R r1 hy
        exact ⟨_, call_lenDR, a, vs, rfl, hs, by rw [rs.length]; exact k _ F H _ M (Stp.refl F H M) R (.int _) q⟩
    · exact q.elim
  · exact q.elim
/-- dict(d): a copy that may change -/
@[simp] def gDictM : GC := fun ds M Q => match ds with
  | [x] => (match dctOf x M with
    | some kvs => ∀ p, M p = none → Q (.ref p) (M.upd p (.dct kvs))
    | none => False)
  | _ => False
theorem cd_dictM : CallD X (.type "dict") gDictM := fun F H M xs ds Qd Q R r q k => by
  unfold gDictM at q
  split at q
  · split at q
    · rename_i kvs hy
      cases r with
      | cons r1 r2 =>
        cases r2
        obtain ⟨a, vs, rfl, hs, rs⟩ := dct_ok R r1 hy
        refine ⟨_, call_dictD, a, vs, rfl, hs, fun p hp => ?_⟩
        obtain ⟨e2, R2⟩ := R.fresh (o := .dK vs) (u := .dct kvs) hp rs
        exact k _ _ _ (.ref p) _ e2 R2 (.ref p) (q p (R.free hp).2)
    · exact q.elim
  · exact q.elim
/-- dict(d): a copy that stays -/
@[simp] def gDictC : GC := fun ds M Q => match ds with
  | [x] => (match dctOf x M with
    | some kvs => Q (.dct kvs) M
    | none => False)
  | _ => False
theorem cd_dictC : CallD X (.type "dict") gDictC := fun F H M xs ds Qd Q R r q k => by
  unfold gDictC at q
  split at q
  · split at q
    · rename_i kvs hy
      cases r with
      | cons r1 r2 =>
        cases r2
        obtain ⟨a, vs, rfl, hs, rs⟩ := dct_ok R r1 hy
        refine ⟨_, call_dictD, a, vs, rfl, hs, fun p hp => ?_⟩
        obtain ⟨e2, R2⟩ := R.frozen (o := .dK vs) hp
        exact k _ _ _ (.dct kvs) M e2 R2 (.dct (.inl upd_same) (RelKv.mono e2.ext rs)) q
    · exact q.elim
  · exact q.elim
/-- pairs (key, value) -/
def pairsOf : List D → Option (List (Key × D))
  | [] => some []
  | .tup [a, b] :: r => (match dKey a, pairsOf r with
    | some k, some kvs => some ((k, b) :: kvs)
    | _, _ => none)
  | _ :: _ => none
def mergeD (kvs more : List (Key × D)) : List (Key × D) := more.foldl (fun acc kv => putD acc kv.1 kv.2) kvs
theorem RelKv.merge {K : PySem.W.Frag} {F : Hp} : ∀ {ms : List (Key × V)} {ns : List (Key × D)} {vs : List (Key × V)} {ds : List (Key × D)}, RelKv K F ms ns → RelKv K F vs ds → RelKv K F (mergeK vs ms) (mergeD ds ns)
  | _, _, _, _, .nil, r => r
  | _, _, _, _, .cons (k := k) h t, r => by
    have z := RelKv.merge t (r.put (k := k) h)
    exact z
theorem pairs_rel {K : PySem.W.Frag} {F : Hp} : ∀ {ds : List D} {vs : List V} {ns : List (Key × D)}, RelDs K F vs ds → pairsOf ds = some ns →
    ∃ (ps : List Addr) (ms : List (Key × V)), vs = ps.map V.ref ∧ Paired (fun p kv => SqT K F p [kV kv.1, kv.2]) ps ms ∧ RelKv K F ms ns
  | [], _, _, .nil, h => by cases h; exact ⟨[], [], rfl, .nil, .nil⟩
  | .tup [a, b] :: r, _, ns, .cons (v := v) h1 h2, h => by
    unfold pairsOf at h
    cases hk : dKey a with
    | none => rw [hk] at h; cases h
    | some k =>
      rw [hk] at h
      cases hp : pairsOf r with
      | none => rw [hp] at h; cases h
      | some kvs =>
        rw [hp] at h
        cases h
        obtain ⟨ps, ms, e, pr, rr⟩ := pairs_rel h2 hp
        cases h1 with
        | tup hs rs =>
          cases rs with
          | cons ra rb => cases rb with
            | cons rb rc =>
              cases rc
              have ek := dKey_ok ra hk
              subst ek
              exact ⟨_ :: ps, (k, _) :: ms, by rw [e]; rfl, .cons hs pr, .cons rb rr⟩
  | .non :: _, _, _, _, h => nomatch h
  | .bl _ :: _, _, _, _, h => nomatch h
  | .int _ :: _, _, _, _, h => nomatch h
  | .str _ :: _, _, _, _, h => nomatch h
  | .lst _ :: _, _, _, _, h => nomatch h
  | .dct _ :: _, _, _, _, h => nomatch h
  | .ref _ :: _, _, _, _, h => nomatch h
  | .ty _ :: _, _, _, _, h => nomatch h
  | .ins _ _ :: _, _, _, _, h => nomatch h
  | .rol _ :: _, _, _, _, h => nomatch h
  | .ptp _ :: _, _, _, _, h => nomatch h
  | .tup [] :: _, _, _, _, h => nomatch h
  | .tup [_] :: _, _, _, _, h => nomatch h
  | .tup (_ :: _ :: _ :: _) :: _, _, _, _, h => nomatch h
/-- dict(list or tuple of pairs), frozen -/
@[simp] def gDictP : GC := fun ds M Q => match ds with
  | [x] => (match lstOf x M with
    | some ys => (match pairsOf ys with
      | some kvs => Q (.dct (mergeD [] kvs)) M
      | none => False)
    | none => False)
  | _ => False
theorem paired_mono {K : PySem.W.Frag} {F H : Hp} (e : Ext F H) : ∀ {ps : List Addr} {ms : List (Key × V)}, Paired (fun p kv => SqT K F p [kV kv.1, kv.2]) ps ms → Paired (fun p kv => SqT K H p [kV kv.1, kv.2]) ps ms
  | _, _, .nil => .nil
  | _, _, .cons h t => .cons (e.sqT h) (paired_mono e t)
theorem cd_dictP (hc : X.calm = true) : CallD X (.type "dict") gDictP := fun F H M xs ds Qd Q R r q k => by
  unfold gDictP at q
  split at q
  · split at q
    · rename_i ys hy
      split at q
      · rename_i kvs hk
        cases r with
        | cons r1 r2 =>
          cases r2
          obtain ⟨a, vs, rfl, hs, rs⟩ := lst_ok R r1 hy
          obtain ⟨ps, ms, rfl, pr, rk⟩ := pairs_rel rs hk
          refine ⟨_, call_dictP hc, a, ps, ms, rfl, SqL.of hs, paired_mono R.sub pr, fun p hp => ?_⟩
          obtain ⟨e2, R2⟩ := R.frozen (o := .dK (mergeK [] ms)) hp
          exact k _ _ _ (.dct (mergeD [] kvs)) M e2 R2 (.dct (.inl upd_same) (RelKv.mono e2.ext (rk.merge .nil))) q
      · exact q.elim
    · exact q.elim
  · exact q.elim
end
end DL

/-! DT: pop, extend; a, b, c = ..; zip, enumerate; list(range(..)); sorted; freezing a name; {k: v}. -/
namespace DL
open PySem PySem.Spec PyProof.Rows L2
variable [Wsh]
section
variable {X : Cx} {o e f : Expr} {apos cpos pos : Pos} {to te tf : DTE}
/-- xs.pop() -/
@[simp] def dPop (to : DTE) : DTE := fun τ M Q => to τ M fun x M1 => match x with
  | .ref p => (match M1 p with
    | some (.lst xs) => (match xs.getLast? with
      | some d => Q d (M1.upd p (.lst xs.dropLast))
      | none => False)
    | _ => False)
  | _ => False
theorem RelDs.dropLast {K : PySem.W.Frag} {F : Hp} {vs : List V} {ds : List D} (r : RelDs K F vs ds) : RelDs K F vs.dropLast ds.dropLast := by
  rw [List.dropLast_eq_take, List.dropLast_eq_take, r.length]
  exact r.take _
theorem de_pop (ho : DE X o to) (hbase : attributeBase o "pop" X.env (eval o X.env) = eval o X.env := by rfl) (hline : (apos.endLine == cpos.line) = true := by rfl) : DE X (.Call (.Attribute o "pop" apos) [] [] cpos) (dPop to) := by
  obtain ⟨uo, po, ro⟩ := ho.ex
  refine ⟨_, pe_bm0 PySem.F.plainAttrs_list PySem.F.slot_list_pop PySem.F.type_list_pop mt_pop po hbase hline, fun F H σ τ M Qd Q R q k => ?_⟩
  refine ro F H σ τ M _ _ R q fun v F1 H1 d M1 e1 R1 r1 q1 => ?_
  cases d <;> first | exact False.elim q1 | skip
  rename_i p
  cases r1
  dsimp only at q1
  split at q1
  · rename_i xs hp
    split at q1
    · rename_i d hd
      obtain ⟨_, hob, hh, hr⟩ := R1.heap.sto p _ hp
      cases hob <;> first | exact False.elim hr | skip
      rename_i vs
      have hr' : RelDs X.K F1 vs xs := hr
      rw [List.getLast?_eq_getElem?] at hd
      obtain ⟨v, hv, rv⟩ := hr'.get hd
      obtain ⟨e2, R2⟩ := R1.heap.write (o := .lst vs.dropLast) (u := .lst xs.dropLast) hp hr'.dropLast
      refine ⟨Or.inl ⟨rfl, _, SqL.of hh⟩, p, vs, v, rfl, rfl, hh, by rw [hr'.length]; exact hv, ?_⟩
      exact k _ _ _ d _ (e1.trans e2) (R1.mono e2.ext R2) (rv.mono e2.ext) q1
    · exact q1.elim
  · exact q1.elim
@[simp] def dExtend (to te : DTE) : DTE := fun τ M Q => to τ M fun x M1 => match x with
  | .ref p => (∃ xs, M1 p = some (.lst xs)) ∧ te τ M1 fun y M2 => (match M2 p, lstOf y M2 with
    | some (.lst xs), some ys => xs.length + ys.length ≤ sizeLine ∧ Q .non (M2.upd p (.lst (xs ++ ys)))
    | _, _ => False)
  | _ => False
theorem de_extend (ho : DE X o to) (he : DE X e te)
    (hbase : attributeBase o "extend" X.env (eval o X.env) = eval o X.env := by rfl)
    (hfew : ((backTo cpos (starEach [e] X.env)).all (fun x => !x.1) && (backToKw cpos (keywordEach [] X.env)).all (fun x => x.1.isSome)
      && decide ([e].length + ([] : List Keyword).length + (if ([] : List Keyword).isEmpty then 0 else 1) < 30)) = true := by rfl)
    (hline : (apos.endLine == cpos.line) = true := by rfl) (hs : starEach [e] X.env = (false, eval e X.env) :: starEach [] X.env := by rfl) (hplain : (backTo cpos (starEach [] X.env)).any (·.1) = false := by rfl) :
    DE X (.Call (.Attribute o "extend" apos) [e] [] cpos) (dExtend to te) := by
  obtain ⟨uo, po, ro⟩ := ho.ex
  obtain ⟨ue, pe, re⟩ := he.ex
  refine ⟨_, pe_bm PySem.F.plainAttrs_list PySem.F.slot_list_extend PySem.F.type_list_extend mt_extend po (pa_cons pe pa_nil hs) hbase hfew hline hs hplain, fun F H σ τ M Qd Q R q k => ?_⟩
  refine ro F H σ τ M _ _ R q fun v F1 H1 d M1 e1 R1 r1 q1 => ?_
  cases d <;> first | exact False.elim q1 | skip
  rename_i p
  cases r1
  obtain ⟨⟨xs0, h0⟩, q1⟩ := q1
  obtain ⟨_, ho0, hh0, hr0⟩ := R1.heap.sto p _ h0
  cases ho0 <;> first | exact False.elim hr0 | skip
  refine ⟨Or.inl ⟨rfl, _, SqL.of hh0⟩, ?_⟩
  refine re F1 H1 σ τ M1 _ _ R1 q1 fun y F2 H2 dy M2 e2 R2 r2 q2 => ?_
  split at q2
  · rename_i xs ys hp hy
    obtain ⟨_, hob, hh, hr⟩ := R2.heap.sto p _ hp
    cases hob <;> first | exact False.elim hr | skip
    rename_i vs
    have hr' : RelDs X.K F2 vs xs := hr
    obtain ⟨b, ws, rfl, hb, rb⟩ := lst_ok R2.heap r2 hy
    refine ⟨p, b, vs, ws, rfl, rfl, hh, hb, by rw [hr'.length, rb.length]; exact q2.1, ?_⟩
    obtain ⟨e4, R4⟩ := R2.heap.write (o := .lst (vs ++ ws)) (u := .lst (xs ++ ys)) hp (hr'.append rb)
    exact k _ _ _ .non _ ((e1.trans e2).trans e4) (R2.mono e4.ext R4) .non q2.2
  · exact q2.elim

/-! ### a, b, c = x, y, z -/
@[simp] def dPar3 (i j l : Nat) (ta tb tc : DTE) : DTS := fun D τ M => ta τ M fun v M1 => tb τ M1 fun w M2 => tc τ M2 fun u M3 => D.nx (((τ.set i (some v)).set j (some w)).set l (some u)) M3
theorem ds_par3 {i j l : Nat} {x y z : Str} {a b c : Expr} {ta tb tc : DTE} {px py pz pt : Pos} {kt k2 pt2} (hc : X.calm = true) (hN : X.N.Nodup) (ha : DE X a ta) (hb : DE X b tb) (hd : DE X c tc) (hi : X.N[i]? = some x := by rfl) (hj : X.N[j]? = some y := by rfl) (hl : X.N[l]? = some z := by rfl)
    (hij : i ≠ j := by decide) (hil : i ≠ l := by decide) (hjl : j ≠ l := by decide)
    (hx : X.env.scope.names.lookup x = some .local := by rfl) (hy : X.env.scope.names.lookup y = some .local := by rfl) (hz : X.env.scope.names.lookup z = some .local := by rfl)
    (hw : swappedStores [.Tuple [.Name x px, .Name y py, .Name z pz] kt pt] (.Tuple [a, b, c] k2 pt2) X.env = pure (some [x, y, z]) := by rfl)
    (hs : swapsWithSole [.Tuple [.Name x px, .Name y py, .Name z pz] kt pt] (.Tuple [a, b, c] k2 pt2) pos.line X.env = pure false := by rfl)
    (h1 : starEach [a, b, c] X.env = (false, eval a X.env) :: starEach [b, c] X.env := by rfl) (h2 : starEach [b, c] X.env = (false, eval b X.env) :: starEach [c] X.env := by rfl) (h3 : starEach [c] X.env = (false, eval c X.env) :: starEach [] X.env := by rfl) :
    DS X (.Assign [.Tuple [.Name x px, .Name y py, .Name z pz] kt pt] (.Tuple [a, b, c] k2 pt2) pos) (dPar3 i j l ta tb tc) := by
  obtain ⟨u, pu, ru⟩ := ha.ex
  obtain ⟨w, pw, rw'⟩ := hb.ex
  obtain ⟨w3, pw3, rw3⟩ := hd.ex
  refine ⟨_, ps_par3 hc hN hi hj hl hij hil hjl hx hy hz (pa_cons pu (pa_cons pw (pa_cons pw3 pa_nil h3) h2) h1) hw hs, fun F H σ τ M D E R q r => ?_⟩
  refine ru F H σ τ M _ _ R q fun v F1 H1 d M1 e1 R1 r1 q1 => ?_
  refine rw' F1 H1 σ τ M1 _ _ R1 q1 fun v' F2 H2 d' M2 e2 R2 r2 q2 => ?_
  refine rw3 F2 H2 σ τ M2 _ _ R2 q2 fun v3 F3 H3 d3 M3 e3 R3 r3 q3 => ?_
  exact ⟨v, v', v3, rfl, r.nx F3 H3 _ _ M3 ((e1.trans e2).trans e3) (((R3.set i (r1.mono (e2.trans e3).ext)).set j (r2.mono e3.ext)).set l r3) q3⟩

/-! ### a name's object is frozen, ahead of a statement -/
def dFzV (i : Nat) (t : DTS) : DTS := fun D τ M => match τ[i]? with
  | some (some (.ref a)) => (match M a with
    | some (.lst xs) => t D (τ.set i (some (.lst xs))) (M.del a)
    | some (.dct kvs) => t D (τ.set i (some (.dct kvs))) (M.del a)
    | _ => False)
  | _ => False
theorem dss_fz {sts : List Stmt} {t : DTS} (i : Nat) (h : DSs X sts t) : DSs X sts (dFzV i t) := by
  obtain ⟨u, pu, ru⟩ := h.ex
  refine ⟨u, pu, fun F H σ τ M D E R q r => ?_⟩
  unfold dFzV at q
  split at q
  · rename_i a hi
    have hlen : i < τ.length := (List.getElem?_eq_some_iff.mp hi).1
    obtain ⟨v, hv, rv⟩ := R.slots.get i _ hi
    cases rv
    have hs : σ.set i (some (.ref a)) = σ := by
      apply List.ext_getElem?
      intro j
      by_cases e : i = j
      · subst e
        rw [List.getElem?_set_self (by rw [R.slots.len]; exact hlen), hv]
      · rw [List.getElem?_set_ne e]
    split at q
    · rename_i xs hp
      obtain ⟨ho, h1, h2, e2, e3, R2⟩ := R.heap.freeze hp
      cases ho <;> first | exact False.elim h2 | skip
      have R3 := (Rst.mono R e2 R2).set i (RelD.lst (K := X.K) upd_same (RelDs.mono e2 h2))
      rw [hs] at R3
      exact ru _ H σ _ _ D E R3 q (r.mono e3)
    · rename_i kvs hp
      obtain ⟨ho, h1, h2, e2, e3, R2⟩ := R.heap.freeze hp
      cases ho <;> first | exact False.elim h2 | skip
      have R3 := (Rst.mono R e2 R2).set i (RelD.dct (K := X.K) (.inl upd_same) (RelKv.mono e2 h2))
      rw [hs] at R3
      exact ru _ H σ _ _ D E R3 q (r.mono e3)
    · exact q.elim
  · exact q.elim

/-! ### list(range(..)) -/
@[simp] def dRg1 (t : DTE) : DSt → Sto → (Int → Int → Sto → Prop) → Prop := fun τ M Q => t τ M fun d M1 => match d with
  | .int j => Q 0 j M1
  | _ => False
@[simp] def dRg2 (t u : DTE) : DSt → Sto → (Int → Int → Sto → Prop) → Prop := fun τ M Q => t τ M fun d M1 => u τ M1 fun x M2 => match d, x with
  | .int i, .int j => Q i j M2
  | _, _ => False
@[simp] def dLstRg (t : DSt → Sto → (Int → Int → Sto → Prop) → Prop) : DTE := fun τ M Q => t τ M fun i j M1 => RgOk i j ∧ Q (.lst (rangeD i (j - i).toNat)) M1
theorem rel_rg {K : PySem.W.Frag} {F : Hp} (i j : Int) : RelDs K F (rgV i j) (rangeD i (j - i).toNat) := by
  unfold rgV rangeD
  generalize (j - i).toNat = n
  generalize List.range n = l
  induction l with
  | nil => exact .nil
  | cons k r ih => exact .cons (.int _) ih
theorem de_listRg2 {a b : Expr} {p p2 p3 : Pos} (hc : X.calm = true) (hm : X.mg "list" = none) (hm2 : X.mg "range" = none) (ha : DE X a te) (hb : DE X b tf) (hg : Gl X "list" := by rfl) (hg2 : Gl X "range" := by rfl)
    (na : starEach [a, b] X.env = (false, eval a X.env) :: starEach [b] X.env := by rfl) (nb : starEach [b] X.env = (false, eval b X.env) :: starEach [] X.env := by rfl) (hp : (backTo p3 (starEach [b] X.env)).any (·.1) = false := by rfl)
    (nc : starEach [.Call (.Name "range" p2) [a, b] [] p3] X.env = (false, eval (.Call (.Name "range" p2) [a, b] [] p3) X.env) :: starEach [] X.env := by rfl) :
    DE X (.Call (.Name "list" p) [.Call (.Name "range" p2) [a, b] [] p3] [] pos) (dLstRg (dRg2 te tf)) := by
  obtain ⟨ua, pa, ra⟩ := ha.ex
  obtain ⟨ub, pb, rb⟩ := hb.ex
  refine ⟨_, pe_listRg hc hg hm (prg_2 hg2 hm2 pa pb na nb hp) nc, fun F H σ τ M Qd Q R q k => ?_⟩
  refine ra F H σ τ M _ _ R q fun v F1 H1 d M1 e1 R1 r1 q1 => ?_
  refine rb F1 H1 σ τ M1 _ _ R1 q1 fun v' F2 H2 d' M2 e2 R2 r2 q2 => ?_
  cases d <;> cases d' <;> first | exact False.elim q2 | skip
  rename_i i j
  cases r1; cases r2
  refine ⟨i, j, rfl, rfl, q2.1, fun p' hp' => ?_⟩
  obtain ⟨e3, R3⟩ := R2.heap.frozen (o := .lst (rgV i j)) hp'
  exact k _ _ _ _ M2 ((e1.trans e2).trans e3) (R2.mono e3.ext R3) (.lst upd_same (rel_rg i j)) q2.2

/-! ### {k: v, ..}, as many as 15 -/
@[simp] def dPairs : List (DTE × DTE) → DSt → Sto → (List (D × D) → Sto → Prop) → Prop
  | [], _, M, Q => Q [] M
  | (tk, tv) :: r, τ, M, Q => tk τ M fun x M1 => tv τ M1 fun y M2 => dPairs r τ M2 fun ps M3 => Q ((x, y) :: ps) M3
/-- the pairs as a dict -/
@[simp] def keysOf : List (D × D) → Option (List (Key × D))
  | [] => some []
  | (a, b) :: r => (match dKey a, keysOf r with
    | some k, some kvs => some ((k, b) :: kvs)
    | _, _ => none)
@[simp] def dDisp (trs : List (DTE × DTE)) : DTE := fun τ M Q => dPairs trs τ M fun ps M1 => match keysOf ps with
  | some kvs => kvs.length ≤ 15 ∧ Q (.dct (mergeD [] kvs)) M1
  | none => False
structure DPs (X : Cx) (pos : Pos) (keys : List (Option Expr)) (values : List Expr) (trs : List (DTE × DTE)) : Prop where
  ex : ∃ us, PPs X pos keys values us ∧ ∀ (F H : Hp) (σ : L2.St) (τ : DSt) (M : Sto) (Qd : List (D × D) → Sto → Prop) (Q : List (V × V) → Hp → Prop), Rst X.K F H σ τ M → dPairs trs τ M Qd →
    (∀ vs ws F' H' ds es M', vs.length = ws.length → ds.length = es.length → Stp F H M F' H' M' → Rst X.K F' H' σ τ M' → RelDs X.K F' vs ds → RelDs X.K F' ws es → Qd (ds.zip es) M' → Q (vs.zip ws) H') → tPairs us σ H Q
theorem dps_nil : DPs X pos [] [] [] := ⟨[], pps_nil, fun F H σ τ M Qd Q R q k => k [] [] F H [] [] M rfl rfl (Stp.refl F H M) R .nil .nil q⟩
theorem dps_cons {k v : Expr} {ks : List (Option Expr)} {vs : List Expr} {tk tv : DTE} {trs : List (DTE × DTE)} (hk : DE X k tk) (hv : DE X v tv) (hr : DPs X pos ks vs trs) : DPs X pos (some k :: ks) (v :: vs) ((tk, tv) :: trs) := by
  obtain ⟨uk, pk, rk⟩ := hk.ex
  obtain ⟨uv, pv', rv⟩ := hv.ex
  obtain ⟨us, ps, rs⟩ := hr.ex
  refine ⟨(uk, uv) :: us, pps_cons pk pv' ps, fun F H σ τ M Qd Q R q kk => ?_⟩
  refine rk F H σ τ M _ _ R q fun x F1 H1 dx M1 e1 R1 r1 q1 => ?_
  refine rv F1 H1 σ τ M1 _ _ R1 q1 fun y F2 H2 dy M2 e2 R2 r2 q2 => ?_
  refine rs F2 H2 σ τ M2 _ _ R2 q2 fun vs ws F3 H3 ds es M3 l1 l2 e3 R3 r3 r4 q3 => ?_
  exact kk (x :: vs) (y :: ws) F3 H3 (dx :: ds) (dy :: es) M3 (by simp [l1]) (by simp [l2]) ((e1.trans e2).trans e3) R3 (.cons (r1.mono (e2.trans e3).ext) r3) (.cons (r2.mono e3.ext) r4) q3
theorem keys_rel {K : PySem.W.Frag} {F : Hp} : ∀ (ds es : List D) {vs ws : List V} {kvs : List (Key × D)}, vs.length = ws.length → ds.length = es.length → RelDs K F vs ds → RelDs K F ws es → keysOf (ds.zip es) = some kvs →
    ∃ ms : List (Key × V), vs.zip ws = ms.map (fun kv => (kV kv.1, kv.2)) ∧ RelKv K F ms kvs
  | [], es, vs, ws, kvs, l1, l2, h1, h2, h => by
    cases h1; cases h; exact ⟨[], rfl, .nil⟩
  | d :: ds, [], vs, ws, kvs, l1, l2, h1, h2, h => by simp at l2
  | d :: ds, g :: es, vs0, ws0, kvs, l1, l2, hv, hw, h => by
    cases hv with
    | @cons v vs _ _ h1 h2 =>
    cases hw with
    | @cons w ws _ _ g1 g2 =>
    rw [List.zip_cons_cons] at h
    unfold keysOf at h
    cases hk : dKey d with
    | none => rw [hk] at h; cases h
    | some k =>
      rw [hk] at h
      cases hp : keysOf (ds.zip es) with
      | none => rw [hp] at h; cases h
      | some kv2 =>
        rw [hp] at h; cases h
        obtain ⟨ms, e, rr⟩ := keys_rel ds es (by simpa using l1) (by simpa using l2) h2 g2 hp
        have ek := dKey_ok h1 hk
        subst ek
        exact ⟨(k, w) :: ms, by rw [List.zip_cons_cons, e]; rfl, .cons g1 rr⟩
theorem de_disp {keys : List (Option Expr)} {values : List Expr} {trs : List (DTE × DTE)} (h : DPs X pos keys values trs) (hall : keys.all (·.isSome) = true := by rfl) (hl : keys.length = values.length := by rfl) (h0 : keys ≠ [] := by exact List.cons_ne_nil _ _)
    (h15 : keys.length ≤ 15 := by decide) : DE X (.Dict keys values pos) (dDisp trs) := by
  obtain ⟨us, ps, rs⟩ := h.ex
  refine ⟨_, pe_disp ps hall hl h0 h15, fun F H σ τ M Qd Q R q k p hp => ?_⟩
  obtain ⟨hf, hm⟩ := R.heap.free hp
  refine rs F _ σ τ M _ _ ⟨R.heap.side hm hf _, R.slots⟩ q fun vs ws F1 H1 ds es M1 l1 l2 e1 R1 r1 r2 q1 => ?_
  obtain ⟨h1, m1, f1⟩ := e1.kp p _ upd_same hm
  split at q1
  · rename_i kvs hk
    obtain ⟨ms, e, rr⟩ := keys_rel ds es l1 l2 r1 r2 hk
    refine ⟨h1, ms, e, by rw [rr.length]; exact q1.1, ?_⟩
    have s1 : Stp F H M F1 (upd H1 p (.dK (mergeK [] ms))) M1 := by
      have a : Stp F H M F (upd H p (.dK [])) M := (Stp.refl F H M).side hp _
      exact (a.trans e1).side hp _
    have R2 := R1.heap.side m1 (f1 hf) (.dK (mergeK [] ms))
    obtain ⟨x2, s2, R3⟩ := R2.adopt s1 upd_same m1 (f1 hf) hp
    exact k (.ref p) _ _ (.dct (mergeD [] kvs)) M1 s2 (R.mono s2.ext R3) (.dct (.inl upd_same) (RelKv.mono x2 (rr.merge .nil))) q1.2
  · exact q1.elim
end

/-! ### zip, enumerate of a list -/
def zipD (xs ys : List D) : List D := (xs.zip ys).map fun p => .tup [p.1, p.2]
theorem zipD_get {xs ys : List D} {i : Nat} {d : D} (h : (zipD xs ys)[i]? = some d) : ∃ x y, xs[i]? = some x ∧ ys[i]? = some y ∧ d = .tup [x, y] := by
  unfold zipD at h
  rw [List.getElem?_map] at h
  cases q : (xs.zip ys)[i]? with
  | none => rw [q] at h; cases h
  | some p =>
    rw [q] at h
    cases h
    obtain ⟨h1, h2⟩ := List.getElem?_zip_eq_some.mp q
    exact ⟨p.1, p.2, h1, h2, rfl⟩
theorem pair_yld {K : PySem.W.Frag} {F F2 H2 : Hp} {M2 : Sto} {T : Addr} {x y : V} {dx dy : D} (e : Ext F F2) (R : Rst0 K F2 H2 M2) (hT : H2 T = none) (rx : RelD K F x dx) (ry : RelD K F y dy) :
    ∃ F3, Stp F2 H2 M2 F3 (upd H2 T (.tup [x, y])) M2 ∧ Rst0 K F3 (upd H2 T (.tup [x, y])) M2 ∧ RelD K F3 (.ref T) (.tup [dx, dy]) := by
  obtain ⟨e2, R2⟩ := R.frozen (o := .tup [x, y]) hT
  exact ⟨_, e2, R2, .tup (SqT.of upd_same) (.cons (rx.mono (e.trans e2.ext)) (.cons (ry.mono (e.trans e2.ext)) .nil))⟩
theorem itd_zipL {K : PySem.W.Frag} {F : Hp} {a b : Addr} {xs ys : List V} {ds es : List D} (h : SqL K F a xs) (g : SqL K F b ys) (r : RelDs K F xs ds) (s : RelDs K F ys es) : ItD K F (Itz K a b) (zipD ds es) where
  go := fun i F2 H2 M2 hi e R => by
    have hi' : i < ds.length ∧ i < es.length := by simp [zipD] at hi; omega
    have h1 : i < xs.length := by rw [r.length]; exact hi'.1
    have h2 : i < ys.length := by rw [s.length]; exact hi'.2
    exact ⟨xs, ys, xs[i], ys[i], sqL_fix h e R, sqL_fix g e R, List.getElem?_eq_getElem h1, List.getElem?_eq_getElem h2⟩
  yld := fun i F2 H2 M2 d x H' hd e R y => by
    obtain ⟨T, u, w, rfl, hT, rfl, y1, y2⟩ := y
    obtain ⟨dx, dy, g1, g2, rfl⟩ := zipD_get hd
    obtain ⟨v1, p1, q1⟩ := r.get g1
    obtain ⟨v2, p2, q2⟩ := s.get g2
    have z1 := y1 xs (sqL_fix h e R)
    have z2 := y2 ys (sqL_fix g e R)
    rw [p1] at z1; rw [p2] at z2
    cases z1; cases z2
    exact pair_yld e R hT q1 q2
  stop := fun F2 H2 M2 e R => ⟨xs, ys, sqL_fix h e R, sqL_fix g e R, by rw [r.length, s.length]; simp [zipD]; omega⟩
theorem itd_zipT {K : PySem.W.Frag} {F : Hp} {a b : Addr} {xs ys : List V} {ds es : List D} (h : SqT K F a xs) (g : SqT K F b ys) (r : RelDs K F xs ds) (s : RelDs K F ys es) : ItD K F (RZ.ItzT K a b) (zipD ds es) where
  go := fun i F2 H2 M2 hi e R => by
    have hi' : i < ds.length ∧ i < es.length := by simp [zipD] at hi; omega
    have h1 : i < xs.length := by rw [r.length]; exact hi'.1
    have h2 : i < ys.length := by rw [s.length]; exact hi'.2
    exact ⟨xs, ys, xs[i], ys[i], (e.trans R.sub).sqT h, (e.trans R.sub).sqT g, List.getElem?_eq_getElem h1, List.getElem?_eq_getElem h2⟩
  yld := fun i F2 H2 M2 d x H' hd e R y => by
    obtain ⟨T, u, w, rfl, hT, rfl, y1, y2⟩ := y
    obtain ⟨dx, dy, g1, g2, rfl⟩ := zipD_get hd
    obtain ⟨v1, p1, q1⟩ := r.get g1
    obtain ⟨v2, p2, q2⟩ := s.get g2
    have z1 := y1 xs ((e.trans R.sub).sqT h)
    have z2 := y2 ys ((e.trans R.sub).sqT g)
    rw [p1] at z1; rw [p2] at z2
    cases z1; cases z2
    exact pair_yld e R hT q1 q2
  stop := fun F2 H2 M2 e R => ⟨xs, ys, (e.trans R.sub).sqT h, (e.trans R.sub).sqT g, by rw [r.length, s.length]; simp [zipD]; omega⟩
/-- two lists, or two tuples -/
def zipI (x y : D) (M : Sto) : Option (List D) := match x, y with
  | .tup xs, .tup ys => some (zipD xs ys)
  | .lst xs, .lst ys => some (zipD xs ys)
  | _, _ => none
@[simp] def iZip (t u : DTE) : DTI := fun τ M Q => t τ M fun x M1 => u τ M1 fun y M2 => match zipI x y M2 with
  | some zs => Q zs M2
  | none => False
section
variable {X : Cx} {e e2 : Expr} {p pos tpos : Pos} {elts : List Expr} {kk : Nat} {te tu : DTE}
theorem di_zip (hm : X.mg "zip" = none) (ha : DE X e te) (hb : DE X e2 tu) (hg : Gl X "zip" := by rfl)
    (hs : starEach [e, e2] X.env = (false, eval e X.env) :: starEach [e2] X.env := by rfl) (hs2 : starEach [e2] X.env = (false, eval e2 X.env) :: starEach [] X.env := by rfl) (hpl : (backTo pos (starEach [e2] X.env)).any (·.1) = false := by rfl) :
    DI X (.Tuple elts kk tpos) (.Call (.Name "zip" p) [e, e2] [] pos) (iZip te tu) := by
  obtain ⟨ua, pa, ra⟩ := ha.ex
  obtain ⟨ub, pb, rb⟩ := hb.ex
  refine ⟨_, RZ.pi_zipA hg hm (pa_cons pa (pa_cons pb pa_nil hs2) hs) hs hpl, fun F H σ τ M Qd Q R q k => ?_⟩
  refine ra F H σ τ M _ _ R q fun v F1 H1 d M1 e1 R1 r1 q1 => ?_
  refine rb F1 H1 σ τ M1 _ _ R1 q1 fun v' F2 H2 d' M2 e2 R2 r2 q2 => ?_
  have r1' := r1.mono e2.ext
  split at q2
  · rename_i zs hz
    cases d <;> cases d' <;> first | (simp [zipI] at hz; done) | skip
    · cases hz
      cases r1' with
      | tup h1 s1 => cases r2 with
        | tup h2 s2 => exact ⟨_, _, _, _, rfl, .inr ⟨R2.heap.sub.sqT h1, R2.heap.sub.sqT h2, k _ F2 H2 _ M2 (e1.trans e2) R2 (itd_zipT h1 h2 s1 s2) q2⟩⟩
    · cases hz
      cases r1' with
      | lst h1 s1 => cases r2 with
        | lst h2 s2 => exact ⟨_, _, _, _, rfl, .inl ⟨SqL.of (R2.heap.sub _ _ h1), SqL.of (R2.heap.sub _ _ h2), k _ F2 H2 _ M2 (e1.trans e2) R2 (itd_zipL (SqL.of h1) (SqL.of h2) s1 s2) q2⟩⟩
  · exact q2.elim
end
end DL

/-! DU: sorted of ints, of a dict's int keys; enumerate of tuples; list(zip(..)). -/
namespace DL
open PySem PySem.Spec PyProof.Rows L2
variable [Wsh]
section
variable {X : Cx}
/-! ### sorted -/
def rSortDK : List V → Hp → VK → Prop := fun xs H Q => ∃ (a : Addr) (kvs : List (Key × V)) (ks : List Int), xs = [.ref a] ∧ Rd H a (.dK kvs) ∧ kvs.map (·.1) = ks.map Sum.inl ∧
  ∀ (ys : List Int) (p : Addr), ys.Perm ks → ys.Pairwise (· ≤ ·) → H p = none → Q (.ref p) (upd H p (.lst (ys.map V.int)))
/-- a dict's int keys, however many -/
theorem cr_sortedDK (hcalm : X.calm = true) : CallR X (.builtin "sorted") rSortDK := by
  intro pins s σ H xs us Q I r q
  obtain ⟨a, kvs, ks, ex, hd, hks, q⟩ := q
  subst ex
  obtain ⟨u, eu, rx⟩ := vals1 r
  subst eu
  cases rx
  obtain ⟨z, lo, vs, rel, dd⟩ := dk_rd I.hok hd
  obtain ⟨ep, hat⟩ := dd.dictAt
  have keys : vs.map (·.1) = ks.map Sum.inl := rel.keys.symm.trans hks
  have len : vs.length = ks.length := by simpa using congrArg List.length keys
  have small : vs.length ≤ sizeLine := by rw [← rel.length]; exact z
  refine Calls.call_function_entry PyProof.Rows.kind_sorted PyProof.Rows.plain_sorted PyProof.Rows.entry_sorted (PyProof.Rows.args_sorted1 _) ?_
  unfold Builtin.«sorted»
  refine wpAny_bind (m := checkCount "sorted" 1 1 _) (wpAny_pure ?_)
  refine wpAny_bind (PySem.W.kdu_collect (A := X.A.in1) (PySem.W.kdl_dict (knd := mixKind X.prog X.w) (kvs := vs) (ep := ep) lo) (I.ok.hd hcalm) hat small fun h' tk acc hk hacc => ?_)
  have alen : acc.toList.length = ks.length := by rw [Array.length_toList, hacc.1, len]
  have hI : IntsAre acc.toList ks := ints_each alen fun j v e => by
    obtain ⟨k, x, e1, e2⟩ := hacc.2 j v (by rw [← Array.getElem?_toList]; exact e)
    have e3 : (ks.map Sum.inl)[j]? = some k := by rw [← keys, List.getElem?_map, e1]; rfl
    rw [List.getElem?_map] at e3
    cases e4 : ks[j]? with
    | none => rw [e4] at e3; cases e3
    | some y =>
      rw [e4] at e3
      have e5 : Sum.inl y = k := Option.some.inj e3
      subst e5
      rcases keyIs_shape (show keyIs (Sum.inl y) v = true from e2) with ⟨i, t, ek, ev⟩ | ⟨z, t, ek, ev⟩
      · cases ek
        exact ⟨y, t, rfl, ev⟩
      · cases ek
  have az : acc.toList.length ≤ sizeLine := by rw [alen, ← len]; exact small
  have I1 : Inv X pins σ H { s with heap := h', toks := tk } := I.kept hk
  refine wpAny_bind (wpAny_newList ?_ az)
  have hoL : (h'.push (seqObj "list" acc.toList.toArray 0)).get? h'.objs.size = some (seqObj "list" acc.toList.toArray 0) := Heap.get?_push_size _ rfl
  show wpAny _ _ _ _ _ { s with heap := h'.push (seqObj "list" acc.toList.toArray 0), toks := tk }
  refine wpAny_bind (wpAny_holding (wpAny_call_entry PyProof.Rows.slot_list_sort ⟨_, hoL, rfl⟩ PyProof.Rows.entry_list_sort
    (SrtO.list_sort_ord SrtO.swo_int (s := { s with heap := h'.push (seqObj "list" acc.toList.toArray 0), toks := tk }) hoL az (fun h2 => SrtO.ints_sortable hI h2) fun out g1 g2 => ⟨_, rfl, ?_⟩) (PyProof.Rows.args_list_sort _)))
  obtain ⟨k1, k2, k3⟩ := SrtO.ints_out hI g1 g2
  obtain ⟨e', he'⟩ := PyProof.Rows.sortedHeap_at (vs := acc.toList) (out := out.toArray) hoL
  have hlen : ((out.map SrtO.iv).map V.int).length ≤ sizeLine := by
    rw [List.length_map, k2.length_eq, ← alen]; exact az
  refine wpAny_pure ⟨_, rfl, .ref h'.objs.size, upd H h'.objs.size (.lst ((out.map SrtO.iv).map V.int)), I1.laid (t' := tk) (fun b u e => ?_) (Nat.le_refl _)
    (show ObjOk X.prog X.w _ _ _ (.lst ((out.map SrtO.iv).map V.int)) from ⟨hlen, out, e', vals_of_ints k1, he'⟩), rfl, q _ _ k2 k3 (I1.hok.fresh (Nat.le_refl _))⟩
  have hb : b < h'.objs.size := Heap.lt_size e
  rw [PyProof.Rows.sortedHeap_old (Nat.ne_of_lt hb) (by rw [size_push']; exact Nat.lt_succ_of_lt hb)]
  exact Heap.get?_push_of_some _ e
/-- ints among trees; int keys -/
def intsOf : List D → Option (List Int)
  | [] => some []
  | .int i :: r => (intsOf r).map (i :: ·)
  | _ :: _ => none
def keyInts : List (Key × D) → Option (List Int)
  | [] => some []
  | (.inl i, _) :: r => (keyInts r).map (i :: ·)
  | _ :: _ => none
theorem ints_rel {K : PySem.W.Frag} {F : Hp} : ∀ {ds : List D} {vs : List V} {ns : List Int}, RelDs K F vs ds → intsOf ds = some ns → vs = ns.map V.int
  | [], _, _, .nil, h => by cases h; rfl
  | .int i :: r, _, ns, .cons h1 h2, h => by
    unfold intsOf at h
    cases hp : intsOf r with
    | none => rw [hp] at h; cases h
    | some ms =>
      rw [hp] at h
      cases h
      cases h1
      rw [ints_rel h2 hp]
      rfl
  | .non :: _, _, _, _, h => nomatch h
  | .bl _ :: _, _, _, _, h => nomatch h
  | .tup _ :: _, _, _, _, h => nomatch h
  | .str _ :: _, _, _, _, h => nomatch h
  | .lst _ :: _, _, _, _, h => nomatch h
  | .dct _ :: _, _, _, _, h => nomatch h
  | .ref _ :: _, _, _, _, h => nomatch h
  | .ty _ :: _, _, _, _, h => nomatch h
  | .ins _ _ :: _, _, _, _, h => nomatch h
  | .rol _ :: _, _, _, _, h => nomatch h
  | .ptp _ :: _, _, _, _, h => nomatch h
theorem keyInts_eq : ∀ {kvs : List (Key × D)} {ns : List Int}, keyInts kvs = some ns → kvs.map (·.1) = ns.map Sum.inl
  | [], _, h => by cases h; rfl
  | (.inl i, d) :: r, _, h => by
    unfold keyInts at h
    cases hp : keyInts r with
    | none => rw [hp] at h; cases h
    | some ms =>
      rw [hp] at h
      cases h
      rw [List.map_cons, List.map_cons, keyInts_eq hp]
  | (.inr i, d) :: r, _, h => nomatch h
theorem rel_ints {K : PySem.W.Frag} {F : Hp} : ∀ ns : List Int, RelDs K F (ns.map V.int) (ns.map D.int)
  | [] => .nil
  | i :: r => .cons (.int i) (rel_ints r)
def gSorted : GC := fun ds M Q => match ds with
  | [x] => (match lstOf x M with
    | some xs => (match intsOf xs with
      | some ns => ∀ ms : List Int, ms.Perm ns → ms.Pairwise (· ≤ ·) → Q (.lst (ms.map D.int)) M
      | none => False)
    | none => (match dctOf x M with
      | some kvs => (match keyInts kvs with
        | some ns => ∀ ms : List Int, ms.Perm ns → ms.Pairwise (· ≤ ·) → Q (.lst (ms.map D.int)) M
        | none => False)
      | none => False))
  | _ => False
theorem cd_sorted (hc : X.calm = true) : CallD X (.builtin "sorted") gSorted := fun F H M xs ds Qd Q R r q k => by
  unfold gSorted at q
  split at q
  · cases r with
    | cons r1 r2 =>
      cases r2
      split at q
      · rename_i ys hy
        split at q
        · rename_i ns hn
          obtain ⟨a, vs, rfl, hs, rs⟩ := lst_ok R r1 hy
          have ev := ints_rel rs hn
          subst ev
          refine ⟨_, cr_sortedI, a, ns, rfl, SqL.of hs, fun ms p h1 h2 hp => ?_⟩
          obtain ⟨e2, R2⟩ := R.frozen (o := .lst (ms.map V.int)) hp
          exact k _ _ _ _ M e2 R2 (.lst upd_same (rel_ints ms)) (q ms h1 h2)
        · exact q.elim
      · split at q
        · rename_i kvs hy
          split at q
          · rename_i ns hn
            obtain ⟨a, vs, rfl, hs, rs⟩ := dct_ok R r1 hy
            refine ⟨_, cr_sortedDK hc, a, vs, ns, rfl, hs, rs.keys.trans (keyInts_eq hn), fun ms p h1 h2 hp => ?_⟩
            obtain ⟨e2, R2⟩ := R.frozen (o := .lst (ms.map V.int)) hp
            exact k _ _ _ _ M e2 R2 (.lst upd_same (rel_ints ms)) (q ms h1 h2)
          · exact q.elim
        · exact q.elim
  · exact q.elim
end

/-! ### enumerate of a list -/
def enumD (xs : List D) : List D := xs.zipIdx.map fun p => .tup [.int (p.2 : Nat), p.1]
theorem enumD_get {xs : List D} {i : Nat} {d : D} (h : (enumD xs)[i]? = some d) : ∃ x, xs[i]? = some x ∧ d = .tup [.int (i : Nat), x] := by
  unfold enumD at h
  rw [List.getElem?_map, List.getElem?_zipIdx] at h
  cases q : xs[i]? with
  | none => rw [q] at h; cases h
  | some x =>
    rw [q] at h
    simp at h
    exact ⟨x, rfl, h.symm⟩
theorem itd_enumL {K : PySem.W.Frag} {F : Hp} {a : Addr} {xs : List V} {ds : List D} (h : SqL K F a xs) (r : RelDs K F xs ds) : ItD K F (Ite K a) (enumD ds) where
  go := fun i F2 H2 M2 hi e R => by
    have hi' : i < ds.length := by simpa [enumD] using hi
    have h1 : i < xs.length := by rw [r.length]; exact hi'
    exact ⟨xs, xs[i], sqL_fix h e R, List.getElem?_eq_getElem h1⟩
  yld := fun i F2 H2 M2 d x H' hd e R y => by
    obtain ⟨T, u, rfl, hT, rfl, y1⟩ := y
    obtain ⟨dx, g1, rfl⟩ := enumD_get hd
    obtain ⟨v1, p1, q1⟩ := r.get g1
    have z1 := y1 xs (sqL_fix h e R)
    rw [p1] at z1
    cases z1
    exact pair_yld e R hT (.int _) q1
  stop := fun F2 H2 M2 e R => ⟨xs, sqL_fix h e R, by rw [r.length]; simp [enumD]⟩
/-! ### enumerate of a tuple -/
def IteT (K : PySem.W.Frag) (a : Addr) : It :=
  ⟨fun i H => ∃ (xs : List V) (x : V), SqT K H a xs ∧ xs[i]? = some x, fun i H v H' => ∃ T x, v = .ref T ∧ H T = none ∧ H' = upd H T (.tup [.int (i : Nat), x]) ∧ ∀ xs, SqT K H a xs → xs[i]? = some x, fun i H => ∃ xs : List V, SqT K H a xs ∧ xs.length ≤ i⟩
theorem turn_enumT {P : Program} {w : World} {K : PySem.W.Frag} {elts : List Expr} {kk : Nat} {tpos : Pos} (a e it : Addr) (hai : a ≠ it) (hae : a ≠ e) :
    Turn P w K (.Tuple elts kk tpos) (IteT K a) [e, it] e (fun i h => (∃ old, IsEnum h e it ((i : Nat) : Int) old) ∧ h.IsTupleIter it a i ∧ e ≠ it) where
  mem := by simp
  obj := fun i h st b hb => by
    obtain ⟨⟨old, he⟩, ⟨o, ho, hc, hd⟩, _⟩ := st
    have w : b = e ∨ b = it := by simpa using hb
    rcases w with rfl | rfl
    · exact ⟨_, he, fun v q => nomatch q⟩
    · exact ⟨o, ho, fun v q => by rw [hd] at q; cases q⟩
  keep := fun i h h' st k => let ⟨⟨old, he⟩, hi, hne⟩ := st; ⟨⟨old, k e (by simp) _ he⟩, hi.at fun o q => k it (by simp) o q, hne⟩
  item := by
    intro X hP hw hK hc i pins s σ H E I hf st hg
    subst hP hw hK
    obtain ⟨⟨old, he⟩, hit, hne⟩ := st
    obtain ⟨xs, x, hq, hx⟩ := hg
    obtain ⟨its, rv, p, hz⟩ := I.tuple hq
    obtain ⟨u, hu, ru⟩ := rv.get hx
    have lt1 : e < s.heap.objs.size := Heap.lt_size he
    have lt2 : it < s.heap.objs.size := by obtain ⟨_, q, _⟩ := hit; exact Heap.lt_size q
    have hi : i < its.toArray.size := by
      rw [List.size_toArray]
      exact (List.getElem?_eq_some_iff.mp hu).1
    refine wpAny_pyNext_enum_itemD (Draws.tuple (A := X.A.in1) (I.ok.hd hc) it a hai its.toArray) he ⟨hit, p⟩ hi hne (by simp [Ne.symm hae, hne]) fun y h' tk hy ho st' hT hsz hk => ?_
    have ey : y = u := by
      have : its.toArray[i]? = some u := by simpa using hu
      rw [this] at hy; exact (Option.some.inj hy).symm
    subst ey
    obtain ⟨hit', _⟩ := st'
    refine ⟨_, rfl, wpAny_letOwnedTupleGo_enum (s := { s with heap := h', toks := tk + 1 }) ho fun h'' he' sb => ?_⟩
    have hT2 : h''.get? s.heap.objs.size = some { cls := .type "tuple", data := .seq #[.int i tk, y] } := (sb.2 _ (Nat.ne_of_gt lt1)).trans hT
    have new : ObjOk X.prog X.w (upd H s.heap.objs.size (.tup [.int (i : Nat), x])) h'' s.heap.objs.size (.tup [.int (i : Nat), x]) :=
      ⟨by show 2 ≤ sizeLine; decide, [.int i tk, y], .cons ⟨_, rfl⟩ (.cons ru .nil), ⟨_, hT2, rfl, _, rfl⟩⟩
    have I1 : Inv X pins σ (upd H s.heap.objs.size (.tup [.int (i : Nat), x])) { s with heap := h'', toks := tk + 1 } :=
      I.turnedNew (ch := [e, it]) (fun b ob hb q => (sb.2 b (fun z => hb (by simp [z]))).trans (hk b ob (fun z => hb (by simp [z])) (fun z => hb (by simp [z])) q)) hf (Nat.le_refl _) new
    refine ⟨.ref s.heap.objs.size, _, I1, rfl, ⟨_, x, rfl, I.hok.fresh (Nat.le_refl _), rfl, fun ys hy => by rw [I.tuple_inj hy hq]; exact hx⟩, ⟨⟨y, ?_⟩, hit'.at fun o q => (sb.2 it (Ne.symm hne)).trans q, hne⟩, fun b hb => ?_⟩
    · have e1 : ((i + 1 : Nat) : Int) = (i : Int) + 1 := by omega
      rw [e1]; exact he'
    · have hb' : b < s.heap.objs.size := by
        have w : b = e ∨ b = it := by simpa using hb
        rcases w with rfl | rfl
        · exact lt1
        · exact lt2
      rw [upd_ne (Nat.ne_of_lt hb')]
      exact (hf b hb).1
  done := by
    intro X hP hw hK hc i pins s σ H E I hf st hg
    subst hP hw hK
    obtain ⟨⟨old, he⟩, hit, hne⟩ := st
    obtain ⟨xs, hq, hx⟩ := hg
    obtain ⟨its, rv, p, hz⟩ := I.tuple hq
    obtain ⟨f0, f1, f2, f3, f4, f5⟩ := hf it (by simp)
    have hl := rv.length
    have hT : s.TypeIs (.ref e) "enumerate" := ⟨_, he, rfl⟩
    unfold pyNext
    refine wpAny_bind (wpAny_attempt (wpAny_callSpecial?_slot (name := Str.ofString "__next__") hT F.slot_enumerate_next
      (wpAny_call_entry F.slot_enumerate_next hT F.entry_enumerate_next ?_ (F.args_enumerate_next_1 _))))
    show wpAny _ _ (field (.ref e) 2 >>= _) _ _ _
    refine wpAny_bind (wpAny_field he rfl (x := .ref it) rfl ?_)
    refine wpAny_bind (RZ.nextOf_tuple_end (items := its.toArray) (I.ok.hd hc) hit p (by simp; omega) fun h' x eb hx' => ?_)
    obtain ⟨o, ho, hc⟩ := hx'
    refine wpAny_bind (wpAny_isInstance (T := "StopIteration") (b := true) ⟨o, ho, hc⟩ isSubtype_stop ?_)
    exact wpAny_pure ⟨rfl, I.turned (t' := s.toks) (fun b o hb q => eb b o hb q) f0 f1 f3 f4 f5⟩
  self := fun A i s Q E st h => let ⟨⟨_, he⟩, _⟩ := st; wpAny_pyIter_enum he h
theorem meets_enumT (l : Addr) (items : Array Value) :
    Meets (Builtin.«enumerate.__new__» ⟨[.type "enumerate", .ref l], []⟩) (fun _ R s => s.heap.IsTuple l items ∧
      R (.ok (.ret (.ref (s.heap.push { cls := .type "tuple_iterator", data := .fields #[.ref l, .int 0 0] }).objs.size)))
        { s with heap := (s.heap.push { cls := .type "tuple_iterator", data := .fields #[.ref l, .int 0 0] }).push { cls := .type "enumerate", data := .fields #[.none, .bool false, .ref s.heap.objs.size, rawInt 0, .none, .none] } }) :=
  .of_wp fun prog w A R s h => by
    obtain ⟨hp, g, d, tk, os⟩ := s; obtain ⟨hl, h⟩ := h
    have hsub := sub_enumerate
    have hL : Heap.IsTuple (Shared.heap ⟨hp, g, d, tk, os⟩) l items := hl
    obtain ⟨o, ho, hc, n, hd⟩ := id hl
    obtain ⟨c, dct, dt, sl⟩ := o
    replace hc : c = .type "tuple" := hc
    replace hd : dt = .seq items n := hd
    subst hc hd
    wp_walk using AutoSeq1.wpAny_loadPart' ho
    refine wpAny_stack_any fun st => wpAny_pure ?_
    split
    · rename_i c _ _ _ _ _
      cases (c == Value.type "enumerate")
      · wp_walk using AutoSeq1.wpAny_loadPart' ho, wpAny_pyIter_tuple hL
        exact ⟨_, rfl, h⟩
      · wp_walk using AutoSeq1.wpAny_loadPart' ho, wpAny_pyIter_tuple hL
        exact ⟨_, rfl, h⟩
    · wp_walk using AutoSeq1.wpAny_loadPart' ho, wpAny_pyIter_tuple hL
      exact ⟨_, rfl, h⟩
end DL

/-! DV: enumerate of a list or tuple as it is walked; list(zip(..)). -/
namespace DL
open PySem PySem.Spec PyProof.Rows L2
variable [Wsh]
section
variable {prog : Program} {w : World} {A : Around} {E : Value → Shared → Prop} {s : Shared}
theorem call_enumT {l : Addr} {items : Array Value} {Q : Value → Shared → Prop} (hL : s.heap.IsTuple l items)
    (h : ∀ h', IsEnum h' (s.heap.objs.size + 1) s.heap.objs.size 0 .none → h'.IsTupleIter s.heap.objs.size l 0 → h'.objs.size = s.heap.objs.size + 2 →
      (∀ b o, s.heap.get? b = some o → h'.get? b = some o) → Q (.ref (s.heap.objs.size + 1)) { s with heap := h' }) :
    wpAny (model prog w) A (call (.type "enumerate") [.ref l]) Q E s := by
  refine callType_new F.called_enumerate (by decide) (F.typeCall_enumerate_1 _) (F.newCall_enumerate_1 _) (fun obj => F.args_object_init_2 obj _) F.entry_enumerate_new
    (meets_enumT l items) ⟨hL, ?_⟩
  have hz : (s.heap.push { cls := .type "tuple_iterator", data := .fields #[.ref l, .int 0 0] }).objs.size = s.heap.objs.size + 1 := Heap.size_push ..
  show _ ∧ _
  rw [hz]
  have he : IsEnum ((s.heap.push { cls := .type "tuple_iterator", data := .fields #[.ref l, .int 0 0] }).push
      { cls := .type "enumerate", data := .fields #[.none, .bool false, .ref s.heap.objs.size, rawInt 0, .none, .none] }) (s.heap.objs.size + 1) s.heap.objs.size 0 .none := by
    have e := Heap.get?_push_size (s.heap.push { cls := .type "tuple_iterator", data := .fields #[.ref l, .int 0 0] })
      (o := { cls := .type "enumerate", data := .fields #[.none, .bool false, .ref s.heap.objs.size, rawInt 0, .none, .none] }) rfl
    rw [hz] at e; exact e
  refine ⟨⟨_, he, rfl⟩, h _ he ⟨_, Heap.get?_push_of_some _ (Heap.get?_push_size _ rfl), rfl, rfl⟩ (by rw [Heap.size_push, hz]) fun b o x => Heap.get?_push_of_some _ (Heap.get?_push_of_some _ x)⟩
end
/-- enumerate(x), x a list or a tuple -/
def iEnumA (K : PySem.W.Frag) (ta : TA) : TI := fun σ H R => ta σ H fun vs H1 => ∃ a xs, vs = [.ref a] ∧ ((SqL K H1 a xs ∧ R (Ite K a) H1) ∨ (SqT K H1 a xs ∧ R (IteT K a) H1))
section
variable {X : Cx} {e : Expr} {p pos tpos : Pos} {elts : List Expr} {kk : Nat} {te : DTE}
theorem pi_enumA {ta : TA} (hg : Gl X "enumerate") (hm : X.mg "enumerate" = none) (ha : PA X [e] ta) (hs : starEach [e] X.env = [(false, eval e X.env)]) :
    PI X (.Tuple elts kk tpos) (.Call (.Name "enumerate" p) [e] [] pos) (iEnumA X.K ta) := by
  refine ⟨fun pins s σ H R I h => ?_⟩
  refine Call_ (ld_blt I hg hm boot_enumerate (PyProof.Rows.callWith_type1 (thn (ha.run pos pins s σ H _ I h) fun us s1 ⟨vs, H1, I1, r1, q1⟩ => ?_) hs rfl))
  obtain ⟨a, xs, ex, q⟩ := q1
  subst ex
  cases r1 with
  | cons r rr =>
    cases rr
    cases r
    have fresh : ∀ b, b ∈ [s1.heap.objs.size + 1, s1.heap.objs.size] → FpOk X pins H1 b := fun b hb => by
      have w : b = s1.heap.objs.size + 1 ∨ b = s1.heap.objs.size := by simpa using hb
      have hle : s1.heap.objs.size ≤ b := by
        rcases w with z | z
        · rw [z]; exact Nat.le_add_right _ _
        · rw [z]; exact Nat.le_refl _
      exact I1.fpOk hle (I1.hok.fresh hle)
    rcases q with ⟨hq, q⟩ | ⟨hq, q⟩
    · obtain ⟨its, rv, p', hz⟩ := I1.list hq
      refine call_enumerate_list p'.isList fun h' he hit hsz hk => wpAny_pyIter_enum he ?_
      have I2 : Inv X pins σ H1 { s1 with heap := h' } := I1.kept (t' := s1.toks) hk
      exact ⟨s1.heap.objs.size + 1, [s1.heap.objs.size + 1, s1.heap.objs.size], _, _, H1, rfl, I2, turn_enum a (s1.heap.objs.size + 1) s1.heap.objs.size, ⟨⟨.none, he⟩, hit, Nat.succ_ne_self _⟩, fresh, q⟩
    · obtain ⟨its, rv, p', hz⟩ := I1.tuple hq
      have hlt : a < s1.heap.objs.size := by obtain ⟨o, ho, _⟩ := id p'; exact Heap.lt_size ho
      refine call_enumT (items := its.toArray) p' fun h' he hit hsz hk => wpAny_pyIter_enum he ?_
      have I2 : Inv X pins σ H1 { s1 with heap := h' } := I1.kept (t' := s1.toks) hk
      exact ⟨s1.heap.objs.size + 1, [s1.heap.objs.size + 1, s1.heap.objs.size], _, _, H1, rfl, I2, turn_enumT a (s1.heap.objs.size + 1) s1.heap.objs.size (Nat.ne_of_lt hlt) (Nat.ne_of_lt (Nat.lt_succ_of_lt hlt)), ⟨⟨.none, he⟩, hit, Nat.succ_ne_self _⟩, fresh, q⟩
theorem itd_enumT {K : PySem.W.Frag} {F : Hp} {a : Addr} {xs : List V} {ds : List D} (h : SqT K F a xs) (r : RelDs K F xs ds) : ItD K F (IteT K a) (enumD ds) where
  go := fun i F2 H2 M2 hi e R => by
    have hi' : i < ds.length := by simpa [enumD] using hi
    have h1 : i < xs.length := by rw [r.length]; exact hi'
    exact ⟨xs, xs[i], (e.trans R.sub).sqT h, List.getElem?_eq_getElem h1⟩
  yld := fun i F2 H2 M2 d x H' hd e R y => by
    obtain ⟨T, u, rfl, hT, rfl, y1⟩ := y
    obtain ⟨dx, g1, rfl⟩ := enumD_get hd
    obtain ⟨v1, p1, q1⟩ := r.get g1
    have z1 := y1 xs ((e.trans R.sub).sqT h)
    rw [p1] at z1
    cases z1
    exact pair_yld e R hT (.int _) q1
  stop := fun F2 H2 M2 e R => ⟨xs, (e.trans R.sub).sqT h, by rw [r.length]; simp [enumD]⟩
@[simp] def iEnumD (t : DTE) : DTI := fun τ M Q => t τ M fun x M1 => match x with
  | .lst xs => Q (enumD xs) M1
  | .tup xs => Q (enumD xs) M1
  | _ => False
theorem di_enum (hm : X.mg "enumerate" = none) (ha : DE X e te) (hg : Gl X "enumerate" := by rfl) (hs : starEach [e] X.env = (false, eval e X.env) :: starEach [] X.env := by rfl) (hs' : starEach [e] X.env = [(false, eval e X.env)] := by rfl) :
    DI X (.Tuple elts kk tpos) (.Call (.Name "enumerate" p) [e] [] pos) (iEnumD te) := by
  obtain ⟨ua, pa, ra⟩ := ha.ex
  refine ⟨_, pi_enumA hg hm (pa_cons pa pa_nil hs) hs', fun F H σ τ M Qd Q R q k => ?_⟩
  refine ra F H σ τ M _ _ R q fun v F1 H1 d M1 e1 R1 r1 q1 => ?_
  cases d <;> first | exact False.elim q1 | skip
  · cases r1 with
    | tup h1 s1 => exact ⟨_, _, rfl, .inr ⟨R1.heap.sub.sqT h1, k _ F1 H1 _ M1 e1 R1 (itd_enumT h1 s1) q1⟩⟩
  · cases r1 with
    | lst h1 s1 => exact ⟨_, _, rfl, .inl ⟨SqL.of (R1.heap.sub _ _ h1), k _ F1 H1 _ M1 e1 R1 (itd_enumL (SqL.of h1) s1) q1⟩⟩
end

/-! ### zip whose tuple is still out, over any two iterators -/
section
variable {prog : Program} {w : World} {A : Around} {E : Value → Shared → Prop} {s : Shared} {z TI TO i1 i2 T : Addr} {fp1 fp2 : List Addr} {n1 n2 i : Nat} {P1 P2 : Nat → Value → Prop} {St1 St2 : Nat → Heap → Prop} {f : Bool} {oT : Obj}
theorem zipH_item {Q : Value → Shared → Prop} (S : ZipSep2 z TI TO i1 i2 fp1 fp2) (D1 : Draws prog w A i1 fp1 n1 P1 St1) (D2 : Draws prog w A i2 fp2 n2 P2 St2)
    (hz : IsZipHeld s.heap z TI TO T f) (hT : s.heap.get? T = some oT) (hTI : IsTupOf2 s.heap TI (.ref i1) (.ref i2)) (st1 : St1 i s.heap) (st2 : St2 i s.heap) (hlt1 : i < n1) (hlt2 : i < n2)
    (hQ : ∀ x1 x2 h' tk, P1 i x1 → P2 i x2 → IsZipHeld h' z TI TO T true → St1 (i + 1) h' → St2 (i + 1) h' → IsTupOf2 h' s.heap.objs.size x1 x2 → h'.objs.size = s.heap.objs.size + 1 →
      (∀ c o, c ≠ z → c ≠ i1 → c ≠ i2 → s.heap.get? c = some o → h'.get? c = some o) → Q (.ref s.heap.objs.size) { s with heap := h', toks := tk }) :
    wpAny (model prog w) A (Builtin.«zip.__next__» ⟨[.ref z], []⟩) (fun fin s' => ∃ v, fin = .done (.ret v) ∧ Q v s') E s := by
  obtain ⟨hp, g, d, tk0, os⟩ := s
  show wpAny _ _ (field (.ref z) 2 >>= _) _ _ _
  refine wpAny_bind (wpAny_field hz rfl (x := .bool false) rfl ?_)
  show wpAny _ _ (field (.ref z) 3 >>= _) _ _ _
  refine wpAny_bind (wpAny_field hz rfl (x := .ref TI) rfl ?_)
  refine wpAny_bind (wpAny_seqItems hTI rfl ?_)
  show wpAny _ _ (Builtin.SmallTypes.ownedTupleIsFree (.ref z) >>= _) _ _ _
  refine wpAny_bind (wpAny_tupleHeld_zip hz hT fun g0 hz0 hs0 => ?_)
  replace hz0 : IsZipHeld g0 z TI TO T true := hz0
  replace hs0 : Heap.SameBut z hp g0 := hs0
  simp only [Bool.false_eq_true, if_false]
  refine wpAny_bind ?_
  rw [← Array.forIn_toList]
  simp only [List.forIn_cons, List.forIn_nil]
  refine wpAny_bind (wpAny_bind (wpAny_holding ?_))
  show wpAny _ _ (Builtin.SmallTypes.nextOf (.ref i1) >>= _) _ _ ⟨g0, g, d, tk0, os⟩
  refine wpAny_bind (D1.item i _ _ _ hlt1 (D1.over st1 hs0 S.zf1) fun x1 p1 tk1 hx1 sn1 hp1 => wpAny_pure ?_)
  replace hp1 : Heap.SameBut i1 g0 p1 := hp1
  refine wpAny_pure ?_
  refine wpAny_bind (wpAny_bind (wpAny_holding ?_))
  show wpAny _ _ (Builtin.SmallTypes.nextOf (.ref i2) >>= _) _ _ ⟨p1, g, d, tk1, os⟩
  refine wpAny_bind (D2.item i _ _ _ hlt2 (D2.over (D2.over st2 hs0 S.zf2) hp1 S.sep1_2) fun x2 p2 tk2 hx2 sn2 hp2 => wpAny_pure ?_)
  replace hp2 : Heap.SameBut i2 p1 p2 := hp2
  refine wpAny_pure (wpAny_pure ?_)
  show wpAny _ _ (newTuple [x1, x2] >>= _) _ _ ⟨p2, g, d, tk2, os⟩
  refine wpAny_bind (wpAny_newTuple ?_)
  have hsz : p2.objs.size = hp.objs.size := by rw [hp2.1, hp1.1, hs0.1]
  have hz2 : IsZipHeld p2 z TI TO T true := hp2.extBut _ _ S.zi2 (hp1.extBut _ _ S.zi1 hz0)
  have hk : ∀ c o, c ≠ z → c ≠ i1 → c ≠ i2 → hp.get? c = some o → p2.get? c = some o := fun c o c1 c2 c3 e => hp2.extBut _ _ c3 (hp1.extBut _ _ c2 (hs0.extBut _ _ c1 e))
  have hj1 : St1 (i + 1) p2 := D1.over sn1 hp2 S.sep2_1
  refine wpAny_pure ⟨_, rfl, ?_⟩
  show Q (.ref p2.objs.size) _
  have hpr : IsTupOf2 (p2.push { cls := .type "tuple", data := .seq #[x1, x2] }) p2.objs.size x1 x2 := Heap.get?_push_size _ rfl
  have hz4 : (p2.push { cls := .type "tuple", data := .seq #[x1, x2] }).objs.size = p2.objs.size + 1 := Heap.size_push ..
  rw [hsz] at hpr hz4 ⊢
  exact hQ x1 x2 _ tk2 hx1 hx2 (Heap.get?_push_of_some _ hz2) (D1.frame _ _ _ hj1 fun b hb o e => Heap.get?_push_of_some _ e) (D2.frame _ _ _ sn2 fun b hb o e => Heap.get?_push_of_some _ e) hpr hz4 fun c o c1 c2 c3 e => Heap.get?_push_of_some _ (hk c o c1 c2 c3 e)
theorem zipH_end {Q : Fin → Shared → Prop} (S : ZipSep2 z TI TO i1 i2 fp1 fp2) (D1 : Draws prog w A i1 fp1 n1 P1 St1) (D2 : Draws prog w A i2 fp2 n2 P2 St2)
    (hz : IsZipHeld s.heap z TI TO T f) (hT : s.heap.get? T = some oT) (hTI : IsTupOf2 s.heap TI (.ref i1) (.ref i2)) (st1 : St1 i s.heap) (st2 : St2 i s.heap) (hle1 : i ≤ n1) (hle2 : i ≤ n2) (hend : i = n1 ∨ i = n2)
    (hE : ∀ h' tk e, (∀ c o, c ≠ z → c ≠ i1 → c ≠ i2 → s.heap.get? c = some o → h'.get? c = some o) → (∃ o, h'.get? e = some o ∧ o.cls = .type "StopIteration") → E (.ref e) { s with heap := h', toks := tk }) :
    wpAny (model prog w) A (Builtin.«zip.__next__» ⟨[.ref z], []⟩) Q E s := by
  obtain ⟨hp, g, d, tk0, os⟩ := s
  show wpAny _ _ (field (.ref z) 2 >>= _) _ _ _
  refine wpAny_bind (wpAny_field hz rfl (x := .bool false) rfl ?_)
  show wpAny _ _ (field (.ref z) 3 >>= _) _ _ _
  refine wpAny_bind (wpAny_field hz rfl (x := .ref TI) rfl ?_)
  refine wpAny_bind (wpAny_seqItems hTI rfl ?_)
  show wpAny _ _ (Builtin.SmallTypes.ownedTupleIsFree (.ref z) >>= _) _ _ _
  refine wpAny_bind (wpAny_tupleHeld_zip hz hT fun g0 hz0 hs0 => ?_)
  replace hs0 : Heap.SameBut z hp g0 := hs0
  simp only [Bool.false_eq_true, if_false]
  refine wpAny_bind ?_
  rw [← Array.forIn_toList]
  simp only [List.forIn_cons, List.forIn_nil]
  refine wpAny_bind (wpAny_bind (wpAny_holding ?_))
  show wpAny _ _ (Builtin.SmallTypes.nextOf (.ref i1) >>= _) _ _ ⟨g0, g, d, tk0, os⟩
  by_cases hlt1 : i < n1
  · refine wpAny_bind (D1.item i _ _ _ hlt1 (D1.over st1 hs0 S.zf1) fun x1 p1 tk1 hx1 sn1 hp1 => wpAny_pure ?_)
    replace hp1 : Heap.SameBut i1 g0 p1 := hp1
    have hi2 : i = n2 := by omega
    refine wpAny_pure ?_
    refine wpAny_bind (wpAny_bind (wpAny_holding ?_))
    show wpAny _ _ (Builtin.SmallTypes.nextOf (.ref i2) >>= _) _ _ ⟨p1, g, d, tk1, os⟩
    refine wpAny_bind (D2.done ⟨p1, g, d, tk1, os⟩ _ _ (by rw [← hi2]; exact D2.over (D2.over st2 hs0 S.zf2) hp1 S.sep1_2) fun q e hq he => ?_)
    exact hE q tk1 e (fun c o c1 c2 c3 x => hq _ _ c3 (hp1.extBut _ _ c2 (hs0.extBut _ _ c1 x))) he
  · have hi1 : i = n1 := by omega
    refine wpAny_bind (D1.done ⟨g0, g, d, tk0, os⟩ _ _ (by rw [← hi1]; exact D1.over st1 hs0 S.zf1) fun q e hq he => ?_)
    exact hE q tk0 e (fun c o c1 c2 c3 x => hq _ _ c2 (hs0.extBut _ _ c1 x)) he
theorem nextH_item {Q : Option Value → Shared → Prop} (S : ZipSep2 z TI TO i1 i2 fp1 fp2) (D1 : Draws prog w A.in1 i1 fp1 n1 P1 St1) (D2 : Draws prog w A.in1 i2 fp2 n2 P2 St2)
    (hz : IsZipHeld s.heap z TI TO T f) (hT : s.heap.get? T = some oT) (hTI : IsTupOf2 s.heap TI (.ref i1) (.ref i2)) (st1 : St1 i s.heap) (st2 : St2 i s.heap) (hlt1 : i < n1) (hlt2 : i < n2)
    (hQ : ∀ x1 x2 h' tk, P1 i x1 → P2 i x2 → IsZipHeld h' z TI TO T true → St1 (i + 1) h' → St2 (i + 1) h' → IsTupOf2 h' s.heap.objs.size x1 x2 → h'.objs.size = s.heap.objs.size + 1 →
      (∀ c o, c ≠ z → c ≠ i1 → c ≠ i2 → s.heap.get? c = some o → h'.get? c = some o) → Q (some (.ref s.heap.objs.size)) { s with heap := h', toks := tk }) :
    wpAny (model prog w) A (pyNext (.ref z)) Q E s := by
  have hTy : s.TypeIs (.ref z) "zip" := ⟨_, hz, rfl⟩
  unfold pyNext
  exact wpAny_bind (wpAny_attempt (wpAny_callSpecial?_slot (name := Str.ofString "__next__") hTy F.slot_zip_next
    (wpAny_call_entry F.slot_zip_next hTy F.entry_zip_next
      (zipH_item S D1 D2 hz hT hTI st1 st2 hlt1 hlt2 fun x1 x2 h' tk y1 y2 b1 d1 d2 b5 b6 b7 => wpAny_pure (hQ x1 x2 h' tk y1 y2 b1 d1 d2 b5 b6 b7)) (F.args_zip_next_1 _))))
theorem nextH_end {Q : Option Value → Shared → Prop} (S : ZipSep2 z TI TO i1 i2 fp1 fp2) (D1 : Draws prog w A.in1 i1 fp1 n1 P1 St1) (D2 : Draws prog w A.in1 i2 fp2 n2 P2 St2)
    (hz : IsZipHeld s.heap z TI TO T f) (hT : s.heap.get? T = some oT) (hTI : IsTupOf2 s.heap TI (.ref i1) (.ref i2)) (st1 : St1 i s.heap) (st2 : St2 i s.heap) (hle1 : i ≤ n1) (hle2 : i ≤ n2) (hend : i = n1 ∨ i = n2)
    (hQ : ∀ h' tk, (∀ c o, c ≠ z → c ≠ i1 → c ≠ i2 → s.heap.get? c = some o → h'.get? c = some o) → Q none { s with heap := h', toks := tk }) : wpAny (model prog w) A (pyNext (.ref z)) Q E s := by
  have hTy : s.TypeIs (.ref z) "zip" := ⟨_, hz, rfl⟩
  unfold pyNext
  refine wpAny_bind (wpAny_attempt (wpAny_callSpecial?_slot (name := Str.ofString "__next__") hTy F.slot_zip_next
    (wpAny_call_entry F.slot_zip_next hTy F.entry_zip_next (zipH_end S D1 D2 hz hT hTI st1 st2 hle1 hle2 hend fun h' tk e hk he => ?_) (F.args_zip_next_1 _))))
  obtain ⟨o, ho, hc⟩ := he
  refine wpAny_bind (wpAny_isInstance (T := "StopIteration") (b := true) ⟨o, ho, hc⟩ isSubtype_stop ?_)
  exact wpAny_pure (hQ _ _ hk)
end
/-- where the zip stands while a list S is made of it -/
def LzSt (z TI TO i1 i2 S : Addr) (St1 St2 : Nat → Heap → Prop) (i : Nat) (h : Heap) : Prop :=
  IsTupOf2 h TI (.ref i1) (.ref i2) ∧ St1 i h ∧ St2 i h ∧ ((IsZip h z TI TO .none ∧ ∃ a b, IsTupOf2 h TO a b) ∨ ∃ T f oT, IsZipHeld h z TI TO T f ∧ h.get? T = some oT ∧ T ≠ z ∧ T ≠ i1 ∧ T ≠ i2 ∧ T ≠ S)
/-- the addresses of the pairs made so far -/
structure LzG (P1 P2 : Nat → Value → Prop) (lo : Addr) (h : Heap) (as : List Addr) : Prop where
  above : ∀ a ∈ as, lo ≤ a
  pairs : ∀ (j : Nat) (a : Addr), as[j]? = some a → ∃ x1 x2, P1 j x1 ∧ P2 j x2 ∧ h.get? a = some { cls := .type "tuple", data := .seq #[x1, x2] }
  apart : as.Nodup
section
variable {prog : Program} {w : World} {A : Around} {s : Shared} {R : Result → Shared → Prop} {z TI TO i1 i2 S : Addr} {fp1 fp2 : List Addr} {n1 n2 : Nat} {P1 P2 : Nat → Value → Prop} {St1 St2 : Nat → Heap → Prop}
theorem lz_loop (ZS : ZipSep2 z TI TO i1 i2 fp1 fp2) (D1 : ∀ A : Around, A.handled = none → Draws prog w A i1 fp1 n1 P1 St1) (D2 : ∀ A : Around, A.handled = none → Draws prog w A i2 fp2 n2 P2 St2) (hh : A.handled = none)
    (hSz : S ≠ z) (hST : S ≠ TO) (hS1 : S ∉ fp1) (hS2 : S ∉ fp2) (hSTI : S ≠ TI) (hn : min n1 n2 ≤ sizeLine) (res : Value) {h₁ : Heap} (lo : Addr) (hlo : ∀ c, c = z ∨ c = TO ∨ c = i1 ∨ c = i2 ∨ c = S → c < lo)
    (hR : ∀ h' tk acc c as, (∀ b o, b < lo → b ≠ S → b ≠ z → b ≠ TO → b ≠ i1 → b ≠ i2 → h₁.get? b = some o → h'.get? b = some o) → h'.get? S = some { cls := .type "list", dict := none, data := .seq acc c, slots := #[] } → as.length = min n1 n2 → LzG P1 P2 lo h' as →
      acc.toList = as.map Value.ref → R (.ok (.ret res)) { s with heap := h', toks := tk }) :
    ∀ (k i : Nat) (h : Heap) (tk c : Nat) (acc : Array Value) (as : List Addr), min n1 n2 - i = k → i ≤ min n1 n2 → LzSt z TI TO i1 i2 S St1 St2 i h → (∀ b o, b < lo → b ≠ S → b ≠ z → b ≠ TO → b ≠ i1 → b ≠ i2 → h₁.get? b = some o → h.get? b = some o) →
      h.get? S = some { cls := .type "list", dict := none, data := .seq acc c, slots := #[] } → acc.toList = as.map Value.ref → as.length = i → LzG P1 P2 lo h as → lo ≤ h.objs.size →
      codeAny (model prog w) A (.builtin "list.extend.loop" ⟨[.ref S, .ref z, res], []⟩) R { s with heap := h, toks := tk } := by
  have hS1' : S ≠ i1 := fun e => hS1 (e ▸ ZS.mem1)
  have hS2' : S ≠ i2 := fun e => hS2 (e ▸ ZS.mem2)
  have low : ∀ {a : Addr}, lo ≤ a → a ≠ z ∧ a ≠ TO ∧ a ≠ i1 ∧ a ≠ i2 ∧ a ≠ S := fun {a} ha => by
    refine ⟨?_, ?_, ?_, ?_, ?_⟩ <;> (intro e; subst e; exact absurd (hlo _ (by simp)) (Nat.not_lt.mpr ha))
  intro k
  induction k with
  | zero =>
    intro i h tk c acc as hk hi hst hkeep hS hacc hal hG hIs
    have hin : i = min n1 n2 := by omega
    obtain ⟨hTI, st1, st2, hz⟩ := hst
    refine codeAny_builtin PySem.F.entry_extend_loop ?_
    rw [Around.under_plainId PySem.F.plain_extend_loop _]
    show wpAny _ A.in1 (pyNext (.ref z) >>= _) _ _ _
    have fin : ∀ h' tk', (∀ b o, b ≠ z → b ≠ TO → b ≠ i1 → b ≠ i2 → h.get? b = some o → h'.get? b = some o) → R (.ok (.ret res)) { s with heap := h', toks := tk' } := fun h' tk' he => by
      refine hR h' tk' acc c as (fun b o h0 h1 h2 h3 h4 h5 e => he b o h2 h3 h4 h5 (hkeep b o h0 h1 h2 h3 h4 h5 e)) (he S _ hSz hST hS1' hS2' hS) (by omega) ⟨hG.above, fun j a hj => ?_, hG.apart⟩ hacc
      obtain ⟨x1, x2, e1, e2, e3⟩ := hG.pairs j a hj
      obtain ⟨l1, l2, l3, l4, _⟩ := low (hG.above a (List.mem_of_getElem? hj))
      exact ⟨x1, x2, e1, e2, he a _ l1 l2 l3 l4 e3⟩
    rcases hz with ⟨hz, a, b, hTO⟩ | ⟨T, f, oT, hz, hT, r1, r2, r3, r4⟩
    · exact wpAny_bind (wpAny_pyNext_zipD2_end (s := { s with heap := h, toks := tk }) (A := A.in1) ZS (D1 _ hh) (D2 _ hh) hz hTI hTO st1 st2 (by omega) (by omega) (by omega) fun h' tk' he => wpAny_pure (fin h' tk' he))
    · exact wpAny_bind (nextH_end (s := { s with heap := h, toks := tk }) (A := A.in1) ZS (D1 _ hh) (D2 _ hh) hz hT hTI st1 st2 (by omega) (by omega) (by omega) fun h' tk' he => wpAny_pure (fin h' tk' fun b o h2 h3 h4 h5 e => he b o h2 h4 h5 e))
  | succ k ih =>
    intro i h tk c acc as hk hi hst hkeep hS hacc hal hG hIs
    have hlt : i < min n1 n2 := by omega
    have hsz : acc.size = i := by rw [← Array.length_toList, hacc, List.length_map, hal]
    obtain ⟨hTI, st1, st2, hz⟩ := hst
    have hSl : S < h.objs.size := Heap.lt_size hS
    refine codeAny_builtin PySem.F.entry_extend_loop ?_
    rw [Around.under_plainId PySem.F.plain_extend_loop _]
    show wpAny _ A.in1 (pyNext (.ref z) >>= _) _ _ _
    have go : ∀ x1 x2 h' tk', P1 i x1 → P2 i x2 → LzSt z TI TO i1 i2 S St1 St2 (i + 1) h' → IsTupOf2 h' h.objs.size x1 x2 → h'.objs.size = h.objs.size + 1 →
        (∀ b o, b ≠ z → b ≠ TO → b ≠ i1 → b ≠ i2 → h.get? b = some o → h'.get? b = some o) →
        wpAny (model prog w) A.in1 (updateSeq S (·.push (Value.ref h.objs.size)) >>= fun _ => again (.builtin "list.extend.loop" ⟨[.ref S, .ref z, res], []⟩))
          (fun fin s' => match fin with | .done f => R (.ok f) s' | .again c' => c'.quiet = true ∧ codeAny (model prog w) A c' R s') (fun e s' => R (.error e) s') { s with heap := h', toks := tk' } := fun x1 x2 h' tk' y1 y2 st' ht hsz' hkp => by
      have hS' := hkp S _ hSz hST hS1' hS2' hS
      have up : ∀ b o, b ≠ S → h'.get? b = some o → (h'.update S (Obj.mapSeq (·.push (Value.ref h.objs.size)))).get? b = some o := fun b o hb e => (Heap.get?_update_other _ _ (Ne.symm hb)).trans e
      have lnew : lo ≤ h.objs.size := hIs
      refine wpAny_bind ?_
      refine wpAny_updateSeq hS' rfl (wpAny_pure ⟨plainId_quiet PySem.F.plain_extend_loop _, ih (i + 1) _ tk' _ (acc.push (Value.ref h.objs.size)) (as ++ [h.objs.size]) (by omega) (by omega) ?_
        (fun b o h0 h1 h2 h3 h4 h5 e => up b o h1 (hkp b o h2 h3 h4 h5 (hkeep b o h0 h1 h2 h3 h4 h5 e))) (Heap.get?_update_self _ hS' rfl) (by rw [Array.toList_push, hacc, List.map_append]; rfl) (by rw [List.length_append, hal]; rfl) ⟨?_, ?_, ?_⟩ ?_⟩) (by rw [hsz]; omega) (by show (acc.push (Value.ref h.objs.size)).size ≤ sizeLine + 1; rw [Array.size_push, hsz]; omega)
      · obtain ⟨hTI', st1', st2', hz'⟩ := st'
        refine ⟨up _ _ (Ne.symm hSTI) hTI', (D1 A hh).frame _ _ _ st1' fun b hb o e => up b o (fun q => hS1 (q ▸ hb)) e, (D2 A hh).frame _ _ _ st2' fun b hb o e => up b o (fun q => hS2 (q ▸ hb)) e, ?_⟩
        rcases hz' with ⟨hz', a, b, hTO'⟩ | ⟨T, f, oT, hz', hT, r1, r2, r3, r4⟩
        · exact .inl ⟨up _ _ (Ne.symm hSz) hz', a, b, up _ _ (Ne.symm hST) hTO'⟩
        · exact .inr ⟨T, f, oT, up _ _ (Ne.symm hSz) hz', up _ _ r4 hT, r1, r2, r3, r4⟩
      · intro a ha
        rcases List.mem_append.mp ha with ha | ha
        · exact hG.above a ha
        · rw [List.mem_singleton.mp ha]; exact hIs
      · intro j b hj
        rcases Nat.lt_trichotomy j as.length with h1 | h1 | h1
        · rw [List.getElem?_append_left h1] at hj
          obtain ⟨u1, u2, e1, e2, e3⟩ := hG.pairs j b hj
          obtain ⟨l1, l2, l3, l4, l5⟩ := low (hG.above b (List.mem_of_getElem? hj))
          exact ⟨u1, u2, e1, e2, up b _ l5 (hkp b _ l1 l2 l3 l4 e3)⟩
        · subst h1
          have hb : h.objs.size = b := by simpa using hj
          subst hb
          exact ⟨x1, x2, by rw [hal]; exact y1, by rw [hal]; exact y2, up _ _ (Nat.ne_of_gt hSl) ht⟩
        · have hnone : (as ++ [h.objs.size])[j]? = none := List.getElem?_eq_none (by rw [List.length_append, List.length_singleton]; omega)
          rw [hnone] at hj; cases hj
      · refine List.nodup_append.mpr ⟨hG.apart, by simp, fun a ha b hb => ?_⟩
        rw [List.mem_singleton.mp hb]
        obtain ⟨j, hj⟩ := List.mem_iff_getElem?.mp ha
        obtain ⟨_, _, _, _, e⟩ := hG.pairs j a hj
        exact Nat.ne_of_lt (Heap.lt_size e)
      · have e : (h'.update S (Obj.mapSeq (·.push (Value.ref h.objs.size)))).get? h.objs.size = _ := up _ _ (Nat.ne_of_gt hSl) ht
        exact Nat.le_trans hIs (Nat.le_of_lt (Heap.lt_size e))
    have n1' : h.objs.size ≠ i1 := let ⟨_, e⟩ := (D1 A hh).live _ _ st1; Nat.ne_of_gt (Heap.lt_size e)
    have n2' : h.objs.size ≠ i2 := let ⟨_, e⟩ := (D2 A hh).live _ _ st2; Nat.ne_of_gt (Heap.lt_size e)
    rcases hz with ⟨hz, a, b, hTO⟩ | ⟨T, f, oT, hz, hT, r1, r2, r3, r4⟩
    · refine wpAny_bind (wpAny_pyNext_zipD2_item (s := { s with heap := h, toks := tk }) (A := A.in1) ZS (D1 _ hh) (D2 _ hh) hz hTI hTO st1 st2 (by omega) (by omega) fun x1 x2 h' tk' y1 y2 a1 a2 a3 a4 a5 a6 hkp => ?_)
      exact go x1 x2 h' tk' y1 y2 ⟨hkp _ _ ZS.TIz ZS.TITO ZS.TIi1 ZS.TIi2 hTI, a3, a4, .inr ⟨h.objs.size, false, _, a1, a5, Nat.ne_of_gt (Heap.lt_size hz), n1', n2', Nat.ne_of_gt hSl⟩⟩ a5 a6 hkp
    · refine wpAny_bind (nextH_item (s := { s with heap := h, toks := tk }) (A := A.in1) ZS (D1 _ hh) (D2 _ hh) hz hT hTI st1 st2 (by omega) (by omega) fun x1 x2 h' tk' y1 y2 a1 a3 a4 a5 a6 hkp => ?_)
      exact go x1 x2 h' tk' y1 y2 ⟨hkp _ _ ZS.TIz ZS.TIi1 ZS.TIi2 hTI, a3, a4, .inr ⟨T, true, oT, a1, hkp _ _ r1 r2 r3 hT, r1, r2, r3, r4⟩⟩ a5 a6 fun b o c1 _ c3 c4 e => hkp b o c1 c3 c4 e
end
end DL

/-! DW: list(zip(..)), the call. -/
namespace DL
open PySem PySem.Spec PyProof.Rows L2
variable [Wsh]
theorem zip_no_len : typeLookup (.type "zip") "__len__" = pure none := by rw [typeLookup_type, builtinLookup_eq_fast]; kernel_rfl
theorem zip_no_hint : typeLookup (.type "zip") "__length_hint__" = pure none := by rw [typeLookup_type, builtinLookup_eq_fast]; kernel_rfl
section
variable {prog : Program} {w : World} {A : Around} {E : Value → Shared → Prop} {s : Shared} {z TI TO i1 i2 : Addr} {fp1 fp2 : List Addr} {n1 n2 : Nat} {P1 P2 : Nat → Value → Prop} {St1 St2 : Nat → Heap → Prop}
theorem lz_extend {R : Result → Shared → Prop} (ZS : ZipSep2 z TI TO i1 i2 fp1 fp2) (D1 : ∀ A : Around, A.handled = none → Draws prog w A i1 fp1 n1 P1 St1) (D2 : ∀ A : Around, A.handled = none → Draws prog w A i2 fp2 n2 P2 St2) (hh : A.handled = none)
    (hz : IsZip s.heap z TI TO .none) (hTI : IsTupOf2 s.heap TI (.ref i1) (.ref i2)) (hTO : ∃ a b, IsTupOf2 s.heap TO a b) (st1 : St1 0 s.heap) (st2 : St2 0 s.heap) (hn : min n1 n2 ≤ sizeLine)
    (S : Addr) (hSz : S ≠ z) (hST : S ≠ TO) (hS1 : S ∉ fp1) (hS2 : S ∉ fp2) (hSTI : S ≠ TI) (hlo : ∀ c, c = z ∨ c = TO ∨ c = i1 ∨ c = i2 ∨ c = S → c < s.heap.objs.size) (res : Value) (c₀ : Nat) (hS : s.heap.get? S = some { cls := .type "list", data := .seq #[] c₀ })
    (hR : ∀ h' tk acc c as, (∀ b o, b ≠ S → b ≠ z → b ≠ TO → b ≠ i1 → b ≠ i2 → s.heap.get? b = some o → h'.get? b = some o) → h'.get? S = some { cls := .type "list", dict := none, data := .seq acc c, slots := #[] } → as.length = min n1 n2 → LzG P1 P2 s.heap.objs.size h' as →
      acc.toList = as.map Value.ref → R (.ok (.ret res)) { s with heap := h', toks := tk }) :
    wpAny (model prog w) A.in1 (Builtin.List.listExtendWith (.ref S) (.ref z) res)
      (fun fin s' => match fin with | .done f => R (.ok f) s' | .again c' => c'.quiet = true ∧ codeAny (model prog w) A c' R s') (fun e s' => R (.error e) s') s := by
  have hT : s.TypeIs (.ref z) "zip" := ⟨_, hz, rfl⟩
  unfold Builtin.List.listExtendWith
  refine wpAny_bind (wpAny_typeOf hT ?_)
  have q1 : Builtin.List.listSameRef (.ref S) (.ref z) = false := by simp [Builtin.List.listSameRef, hSz]
  have q2 : (Value.type "zip" == Value.type "list") = false := by decide
  have q3 : (Value.type "zip" == Value.type "tuple") = false := by decide
  simp only [q1, q2, q3, Bool.or_false, Bool.false_eq_true, if_false]
  refine wpAny_bind (wpAny_pyIter_zip hz ?_)
  refine wpAny_bind (wpAny_holding ?_)
  unfold Builtin.List.listLengthHint
  refine wpAny_bind (wpAny_specialOf hT zip_no_len ?_)
  show wpAny _ A.in1 (specialOf (Value.ref z) (Str.ofString "__length_hint__") >>= _) _ _ _
  refine wpAny_bind (wpAny_specialOf hT zip_no_hint ?_)
  refine wpAny_pure ?_
  show wpAny _ A.in1 (rule "list.extend.makes-room" >>= fun _ => Builtin.List.listTouch (.ref S) >>= fun _ =>
    again (.builtin "list.extend.loop" ⟨[.ref S, .ref z, res], []⟩)) _ _ _
  refine wpAny_bind (wpAny_rule ?_)
  refine wpAny_bind ?_
  show wpAny _ A.in1 (updateSeq S (·.push .none) >>= fun _ => updateSeq S (·.pop)) _ _ _
  refine wpAny_bind (wpAny_updateSeq hS rfl ?_)
  have hS₂ := Heap.get?_update_self (Obj.mapSeq (·.push Value.none)) hS rfl
  refine wpAny_updateSeq (hz := by seq_fits) hS₂ rfl ?_
  have hS₃ := Heap.get?_update_self (Obj.mapSeq (·.pop)) hS₂ rfl
  have up : ∀ b o, b ≠ S → s.heap.get? b = some o → ((s.heap.update S (Obj.mapSeq (·.push Value.none))).update S (Obj.mapSeq (·.pop))).get? b = some o :=
    fun b o hb e => (Heap.get?_update_other _ _ (Ne.symm hb)).trans ((Heap.get?_update_other _ _ (Ne.symm hb)).trans e)
  obtain ⟨a, b, hTO⟩ := hTO
  refine wpAny_pure ⟨plainId_quiet F.plain_extend_loop _, lz_loop ZS D1 D2 hh hSz hST hS1 hS2 hSTI hn res (h₁ := s.heap) s.heap.objs.size hlo ?_ (min n1 n2) 0 _ _ _ _ [] (Nat.sub_zero _) (Nat.zero_le _)
    ⟨up _ _ (Ne.symm hSTI) hTI, (D1 A hh).frame _ _ _ st1 fun b hb o e => up b o (fun q => hS1 (q ▸ hb)) e, (D2 A hh).frame _ _ _ st2 fun b hb o e => up b o (fun q => hS2 (q ▸ hb)) e, .inl ⟨up _ _ (Ne.symm hSz) hz, a, b, up _ _ (Ne.symm hST) hTO⟩⟩
    (fun b o _ h1 _ _ _ _ e => up b o h1 e) hS₃ rfl rfl ⟨(fun _ ha => nomatch ha), (fun j a hj => by simp at hj), List.nodup_nil⟩ (by simp [Heap.size_update])⟩
  intro h' tk acc c as hk hS' hl hG hacc
  exact hR h' tk acc c as (fun b o h1 h2 h3 h4 h5 e => hk b o (Heap.lt_size e) h1 h2 h3 h4 h5 e) hS' hl hG hacc
theorem lz_init {R : Result → Shared → Prop} (ZS : ZipSep2 z TI TO i1 i2 fp1 fp2) (D1 : ∀ A : Around, A.handled = none → Draws prog w A i1 fp1 n1 P1 St1) (D2 : ∀ A : Around, A.handled = none → Draws prog w A i2 fp2 n2 P2 St2) (hh : A.handled = none)
    (hz : IsZip s.heap z TI TO .none) (hTI : IsTupOf2 s.heap TI (.ref i1) (.ref i2)) (hTO : ∃ a b, IsTupOf2 s.heap TO a b) (st1 : St1 0 s.heap) (st2 : St2 0 s.heap) (hn : min n1 n2 ≤ sizeLine)
    (S : Addr) (hSz : S ≠ z) (hST : S ≠ TO) (hS1 : S ∉ fp1) (hS2 : S ∉ fp2) (hSTI : S ≠ TI) (hlo : ∀ c, c = z ∨ c = TO ∨ c = i1 ∨ c = i2 ∨ c = S → c < s.heap.objs.size) (hS : s.heap.get? S = some { cls := .type "list", data := .seq #[] })
    (hR : ∀ h' tk acc c as, (∀ b o, b ≠ S → b ≠ z → b ≠ TO → b ≠ i1 → b ≠ i2 → s.heap.get? b = some o → h'.get? b = some o) → h'.get? S = some { cls := .type "list", dict := none, data := .seq acc c, slots := #[] } → as.length = min n1 n2 → LzG P1 P2 s.heap.objs.size h' as →
      acc.toList = as.map Value.ref → R (.ok (.ret .none)) { s with heap := h', toks := tk }) :
    wpAny (model prog w) A.in1 (Builtin.«list.__init__» ⟨[.ref S, .ref z], []⟩)
      (fun fin s' => match fin with | .done f => R (.ok f) s' | .again c' => c'.quiet = true ∧ codeAny (model prog w) A c' R s') (fun e s' => R (.error e) s') s := by
  show wpAny _ _ (do let old ← Builtin.List.listItems (.ref S); Builtin.List.listUpdate (.ref S) (fun _ => #[]); letGo old.toList.reverse; Builtin.List.listExtendWith (.ref S) (.ref z) .none) _ _ s
  refine wpAny_bind ?_
  unfold Builtin.List.listItems
  refine wpAny_bind (wpAny_seqItems hS rfl (wpAny_pure ?_))
  show wpAny _ _ (updateSeq S (fun _ => #[]) >>= fun _ => letGo (#[] : Array Value).toList.reverse >>= fun _ => Builtin.List.listExtendWith (.ref S) (.ref z) .none) _ _ s
  refine wpAny_bind (wpAny_updateSeq hS rfl ?_)
  have hS₂ := Heap.get?_update_self (Obj.mapSeq (fun _ => (#[] : Array Value))) hS rfl
  have up : ∀ b o, b ≠ S → s.heap.get? b = some o → (s.heap.update S (Obj.mapSeq (fun _ => (#[] : Array Value)))).get? b = some o :=
    fun b o hb e => (Heap.get?_update_other _ _ (Ne.symm hb)).trans e
  refine wpAny_bind (wpAny_letGo ?_)
  obtain ⟨a, b, hTO⟩ := hTO
  have ez : (s.heap.update S (Obj.mapSeq (fun _ => (#[] : Array Value)))).objs.size = s.heap.objs.size := Heap.size_update ..
  refine lz_extend ZS D1 D2 hh (up _ _ (Ne.symm hSz) hz) (up _ _ (Ne.symm hSTI) hTI) ⟨a, b, up _ _ (Ne.symm hST) hTO⟩ ((D1 A hh).frame _ _ _ st1 fun b hb o e => up b o (fun q => hS1 (q ▸ hb)) e) ((D2 A hh).frame _ _ _ st2 fun b hb o e => up b o (fun q => hS2 (q ▸ hb)) e) hn S hSz hST hS1 hS2 hSTI
    (fun c hc => by show c < (s.heap.update S (Obj.mapSeq (fun _ => (#[] : Array Value)))).objs.size; rw [ez]; exact hlo c hc) .none _ hS₂ fun h' tk acc c as hk hS' hl hG hacc => ?_
  have hG' : LzG P1 P2 (s.heap.update S (Obj.mapSeq (fun _ => (#[] : Array Value)))).objs.size h' as := hG
  rw [ez] at hG'
  exact hR h' tk acc c as (fun b o h1 h2 h3 h4 h5 e => hk b o h1 h2 h3 h4 h5 (up b o h1 e)) hS' hl hG' hacc
theorem lz_call {Q : Value → Shared → Prop} (ZS : ZipSep2 z TI TO i1 i2 fp1 fp2) (D1 : ∀ A : Around, A.handled = none → Draws prog w A i1 fp1 n1 P1 St1) (D2 : ∀ A : Around, A.handled = none → Draws prog w A i2 fp2 n2 P2 St2) (hh : A.handled = none)
    (hz : IsZip s.heap z TI TO .none) (hTI : IsTupOf2 s.heap TI (.ref i1) (.ref i2)) (hTO : ∃ a b, IsTupOf2 s.heap TO a b) (st1 : St1 0 s.heap) (st2 : St2 0 s.heap) (hn : min n1 n2 ≤ sizeLine) (hf1 : ∀ b ∈ fp1, b < s.heap.objs.size) (hf2 : ∀ b ∈ fp2, b < s.heap.objs.size)
    (hQ : ∀ h' tk acc c as, (∀ b o, b ≠ z → b ≠ TO → b ≠ i1 → b ≠ i2 → s.heap.get? b = some o → h'.get? b = some o) → h'.get? s.heap.objs.size = some { cls := .type "list", dict := none, data := .seq acc c, slots := #[] } → as.length = min n1 n2 → LzG P1 P2 (s.heap.objs.size + 1) h' as →
      acc.toList = as.map Value.ref → Q (.ref s.heap.objs.size) { s with heap := h', toks := tk }) :
    wpAny (model prog w) A (call (.type "list") [.ref z]) Q E s := by
  obtain ⟨a, b, hTO⟩ := hTO
  have lz : z < s.heap.objs.size := Heap.lt_size hz
  have lTI : TI < s.heap.objs.size := Heap.lt_size hTI
  have lTO : TO < s.heap.objs.size := Heap.lt_size hTO
  refine callType_codes (Q₁ := fun obj s₁ => obj = .ref s.heap.objs.size ∧ s₁ = { s with heap := s.heap.push { cls := .type "list", data := .seq #[] } }) PySem.F.called_list (PySem.F.typeCall_list_1 _) PySem.F.entry_list_init
    (code_list_new _ ⟨rfl, rfl⟩) fun obj s₁ h₁ => ?_
  obtain ⟨rfl, rfl⟩ := h₁
  have hS : (s.heap.push { cls := .type "list", data := .seq #[] }).get? s.heap.objs.size = some { cls := .type "list", data := .seq #[] } := Heap.get?_push_size _ rfl
  have ez : (s.heap.push { cls := .type "list", data := .seq #[] }).objs.size = s.heap.objs.size + 1 := Heap.size_push ..
  refine ⟨⟨_, hS, rfl⟩, PySem.F.args_list_init_2 _ _, lz_init (A := A.in1) ZS D1 D2 hh (Heap.get?_push_of_some _ hz) (Heap.get?_push_of_some _ hTI) ⟨a, b, Heap.get?_push_of_some _ hTO⟩ ((D1 A hh).frame _ _ _ st1 fun b hb o e => Heap.get?_push_of_some _ e) ((D2 A hh).frame _ _ _ st2 fun b hb o e => Heap.get?_push_of_some _ e) hn
    s.heap.objs.size (Nat.ne_of_gt lz) (Nat.ne_of_gt lTO) (fun q => Nat.lt_irrefl _ (hf1 _ q)) (fun q => Nat.lt_irrefl _ (hf2 _ q)) (Nat.ne_of_gt lTI) (fun c hc => ?_) hS (fun h' tk acc c as hk hS' hl hG hacc => ?_)⟩
  · show c < (s.heap.push { cls := .type "list", data := .seq #[] }).objs.size
    rw [ez]
    rcases hc with rfl | rfl | rfl | rfl | rfl
    · exact Nat.lt_succ_of_lt lz
    · exact Nat.lt_succ_of_lt lTO
    · exact Nat.lt_succ_of_lt (hf1 _ ZS.mem1)
    · exact Nat.lt_succ_of_lt (hf2 _ ZS.mem2)
    · exact Nat.lt_succ_self _
  · have hG' : LzG P1 P2 (s.heap.push { cls := .type "list", data := .seq #[] }).objs.size h' as := hG
    rw [ez] at hG'
    exact ⟨rfl, hQ h' tk acc c as (fun b o h2 h3 h4 h5 e => hk b o (Nat.ne_of_lt (Heap.lt_size e)) h2 h3 h4 h5 (Heap.get?_push_of_some _ e)) hS' hl hG' hacc⟩
end
end DL

/-! DX: list(zip(a, b)) over trees. -/
namespace DL
open PySem PySem.Spec PyProof.Rows L2
variable [Wsh]
/-- new pairs at as -/
def updTs (H : Hp) : List Addr → List (V × V) → Hp
  | a :: as, p :: ps => updTs (upd H a (.tup [p.1, p.2])) as ps
  | _, _ => H
theorem updTs_keep : ∀ {as : List Addr} {ps : List (V × V)} {H : Hp} {b : Addr}, b ∉ as → updTs H as ps b = H b
  | [], _, _, _, _ => by unfold updTs; rfl
  | _ :: _, [], _, _, _ => by unfold updTs; rfl
  | a :: as, p :: ps, H, b, h => by
    unfold updTs
    rw [updTs_keep (fun z => h (by simp [z])), upd_ne (fun z => h (by simp [z]))]
section
variable {X : Cx} {pins : List (Addr × Obj)} {σ : L2.St} {t' : Nat}
theorem inv_many : ∀ (as : List Addr) (ps : List (V × V)) (qs : List (Value × Value)) {H : Hp} {s : Shared} {h' : Heap}, L2.Inv X pins σ H s → as.Nodup → as.length = ps.length → as.length = qs.length →
    (∀ b u, s.heap.get? b = some u → h'.get? b = some u) → (∀ a ∈ as, s.heap.get? a = none ∧ H a = none) → (∀ (j : Nat) (a : Addr) (p : V × V) (q : Value × Value), as[j]? = some a → ps[j]? = some p → qs[j]? = some q → RelV p.1 q.1 ∧ RelV p.2 q.2 ∧ h'.get? a = some { cls := .type "tuple", data := .seq #[q.1, q.2] }) →
    L2.Inv X pins σ (updTs H as ps) { s with heap := h', toks := t' }
  | [], _, _, H, s, h', I, _, _, _, k, _, _ => by unfold updTs; exact I.kept k
  | _ :: _, [], _, _, _, _, _, _, l, _, _, _, _ => by simp at l
  | _ :: _, _ :: _, [], _, _, _, _, _, _, l, _, _, _ => by simp at l
  | a :: as, p :: ps, q :: qs, H, s, h', I, nd, l1, l2, k, fr, at' => by
    obtain ⟨na, nd⟩ := List.nodup_cons.mp nd
    obtain ⟨G, g1, g2⟩ := restrict h' fun b => (s.heap.get? b).isSome || decide (b = a)
    obtain ⟨r1, r2, ha⟩ := at' 0 a p q rfl rfl rfl
    obtain ⟨f1, f2⟩ := fr a (by simp)
    have ga : G.get? a = some { cls := .type "tuple", data := .seq #[q.1, q.2] } := by rw [g1 a (by simp)]; exact ha
    have gk : ∀ b u, s.heap.get? b = some u → G.get? b = some u := fun b u e => by rw [g1 b (by simp [e])]; exact k b u e
    have gs : ∀ b u, G.get? b = some u → h'.get? b = some u := fun b u e => by
      cases c : ((s.heap.get? b).isSome || decide (b = a)) with
      | true => rw [g1 b c] at e; exact e
      | false => rw [g2 b c] at e; cases e
    have I1 : L2.Inv X pins σ (upd H a (.tup [p.1, p.2])) { s with heap := G, toks := t' } :=
      I.laidN gk f1 f2 ⟨by show 2 ≤ sizeLine; decide, [q.1, q.2], .cons r1 (.cons r2 .nil), ⟨_, ga, rfl, _, rfl⟩⟩
    have IH := inv_many as ps qs (h' := h') I1 nd (by simpa using l1) (by simpa using l2) gs (fun b hb => ?_) (fun j b p' q' e1 e2 e3 => at' (j + 1) b p' q' e1 e2 e3)
    · exact IH
    · obtain ⟨f3, f4⟩ := fr b (by simp [hb])
      have hba : b ≠ a := fun z => na (z ▸ hb)
      exact ⟨g2 b (by simp [f3, hba]), by rw [upd_ne hba]; exact f4⟩
end
/-- zip(a, b) has been made: of two lists or two tuples -/
def Zipped (X : Cx) (pins : List (Addr × Obj)) (σ : L2.St) (H : Hp) (xs ys : List V) (v : Value) (s : Shared) : Prop :=
  ∃ (z TI TO i1 i2 : Addr) (fp1 fp2 : List Addr) (us ws : List Value) (St1 St2 : Nat → Heap → Prop), v = .ref z ∧ L2.Inv X pins σ H s ∧ Vals xs us ∧ Vals ys ws ∧ us.length ≤ sizeLine ∧ ZipSep2 z TI TO i1 i2 fp1 fp2 ∧
    (∀ A : Around, A.handled = none → Draws X.prog X.w A i1 fp1 us.length (fun i x => us[i]? = some x) St1) ∧ (∀ A : Around, A.handled = none → Draws X.prog X.w A i2 fp2 ws.length (fun i x => ws[i]? = some x) St2) ∧
    IsZip s.heap z TI TO .none ∧ IsTupOf2 s.heap TI (.ref i1) (.ref i2) ∧ (∃ a b, IsTupOf2 s.heap TO a b) ∧ St1 0 s.heap ∧ St2 0 s.heap ∧ (∀ b ∈ fp1, b < s.heap.objs.size) ∧ (∀ b ∈ fp2, b < s.heap.objs.size) ∧ ∀ b ∈ [z, TI, TO, i1, i2], FpOk X pins H b
section
variable {X : Cx} {e e2 : Expr} {p p2 p3 pos : Pos}
theorem zip_made {ta : TA} (hg : Gl X "zip") (hm : X.mg "zip" = none) (ha : PA X [e, e2] ta)
    (hs : starEach [e, e2] X.env = (false, eval e X.env) :: starEach [e2] X.env) (hpl : (backTo pos (starEach [e2] X.env)).any (·.1) = false)
    (pins : List (Addr × Obj)) (s : Shared) (σ : L2.St) (H : Hp) (Q : List V → List V → Hp → Prop) (I : L2.Inv X pins σ H s)
    (h : ta σ H fun vs H1 => ∃ a b xs ys, vs = [.ref a, .ref b] ∧ ((SqL X.K H1 a xs ∧ SqL X.K H1 b ys) ∨ (SqT X.K H1 a xs ∧ SqT X.K H1 b ys)) ∧ Q xs ys H1) :
    wpAny (model X.prog X.w) X.A (eval (.Call (.Name "zip" p) [e, e2] [] pos) X.env) (fun v s' => ∃ H1 xs ys, Zipped X pins σ H1 xs ys v s' ∧ Q xs ys H1) X.xe s := by
  refine Call_ (ld_blt I hg hm PyProof.Rows.boot_zip (PyProof.Rows.callWith_type1 (thn (ha.run pos pins s σ H _ I h) fun us s1 ⟨vs, H1, I1, r1, q1⟩ => ?_) hs hpl))
  obtain ⟨a, b, xs, ys, ex, hq, q⟩ := q1
  subst ex
  cases r1 with
  | cons r rr => cases rr with
    | cons r' rr =>
      cases rr; cases r; cases r'
      have fresh5 : ∀ c, c ∈ [s1.heap.objs.size + 4, s1.heap.objs.size + 2, s1.heap.objs.size + 3, s1.heap.objs.size, s1.heap.objs.size + 1] → FpOk X pins H1 c := fun c hcm => by
        have hle : s1.heap.objs.size ≤ c := by
          rcases (by simpa using hcm : c = s1.heap.objs.size + 4 ∨ c = s1.heap.objs.size + 2 ∨ c = s1.heap.objs.size + 3 ∨ c = s1.heap.objs.size ∨ c = s1.heap.objs.size + 1) with z | z | z | z | z
          · rw [z]; exact Nat.le_add_right _ _
          · rw [z]; exact Nat.le_add_right _ _
          · rw [z]; exact Nat.le_add_right _ _
          · rw [z]; exact Nat.le_refl _
          · rw [z]; exact Nat.le_add_right _ _
        exact I1.fpOk hle (I1.hok.fresh hle)
      rcases hq with ⟨hqx, hqy⟩ | ⟨hqx, hqy⟩
      · obtain ⟨its, rv, q1, z1⟩ := I1.list hqx
        obtain ⟨its2, rv2, q2, z2⟩ := I1.list hqy
        have l1 : a < s1.heap.objs.size := q1.lt
        have l2 : b < s1.heap.objs.size := q2.lt
        refine call_zip_2 q1.isList q2.isList fun h' hz hTI hTO h1 h2 hsz hk => ⟨H1, xs, ys, ?_, q⟩
        have I2 : L2.Inv X pins σ H1 { s1 with heap := h' } := I1.kept (t' := s1.toks) hk
        refine ⟨_, _, _, _, _, [s1.heap.objs.size, a], [s1.heap.objs.size + 1, b], its, its2, fun i h => h.IsListIter s1.heap.objs.size a i ∧ h.IsList a its.toArray, fun i h => h.IsListIter (s1.heap.objs.size + 1) b i ∧ h.IsList b its2.toArray, rfl, I2, rv, rv2, by rw [← rv.length]; exact z1, zip_sep2 (by simpa using l1) (by simpa using l2),
          fun A hh => by simpa using Draws.list (prog := X.prog) (w := X.w) (A := A) hh s1.heap.objs.size a (Nat.ne_of_lt l1) its.toArray, fun A hh => by simpa using Draws.list (prog := X.prog) (w := X.w) (A := A) hh (s1.heap.objs.size + 1) b (Nat.ne_of_lt (Nat.lt_succ_of_lt l2)) its2.toArray,
          hz, hTI, ⟨_, _, hTO⟩, ⟨h1, q1.isList.at fun o e => hk _ o e⟩, ⟨h2, q2.isList.at fun o e => hk _ o e⟩, fun c hc => ?_, fun c hc => ?_, fresh5⟩
        · show c < h'.objs.size
          rw [hsz]
          rcases (by simpa using hc : c = s1.heap.objs.size ∨ c = a) with z | z
          · rw [z]; exact Nat.lt_add_of_pos_right (by decide)
          · rw [z]; exact Nat.lt_add_right _ l1
        · show c < h'.objs.size
          rw [hsz]
          rcases (by simpa using hc : c = s1.heap.objs.size + 1 ∨ c = b) with z | z
          · rw [z]; exact Nat.add_lt_add_left (by decide) _
          · rw [z]; exact Nat.lt_add_right _ l2
      · obtain ⟨its, rv, q1, z1⟩ := I1.tuple hqx
        obtain ⟨its2, rv2, q2, z2⟩ := I1.tuple hqy
        have l1 : a < s1.heap.objs.size := by obtain ⟨o1, ho1, _⟩ := id q1; exact Heap.lt_size ho1
        have l2 : b < s1.heap.objs.size := by obtain ⟨o1, ho1, _⟩ := id q2; exact Heap.lt_size ho1
        refine RZ.call_zipT (show s1.heap.IsTuple a its.toArray from q1) (show s1.heap.IsTuple b its2.toArray from q2) fun h' hz hTI hTO h1 h2 hsz hk => ⟨H1, xs, ys, ?_, q⟩
        have I2 : L2.Inv X pins σ H1 { s1 with heap := h' } := I1.kept (t' := s1.toks) hk
        refine ⟨_, _, _, _, _, [s1.heap.objs.size, a], [s1.heap.objs.size + 1, b], its, its2, fun i h => h.IsTupleIter s1.heap.objs.size a i ∧ h.IsTuple a its.toArray, fun i h => h.IsTupleIter (s1.heap.objs.size + 1) b i ∧ h.IsTuple b its2.toArray, rfl, I2, rv, rv2, by rw [← rv.length]; exact z1, zip_sep2 (by simpa using l1) (by simpa using l2),
          fun A hh => by simpa using Draws.tuple (prog := X.prog) (w := X.w) (A := A) hh s1.heap.objs.size a (Nat.ne_of_lt l1) its.toArray, fun A hh => by simpa using Draws.tuple (prog := X.prog) (w := X.w) (A := A) hh (s1.heap.objs.size + 1) b (Nat.ne_of_lt (Nat.lt_succ_of_lt l2)) its2.toArray,
          hz, hTI, ⟨_, _, hTO⟩, ⟨h1, Heap.IsTuple.at q1 fun o e => hk _ o e⟩, ⟨h2, Heap.IsTuple.at q2 fun o e => hk _ o e⟩, fun c hc => ?_, fun c hc => ?_, fresh5⟩
        · show c < h'.objs.size
          rw [hsz]
          rcases (by simpa using hc : c = s1.heap.objs.size ∨ c = a) with z | z
          · rw [z]; exact Nat.lt_add_of_pos_right (by decide)
          · rw [z]; exact Nat.lt_add_right _ l1
        · show c < h'.objs.size
          rw [hsz]
          rcases (by simpa using hc : c = s1.heap.objs.size + 1 ∨ c = b) with z | z
          · rw [z]; exact Nat.add_lt_add_left (by decide) _
          · rw [z]; exact Nat.lt_add_right _ l2
/-- list(zip(a, b)) -/
def tLstZip (K : PySem.W.Frag) (ta : TA) : TE := fun σ H Q => ta σ H fun vs H1 => ∃ a b xs ys, vs = [.ref a, .ref b] ∧ ((SqL K H1 a xs ∧ SqL K H1 b ys) ∨ (SqT K H1 a xs ∧ SqT K H1 b ys)) ∧
  ∀ (as : List Addr) (q : Addr), as.Nodup → as.length = (xs.zip ys).length → (∀ c ∈ as, H1 c = none) → H1 q = none → q ∉ as → Q (.ref q) (upd (updTs H1 as (xs.zip ys)) q (.lst (as.map V.ref)))
theorem pe_listZip {ta : TA} (hc : X.calm = true) (hg : Gl X "list") (hm : X.mg "list" = none) (hg2 : Gl X "zip") (hm2 : X.mg "zip" = none) (ha : PA X [e, e2] ta)
    (hs : starEach [e, e2] X.env = (false, eval e X.env) :: starEach [e2] X.env) (hpl : (backTo p3 (starEach [e2] X.env)).any (·.1) = false)
    (na : starEach [.Call (.Name "zip" p2) [e, e2] [] p3] X.env = (false, eval (.Call (.Name "zip" p2) [e, e2] [] p3) X.env) :: starEach [] X.env) :
    PE X (.Call (.Name "list" p) [.Call (.Name "zip" p2) [e, e2] [] p3] [] pos) (tLstZip X.K ta) := by
  refine ⟨fun pins s σ H Q I h => ?_⟩
  refine Call_ (ld_blt I hg hm boot_list (PyProof.Rows.callWith_type1 (args_cons (thn (zip_made hg2 hm2 ha hs hpl pins s σ H (fun xs ys H1 => ∀ (as : List Addr) (q : Addr), as.Nodup → as.length = (xs.zip ys).length → (∀ c ∈ as, H1 c = none) → H1 q = none → q ∉ as → Q (.ref q) (upd (updTs H1 as (xs.zip ys)) q (.lst (as.map V.ref)))) I h) fun v s1 ⟨H1, xs, ys, hz, q⟩ => args_nil ?_) na) na))
  obtain ⟨z, TI, TO, i1, i2, fp1, fp2, us, ws, St1, St2, rfl, I1, rv, rv2, zz, ZS, D1, D2, hz, hTI, hTO, st1, st2, hf1, hf2, fp⟩ := hz
  refine lz_call ZS D1 D2 (I1.ok.hd hc) hz hTI hTO st1 st2 (Nat.le_trans (Nat.min_le_left _ _) zz) hf1 hf2 fun h' tk acc c as hk hS hl hG hacc => ?_
  have len : as.length = (xs.zip ys).length := by rw [hl, List.length_zip, rv.length, rv2.length]
  have len2 : as.length = (us.zip ws).length := by rw [hl, List.length_zip]
  obtain ⟨G, g1, g2⟩ := restrict h' fun b => decide (b < s1.heap.objs.size)
  have gs : ∀ b u, G.get? b = some u → h'.get? b = some u := fun b u e => by
    cases c : decide (b < s1.heap.objs.size) with
    | true => rw [g1 b c] at e; exact e
    | false => rw [g2 b c] at e; cases e
  have IG : L2.Inv X pins σ H1 { s1 with heap := G, toks := tk } := I1.turnedL (ch := [z, TI, TO, i1, i2]) (fun b o hb e => by
    rw [g1 b (decide_eq_true (Heap.lt_size e))]
    exact hk b o (fun x => hb (by simp [x])) (fun x => hb (by simp [x])) (fun x => hb (by simp [x])) (fun x => hb (by simp [x])) e) fp
  have new : ∀ b, s1.heap.objs.size ≤ b → G.get? b = none ∧ H1 b = none := fun b hb => ⟨g2 b (decide_eq_false (Nat.not_lt.mpr hb)), I1.hok.fresh hb⟩
  have IM : L2.Inv X pins σ (updTs H1 as (xs.zip ys)) { s1 with heap := h', toks := tk } := inv_many (s := { s1 with heap := G, toks := tk }) as (xs.zip ys) (us.zip ws) IG hG.apart len len2 gs (fun b hb => new b (Nat.le_of_succ_le (hG.above b hb))) fun j b pr q' e1 e2 e3 => by
    obtain ⟨x1, x2, y1, y2, y3⟩ := hG.pairs j b e1
    obtain ⟨a1, a2⟩ := List.getElem?_zip_eq_some.mp e2
    obtain ⟨b1, b2⟩ := List.getElem?_zip_eq_some.mp e3
    rw [b1] at y1; rw [b2] at y2
    cases y1; cases y2
    obtain ⟨u1, c1, c2⟩ := rv.get a1
    obtain ⟨u2, d1, d2⟩ := rv2.get a2
    rw [b1] at c1; rw [b2] at d1
    cases c1; cases d1
    exact ⟨c2, d2, y3⟩
  have nq : s1.heap.objs.size ∉ as := fun hm' => absurd (hG.above _ hm') (Nat.not_succ_le_self _)
  obtain ⟨G2, k1, k2⟩ := restrict h' fun b => !decide (b = s1.heap.objs.size)
  have IM2 : L2.Inv X pins σ (updTs H1 as (xs.zip ys)) { s1 with heap := G2, toks := tk } := by
    refine inv_many (s := { s1 with heap := G, toks := tk }) as (xs.zip ys) (us.zip ws) IG hG.apart len len2 (fun b u e => ?_) (fun b hb => new b (Nat.le_of_succ_le (hG.above b hb))) fun j b pr q' e1 e2 e3 => ?_
    · have hb : b ≠ s1.heap.objs.size := fun x => by subst x; rw [(new _ (Nat.le_refl _)).1] at e; cases e
      rw [k1 b (by simp [hb])]
      exact gs b u e
    · have hb : b ≠ s1.heap.objs.size := fun x => nq (x ▸ List.mem_of_getElem? e1)
      rw [k1 b (by simp [hb])]
      obtain ⟨x1, x2, y1, y2, y3⟩ := hG.pairs j b e1
      obtain ⟨a1, a2⟩ := List.getElem?_zip_eq_some.mp e2
      obtain ⟨b1, b2⟩ := List.getElem?_zip_eq_some.mp e3
      rw [b1] at y1; rw [b2] at y2
      cases y1; cases y2
      obtain ⟨u1, c1, c2⟩ := rv.get a1
      obtain ⟨u2, d1, d2⟩ := rv2.get a2
      rw [b1] at c1; rw [b2] at d1
      cases c1; cases d1
      exact ⟨c2, d2, y3⟩
  have va : Vals (as.map V.ref) acc.toList := by
    rw [hacc]
    clear hG hacc hl len len2 IM IM2 nq
    induction as with
    | nil => exact .nil
    | cons a r ih => exact .cons rfl ih
  have hlen : (as.map V.ref).length ≤ sizeLine := by
    rw [List.length_map, hl]; exact Nat.le_trans (Nat.min_le_left _ _) zz
  have IL : L2.Inv X pins σ (upd (updTs H1 as (xs.zip ys)) s1.heap.objs.size (.lst (as.map V.ref))) { s1 with heap := h', toks := tk } :=
    IM2.laidN (t' := tk) (fun b u e => by
      cases c : (!decide (b = s1.heap.objs.size)) with
      | true => rw [k1 b c] at e; exact e
      | false => rw [k2 b c] at e; cases e) (k2 _ (by simp)) (by rw [updTs_keep nq]; exact I1.hok.fresh (Nat.le_refl _)) ⟨hlen, acc.toList, c, va, by rw [Array.toArray_toList]; exact hS⟩
  exact ⟨.ref s1.heap.objs.size, _, IL, rfl, q as s1.heap.objs.size hG.apart len (fun b hb => (new b (Nat.le_of_succ_le (hG.above b hb))).2) (I1.hok.fresh (Nat.le_refl _)) nq⟩
end
/-! ### over trees -/
section
variable {K : PySem.W.Frag}
theorem frozenTs : ∀ (as : List Addr) {xs ys : List V} {ds es : List D} {F H : Hp} {M : Sto}, Rst0 K F H M → RelDs K F xs ds → RelDs K F ys es → as.Nodup → as.length = (xs.zip ys).length → (∀ c ∈ as, H c = none) →
    ∃ F', Stp F H M F' (updTs H as (xs.zip ys)) M ∧ Rst0 K F' (updTs H as (xs.zip ys)) M ∧ RelDs K F' (as.map V.ref) (zipD ds es)
  | [], xs, ys, ds, es, F, H, M, R, rx, ry, _, l, _ => by
    refine ⟨F, by unfold updTs; exact Stp.refl F H M, by unfold updTs; exact R, ?_⟩
    have : (zipD ds es) = [] := by
      apply List.eq_nil_of_length_eq_zero
      simp only [zipD, List.length_map, List.length_zip]
      rw [List.length_zip, rx.length, ry.length] at l
      exact l.symm
    rw [this]; exact .nil
  | a :: as, [], ys, ds, es, F, H, M, R, rx, ry, _, l, _ => by simp at l
  | a :: as, x :: xs, [], ds, es, F, H, M, R, rx, ry, _, l, _ => by simp at l
  | a :: as, x :: xs, y :: ys, _, _, F, H, M, R, .cons (d := dx) (ds := ds) rx rxs, .cons (d := dy) (ds := es) ry rys, nd, l, fr => by
    obtain ⟨na, nd⟩ := List.nodup_cons.mp nd
    obtain ⟨e1, R1⟩ := R.frozen (o := .tup [x, y]) (fr a (by simp))
    obtain ⟨F2, e2, R2, r2⟩ := frozenTs as R1 (RelDs.mono e1.ext rxs) (RelDs.mono e1.ext rys) nd (by simpa using l) (fun c hc => by rw [upd_ne (show c ≠ a from fun z => na (by rw [← z]; exact hc))]; exact fr c (by simp [hc]))
    rw [List.zip_cons_cons]
    unfold updTs
    have rt : RelD K F2 (.ref a) (.tup [dx, dy]) := .tup (e2.ext.sqT (SqT.of upd_same)) (.cons (rx.mono (e1.ext.trans e2.ext)) (.cons (ry.mono (e1.ext.trans e2.ext)) .nil))
    exact ⟨F2, e1.trans e2, R2, .cons rt r2⟩
end
/-- frozen; may change -/
@[simp] def dLstZip (t u : DTE) : DTE := fun τ M Q => t τ M fun x M1 => u τ M1 fun y M2 => match zipI x y M2 with
  | some zs => Q (.lst zs) M2
  | none => False
@[simp] def dLstZipM (t u : DTE) : DTE := fun τ M Q => t τ M fun x M1 => u τ M1 fun y M2 => match zipI x y M2 with
  | some zs => ∀ p, M2 p = none → Q (.ref p) (M2.upd p (.lst zs))
  | none => False
section
variable {X : Cx} {e e2 : Expr} {p p2 p3 pos : Pos} {te tu : DTE}
theorem zipI_ok {K : PySem.W.Frag} {F H : Hp} {M : Sto} {v v' : V} {d d' : D} {zs : List D} (R : Rst0 K F H M) (r1 : RelD K F v d) (r2 : RelD K F v' d') (h : zipI d d' M = some zs) :
    ∃ a b xs ys ds es, v = .ref a ∧ v' = .ref b ∧ ((SqL K H a xs ∧ SqL K H b ys) ∨ (SqT K H a xs ∧ SqT K H b ys)) ∧ RelDs K F xs ds ∧ RelDs K F ys es ∧ zs = zipD ds es := by
  cases d <;> cases d' <;> first | (simp [zipI] at h; done) | skip
  · cases h
    cases r1 with
    | tup h1 s1 => cases r2 with
      | tup h2 s2 => exact ⟨_, _, _, _, _, _, rfl, rfl, .inr ⟨R.sub.sqT h1, R.sub.sqT h2⟩, s1, s2, rfl⟩
  · cases h
    cases r1 with
    | lst h1 s1 => cases r2 with
      | lst h2 s2 => exact ⟨_, _, _, _, _, _, rfl, rfl, .inl ⟨SqL.of (R.sub _ _ h1), SqL.of (R.sub _ _ h2)⟩, s1, s2, rfl⟩
theorem de_listZip (hc : X.calm = true) (hm : X.mg "list" = none) (hm2 : X.mg "zip" = none) (ha : DE X e te) (hb : DE X e2 tu) (hg : Gl X "list" := by rfl) (hg2 : Gl X "zip" := by rfl)
    (hs : starEach [e, e2] X.env = (false, eval e X.env) :: starEach [e2] X.env := by rfl) (hs2 : starEach [e2] X.env = (false, eval e2 X.env) :: starEach [] X.env := by rfl) (hpl : (backTo p3 (starEach [e2] X.env)).any (·.1) = false := by rfl)
    (na : starEach [.Call (.Name "zip" p2) [e, e2] [] p3] X.env = (false, eval (.Call (.Name "zip" p2) [e, e2] [] p3) X.env) :: starEach [] X.env := by rfl) :
    DE X (.Call (.Name "list" p) [.Call (.Name "zip" p2) [e, e2] [] p3] [] pos) (dLstZip te tu) := by
  obtain ⟨ua, pa, ra⟩ := ha.ex
  obtain ⟨ub, pb, rb⟩ := hb.ex
  refine ⟨_, pe_listZip hc hg hm hg2 hm2 (pa_cons pa (pa_cons pb pa_nil hs2) hs) hs hpl na, fun F H σ τ M Qd Q R q k => ?_⟩
  refine ra F H σ τ M _ _ R q fun v F1 H1 d M1 e1 R1 r1 q1 => ?_
  refine rb F1 H1 σ τ M1 _ _ R1 q1 fun v' F2 H2 d' M2 e2 R2 r2 q2 => ?_
  split at q2
  · rename_i zs hz
    obtain ⟨a, b, xs, ys, ds, es, rfl, rfl, hq, s1, s2, rfl⟩ := zipI_ok R2.heap (r1.mono e2.ext) r2 hz
    refine ⟨a, b, xs, ys, rfl, hq, fun as q nd l fr hq0 nq => ?_⟩
    obtain ⟨F3, e3, R3, r3⟩ := frozenTs as R2.heap s1 s2 nd l fr
    have hp : (updTs H2 as (xs.zip ys)) q = none := by rw [updTs_keep nq]; exact hq0
    obtain ⟨e4, R4⟩ := R3.frozen (o := .lst (as.map V.ref)) hp
    exact k _ _ _ _ M2 (((e1.trans e2).trans e3).trans e4) (R2.mono (e3.trans e4).ext R4) (.lst upd_same (RelDs.mono e4.ext r3)) q2
  · exact q2.elim
theorem de_listZipM (hc : X.calm = true) (hm : X.mg "list" = none) (hm2 : X.mg "zip" = none) (ha : DE X e te) (hb : DE X e2 tu) (hg : Gl X "list" := by rfl) (hg2 : Gl X "zip" := by rfl)
    (hs : starEach [e, e2] X.env = (false, eval e X.env) :: starEach [e2] X.env := by rfl) (hs2 : starEach [e2] X.env = (false, eval e2 X.env) :: starEach [] X.env := by rfl) (hpl : (backTo p3 (starEach [e2] X.env)).any (·.1) = false := by rfl)
    (na : starEach [.Call (.Name "zip" p2) [e, e2] [] p3] X.env = (false, eval (.Call (.Name "zip" p2) [e, e2] [] p3) X.env) :: starEach [] X.env := by rfl) :
    DE X (.Call (.Name "list" p) [.Call (.Name "zip" p2) [e, e2] [] p3] [] pos) (dLstZipM te tu) := by
  obtain ⟨ua, pa, ra⟩ := ha.ex
  obtain ⟨ub, pb, rb⟩ := hb.ex
  refine ⟨_, pe_listZip hc hg hm hg2 hm2 (pa_cons pa (pa_cons pb pa_nil hs2) hs) hs hpl na, fun F H σ τ M Qd Q R q k => ?_⟩
  refine ra F H σ τ M _ _ R q fun v F1 H1 d M1 e1 R1 r1 q1 => ?_
  refine rb F1 H1 σ τ M1 _ _ R1 q1 fun v' F2 H2 d' M2 e2 R2 r2 q2 => ?_
  split at q2
  · rename_i zs hz
    obtain ⟨a, b, xs, ys, ds, es, rfl, rfl, hq, s1, s2, rfl⟩ := zipI_ok R2.heap (r1.mono e2.ext) r2 hz
    refine ⟨a, b, xs, ys, rfl, hq, fun as q nd l fr hq0 nq => ?_⟩
    obtain ⟨F3, e3, R3, r3⟩ := frozenTs as R2.heap s1 s2 nd l fr
    have hp : (updTs H2 as (xs.zip ys)) q = none := by rw [updTs_keep nq]; exact hq0
    obtain ⟨e4, R4⟩ := R3.fresh (o := .lst (as.map V.ref)) (u := .lst (zipD ds es)) hp r3
    exact k _ _ _ (.ref q) _ (((e1.trans e2).trans e3).trans e4) (R2.mono (e3.trans e4).ext R4) (.ref q) (q2 q (R3.free hp).2)
  · exact q2.elim
end
end DL

/-! DY: forgetting what is not needed any more; a value frozen or not, as its user likes. -/
namespace DL
open PySem PySem.Spec PyProof.Rows L2
variable [Wsh]
theorem Stp.down {F H F1 H1 : Hp} {M M1 M2 : Sto} (x : Stp F H M2 F1 H1 M1) (h : M2.le M) : Stp F H M F1 H1 M1 := by
  refine ⟨x.ext, fun a o e m => ?_, x.al⟩
  refine x.kp a o e ?_
  cases q : M2 a with
  | none => rfl
  | some u => rw [h a u q] at m; cases m
section
variable {X : Cx} {e : Expr} {sts : List Stmt}
def dWk (t : DTS) : DTS := fun D τ M => ∃ M2, M2.le M ∧ t D τ M2
theorem dss_wk {t : DTS} (h : DSs X sts t) : DSs X sts (dWk t) := by
  obtain ⟨u, pu, ru⟩ := h.ex
  refine ⟨u, pu, fun F H σ τ M D E R q r => ?_⟩
  obtain ⟨M2, l, q⟩ := q
  refine ru F H σ τ M2 D E ⟨R.heap.less l, R.slots⟩ q ⟨fun F' H' σ' τ' M' s => r.nx F' H' σ' τ' M' (s.down l), fun F' H' σ' τ' M' s => r.bk F' H' σ' τ' M' (s.down l), fun F' H' σ' τ' M' s => r.ct F' H' σ' τ' M' (s.down l), fun v F' H' d M' s => r.rt v F' H' d M' (s.down l), fun F' H' σ' τ' M' C d fs s => r.xr F' H' σ' τ' M' C d fs (s.down l)⟩
@[simp] def dFrzQ (t : DTE) : DTE := fun τ M Q => t τ M fun d M1 => Q d M1 ∨ frz Q d M1
theorem de_frzQ {t : DTE} (h : DE X e t) : DE X e (dFrzQ t) := by
  obtain ⟨u, pu, ru⟩ := h.ex
  refine ⟨u, pu, fun F H σ τ M Qd Q R q k => ?_⟩
  refine ru F H σ τ M _ _ R q fun v F1 H1 d M1 e1 R1 r1 q1 => ?_
  rcases q1 with q1 | q1
  · exact k v F1 H1 d M1 e1 R1 r1 q1
  · obtain ⟨F2, d', M2, e2, R2, r2, q2⟩ := frz_ok R1 r1 q1
    exact k v F2 H1 d' M2 (e1.trans e2) R2 r2 q2
/-! ### a tuple of which it is known that nothing hangs at it; dict(tuple of pairs) -/
variable {es : List Expr} {pos : Pos}
def tTupP (t : TA) : TE := fun σ H Q => t σ H fun xs H1 => xs.length ≤ sizeLine ∧ ∀ p o, o.dict = none → H1 p = none → Q (.ref p) (upd H1 p (.frz o (.tup xs)))
theorem pe_tupP {x1} {t : TA} (h : PA X es t) : PE X (.Tuple es x1 pos) (tTupP t) := by
  refine ⟨fun pins s σ H Q I hq => ?_⟩
  refine wpAny_Tuple_spliced (thn (h.run pos pins s σ H _ I hq) fun us s1 ⟨xs, H1, I1, r, z, q⟩ => ⟨by rw [← r.length]; exact z, ?_⟩)
  have hf : H1 s1.heap.objs.size = none := I1.hok.fresh (Nat.le_refl _)
  refine ⟨.ref s1.heap.objs.size, upd H1 s1.heap.objs.size (.frz { cls := .type "tuple", data := .seq us.toArray } (.tup xs)), I1.laid (t' := s1.toks) (fun b u e => Heap.get?_push_of_some _ e) (Nat.le_refl _) ?_, rfl, q _ _ rfl hf⟩
  exact ⟨Heap.get?_push_size _ rfl, z, us, r, ⟨_, Heap.get?_push_size _ rfl, rfl, _, rfl⟩⟩
@[simp] def dTupP (t : DTA) : DTE := fun τ M Q => t τ M fun xs M1 => xs.length ≤ sizeLine ∧ Q (.ptp xs) M1
theorem de_tupP {t : DTA} {x1} (h : DA X es t) : DE X (.Tuple es x1 pos) (dTupP t) := by
  obtain ⟨u, pu, ru⟩ := h.ex
  refine ⟨tTupP u, pe_tupP pu, fun F H σ τ M Qd Q R q k => ?_⟩
  refine ru F H σ τ M _ _ R q fun vs F1 H1 ds M1 e1 R1 r1 ⟨z, q1⟩ => ⟨by rw [r1.length]; exact z, fun p o ho hp => ?_⟩
  obtain ⟨e2, R2⟩ := R1.heap.frozen (o := .frz o (.tup vs)) hp
  exact k (.ref p) _ _ (.ptp ds) M1 (e1.trans e2) (R1.mono e2.ext R2) (.ptp upd_same ho (r1.mono e2.ext)) q1
def rDictPT (K : PySem.W.Frag) : List V → Hp → VK → Prop := fun xs H Q => ∃ (a : Addr) (o : Obj) (ps : List Addr) (kvs : List (Key × V)), xs = [.ref a] ∧ H a = some (.frz o (.tup (ps.map V.ref))) ∧ o.dict = none ∧ Paired (fun p kv => SqT K H p [kV kv.1, kv.2]) ps kvs ∧
    ∀ p, H p = none → Q (.ref p) (upd H p (.dK (mergeK [] kvs)))
theorem call_dictPT (hcalm : X.calm = true) : CallR X (.type "dict") (rDictPT X.K) := by
  intro pins s σ H xs us Q I r q
  obtain ⟨a, o, ps, kvs, ex, hq, hod, hp, q⟩ := q
  subst ex
  obtain ⟨u, eu, rx⟩ := vals1 r
  subst eu
  cases rx
  obtain ⟨ho, hz, its, rv, o', ho', hc, n, hdat⟩ := (show ObjOk X.prog X.w H s.heap a (.frz o (.tup (ps.map V.ref))) from I.hok a _ hq)
  rw [ho] at ho'
  cases ho'
  have ei := refs_at rv
  subst ei
  rw [List.length_map] at hz
  obtain ⟨prs, rel, hl, hpr⟩ := pairs_of I hp
  -- the pairs as values
  obtain ⟨vps, hvl, hvp⟩ : ∃ vps : List (Value × Value), vps.length = prs.length ∧ ∀ (j : Nat) (qq : Value × Value), vps[j]? = some qq → ∃ (b : Addr) (kv : Key × Value), ps[j]? = some b ∧ prs[j]? = some kv ∧ qq.2 = kv.2 ∧ IsTup s.heap b #[qq.1, qq.2] ∧ keyIs kv.1 qq.1 = true := by
    have mk : ∀ (j : Fin prs.length), ∃ vv : Value × Value, ∃ (b : Addr), ps[j.1]? = some b ∧ vv.2 = prs[j.1].2 ∧ IsTup s.heap b #[vv.1, vv.2] ∧ keyIs prs[j.1].1 vv.1 = true := fun j => by
      obtain ⟨b, u, e1, e2, e3⟩ := hpr j.1 prs[j.1] (List.getElem?_eq_getElem j.2)
      exact ⟨(u, prs[j.1].2), b, e1, rfl, e2, e3⟩
    refine ⟨List.ofFn fun j => Classical.choose (mk j), List.length_ofFn, fun j qq e => ?_⟩
    rw [List.getElem?_ofFn] at e
    split at e
    · rename_i hj
      cases e
      obtain ⟨b, e1, e2, e3, e4⟩ := Classical.choose_spec (mk ⟨j, hj⟩)
      exact ⟨b, prs[j], e1, List.getElem?_eq_getElem hj, e2, e3, e4⟩
    · cases e
  have P := PairArg.tuple (prog := X.prog) (w := X.w) a (ps.map Value.ref).toArray (fun j => ps.getD j 0) vps
  refine PySem.call_dict_pairs (knd := mixKind X.prog X.w) (kvs := prs) (n := vps.length) P (I.ok.hd hcalm) ⟨⟨o, n, ho, hc, hod, hdat⟩, ?_, fun j k v e => ?_⟩ ⟨hvl.symm, fun i key v e => ?_⟩ (by rw [hvl, hl]; exact hz) fun h' tk hd' hk => ?_
  · rw [List.size_toArray, List.length_map, hvl, hl]
  · obtain ⟨b, kv, e1, e2, e3, e4, e5⟩ := hvp j _ e
    have eb : ps.getD j 0 = b := by rw [List.getD_eq_getElem?_getD, e1]; rfl
    refine ⟨by simp [e1], ?_⟩
    show PairAt s.heap (ps.getD j 0) k v
    rw [eb]
    exact .inl e4
  · obtain ⟨b, kv, e1, e2, e3, e4, e5⟩ := hvp i _ e
    refine ⟨kv.1, ?_, e5⟩
    rw [e2, show v = kv.2 from e3]
  · have hm : (s.heap.objs.size == sysModules) = false := beq_eq_false_iff_ne.mpr (Nat.ne_of_gt I.big)
    have hz2 : (mergeK [] kvs).length ≤ sizeLine := by
      have h1 := length_mergeK kvs []
      have h2 : kvs.length = prs.length := Paired.length rel
      rw [List.length_nil] at h1
      omega
    exact ⟨.ref s.heap.objs.size, upd H s.heap.objs.size (.dK (mergeK [] kvs)), I.laid (t' := tk) (fun b u e => hk b u (by simp) e) (Nat.le_refl _)
      (show ObjOk X.prog X.w _ _ _ (.dK (mergeK [] kvs)) from ⟨hz2, hm, _, rel.merge .nil, hd'⟩), rfl, q _ (I.hok.fresh (Nat.le_refl _))⟩
/-- dict(tuple of pairs), frozen -/
@[simp] def gDictPT : GC := fun ds M Q => match ds with
  | [.ptp ys] => (match pairsOf ys with
    | some kvs => Q (.dct (mergeD [] kvs)) M
    | none => False)
  | _ => False
theorem cd_dictPT (hc : X.calm = true) : CallD X (.type "dict") gDictPT := fun F H M xs ds Qd Q R r q k => by
  unfold gDictPT at q
  split at q
  · split at q
    · rename_i kvs hk
      cases r with
      | cons r1 r2 =>
        cases r2
        cases r1 with
        | ptp hs ho rs =>
          obtain ⟨ps, ms, rfl, pr, rk⟩ := pairs_rel rs hk
          refine ⟨_, call_dictPT hc, _, _, ps, ms, rfl, R.sub _ _ hs, ho, paired_mono R.sub pr, fun p hp => ?_⟩
          obtain ⟨e2, R2⟩ := R.frozen (o := .dK (mergeK [] ms)) hp
          exact k _ _ _ (.dct (mergeD [] kvs)) M e2 R2 (.dct (.inl upd_same) (RelKv.mono e2.ext (rk.merge .nil))) q
    · exact q.elim
  · exact q.elim
/-- an expression's junk is forgotten -/
def dWkE (t : DTE) : DTE := fun τ M Q => ∃ M2, M2.le M ∧ t τ M2 Q
end
end DL

/-! EA: x[:0:-1] of a tuple that is not empty. -/
namespace DL
open PySem PySem.Spec PyProof.Rows L2
variable [Wsh]
theorem sliceApplied_backTail {prog : Program} {w : World} {A : Around} {E : Value → Shared → Prop} {s : Shared} {sl : Addr} {vl vu vs : Value} {n : Nat} {Q : Int × Int × Nat → Shared → Prop}
    (hs : s.heap.IsSliceOf sl vl vu vs) (pl : IsPart vl none) (pu : IsPart vu (some 0)) (ps : IsPart vs (some (-1))) (h : Q ((n : Int), -1, n) s) : wpAny (model prog w) A (Builtin.Slice.sliceApplied (.ref sl) (pure ((n + 1 : Nat) : Int))) Q E s := by
  obtain ⟨os, hos, hcs, hds⟩ := id hs
  have e2 : Builtin.Slice.sliceAdjust none (some 0) (-1) ((n + 1 : Nat) : Int) = ((n : Int), 0) := by
    unfold Builtin.Slice.sliceAdjust
    simp
    omega
  have e3 : Builtin.Slice.slicePlaces (n : Int) 0 (-1) = n := by
    unfold Builtin.Slice.slicePlaces
    rw [if_neg (by decide)]
    by_cases h0 : n = 0
    · subst h0; rfl
    · rw [if_pos (by omega)]
      have : ((n : Int) - 0 - 1) / (- -1) + 1 = n := by
        rw [show (- -1 : Int) = 1 from rfl, Int.ediv_one]; omega
      rw [this, Int.toNat_natCast]
  unfold Builtin.Slice.sliceApplied Builtin.Slice.sliceFields
  apply wpAny_bind
  apply wpAny_bind
  apply wpAny_field hos hds (x := vl) rfl
  apply wpAny_bind
  apply wpAny_field hos hds (x := vu) rfl
  apply wpAny_bind
  apply wpAny_field hos hds (x := vs) rfl
  apply wpAny_pure
  apply wpAny_bind
  apply HT.slicePart_ ps
  show wpAny _ _ (if ((-1 : Int) == 0) = true then _ else _) _ _ s
  rw [if_neg (by decide)]
  apply wpAny_bind
  apply HT.slicePart_ pl
  apply wpAny_bind
  apply HT.slicePart_ pu
  apply wpAny_bind
  apply wpAny_pure
  show wpAny _ _ (match Builtin.Slice.sliceAdjust none (some 0) (-1) ((n + 1 : Nat) : Int) with | (lo, hi) => pure (lo, (-1 : Int), Builtin.Slice.slicePlaces lo hi (-1))) _ _ s
  rw [e2]
  show wpAny _ _ (pure ((n : Int), (-1 : Int), Builtin.Slice.slicePlaces (n : Int) 0 (-1))) _ _ s
  rw [e3]
  exact wpAny_pure h
theorem pick_backTail (x : Value) (xs : List Value) : ((List.range xs.length).filterMap fun (m : Nat) => (x :: xs).toArray[((xs.length : Int) + (m : Int) * (-1)).toNat]?) = xs.reverse := by
  rw [← back_list xs]
  apply filterMap_as
  intro m hm
  have hm' : m < xs.length := by simpa using hm
  have e : ((xs.length : Int) + (m : Int) * (-1)).toNat = (xs.length - 1 - m) + 1 := by omega
  rw [e]
  have hlt : xs.length - 1 - m < xs.length := by omega
  simp [List.getElem?_eq_getElem hlt, List.getD]
theorem getItem_tuple_backTail {prog : Program} {w : World} {A : Around} {E : Value → Shared → Prop} {s : Shared} {t sl : Addr} {x : Value} {its : List Value} {vl vu vs : Value} {Q : Value → Shared → Prop} (ht : IsTup s.heap t (x :: its).toArray)
    (hs : s.heap.IsSliceOf sl vl vu vs) (pl : IsPart vl none) (pu : IsPart vu (some 0)) (ps : IsPart vs (some (-1))) (hz : its.length ≤ sizeLine)
    (h : Q (.ref s.heap.objs.size) { s with heap := s.heap.push { cls := .type "tuple", data := .seq its.reverse.toArray } }) : wpAny (model prog w) A (getItem (.ref t) (.ref sl)) Q E s := by
  obtain ⟨os, hos, hcs, hds⟩ := id hs
  have hTs : s.TypeIs (.ref sl) "slice" := ⟨os, hos, hcs⟩
  have hok : sizeOk (.seq its.reverse.toArray) := by
    show its.reverse.toArray.size ≤ sizeLine
    rw [List.size_toArray, List.length_reverse]; exact hz
  unfold getItem
  try with_reducible apply wpAny_holding
  first | (apply wpAny_bind; apply wpAny_pure) | skip
  apply wpAny_bind
  apply wpAny_sequenceKey ht.typeIs (by decide)
  apply wpAny_bind
  apply wpAny_callSpecial?_slot (name := Str.ofString "__getitem__") ht.typeIs PyProof.Rows.slot_tuple_getitem
  refine wpAny_call_entry PyProof.Rows.slot_tuple_getitem ht.typeIs entry_tuple_getitem ?_ (args_tuple_getitem _ _)
  show wpAny _ _ (Builtin.Tuple.tupleItemsOf (.ref t) >>= _) _ _ s
  apply wpAny_bind
  apply tupleItemsOf_ ht
  apply wpAny_bind
  apply wpAny_typeOf hTs
  rw [if_pos (by decide)]
  apply wpAny_bind
  have esz : (x :: its).toArray.size = its.length + 1 := by simp
  rw [esz]
  apply sliceApplied_backTail hs pl pu ps
  have hno : ¬ (((its.length : Int) == 0 && (-1 : Int) == 1 && its.length == its.length + 1) = true) := by
    intro z
    rw [Bool.and_eq_true, Bool.and_eq_true] at z
    exact absurd z.1.2 (by decide)
  show wpAny _ _ (if ((its.length : Int) == 0 && (-1 : Int) == 1 && its.length == its.length + 1) = true then _ else _) _ _ s
  rw [if_neg hno]
  have ep : ((List.range its.length).filterMap fun (m : Nat) => (x :: its).toArray[((its.length : Int) + (m : Int) * (-1)).toNat]?) = its.reverse := pick_backTail x its
  rw [ep]
  first
    | exact wpAny_bind (m := Builtin.Tuple.tupleExact _) (wpAny_newObj_type (wpAny_pure ⟨_, rfl, wpAny_pure h⟩) hok)
    | exact wpAny_bind (m := Builtin.Tuple.tupleExact _) (wpAny_newObj_type (wpAny_bind (wpAny_pure (wpAny_pure ⟨_, rfl, wpAny_pure h⟩))) hok)
    | exact wpAny_bind (wpAny_bind (m := Builtin.Tuple.tupleExact _) (wpAny_newObj_type (wpAny_pure (wpAny_pure ⟨_, rfl, wpAny_pure h⟩)) hok))
    | exact wpAny_bind (wpAny_bind (m := Builtin.Tuple.tupleExact _) (wpAny_newObj_type (wpAny_pure ⟨_, rfl, wpAny_pure h⟩) hok))
section
variable {X : Cx} {e : Expr} {k kz : Nat} {p0 p1 p2 p3 pos : Pos}
def tBackTail (K : PySem.W.Frag) (te : TE) : TE := fun σ H Q => te σ H fun x H1 => ∃ a y xs, x = .ref a ∧ SqT K H1 a (y :: xs) ∧ ∀ p, H1 p = none → Q (.ref p) (upd H1 p (.tup xs.reverse))
theorem pe_backTail {te : TE} (he : PE X e te) : PE X (.Subscript e (.Slice none (some (.Constant (.int 0) kz p0)) (some (.UnaryOp .USub (.Constant (.int 1) k p1) p2)) p3) pos) (tBackTail X.K te) := by
  constructor
  intro pins s σ H Q I h
  apply Subscript_
  refine thn (he.run pins s σ H _ I h) ?_
  rintro v s1 ⟨x, H1, I1, r1, a, y, xs, ex, hs, q1⟩
  subst ex
  cases r1
  have step : PO X (some (.UnaryOp .USub (.Constant (.int 1) k p1) p2)) (tPart (tUn (rU fun i => .int (-i)) (tC (.int 1)))) := po_some (pe_un un_neg pe_int)
  have upper : PO X (some (.Constant (.int 0) kz p0)) (tPart (tC (.int 0))) := po_some pe_int
  apply wpAny_Slice
  refine thn (po_none.run pins s1 σ H1 (fun o H2 => o = none ∧ H2 = H1) I1 ⟨rfl, rfl⟩) ?_
  rintro vl s2 ⟨l, H2, I2, pl, el, e2⟩
  subst el e2
  refine thn (upper.run pins s2 σ H2 (fun o H3 => o = some 0 ∧ H3 = H2) I2 ⟨0, rfl, rfl, rfl⟩) ?_
  rintro vu s3 ⟨u, H3, I3, pu, eu, e3⟩
  subst eu e3
  refine thn (step.run pins s3 σ H3 (fun o H4 => o = some (-1) ∧ H4 = H3) I3 ⟨1, rfl, _, rfl, rfl, rfl⟩) ?_
  rintro vs s4 ⟨st, H4, I4, ps, es, e4⟩
  subst es e4
  have I5 : Inv X pins σ H4 { s4 with heap := s4.heap.push { cls := .type "slice", data := .fields #[vl, vu, vs] } } := I4.kept (t' := s4.toks) fun b ob z => Heap.get?_push_of_some _ z
  have hsl := Heap.IsSliceOf.new s4.heap vl vu vs
  obtain ⟨its, r, pl', hz⟩ := I5.tuple hs
  cases r with
  | cons r0 rr =>
    rename_i z zs
    have hl := rr.length
    simp only [List.length_cons] at hz
    refine tail_any (ops := [.ref a, .ref s4.heap.objs.size]) pl'.typeIs PyProof.Rows.slot_tuple_getitem.lookup ?_ (by with_unfolding_all rfl)
    refine getItem_tuple_backTail pl' hsl pl pu ps (by omega) ?_
    have I6 := I5.laid (t' := s4.toks) (a := (s4.heap.push { cls := .type "slice", data := .fields #[vl, vu, vs] }).objs.size) (o := .tup xs.reverse) (h' := (s4.heap.push { cls := .type "slice", data := .fields #[vl, vu, vs] }).push { cls := .type "tuple", data := .seq zs.reverse.toArray }) (fun b ob z => Heap.get?_push_of_some _ z) (Nat.le_refl _) ⟨by rw [List.length_reverse]; omega, _, (show Vals _ _ from rr).reverse, IsTup.new _ _⟩
    exact ⟨.ref _, _, I6, rfl, q1 _ (I5.hok.fresh (Nat.le_refl _))⟩
@[simp] def dBackTail (t : DTE) : DTE := fun τ M Q => t τ M fun x M1 => match x with
  | .tup (_ :: xs) => Q (.tup xs.reverse) M1
  | _ => False
theorem de_backTail {t : DTE} (he : DE X e t) : DE X (.Subscript e (.Slice none (some (.Constant (.int 0) kz p0)) (some (.UnaryOp .USub (.Constant (.int 1) k p1) p2)) p3) pos) (dBackTail t) := by
  obtain ⟨u, pu, ru⟩ := he.ex
  refine ⟨_, pe_backTail pu, fun F H σ τ M Qd Q R q k => ?_⟩
  refine ru F H σ τ M _ _ R q fun v F1 H1 d M1 e1 R1 r1 q1 => ?_
  split at q1
  · cases r1 with
    | tup hs rs =>
      cases rs with
      | cons r0 rr =>
        refine ⟨_, _, _, rfl, R1.heap.sub.sqT hs, fun p hp => ?_⟩
        obtain ⟨e2, R2⟩ := R1.heap.frozen (o := .tup _) hp
        exact k _ _ _ _ M1 (e1.trans e2) (R1.mono e2.ext R2) (.tup (SqT.of upd_same) (rr.reverse.mono e2.ext)) q1
  · exact q1.elim
end
end DL

/-! EB: for k in d, d a dict that stays: it is locked while the loop runs. -/
namespace DL
open PySem PySem.Spec PyProof.Rows L2
variable [Wsh]
/-- F' has what F has, but a dict may be locked or unlocked -/
structure Swp (F F' : Hp) : Prop where
  rd : ∀ b u, (∀ p kvs, u ≠ .frz p (.dK kvs)) → Rd F b u → Rd F' b u
  eq : ∀ b o, F b = some o → (∀ kvs, o ≠ .dK kvs) → (∀ p kvs, o ≠ .frz p (.dK kvs)) → F' b = some o
theorem Swp.sqL {K : PySem.W.Frag} {F F' : Hp} {a : Addr} {xs : List V} (e : Swp F F') (h : SqL K F a xs) : SqL K F' a xs := by
  rcases h with h | h
  · exact Or.inl (e.rd _ _ (fun _ _ z => nomatch z) h)
  · exact Or.inr h
theorem Swp.sqT {K : PySem.W.Frag} {F F' : Hp} {a : Addr} {xs : List V} (e : Swp F F') (h : SqT K F a xs) : SqT K F' a xs := by
  rcases h with h | h
  · exact Or.inl (e.rd _ _ (fun _ _ z => nomatch z) h)
  · exact Or.inr h
theorem Swp.lst {F F' : Hp} {a : Addr} {xs : List V} (e : Swp F F') (h : F a = some (.lst xs)) : F' a = some (.lst xs) := e.eq _ _ h (fun _ z => nomatch z) fun _ _ z => nomatch z
theorem Swp.ptp {F F' : Hp} {a : Addr} {o : Obj} {xs : List V} (e : Swp F F') (h : F a = some (.frz o (.tup xs))) : F' a = some (.frz o (.tup xs)) := e.eq _ _ h (fun _ z => nomatch z) fun _ _ z => nomatch z
theorem Swp.ins {F F' : Hp} {a C dx : Addr} {fs : List (Str × V)} (e : Swp F F') (h : F a = some (.ins C dx fs)) : F' a = some (.ins C dx fs) := e.eq _ _ h (fun _ z => nomatch z) fun _ _ z => nomatch z
theorem Swp.xd {F F' : Hp} {a : Addr} {fs : List (Str × V)} (e : Swp F F') (h : F a = some (.xd fs)) : F' a = some (.xd fs) := e.eq _ _ h (fun _ z => nomatch z) fun _ _ z => nomatch z
theorem Swp.dct {F F' : Hp} {a : Addr} {kvs : List (Key × V)} (e : Swp F F') (h : Rd F a (.dK kvs)) : Rd F' a (.dK kvs) := e.rd _ _ (fun _ _ z => nomatch z) h
mutual
theorem RelD.swp {K : PySem.W.Frag} {F F' : Hp} (e : Swp F F') : ∀ {v : V} {d : D}, RelD K F v d → RelD K F' v d
  | _, _, .non => .non
  | _, _, .bl b => .bl b
  | _, _, .int i => .int i
  | _, _, .str s => .str s
  | _, _, .tup h r => .tup (e.sqT h) (RelDs.swp e r)
  | _, _, .lst h r => .lst (e.lst h) (RelDs.swp e r)
  | _, _, .rol h r => .rol (e.sqL h) (RelDs.swp e r)
  | _, _, .ptp h n r => .ptp (e.ptp h) n (RelDs.swp e r)
  | _, _, .dct h r => .dct (e.dct h) (RelKv.swp e r)
  | _, _, .ref a => .ref a
  | _, _, .ty n => .ty n
  | _, _, .ins h r => .ins (e.ins h) (RelFs.swp e r)
  | _, _, .exc0 a C => .exc0 a C
  | _, _, .exc1 h r => .exc1 (e.xd h) (RelFs.swp e r)
  | _, _, .exv0 h => .exv0 (e.eq _ _ h (fun _ z => nomatch z) fun _ _ z => nomatch z)
  | _, _, .exv1 h g r => .exv1 (e.eq _ _ h (fun _ z => nomatch z) fun _ _ z => nomatch z) (e.xd g) (RelFs.swp e r)
  | _, _, .dc1 h r1 r2 => .dc1 (e.eq _ _ h (fun _ z => nomatch z) fun _ _ z => nomatch z) (RelD.swp e r1) (RelD.swp e r2)
theorem RelDs.swp {K : PySem.W.Frag} {F F' : Hp} (e : Swp F F') : ∀ {v : List V} {d : List D}, RelDs K F v d → RelDs K F' v d
  | _, _, .nil => .nil
  | _, _, .cons h r => .cons (RelD.swp e h) (RelDs.swp e r)
theorem RelKv.swp {K : PySem.W.Frag} {F F' : Hp} (e : Swp F F') : ∀ {v : List (Key × V)} {d : List (Key × D)}, RelKv K F v d → RelKv K F' v d
  | _, _, .nil => .nil
  | _, _, .cons h r => .cons (RelD.swp e h) (RelKv.swp e r)
theorem RelFs.swp {K : PySem.W.Frag} {F F' : Hp} (e : Swp F F') : ∀ {v : List (Str × V)} {d : List (Str × D)}, RelFs K F v d → RelFs K F' v d
  | _, _, .nil => .nil
  | _, _, .cons h r => .cons (RelD.swp e h) (RelFs.swp e r)
end
theorem RelNK.swp {K : PySem.W.Frag} {F F' : Hp} (e : Swp F F') : ∀ {xs : List (NestedKey × Addr × V)} {ds : List (NestedKey × D)}, RelNK K F xs ds → RelNK K F' xs ds
  | [], [], _ => True.intro
  | _ :: _, _ :: _, ⟨h1, h2, ⟨dk, h3, h4⟩, h5, h6⟩ => ⟨h1, h2, ⟨dk, h3, RelD.swp e h4⟩, RelD.swp e h5, RelNK.swp e h6⟩
  | [], _ :: _, h => h.elim
  | _ :: _, [], h => h.elim
theorem RelTK.swp {K : PySem.W.Frag} {F F' : Hp} (e : Swp F F') : ∀ {xs : List (NestedKey × V × V)} {ds : List (NestedKey × D)}, RelTK K F xs ds → RelTK K F' xs ds
  | [], [], _ => True.intro
  | _ :: _, _ :: _, ⟨h1, h2, ⟨dk, h3, h4⟩, h5, h6⟩ => ⟨h1, h2, ⟨dk, h3, RelD.swp e h4⟩, RelD.swp e h5, RelTK.swp e h6⟩
  | [], _ :: _, h => h.elim
  | _ :: _, [], h => h.elim
theorem RelO.swp {K : PySem.W.Frag} {F F' : Hp} (e : Swp F F') {h : HO} {o : MO} (r : RelO K F h o) : RelO K F' h o := by
  cases h <;> cases o <;> first | exact False.elim r | skip
  · exact RelDs.swp e r
  · exact RelKv.swp e r
  · exact ⟨r.1, RelFs.swp e r.2⟩
  · obtain ⟨xs, h, r⟩ := r
    exact ⟨xs, h, RelNK.swp e r⟩
  · obtain ⟨xs, h, r⟩ := r
    exact ⟨xs, h, RelTK.swp e r⟩
theorem Swp.lock {F : Hp} {a : Addr} {vs : List (Key × V)} (h : F a = some (.dK vs)) (o : Obj) : Swp F (upd F a (.frz o (.dK vs))) := by
  refine ⟨fun b u n0 r => ?_, fun b p e n1 n2 => ?_⟩
  · by_cases hb : b = a
    · subst hb
      rcases r with r | ⟨p, r⟩
      · rw [h] at r; cases r; exact .inr ⟨_, upd_same⟩
      · rw [h] at r; cases r
    · unfold Rd; rw [upd_ne hb]; exact r
  · by_cases hb : b = a
    · subst hb; rw [h] at e; cases e; exact absurd rfl (n1 _)
    · rw [upd_ne hb]; exact e
theorem Swp.unlock {F : Hp} {a : Addr} {vs : List (Key × V)} {o : Obj} (h : F a = some (.frz o (.dK vs))) : Swp F (upd F a (.dK vs)) := by
  refine ⟨fun b u n0 r => ?_, fun b p e n1 n2 => ?_⟩
  · by_cases hb : b = a
    · subst hb
      rcases r with r | ⟨p, r⟩
      · rw [h] at r
        cases r
        exact absurd rfl (n0 _ _)
      · rw [h] at r; cases r; exact .inl upd_same
    · unfold Rd; rw [upd_ne hb]; exact r
  · by_cases hb : b = a
    · subst hb; rw [h] at e; cases e; exact absurd rfl (n2 _ _)
    · rw [upd_ne hb]; exact e
theorem RelSl.swp {K : PySem.W.Frag} {F F' : Hp} {σ : L2.St} {τ : DSt} (e : Swp F F') (r : RelSl K F σ τ) : RelSl K F' σ τ := ⟨r.len, fun i d h => by
  obtain ⟨v, h1, h2⟩ := r.get i d h
  exact ⟨v, h1, h2.swp e⟩⟩
/-- the thing at a, there already, is written otherwise on both sides -/
theorem Rst0.swp {K : PySem.W.Frag} {F H : Hp} {M : Sto} {a : Addr} {u w : HO} (R : Rst0 K F H M) (h : F a = some u) (e : Swp F (upd F a w)) : Rst0 K (upd F a w) (upd H a w) M := by
  refine ⟨fun b o q => ?_, fun b o q => ?_⟩
  · by_cases hb : b = a
    · subst hb; rw [upd_same] at q ⊢; exact q
    · rw [upd_ne hb] at q ⊢; exact R.sub b o q
  · obtain ⟨h1, ho, h2, h3⟩ := R.sto b o q
    have hb : b ≠ a := by intro z; subst z; rw [h] at h1; cases h1
    exact ⟨by rw [upd_ne hb]; exact h1, ho, by rw [upd_ne hb]; exact h2, h3.swp e⟩
/-- what comes of the locked dict, unlocked -/
theorem Stp.unlock {F H F2 H2 : Hp} {M M2 : Sto} {a : Addr} {u w : HO} (h : F a = some u) (hs : Ext F H) (hm : M a = none) (e : Stp (upd F a w) (upd H a w) M F2 H2 M2) : Stp F H M (upd F2 a u) (upd H2 a u) M2 := by
  refine ⟨fun b o q => ?_, fun b o q n => ?_, fun b q => ?_⟩
  · by_cases hb : b = a
    · subst hb; rw [h] at q; cases q; exact upd_same
    · rw [upd_ne hb]; exact e.ext b o (by rw [upd_ne hb]; exact q)
  · by_cases hb : b = a
    · subst hb
      have q' := hs _ _ h
      rw [q'] at q; cases q
      obtain ⟨_, z, _⟩ := e.kp b w upd_same n
      exact ⟨upd_same, z, fun z => by rw [h] at z; cases z⟩
    · obtain ⟨z1, z2, z3⟩ := e.kp b o (by rw [upd_ne hb]; exact q) n
      refine ⟨by rw [upd_ne hb]; exact z1, z2, fun z => ?_⟩
      rw [upd_ne hb]
      exact z3 (by rw [upd_ne hb]; exact z)
  · by_cases hb : b = a
    · subst hb; rw [upd_same] at q; cases q
    · rw [upd_ne hb] at q
      have z := e.al b q
      rw [upd_ne hb] at z; exact z
/-- the loop, when it is known what walks -/
theorem for_core {K : PySem.W.Frag} {gg : TG} {g : DTG} {bb : TS} {tb : DTS} (rg : RefG K gg g) (rb : RefS K bb tb) {J : It} {F H F1 H1 : Hp} {M M1 : Sto} {σ : L2.St} {τ : DSt} {Dn : DEnds} {E : Ends} {ds : List D}
    (e1 : Stp F H M F1 H1 M1) (R1 : Rst K F1 H1 σ τ M1) (hJ : ItD K F1 J ds) (q1 : loopD g tb Dn ds τ M1) (r : RefD K F H M Dn E) :
    ∃ W : Nat → Nat → L2.St → Hp → Prop, (∃ m, W 0 m σ H1) ∧ ∀ i m σ H, W i m σ H →
      (J.stop i H ∧ E.nx σ H) ∨ (J.go i H ∧ ∃ N : L2.St → Hp → Prop, (∀ σ' H', N σ' H' → ∃ m', m' < m ∧ W (i + 1) m' σ' H') ∧ ∀ x H', J.yld i H x H' → gg x σ H' fun σ2 H2 => bb { E with nx := N, ct := N, bk := E.nx } σ2 H2) := by
  refine ⟨fun i m σ' H' => m = ds.length - i ∧ i ≤ ds.length ∧ ∃ F' τ' M', Stp F H M F' H' M' ∧ Ext F1 F' ∧ Rst K F' H' σ' τ' M' ∧ loopD g tb Dn (ds.drop i) τ' M', ⟨ds.length, by simp, Nat.zero_le _, F1, τ, M1, e1, Ext.refl _, R1, by simpa using q1⟩, ?_⟩
  rintro i m σ2 H2 ⟨rfl, hil, F2, τ2, M2, e2, x2, R2, q2⟩
  by_cases hlt : i < ds.length
  · obtain ⟨d, hd⟩ : ∃ d, ds[i]? = some d := ⟨ds[i], List.getElem?_eq_getElem hlt⟩
    rw [drop_cons hd] at q2
    refine .inr ⟨hJ.go i F2 H2 M2 hlt x2 R2.heap, fun σ' H' => ∃ F' τ' M', Stp F H M F' H' M' ∧ Ext F1 F' ∧ Rst K F' H' σ' τ' M' ∧ loopD g tb Dn (ds.drop (i + 1)) τ' M', fun σ' H' z => ⟨ds.length - (i + 1), by omega, rfl, hlt, z⟩, fun x H' y => ?_⟩
    obtain ⟨F3, e3, R3, r3⟩ := hJ.yld i F2 H2 M2 d x H' hd x2 R2.heap y
    refine rg F3 H' σ2 τ2 M2 x d _ _ (R2.mono e3.ext R3) r3 q2 fun F4 H4 σ4 τ4 M4 e4 R4 q4 => ?_
    have s4 : Stp F H M F4 H4 M4 := (e2.trans e3).trans e4
    have x4 : Ext F1 F4 := (x2.trans e3.ext).trans e4.ext
    have go : ∀ F' H' σ' τ' M', Stp F4 H4 M4 F' H' M' → Rst K F' H' σ' τ' M' → loopD g tb Dn (ds.drop (i + 1)) τ' M' → ∃ F' τ' M', Stp F H M F' H' M' ∧ Ext F1 F' ∧ Rst K F' H' σ' τ' M' ∧ loopD g tb Dn (ds.drop (i + 1)) τ' M' :=
      fun F' H' σ' τ' M' e' R' q' => ⟨F', τ', M', s4.trans e', x4.trans e'.ext, R', q'⟩
    exact rb F4 H4 σ4 τ4 M4 _ _ R4 q4 ⟨go, fun F' H' σ' τ' M' e' R' z => r.nx F' H' σ' τ' M' (s4.trans e') R' z, go, fun v F' H' d M' e' R' rd z => r.rt v F' H' d M' (s4.trans e') R' rd z, fun F' H' σ' τ' M' C d fs e' => r.xr F' H' σ' τ' M' C d fs (s4.trans e')⟩
  · have e : i = ds.length := by omega
    subst e
    rw [List.drop_length] at q2
    exact .inl ⟨hJ.stop F2 H2 M2 x2 R2.heap, r.nx F2 H2 σ2 τ2 M2 e2 R2 q2⟩
def keyT : Key → D
  | .inl i => .int i
  | .inr s => .str s
theorem keyT_rel {K : PySem.W.Frag} {F : Hp} (k : Key) : RelD K F (kV k) (keyT k) := by
  cases k with
  | inl i => exact .int i
  | inr s => exact .str s
theorem RelKv.at {K : PySem.W.Frag} {F : Hp} : ∀ {vs : List (Key × V)} {ds : List (Key × D)}, RelKv K F vs ds → ∀ {i : Nat} {k : Key} {v : V}, vs[i]? = some (k, v) → ∃ d, ds[i]? = some (k, d)
  | _, _, .nil, i, k, v, h => by simp at h
  | _, _, .cons h r, 0, k, v, e => by simp at e; obtain ⟨rfl, rfl⟩ := e; exact ⟨_, rfl⟩
  | _, _, .cons h r, i + 1, k, v, e => by
    obtain ⟨d, h1⟩ := RelKv.at r (i := i) (k := k) (v := v) (by simpa using e)
    exact ⟨d, by simpa using h1⟩
theorem itd_keys {K : PySem.W.Frag} {F : Hp} {a : Addr} {o : Obj} {vs : List (Key × V)} {kvs : List (Key × D)} (h : F a = some (.frz o (.dK vs))) (r : RelKv K F vs kvs) : ItD K F (Itk a o vs) (kvs.map fun kv => keyT kv.1) where
  go := fun i F2 H2 M2 hi e R => ⟨R.sub _ _ (e _ _ h), by rw [r.length]; simpa using hi⟩
  yld := fun i F2 H2 M2 d x H' hd e R y => by
    obtain ⟨rfl, k, v, h1, rfl⟩ := y
    obtain ⟨d', h2⟩ := r.at h1
    rw [List.getElem?_map, h2] at hd
    cases hd
    exact ⟨F2, Stp.refl _ _ _, R, keyT_rel k⟩
  stop := fun F2 H2 M2 e R => ⟨R.sub _ _ (e _ _ h), by rw [r.length]; simp⟩
/-- for k in the dict of slot i -/
def dForKeys (i : Nat) (g : DTG) (tb : DTS) : DTS := fun E τ M => match τ[i]? with
  | some (some (.dct kvs)) => loopD g tb { E with xr := fun _ _ _ _ => False } (kvs.map fun kv => keyT kv.1) τ M
  | _ => False
def tOr (t u : TS) : TS := fun D σ H => t D σ H ∨ u D σ H
theorem ps_or {X : Cx} {st : Stmt} {t u : TS} (h1 : PS X st t) (h2 : PS X st u) : PS X st (tOr t u) := by
  refine ⟨fun pins s σ H D I h => ?_⟩
  rcases h with h | h
  · exact h1.run pins s σ H D I h
  · exact h2.run pins s σ H D I h
theorem ds_forKeys {X : Cx} {tg : Expr} {body : List Stmt} {g : DTG} {tb : DTS} {pos ps : Pos} {x : Str} (i : Nat) (hp : PassesOwn (model X.prog X.w) X.A X.env X.xe) (hc : X.calm = true) (hg : DG X tg g) (hb : DSs X body tb)
    (hN : X.N[i]? = some x := by rfl) (hv : Vis X.env.scope x := by first | exact Or.inl rfl | exact Or.inr (Or.inl rfl) | exact Or.inr (Or.inr rfl)) (hd : (x == ("__debug__" : Str)) = false := by decide)
    (hcd : (x == ("__classdict__" : Str)) = false := by decide)
    (hs : ∀ y, foldedSetIterable (.Name x ps) X.env y = pure y := by intro _; rfl) : DS X (.For tg (.Name x ps) body [] pos) (dForKeys i g tb) := by
  obtain ⟨gg, pg, rg⟩ := hg.ex
  obtain ⟨bb, pb, rb⟩ := hb.ex
  have P := ps_for (pos := pos) hp hc (pi_keys (pe_var (pos := ps) hN hv hd hcd)) pg pb hs
  refine ⟨_, ps_or (ps_lock P) P, fun F H σ τ M D E R q r => ?_⟩
  unfold dForKeys at q
  split at q
  · rename_i kvs hi
    obtain ⟨v, hv1, rv⟩ := R.slots.get i _ hi
    cases rv with
    | @dct a vs _ h1 h2 =>
      rcases h1 with h1 | ⟨o, h1⟩
      · left
        refine ⟨a, .dK vs, R.heap.sub _ _ h1, trivial, fun o => ?_⟩
        have sw := Swp.lock h1 o
        have hm : M a = none := by
          cases z : M a with
          | none => rfl
          | some u => have w := (R.heap.sto a u z).1; rw [h1] at w; cases w
        have R' : Rst X.K (upd F a (.frz o (.dK vs))) (upd H a (.frz o (.dK vs))) σ τ M := ⟨R.heap.swp h1 sw, R.slots.swp sw⟩
        have back : ∀ {F2 H2 : Hp} {M2 : Sto}, Stp (upd F a (.frz o (.dK vs))) (upd H a (.frz o (.dK vs))) M F2 H2 M2 → Rst0 X.K F2 H2 M2 → H2 a = some (.frz o (.dK vs)) ∧ Swp F2 (upd F2 a (.dK vs)) ∧ Stp F H M (upd F2 a (.dK vs)) (upd H2 a (.dK vs)) M2 ∧ Rst0 X.K (upd F2 a (.dK vs)) (upd H2 a (.dK vs)) M2 := by
          intro F2 H2 M2 e R2
          have h3 : F2 a = some (.frz o (.dK vs)) := e.ext _ _ upd_same
          exact ⟨R2.sub _ _ h3, Swp.unlock h3, Stp.unlock h1 R.heap.sub hm e, R2.swp h3 (Swp.unlock h3)⟩
        refine ⟨_, hv1, a, o, ?_, .inl ⟨vs, upd_same, ?_⟩⟩
        · rfl
        · refine for_core rg rb (Stp.refl _ _ _) R' (itd_keys upd_same (h2.swp sw)) q ⟨?_, ?_, ?_, ?_, fun _ _ _ _ _ _ _ _ _ _ _ z => z.elim⟩
          · intro F2 H2 σ2 τ2 M2 e R2 z
            obtain ⟨z1, z2, z3, z4⟩ := back e R2.heap
            exact ⟨z1, r.nx _ _ σ2 τ2 M2 z3 ⟨z4, R2.slots.swp z2⟩ z⟩
          · intro F2 H2 σ2 τ2 M2 e R2 z
            obtain ⟨z1, z2, z3, z4⟩ := back e R2.heap
            exact ⟨z1, r.bk _ _ σ2 τ2 M2 z3 ⟨z4, R2.slots.swp z2⟩ z⟩
          · intro F2 H2 σ2 τ2 M2 e R2 z
            obtain ⟨z1, z2, z3, z4⟩ := back e R2.heap
            exact ⟨z1, r.ct _ _ σ2 τ2 M2 z3 ⟨z4, R2.slots.swp z2⟩ z⟩
          · intro v F2 H2 d M2 e R2 rd z
            obtain ⟨z1, z2, z3, z4⟩ := back e R2
            exact ⟨z1, r.rt v _ _ d M2 z3 z4 (rd.swp z2) z⟩
      · right
        exact ⟨_, hv1, a, o, rfl, .inl ⟨vs, R.heap.sub _ _ h1, for_core rg rb (Stp.refl _ _ _) R (itd_keys h1 h2) q ⟨r.nx, r.bk, r.ct, r.rt, fun _ _ _ _ _ _ _ _ _ _ _ z => z.elim⟩⟩⟩
  · exact q.elim
/-- x[::-1] of a list, a list that may change -/
@[simp] def dBackM (t : DTE) : DTE := fun τ M Q => t τ M fun x M1 => match lstOf x M1 with
  | some xs => ∀ p, M1 p = none → Q (.ref p) (M1.upd p (.lst xs.reverse))
  | none => False
section
variable {X : Cx} {e : Expr} {pos p1 p2 p3 : Pos}
theorem de_backM {k : Nat} {t : DTE} (he : DE X e t) : DE X (.Subscript e (.Slice none none (some (.UnaryOp .USub (.Constant (.int 1) k p1) p2)) p3) pos) (dBackM t) := by
  obtain ⟨u, pu, ru⟩ := he.ex
  refine ⟨_, pe_back pu, fun F H σ τ M Qd Q R q k => ?_⟩
  refine ru F H σ τ M _ _ R q fun v F1 H1 d M1 e1 R1 r1 q1 => ?_
  split at q1
  · rename_i xs hx
    obtain ⟨a, vs, rfl, hs, rs⟩ := lst_ok R1.heap r1 hx
    refine ⟨_, _, rfl, .inl ⟨SqL.of hs, fun p hp => ?_⟩⟩
    obtain ⟨e2, R2⟩ := R1.heap.fresh (o := .lst _) (u := .lst xs.reverse) hp rs.reverse
    exact k _ _ _ (.ref p) _ (e1.trans e2) (R1.mono e2.ext R2) (.ref p) (q1 p (R1.heap.free hp).2)
  · exact q1.elim
end
end DL

/-! EC: a list takes a tuple's parts. -/
namespace DL
open PySem PySem.Spec PyProof.Rows L2
variable [Wsh]
theorem list_extend_tup (l : Addr) (items : Array Value) (n : Nat) (b : Addr) (items2 : Array Value) (n2 : Nat) (dct : Option Addr) (sl : Array (Option Value)) (hs0 : ¬(!items.isEmpty && Builtin.List.listTooLong (items.size + items2.size)) = true) (hs1 : items.size ≤ sizeLine) (hs2 : items.size + items2.size ≤ sizeLine + 1) :
    Meets (Builtin.«list.extend» ⟨[.ref l, .ref b], []⟩) (fun _ R s => s.heap.get? l = some { cls := .type "list", dict := none, data := .seq items n, slots := #[] } ∧ s.heap.get? b = some { cls := .type "tuple", dict := dct, data := .seq items2 n2, slots := sl } ∧ R (.ok (.ret Value.none)) { s with heap := s.heap.update l (Obj.mapSeq fun x => x ++ items2), toks := s.toks }) :=
  .of_wp fun prog w A R s h => by
    obtain ⟨hp, g, d, tk, os⟩ := s; obtain ⟨hl, hb, h⟩ := h; have f1 := AutoSeq1.idx_int; have f2 := AutoSeq1.sub_tuple_tuple; have f3 := AutoSeq1.sub_list_list; have f4 := AutoSeq1.sub_tuple_list; have f5 := AutoSeq1.sub_list_tuple
    have hz' : (items ++ items2).size ≤ sizeLine + 1 := by rw [Array.size_append]; exact hs2
    wp_walk using (wpAny_updateSeq hl rfl (hz := hs1) (_hz' := hz')), AutoSeq1.wpAny_loadPart' hl, AutoSeq1.wpAny_loadPart' hb; exact ⟨_, rfl, h⟩
section
variable {X : Cx} {o e : Expr} {apos cpos : Pos} {to te : DTE}
def rExtendT (K : PySem.W.Frag) : V → List V → Hp → VK → Prop := fun x vs H Q => ∃ l b xs zs, x = .ref l ∧ vs = [.ref b] ∧ H l = some (.lst xs) ∧ SqT K H b zs ∧ xs.length + zs.length ≤ sizeLine ∧ Q .non (upd H l (.lst (xs ++ zs)))
theorem mt_extendT : MtM X "list.extend" (rExtendT X.K) := by
  intro pins s σ H x vs v us Q I rx rv h
  obtain ⟨l, b, xs, zs, rfl, rfl, hH, hB, hz, q⟩ := h
  cases rx
  obtain ⟨u, rfl, ru⟩ := rv.one
  cases ru
  obtain ⟨z, its, n, r, hl, e⟩ := I.lstM hH
  obtain ⟨its2, r2, ⟨ob, ho, hc, n2, hd⟩, z2⟩ := I.tuple hB
  obtain ⟨c, dct, dt, sl⟩ := ob
  replace hc : c = .type "tuple" := hc
  replace hd : dt = .seq its2.toArray n2 := hd
  subst hc hd
  have hl2 := r2.length
  have hsz : its.toArray.size + its2.toArray.size ≤ sizeLine := by rw [List.size_toArray, List.size_toArray]; omega
  have hlong : ¬ (!its.toArray.isEmpty && Builtin.List.listTooLong (its.toArray.size + its2.toArray.size)) = true := by
    rw [notLongL hsz, Bool.and_false]
    exact Bool.false_ne_true
  refine call_meets F.slot_list_extend ⟨_, e, rfl⟩ F.entry_list_extend (F.args_list_extend_2 _ _)
    (list_extend_tup l its.toArray n b its2.toArray n2 dct sl hlong (by rw [List.size_toArray]; omega) (by omega)) ⟨e, ho, ?_⟩
  refine ⟨.non, _, I.lset (its' := its ++ its2) hH e (by simp) (r.append r2) ?_, rfl, q⟩
  rw [List.length_append]
  omega
/-- l.extend(t), t a tuple -/
@[simp] def dExtendT (to te : DTE) : DTE := fun τ M Q => to τ M fun x M1 => match x with
  | .ref p => (∃ xs, M1 p = some (.lst xs)) ∧ te τ M1 fun y M2 => (match M2 p, y with
    | some (.lst xs), .tup ys => xs.length + ys.length ≤ sizeLine ∧ Q .non (M2.upd p (.lst (xs ++ ys)))
    | _, _ => False)
  | _ => False
theorem de_extendT (ho : DE X o to) (he : DE X e te)
    (hbase : attributeBase o "extend" X.env (eval o X.env) = eval o X.env := by rfl)
    (hfew : ((backTo cpos (starEach [e] X.env)).all (fun x => !x.1) && (backToKw cpos (keywordEach [] X.env)).all (fun x => x.1.isSome)
      && decide ([e].length + ([] : List Keyword).length + (if ([] : List Keyword).isEmpty then 0 else 1) < 30)) = true := by rfl)
    (hline : (apos.endLine == cpos.line) = true := by rfl) (hs : starEach [e] X.env = (false, eval e X.env) :: starEach [] X.env := by rfl) (hplain : (backTo cpos (starEach [] X.env)).any (·.1) = false := by rfl) :
    DE X (.Call (.Attribute o "extend" apos) [e] [] cpos) (dExtendT to te) := by
  obtain ⟨uo, po, ro⟩ := ho.ex
  obtain ⟨ue, pe, re⟩ := he.ex
  refine ⟨_, pe_bm PySem.F.plainAttrs_list PySem.F.slot_list_extend PySem.F.type_list_extend mt_extendT po (pa_cons pe pa_nil hs) hbase hfew hline hs hplain, fun F H σ τ M Qd Q R q k => ?_⟩
  refine ro F H σ τ M _ _ R q fun v F1 H1 d M1 e1 R1 r1 q1 => ?_
  cases d <;> first | exact False.elim q1 | skip
  rename_i p
  cases r1
  obtain ⟨⟨xs0, h0⟩, q1⟩ := q1
  obtain ⟨_, ho0, hh0, hr0⟩ := R1.heap.sto p _ h0
  cases ho0 <;> first | exact False.elim hr0 | skip
  refine ⟨Or.inl ⟨rfl, _, SqL.of hh0⟩, ?_⟩
  refine re F1 H1 σ τ M1 _ _ R1 q1 fun y F2 H2 dy M2 e2 R2 r2 q2 => ?_
  split at q2
  · rename_i xs ys hp
    obtain ⟨_, hob, hh, hr⟩ := R2.heap.sto p _ hp
    cases hob <;> first | exact False.elim hr | skip
    rename_i vs
    have hr' : RelDs X.K F2 vs xs := hr
    cases r2 with
    | tup hb rb =>
      refine ⟨p, _, vs, _, rfl, rfl, hh, R2.heap.sub.sqT hb, by rw [hr'.length, rb.length]; exact q2.1, ?_⟩
      obtain ⟨e4, R4⟩ := R2.heap.write (o := .lst (vs ++ _)) (u := .lst (xs ++ ys)) hp (hr'.append rb)
      exact k _ _ _ .non _ ((e1.trans e2).trans e4) (R2.mono e4.ext R4) .non q2.2
  · exact q2.elim
end
end DL

/-! SA: sets whose members are tuples of numbers, texts, None and such tuples (fewer than 64 of them). -/
namespace DL
open PySem PySem.Spec PyProof.Rows L2
variable [Wsh]
/-- the tuple at a is the key k -/
abbrev Nk (h : Heap) (k : NestedKey) (a : Addr) : Prop := NestedIs h k (.ref a) ∧ k.depth ≤ 8
theorem all_in {h : Heap} {N : Nat} : ∀ {ks : List NestedKey} {vs : List Value}, NestedAll h ks vs → NestedKey.depthAll ks ≤ N → ∀ v ∈ vs, ∃ k, NestedIs h k v ∧ k.depth ≤ N
  | _, _, .nil, _, v, hv => by cases hv
  | _, _, .cons a b, hd, v, hv => by
    simp only [NestedKey.depthAll] at hd
    rcases List.mem_cons.mp hv with e | hv
    · exact ⟨_, e ▸ a, by omega⟩
    · exact all_in b (by omega) v hv
theorem nk_grow {h h' : Heap} {k : NestedKey} {a : Addr} (x : Nk h k a) (g : ∀ b o, h.get? b = some o → h'.get? b = some o) : Nk h' k a := ⟨NestedIs.at (fun b o _ _ e _ => g b o e) k _ x.1, x.2⟩
theorem nk_but {h h' : Heap} {k : NestedKey} {a S : Addr} {o : Obj} {es : Array (Int × Value)} {ep : Nat} {t : SetTable} (x : Nk h k a) (ho : h.get? S = some o) (hd : o.data = .set es ep t) (g : Heap.SameBut S h h') : Nk h' k a :=
  ⟨NestedIs.at (fun b o' vs n e d => by
    have : b ≠ S := by
      rintro rfl
      rw [ho] at e; cases e
      rw [hd] at d; cases d
    exact (g.2 b this).trans e) k _ x.1, x.2⟩
section
variable {P : Program} {w : World} {A : Around} {E : Value → Shared → Prop} {s : Shared}
theorem not_stmt : ∀ (n : Nat) (k : NestedKey) (v : Value) (Q : Bool → Shared → Prop), NestedIs s.heap k v → k.depth ≤ n → Q false s → wpAny (model P w) A (ofAClassStatement n v) Q E s
  | n, _, _, Q, .none, _, q => by cases n <;> exact wpAny_pure q
  | n, _, _, Q, .bool _, _, q => by cases n <;> exact wpAny_pure q
  | n, _, _, Q, .int _ _, _, q => by cases n <;> exact wpAny_pure q
  | n, _, _, Q, .text _ _, _, q => by cases n <;> exact wpAny_pure q
  | 0, .tup ks, _, Q, .tup _ _ _ _, hn, _ => by simp [NestedKey.depth] at hn
  | n + 1, .tup ks, .ref b, Q, .tup (o := o) (vs := vs) ho hc hd hk, hn, q => by
    simp only [NestedKey.depth] at hn
    have hT : s.TypeIs (.ref b) "tuple" := ⟨o, ho, hc⟩
    have mem := all_in (N := n) hk (by omega)
    unfold ofAClassStatement
    refine wpAny_bind (wpAny_typeOf hT ?_)
    dsimp only
    have e : (("tuple" : String) == "tuple") = true := by decide
    simp only [e, if_true]
    try refine wpAny_bind (wpAny_pure ?_)
    try simp only [Bool.not_true, Bool.false_eq_true, if_false]
    show wpAny _ _ (seqItems? (.ref b) >>= _) _ _ s
    refine wpAny_bind (wpAny_seqItems ho hd ?_)
    dsimp only
    refine wpAny_bind ?_
    show wpAny _ _ (forIn vs _ _) _ _ s
    rw [← Array.forIn_toList]
    refine wpAny_forIn_list _ (fun l r s' => s = s' ∧ r.1 = none ∧ ∀ v ∈ l, v ∈ vs.toList) _ ?_ ?_ _ _ ⟨rfl, rfl, fun _ h => h⟩
    · rintro v l r s' ⟨rfl, hr, hl⟩
      obtain ⟨k', x, d⟩ := mem v (hl v List.mem_cons_self)
      refine wpAny_bind (not_stmt n k' v _ x d ?_)
      simp only [Bool.false_eq_true, if_false]
      exact wpAny_pure ⟨rfl, rfl, fun u hu => hl u (List.mem_cons_of_mem _ hu)⟩
    · rintro ⟨r1, r2⟩ s' ⟨rfl, hr, _⟩
      simp only at hr
      subst hr
      exact wpAny_pure q
theorem by_some : ∀ (n : Nat) (k : NestedKey) (v : Value) (Q : Bool → Shared → Prop), NestedIs s.heap k v → (∀ b, Q b s) → wpAny (model P w) A (hashByValue n v) Q E s
  | n, _, _, Q, .none, q => by cases n <;> exact wpAny_pure (q _)
  | n, _, _, Q, .bool _, q => by cases n <;> exact wpAny_pure (q _)
  | n, _, _, Q, .int _ _, q => by cases n <;> exact wpAny_pure (q _)
  | n, _, _, Q, .text _ _, q => by cases n <;> exact wpAny_pure (q _)
  | 0, .tup ks, .ref b, Q, .tup _ _ _ _, q => by exact wpAny_pure (q _)
  | n + 1, .tup ks, .ref b, Q, .tup (o := o) (vs := vs) ho hc hd hk, q => by
    have hT : s.TypeIs (.ref b) "tuple" := ⟨o, ho, hc⟩
    have mem := all_in (N := NestedKey.depthAll ks) hk (Nat.le_refl _)
    unfold hashByValue
    refine wpAny_bind (wpAny_specialOf hT F.slot_tuple_hash.lookup ?_)
    show wpAny _ _ (seqItems? (.ref b) >>= _) _ _ s
    refine wpAny_bind (wpAny_seqItems ho hd ?_)
    refine wpAny_bind ?_
    show wpAny _ _ (forIn vs _ _) _ _ s
    rw [← Array.forIn_toList]
    refine wpAny_forIn_list _ (fun l r s' => s = s' ∧ r.1 = none ∧ ∀ v ∈ l, v ∈ vs.toList) _ ?_ ?_ _ _ ⟨rfl, rfl, fun _ h => h⟩
    · rintro v l r s' ⟨rfl, hr, hl⟩
      obtain ⟨k', x, _⟩ := mem v (hl v List.mem_cons_self)
      refine wpAny_bind (by_some n k' v _ x fun b => ?_)
      cases b with
      | true =>
        simp only [Bool.not_true, Bool.false_eq_true, if_false]
        exact wpAny_pure ⟨rfl, rfl, fun u hu => hl u (List.mem_cons_of_mem _ hu)⟩
      | false =>
        simp only [Bool.not_false, if_true]
        exact wpAny_pure (wpAny_pure (q _))
    · rintro ⟨r1, r2⟩ s' ⟨rfl, hr, _⟩
      simp only at hr
      subst hr
      exact wpAny_pure (q _)
/-- looking for one of them shows nothing -/
theorem unseen {x : Addr} {k : NestedKey} (hx : Nk s.heap k x) {ys : List Value} (hy : ∀ y ∈ ys, ∃ c k', y = Value.ref c ∧ Nk s.heap k' c) {Q : Bool → Shared → Prop} (q : Q false s) : wpAny (model P w) A (searchCouldBeSeen (.ref x) ys) Q E s := by
  unfold searchCouldBeSeen
  refine wpAny_bind ?_
  refine wpAny_forIn_list _ (fun l r s' => s' = s ∧ r.1 = none ∧ ∀ v ∈ l, v ∈ ys) _ ?_ ?_ _ _ ⟨rfl, rfl, fun _ h => h⟩
  · rintro v l r s' ⟨rfl, hr, hl⟩
    obtain ⟨c, k', rfl, hc⟩ := hy v (hl v List.mem_cons_self)
    have go : ∀ u ∈ l, u ∈ ys := fun u hu => hl u (List.mem_cons_of_mem _ hu)
    dsimp only
    by_cases same : (x == c || (carriedByValue (.ref x) && carriedByValue (.ref c))) = true
    · exact wp_if_pos same (wpAny_pure ⟨rfl, rfl, go⟩)
    · refine wp_if_neg same (wpAny_bind (quiet_key k _ 8 s' hx.1 hx.2 _ _ _ ?_))
      simp only [Bool.not_true, Bool.false_eq_true, if_false]
      refine wpAny_bind (quiet_key k' _ 8 s' hc.1 hc.2 _ _ _ ?_)
      simp only [Bool.not_true, Bool.false_eq_true, if_false]
      refine wpAny_bind (not_stmt 8 k _ _ hx.1 hx.2 ?_)
      simp only [Bool.false_eq_true, if_false]
      refine wpAny_bind (not_stmt 8 k' _ _ hc.1 hc.2 ?_)
      simp only [Bool.false_eq_true, if_false]
      exact wpAny_pure ⟨rfl, rfl, go⟩
  · rintro ⟨r1, r2⟩ s' ⟨rfl, hr, _⟩
    simp only at hr
    subst hr
    exact wpAny_pure q
end
/-! ### the set at S of the tuples L; κ says which key stands where -/
abbrev rowK (w : World) (κ : Addr → NestedKey) (a : Addr) : Int × Value := ((κ a).hash w, .ref a)
structure SetN (w : World) (κ : Addr → NestedKey) (h : Heap) (S : Addr) (L : List Addr) (es : Array (Int × Value)) (ep : Nat) (t : SetTable) : Prop where
  ob : ∃ o, h.get? S = some o ∧ o.ExactSet ∧ o.data = .set es ep t
  rows : es.toList = L.map (rowK w κ)
  tab : TabOk t (L.map fun a => (κ a).hash w)
  nd : (L.map κ).Nodup
  key : ∀ a ∈ L, Nk h (κ a) a
  led : w.params.followText "set-order" = true ∨ t.led = true
  room : L.length * 5 < t.mask * 3
  few : L.length < 64
theorem rows_size {w : World} {κ : Addr → NestedKey} {L : List Addr} {es : Array (Int × Value)} (h : es.toList = L.map (rowK w κ)) : es.size = L.length := by
  rw [← Array.length_toList, h, List.length_map]
theorem rows_at {w : World} {κ : Addr → NestedKey} {L : List Addr} {es : Array (Int × Value)} (h : es.toList = L.map (rowK w κ)) {i : Nat} {a : Addr} (e : L[i]? = some a) : es[i]? = some (rowK w κ a) := by
  rw [← Array.getElem?_toList, h, List.getElem?_map, e]; rfl
theorem fits_of {t : SetTable} {n : Nat} (h1 : t.place.size = n) (h2 : t.dummies = #[]) (h3 : n ≤ t.mask) : t.fits n = true := by
  have e : t.fill = n := by unfold SetTable.fill; rw [h2, h1]; rfl
  simp [SetTable.fits, e, h1, h3]
section
variable {P : Program} {w : World} {A : Around} {E : Value → Shared → Prop} {s : Shared} {κ : Addr → NestedKey} {S : Addr} {L : List Addr} {es : Array (Int × Value)} {ep : Nat} {t : SetTable}
theorem SetN.fits (R : SetN w κ s.heap S L es ep t) : t.fits es.size = true := by
  have h1 := R.tab.sz
  have h2 := rows_size R.rows
  have h3 := R.room
  rw [List.length_map] at h1
  exact fits_of (by omega) R.tab.dm (by omega)
theorem probe_clear (m : Nat) : ∀ (n : Nat) (p : SetTable.Probe), p.dummy = none → (nth m p n).dummy = none
  | 0, _, h => h
  | n + 1, p, h => probe_clear m n (adv m p) (by unfold adv; split <;> exact h)
/-- where the way of hash h stands after c steps -/
abbrev onWay (m : Nat) (h : Int) (c : Nat) : SetTable.Probe := nth m (runAt m (SetTable.bits h % (m + 1)) (SetTable.bits h)) c
theorem onWay_add (m : Nat) (h : Int) (c q : Nat) : nth m (onWay m h c) q = onWay m h (c + q) := (nth_add m c _ q).symm
/-- the search, from the c-th step of the way on; K is the first empty place -/
theorem seek (R : SetN w κ s.heap S L es ep t) {x : Addr} {k : NestedKey} (hx : Nk s.heap k x) (hu : A.units + 8 < cLine) {K : Nat} (hKf : K < 10 * SetTable.turns t.mask)
    (hK : way t.mask (k.hash w) K ∉ t.place.toList) (hKb : ∀ c, c < K → way t.mask (k.hash w) c ∈ t.place.toList) {Q : SetFound → Shared → Prop}
    (yes : k ∈ L.map κ → Q (.there none) s) (no : k ∉ L.map κ → Q (.free (way t.mask (k.hash w) K) false) s) :
    ∀ (f c : Nat) (stand : Option SetTable.Probe), stand.getD (t.probeStart (k.hash w)) = onWay t.mask (k.hash w) c → c ≤ K → K - c < f →
      (∀ (i : Nat) b, L[i]? = some b → κ b = k → ∃ c', c ≤ c' ∧ c' < K ∧ t.place.toList[i]? = some (way t.mask (k.hash w) c')) →
      wpAny (model P w) A (setSearchFrom S (.ref x) (k.hash w) true f stand) Q E s := by
  intro f
  induction f with
  | zero => intro c _ _ _ hf; exact absurd hf (Nat.not_lt_zero _)
  | succ f ih =>
    intro c stand hst hc hf later
    obtain ⟨o, ho, _, hd⟩ := R.ob
    have gone : ¬ t.gaveWay = true := by
      unfold SetTable.gaveWay
      rw [mask_odd R.tab.mok]; decide
    have jw : ∀ q, (nth t.mask (onWay t.mask (k.hash w) c) q).j = way t.mask (k.hash w) (c + q) := fun q => congrArg SetTable.Probe.j (onWay_add _ _ _ _)
    have hashAt : ∀ (i : Nat) b, L[i]? = some b → (es[i]?.map (·.1)).getD 0 = (κ b).hash w := fun i b e => by rw [rows_at R.rows e]; rfl
    have spec := go_spec t R.tab.ris R.tab.dm (fun i => (es[i]?.map (·.1)).getD 0) (k.hash w) (10 * SetTable.turns t.mask) (K - c) (onWay t.mask (k.hash w) c) (probe_clear _ _ _ rfl) (by omega)
      (fun q hq => by rw [jw]; exact hKb _ (by omega)) (by rw [jw, show c + (K - c) = K by omega]; exact hK)
    rw [setSearchFrom_succ]
    refine wpAny_bind (wpAny_setState_of ho hd R.fits ?_)
    dsimp only
    refine wp_if_neg gone ?_
    try refine wpAny_bind (wpAny_pure ?_)
    rcases spec with ⟨q, i, hq, hi, _, before, found⟩ | ⟨before, found⟩
    · -- one of the same hash
      rw [jw] at hi
      have hp : t.probe (fun i => (es[i]?.map (·.1)).getD 0) (k.hash w) (stand.getD (t.probeStart (k.hash w))) = some (.candidate (way t.mask (k.hash w) (c + q)) i (onWay t.mask (k.hash w) (c + (q + 1)))) := by
        rw [hst, ← jw, ← onWay_add]; exact found
      have hiL : i < L.length := by
        have h1 := (List.getElem?_eq_some_iff.mp hi).1
        have h2 := R.tab.sz
        rw [List.length_map] at h2
        rw [Array.length_toList] at h1
        omega
      obtain ⟨b, hb⟩ : ∃ b, L[i]? = some b := ⟨L[i], List.getElem?_eq_getElem hiL⟩
      have bL : b ∈ L := List.mem_of_getElem? hb
      have live : t.slot (way t.mask (k.hash w) (c + q)) = .live i := slot_live R.tab.ris hi
      have rest : wpAny (model P w) A (searchRest S (.ref x) (k.hash w) true f es t (way t.mask (k.hash w) (c + q)) i (onWay t.mask (k.hash w) (c + (q + 1)))) Q E s := by
        unfold searchRest
        rw [rows_at R.rows hb]
        dsimp only
        refine wpAny_bind (wpAny_holding ((nestedKind P w).eqBool hu (R.key b bL) hx ?_))
        refine wpAny_bind (wpAny_setState_of ho hd R.fits ?_)
        dsimp only
        by_cases eq : κ b = k
        · exact wp_if_pos (by simp [eq]) (wpAny_pure (yes (List.mem_map.mpr ⟨b, bL, eq⟩)))
        · refine wp_if_neg (by simp [eq]) ?_
          try refine wpAny_bind (wpAny_pure ?_)
          rw [sameMem]
          simp only [if_true, live, rows_at R.rows hb]
          refine wpAny_bind (wpAny_isSame_ref_self (wpAny_bind (wpAny_pure ?_)))
          simp only [if_true]
          refine wp_if_neg (by simp [eq]) (ih (c + (q + 1)) _ rfl (by omega) (by omega) fun i0 b0 h0 e0 => ?_)
          obtain ⟨c', a1, a2, a3⟩ := later i0 b0 h0 e0
          have h1 : ¬ c' < c + q := fun z => before (c' - c) i0 (by omega) (by rw [jw, show c + (c' - c) = c' by omega]; exact a3) ((hashAt i0 b0 h0).trans (by rw [e0]))
          have h2 : c' ≠ c + q := by
            rintro rfl
            have s0 := slot_live R.tab.ris a3
            rw [live] at s0
            injection s0 with s0
            subst s0
            rw [hb] at h0; cases h0
            exact eq e0
          exact ⟨c', by omega, a2, a3⟩
      rw [hp]
      dsimp only
      by_cases hl : t.led = true
      · refine wp_if_neg (by simp [hl]) ?_
        try refine wpAny_bind (wpAny_pure ?_)
        exact rest
      · refine wp_if_pos (by simp [hl]) (wpAny_bind (unseen hx (fun y hy => ?_) ?_))
        · obtain ⟨e, he, rfl⟩ := List.mem_map.mp hy
          have h1 : e ∈ es := by
            have : e ∈ es ∧ e.1 = k.hash w := by simpa using he
            exact this.1
          have h2 : e ∈ es.toList := by simpa using h1
          rw [R.rows] at h2
          obtain ⟨a, ha, rfl⟩ := List.mem_map.mp h2
          exact ⟨a, κ a, rfl, R.key a ha⟩
        · refine wp_if_neg (by decide) ?_
          try refine wpAny_bind (wpAny_pure ?_)
          exact rest
    · -- the empty place
      have hp : t.probe (fun i => (es[i]?.map (·.1)).getD 0) (k.hash w) (stand.getD (t.probeStart (k.hash w))) = some (.empty (way t.mask (k.hash w) K) none) := by
        have : way t.mask (k.hash w) K = (nth t.mask (onWay t.mask (k.hash w) c) (K - c)).j := by rw [jw, show c + (K - c) = K by omega]
        rw [hst, this]; exact found
      rw [hp]
      dsimp only
      refine wpAny_pure (no fun hm => ?_)
      obtain ⟨b, hb, e⟩ := List.mem_map.mp hm
      obtain ⟨i, hi⟩ := List.getElem?_of_mem hb
      obtain ⟨c', a1, a2, a3⟩ := later i b hi e
      exact before (c' - c) i (by omega) (by rw [jw, show c + (c' - c) = c' by omega]; exact a3) ((hashAt i b hi).trans (by rw [e]))
theorem seek_all (R : SetN w κ s.heap S L es ep t) {x : Addr} {k : NestedKey} (hx : Nk s.heap k x) (hu : A.units + 8 < cLine) {Q : SetFound → Shared → Prop} (yes : k ∈ L.map κ → Q (.there none) s)
    (no : ∀ K, k ∉ L.map κ → way t.mask (k.hash w) K ∉ t.place.toList → (∀ c, c < K → way t.mask (k.hash w) c ∈ t.place.toList) → Q (.free (way t.mask (k.hash w) K) false) s) :
    wpAny (model P w) A (setSearch S (.ref x) (k.hash w) true) Q E s := by
  have hr := R.room
  obtain ⟨K, hKf, hK, hKb⟩ := R.tab.first (by rw [List.length_map]; omega) (k.hash w)
  have : 10 * SetTable.turns t.mask ≤ 1420 := by
    unfold SetTable.turns
    rcases R.tab.mok with e | e | e <;> omega
  unfold setSearch
  refine seek R hx hu hKf hK hKb yes (fun h => no K h hK hKb) 100000 0 none rfl (Nat.zero_le _) (by omega) fun i b hb e => ?_
  have h1 : (L.map fun a => (κ a).hash w)[i]? = some (k.hash w) := by rw [List.getElem?_map, hb, ← e]; rfl
  have h2 : i < t.place.toList.length := by
    have := R.tab.sz
    rw [List.length_map] at this
    have := (List.getElem?_eq_some_iff.mp hb).1
    rw [Array.length_toList]; omega
  obtain ⟨c, hc, ec⟩ := R.tab.before hK h1 (List.getElem?_eq_getElem h2)
  exact ⟨c, Nat.zero_le _, hc, by rw [List.getElem?_eq_getElem h2, ec]⟩
/-! ### the table laid anew -/
theorem pick_all {α : Type} (L : List α) : (List.range L.length).filterMap (fun i => L[i]?) = L := by
  have some_of : ∀ n, n ≤ L.length → (List.range n).filterMap (fun i => L[i]?) = L.take n := by
    intro n hn
    induction n with
    | zero => simp
    | succ n ih =>
      have h := ih (by omega)
      have hl : L[n]? = some (L[n]'(by omega)) := List.getElem?_eq_getElem (by omega)
      rw [List.range_succ, List.filterMap_append, h, List.take_add_one, hl]
      simp [hl]
  rw [some_of _ (Nat.le_refl _), List.take_length]
theorem pick_rows {w : World} {κ : Addr → NestedKey} {L : List Addr} {es : Array (Int × Value)} (h : es.toList = L.map (rowK w κ)) {order : Array Nat} (hp : order.toList.Perm (List.range L.length)) :
    ∃ L2 : List Addr, (order.filterMap (es[·]?)).toList = L2.map (rowK w κ) ∧ L2.Perm L ∧ L2.map (fun a => (κ a).hash w) = order.toList.map fun i => (es.map (·.1)).getD i 0 := by
  refine ⟨order.toList.filterMap fun i => L[i]?, ?_, ?_, ?_⟩
  · rw [Array.toList_filterMap, List.map_filterMap]
    congr 1
    funext i
    cases e : L[i]? with
    | some a => rw [rows_at h e]; rfl
    | none =>
      have : es[i]? = none := by
        rw [Array.getElem?_eq_none_iff, rows_size h]
        exact List.getElem?_eq_none_iff.mp e
      rw [this]; rfl
  · have := hp.filterMap fun i => L[i]?
    rw [pick_all] at this
    exact this
  · rw [List.map_filterMap]
    have lt : ∀ i ∈ order.toList, i < L.length := fun i hi => List.mem_range.mp (hp.mem_iff.mp hi)
    revert lt
    generalize order.toList = l
    intro lt
    induction l with
    | nil => rfl
    | cons i l ih =>
      have hi := lt i (by simp)
      have e : L[i]? = some (L[i]) := List.getElem?_eq_getElem hi
      have e2 := rows_at h e
      rw [List.filterMap_cons_some (b := (κ L[i]).hash w) (by rw [e]; rfl), List.map_cons, ih fun j hj => lt j (by simp [hj])]
      congr 1
      simp [Array.getD_eq_getD_getElem?, Array.getElem?_map, e2]
/-- the table laid anew, larger -/
theorem lay_anew {o : Obj} (ho : s.heap.get? S = some o) (hex : o.ExactSet) (hd : o.data = .set es ep t) (rows : es.toList = L.map (rowK w κ)) (hsz : t.place.size = es.size) (hdm : t.dummies = #[]) (hfl : es.size ≤ t.mask) (nd : (L.map κ).Nodup)
    (key : ∀ a ∈ L, Nk s.heap (κ a) a) (ld : w.params.followText "set-order" = true ∨ t.led = true) (few : L.length < 64) {wanted M : Nat} (hw : SetTable.sizeAbove wanted - 1 = M) (hM : MaskOk M) (hw2 : SetTable.sizeAbove wanted ≤ 128) (hn : L.length * 5 < M * 3)
    {Q : Unit → Shared → Prop} (q : ∀ h' L' es' ep' t', Heap.SameBut S s.heap h' → SetN w κ h' S L' es' ep' t' → L'.Perm L → Q () { s with heap := h' }) : wpAny (model P w) A (setRelay S wanted) Q E s := by
  have hsl := rows_size rows
  obtain ⟨t', order, e, hp, T, em, el, _, _⟩ := relaid_ok t (hs := es.map (·.1)) (wanted := wanted) hw hM (by rw [Array.size_map, hsl]; omega)
  rw [Array.size_map, hsl] at hp
  obtain ⟨L2, r1, r2, r3⟩ := pick_rows rows hp
  rw [← r3] at T
  have hs2 : (order.filterMap (es[·]?)).size = es.size := by rw [rows_size r1, r2.length_eq, hsl]
  rw [setRelay_eq]
  refine wpAny_bind (wpAny_setState_of ho hd (fits_of hsz hdm hfl) ?_)
  dsimp only
  refine wp_if_neg (by rw [sizeLine_eq]; omega) ?_
  try refine wpAny_bind (wpAny_pure ?_)
  rw [e]
  dsimp only
  refine wpAny_bind (wp_if_neg (by rw [hs2]; simp) ?_)
  try refine wpAny_bind (wpAny_pure ?_)
  refine wpAny_pure ?_
  dsimp only
  refine wpAny_storeSet_of ho hd ?_ (by rw [hs2, hsl, sizeLine_eq]; omega)
  have sb : Heap.SameBut S s.heap (s.heap.update S (Obj.putSet (order.filterMap (es[·]?)) t')) := Heap.SameBut.update ..
  exact q _ L2 _ (ep + 1) t' sb ⟨⟨_, store_at ho hd, ⟨hex.1, hex.2.1, hex.2.2⟩, rfl⟩, r1, T, (r2.map κ).nodup_iff.mpr nd, fun a ha => nk_but (key a (r2.mem_iff.mp ha)) ho hd sb, by rw [el]; exact ld, by rw [r2.length_eq, em]; exact hn, by rw [r2.length_eq]; exact few⟩ r2
/-- one more -/
theorem put_one (R : SetN w κ s.heap S L es ep t) {x : Addr} (hx : Nk s.heap (κ x) x) (hu : A.units + 8 < cLine) (hfew : L.length + 1 < 64) {Q : Bool → Shared → Prop}
    (q : ∀ b h' L' es' ep' t', Heap.SameBut S s.heap h' → SetN w κ h' S L' es' ep' t' → (κ x ∈ L.map κ → L' = L) → (κ x ∉ L.map κ → L'.Perm (x :: L)) → Q b { s with heap := h' }) :
    wpAny (model P w) A (setAddHashed S (.ref x) ((κ x).hash w)) Q E s := by
  obtain ⟨o, ho, hex, hd⟩ := R.ob
  have hsl := rows_size R.rows
  have hroom := R.room
  unfold setAddHashed
  refine wpAny_holding ?_
  rw [show (100000 : Nat) = 99999 + 1 from rfl, setAddHashedIn_succ]
  refine wpAny_bind (wpAny_setState_of ho hd R.fits ?_)
  dsimp only
  refine wp_if_neg (by simp [byScan, Value.scannable]) ?_
  try refine wpAny_bind (wpAny_pure ?_)
  refine wpAny_bind (seek_all R hx hu (fun hm => ?_) fun K hm hK hb => ?_)
  · exact wpAny_pure (q false s.heap L es ep t (Heap.SameBut.refl S s.heap) R (fun _ => rfl) fun z => absurd hm z)
  · dsimp only
    refine wpAny_bind (wpAny_setState_of ho hd R.fits ?_)
    dsimp only
    obtain ⟨q1, _, q3, q4, q5, _, _, _, q9⟩ := R.tab.put hK hb
    -- whatever the hash says of it
    have rest : ∀ t1 : SetTable, (∃ pl, t1 = { (t.put (way t.mask ((κ x).hash w) K)).1 with plain := pl }) →
        wpAny (model P w) A (do
          storeSet S (SetTable.insertAt es (t.put (way t.mask ((κ x).hash w) K)).2 ((κ x).hash w, .ref x)) t1
          if !false && t1.tooFull then setRelay S (SetTable.grown (es.size + 1))
          return true) Q E s := by
      rintro t1 ⟨pl, et⟩
      have m1 : t1.mask = t.mask := by rw [et]; exact q4
      have l1 : t1.led = t.led := by rw [et]; exact q5
      have T1 : TabOk t1 ((L.map fun a => (κ a).hash w).take (SetTable.below t.place (way t.mask ((κ x).hash w) K)) ++ (κ x).hash w :: (L.map fun a => (κ a).hash w).drop (SetTable.below t.place (way t.mask ((κ x).hash w) K))) := by
        rw [et]; exact ⟨q3.ris, q3.dm, q3.sz, q3.mok, q3.bd, q3.reach⟩
      have f1 : t1.fill = (L.map fun a => (κ a).hash w).length + 1 := by rw [et]; exact q9
      clear et
      rw [q1]
      generalize SetTable.below t.place (way t.mask ((κ x).hash w) K) = p at T1 ⊢
      have hin : (SetTable.insertAt es p ((κ x).hash w, Value.ref x)).toList = (L.take p ++ x :: L.drop p).map (rowK w κ) := by
        rw [SetTable.toList_insertAt, R.rows, List.map_append, List.map_cons, List.map_take, List.map_drop]
      have pm : (L.take p ++ x :: L.drop p).Perm (x :: L) := by
        have := List.perm_middle (a := x) (l₁ := L.take p) (l₂ := L.drop p)
        rwa [List.take_append_drop] at this
      have T2 : TabOk t1 ((L.take p ++ x :: L.drop p).map fun a => (κ a).hash w) := by
        rw [List.map_append, List.map_cons, List.map_take, List.map_drop]; exact T1
      have n1 : ((L.take p ++ x :: L.drop p).map κ).Nodup := by
        refine (pm.map κ).nodup_iff.mpr ?_
        rw [List.map_cons]
        exact List.nodup_cons.mpr ⟨hm, R.nd⟩
      have len : (L.take p ++ x :: L.drop p).length = L.length + 1 := pm.length_eq
      generalize SetTable.insertAt es p ((κ x).hash w, Value.ref x) = es1 at hin ⊢
      generalize L.take p ++ x :: L.drop p = L1 at hin pm T2 n1 len
      have z1 := rows_size hin
      refine wpAny_bind (wpAny_storeSet_of ho hd ?_ (by rw [z1, len, sizeLine_eq]; omega))
      have sb : Heap.SameBut S s.heap (s.heap.update S (Obj.putSet es1 t1)) := Heap.SameBut.update ..
      have ho1 := store_at (es' := es1) (t' := t1) ho hd
      generalize s.heap.update S (Obj.putSet es1 t1) = h1 at sb ho1 ⊢
      have key1 : ∀ a ∈ L1, Nk h1 (κ a) a := fun a ha => by
        rcases List.mem_cons.mp (pm.mem_iff.mp ha) with e | ha
        · rw [e]; exact nk_but hx ho hd sb
        · exact nk_but (R.key a ha) ho hd sb
      have ld1 : w.params.followText "set-order" = true ∨ t1.led = true := by rw [l1]; exact R.led
      have full : t1.tooFull = decide ((L.length + 1) * 5 ≥ t1.mask * 3) := by
        unfold SetTable.tooFull
        rw [f1, List.length_map]
      by_cases hf : t1.tooFull = true
      · have hfull : (L.length + 1) * 5 ≥ t1.mask * 3 := by rw [full] at hf; exact of_decide_eq_true hf
        have pz : t1.place.size = es1.size := by rw [T2.sz, List.length_map, z1]
        have which : (t.mask = 7 ∧ L.length = 4) ∨ (t.mask = 31 ∧ L.length = 18) := by
          rcases R.tab.mok with e | e | e
          · exact .inl ⟨e, by rw [m1, e] at hfull; rw [e] at hroom; omega⟩
          · exact .inr ⟨e, by rw [m1, e] at hfull; rw [e] at hroom; omega⟩
          · exfalso; rw [m1, e] at hfull; omega
        have more : ∀ M, SetTable.sizeAbove (SetTable.grown (L.length + 1)) - 1 = M → MaskOk M → SetTable.sizeAbove (SetTable.grown (L.length + 1)) ≤ 128 → (L.length + 1) * 5 < M * 3 →
            wpAny (model P w) A (setRelay S (SetTable.grown (L.length + 1))) (fun _ s' => wpAny (model P w) A (pure true) Q E s') E { s with heap := h1 } := fun M a1 a2 a3 a4 =>
          lay_anew (s := { s with heap := h1 }) ho1 ⟨hex.1, hex.2.1, hex.2.2⟩ rfl hin pz T2.dm (by rw [z1, len, m1]; rcases which with ⟨e, e2⟩ | ⟨e, e2⟩ <;> omega) n1 key1 ld1 (by omega) a1 a2 a3 (by omega)
            fun h2 L2 es2 ep2 t2 sb2 R2 pm2 => wpAny_pure (q true h2 L2 es2 ep2 t2 (sb.trans sb2) R2 (fun z => absurd z hm) fun _ => pm2.trans pm)
        rw [hsl]
        have go : wpAny (model P w) A (setRelay S (SetTable.grown (L.length + 1))) (fun _ s' => wpAny (model P w) A (pure true) Q E s') E { s with heap := h1 } := by
          rcases which with ⟨_, e⟩ | ⟨_, e⟩
          · exact more 31 (by rw [e, size_20]) (.inr (.inl rfl)) (by rw [e, size_20]; decide) (by omega)
          · exact more 127 (by rw [e, size_76]) (.inr (.inr rfl)) (by rw [e, size_76]; decide) (by omega)
        first
          | exact wpAny_bind (wp_if_pos (by simp [hf]) go)
          | exact wp_if_pos (by simp [hf]) (wpAny_bind go)
      · have end_ : wpAny (model P w) A (pure true) Q E { s with heap := h1 } := wpAny_pure (q true h1 L1 es1 (ep + 1) t1 sb ⟨⟨_, ho1, ⟨hex.1, hex.2.1, hex.2.2⟩, rfl⟩, hin, T2, n1, key1, ld1, (by
          rw [full, decide_eq_true_eq] at hf
          omega), by omega⟩ (fun z => absurd z hm) fun _ => pm)
        first
          | exact wp_if_neg (by simp [hf]) end_
          | exact wpAny_bind (wp_if_neg (by simp [hf]) (wpAny_pure end_))
    have any : ∀ b : Bool, wpAny (model P w) A (do
          let t1 := if b then (t.put (way t.mask ((κ x).hash w) K)).1 else { (t.put (way t.mask ((κ x).hash w) K)).1 with plain := false }
          storeSet S (SetTable.insertAt es (t.put (way t.mask ((κ x).hash w) K)).2 ((κ x).hash w, .ref x)) t1
          if !false && t1.tooFull then setRelay S (SetTable.grown (es.size + 1))
          return true) Q E s := fun b => by
      cases b with
      | true => exact rest _ ⟨(t.put (way t.mask ((κ x).hash w) K)).1.plain, rfl⟩
      | false => exact rest _ ⟨false, rfl⟩
    by_cases hpl : (t.put (way t.mask ((κ x).hash w) K)).1.plain = true
    · first
        | exact wpAny_bind (wp_if_pos hpl (by_some 8 _ _ _ hx.1 any))
        | exact wp_if_pos hpl (wpAny_bind (by_some 8 _ _ _ hx.1 any))
    · first
        | exact wpAny_bind (wp_if_neg hpl (wpAny_pure (any true)))
        | exact wp_if_neg hpl (any true)
        | exact wp_if_neg hpl (wpAny_bind (wpAny_pure (any true)))
end
end DL

/-! SB: set(xs) of a list of such tuples; sorted of it. -/
namespace DL
open PySem PySem.Spec PyProof.Rows L2
variable [Wsh]
/-- what came in of the first i -/
structure Met (κ : Addr → NestedKey) (as : List Addr) (i : Nat) (L : List Addr) : Prop where
  sub : ∀ a ∈ L, a ∈ as.take i
  all : ∀ a ∈ as.take i, κ a ∈ L.map κ
  len : L.length ≤ i
theorem Met.next {κ : Addr → NestedKey} {as L L' : List Addr} {i : Nat} {x : Addr} (g : Met κ as i L) (h : as[i]? = some x) (c1 : κ x ∈ L.map κ → L' = L) (c2 : κ x ∉ L.map κ → L'.Perm (x :: L)) : Met κ as (i + 1) L' := by
  have tk : as.take (i + 1) = as.take i ++ [x] := by rw [List.take_add_one, h]; rfl
  by_cases c : κ x ∈ L.map κ
  · rw [c1 c]
    refine ⟨fun a ha => by rw [tk]; exact List.mem_append_left _ (g.sub a ha), fun a ha => ?_, Nat.le_succ_of_le g.len⟩
    rw [tk] at ha
    rcases List.mem_append.mp ha with ha | ha
    · exact g.all a ha
    · rw [List.mem_singleton.mp ha]; exact c
  · have p := c2 c
    refine ⟨fun a ha => ?_, fun a ha => ?_, by rw [p.length_eq]; exact Nat.succ_le_succ g.len⟩
    · rw [tk]
      rcases List.mem_cons.mp (p.mem_iff.mp ha) with e | ha
      · rw [e]; simp
      · exact List.mem_append_left _ (g.sub a ha)
    · rw [(p.map κ).mem_iff, List.map_cons]
      rw [tk] at ha
      rcases List.mem_append.mp ha with ha | ha
      · exact List.mem_cons_of_mem _ (g.all a ha)
      · rw [List.mem_singleton.mp ha]; simp
theorem SetN.move {w : World} {κ : Addr → NestedKey} {h h' : Heap} {S : Addr} {L : List Addr} {es : Array (Int × Value)} {ep : Nat} {t : SetTable} (R : SetN w κ h S L es ep t) (hS : ∀ o, h.get? S = some o → h'.get? S = some o) (hk : ∀ a ∈ L, Nk h' (κ a) a) : SetN w κ h' S L es ep t := by
  obtain ⟨o, ho, r⟩ := R.ob
  exact { R with ob := ⟨o, hS o ho, r⟩, key := hk }
theorem set_empty {w : World} {κ : Addr → NestedKey} {h : Heap} {S : Addr} (ho : h.get? S = some { cls := .type "set", dict := none, data := .set #[] 0 (.fresh 0 0 (!w.params.followText "set-order")) }) : SetN w κ h S [] #[] 0 (.fresh 0 0 (!w.params.followText "set-order")) := by
  refine ⟨⟨_, ho, ⟨rfl, rfl, rfl⟩, rfl⟩, rfl, ⟨List.Pairwise.nil, rfl, rfl, .inl rfl, fun x hx => (by cases hx), fun i h j hi => (by simp at hi)⟩, List.nodup_nil, fun _ z => (by cases z), ?_, ?_, ?_⟩
  · show _ ∨ (!w.params.followText "set-order") = true
    cases w.params.followText "set-order" <;> simp
  · show 0 * 5 < 7 * 3
    decide
  · show 0 < 64
    decide
section
variable {P : Program} {w : World} {A : Around} {E : Value → Shared → Prop} {s : Shared} {κ : Addr → NestedKey}
/-- the loop of set.update, over what walks -/
theorem update_loop {I S : Addr} {fp wr : List Addr} {G : Array GenState → Array GenState → Prop} {Pv : Nat → Value → Prop} {St : Nat → Shared → Prop} {R : Result → Shared → Prop} {as : List Addr} (W : WalksS P w A.in1 I fp wr G as.length Pv St) (hSf : S ∉ fp)
    (few : as.length < 64) (hval : ∀ i v, Pv i v → ∃ a, as[i]? = some a ∧ v = .ref a) (h0 : Heap) (hk : ∀ a ∈ as, Nk h0 (κ a) a) (hS0 : h0.get? S = none) (hw0 : ∀ b ∈ wr, h0.get? b = none) (hu : A.in1.units + 8 < cLine) :
    ∀ (j i : Nat) (s : Shared), i + j = as.length → St i s → (∀ b o, h0.get? b = some o → s.heap.get? b = some o) → (∃ L es ep t, SetN w κ s.heap S L es ep t ∧ Met κ as i L) →
      (∀ s' L es ep t, Moved (S :: wr) G s s' → SetN w κ s'.heap S L es ep t → Met κ as as.length L → (∀ b o, h0.get? b = some o → s'.heap.get? b = some o) → R (.ok (.ret .none)) s') →
      codeAny (model P w) A (.builtin "set.update.loop" ⟨[.ref S, .ref I], []⟩) R s := by
  have out : S ∉ wr := fun h => hSf (W.sub _ h)
  have wider : ∀ b ∈ wr, b ∈ S :: wr := fun b hb => List.mem_cons_of_mem _ hb
  have still : ∀ {s s' : Shared}, Moved wr G s s' → (∀ b o, h0.get? b = some o → s.heap.get? b = some o) → ∀ b o, h0.get? b = some o → s'.heap.get? b = some o := fun hm k b o e =>
    hm.heap b o (fun hb => by rw [hw0 b hb] at e; cases e) (k b o e)
  intro j
  induction j with
  | zero =>
    intro i s hij hst k0 ⟨L, es, ep, t, hS, g⟩ hR
    obtain rfl : i = as.length := by omega
    refine codeAny_builtin F.entry_set_update_loop ?_
    rw [Around.under_plainId F.plain_set_update_loop _]
    show wpAny _ A.in1 (pyNext (.ref I) >>= _) _ _ s
    refine wpAny_bind (W.done s _ _ hst fun s' hm => ?_)
    have k1 := still hm k0
    exact wpAny_pure (hR s' L es ep t (hm.mono wider) (hS.move (fun o e => hm.heap S o out e) fun a ha => nk_grow (hk a (List.mem_of_mem_take (g.sub a ha))) k1) g k1)
  | succ j ih =>
    intro i s hij hst k0 ⟨L, es, ep, t, hS, g⟩ hR
    refine codeAny_builtin F.entry_set_update_loop ?_
    rw [Around.under_plainId F.plain_set_update_loop _]
    show wpAny _ A.in1 (pyNext (.ref I) >>= _) _ _ s
    refine wpAny_bind (W.item i s _ _ (by omega) hst fun v s' hP hst' hm => ?_)
    obtain ⟨x, hx0, rfl⟩ := hval i v hP
    have k1 := still hm k0
    have hx : Nk s'.heap (κ x) x := nk_grow (hk x (List.mem_of_getElem? hx0)) k1
    show wpAny _ A.in1 (holding [Value.ref x] (setAdd S (.ref x)) >>= _) _ _ s'
    refine wpAny_bind (wpAny_holding ?_)
    unfold setAdd
    refine wpAny_holding (wpAny_bind ((nestedKind P w).pyHash hu hx ?_))
    refine put_one (s := { s' with toks := s'.toks + (κ x).draws }) (hS.move (fun o e => hm.heap S o out e) fun a ha => nk_grow (hk a (List.mem_of_mem_take (g.sub a ha))) k1) hx hu (by have := g.len; omega) fun b h' L' es' ep' t' hsb hS2 c1 c2 => ?_
    have k2 : ∀ b o, h0.get? b = some o → h'.get? b = some o := fun b o e => (hsb.2 b (fun z => by rw [z, hS0] at e; cases e)).trans (k1 b o e)
    refine wpAny_pure ⟨plainId_quiet F.plain_set_update_loop _, ih (i + 1) _ (by omega) (W.frame _ s' _ _ hst' (Nat.le_add_right _ _) fun b hb o e => ?_) k2 ⟨L', es', ep', t', hS2, g.next hx0 c1 c2⟩ fun s2 L2 es2 ep2 t2 hm2 hS3 g2 k3 => ?_⟩
    · exact (hsb.2 b (fun z => hSf (z ▸ hb))).trans e
    · refine hR s2 L2 es2 ep2 t2 (Moved.trans W.gtrans ((hm.mono wider).then_heap (Nat.le_add_right _ _) fun b o hb e => ?_) hm2) hS3 g2 k3
      exact (hsb.2 b (fun z => hb (z ▸ List.mem_cons_self))).trans e
/-- a new set -/
abbrev noSet (w : World) : Obj := { cls := .type "set", dict := none, data := .set #[] 0 (.fresh 0 0 (!w.params.followText "set-order")) }
/-- set(xs) -/
theorem call_setN {l : Addr} {items : Array Value} {as : List Addr} {Q : Value → Shared → Prop} (hh : A.handled = none) (hl : s.heap.IsList l items) (hit : items.toList = as.map Value.ref) (hk : ∀ a ∈ as, Nk s.heap (κ a) a) (few : as.length < 64) (hu : A.units + 11 < cLine)
    (q : ∀ (h' : Heap) (tk : Nat) L es ep t, SetN w κ h' s.heap.objs.size L es ep t → Met κ as as.length L → (∀ b o, s.heap.get? b = some o → h'.get? b = some o) → Q (.ref s.heap.objs.size) { s with heap := h', toks := tk }) :
    wpAny (model P w) A (call (.type "set") [.ref l]) Q E s := by
  have isz : items.size = as.length := by rw [← Array.length_toList, hit, List.length_map]
  have lS : l < s.heap.objs.size := by obtain ⟨o, ho, _⟩ := hl; exact Heap.lt_size ho
  have fresh : ∀ b, s.heap.objs.size ≤ b → s.heap.get? b = none := fun b hb => by
    cases e : s.heap.get? b with
    | none => rfl
    | some o => exact absurd (Nat.lt_of_lt_of_le (Heap.lt_size e) hb) (Nat.lt_irrefl _)
  obtain ⟨c, tl, hmro⟩ := F.called_set.mro
  have hmade := F.called_set.made
  have hsub := F.called_set.sub
  refine wpAny_call (codeAny_of_tree ?_)
  show wpAny _ _ (callAny (.type "set") _) _ _ _
  refine wpAny_pure ⟨Code.quiet_builtin _ (by decide +kernel), codeAny_builtin F.entry_type_call ?_⟩
  rw [Around.under_plain (weight_type_call_type "set" [.ref l] []) rfl]
  have h1 := F.called_set.notType
  have h2 := F.called_set.canCreate
  have hct := F.typeCall_set_1 (.ref l)
  repeat (any_goals (first | assumption | wp_step))
  refine codeAny_mono (code_set_led1 (.ref l) (E := E) (Q₁ := fun obj s₁ => obj = .ref s.heap.objs.size ∧ s₁ = { s with heap := s.heap.push (noSet w) }) ⟨rfl, rfl⟩) fun r s₁ hr => ?_
  cases r with
  | error e => exact hr
  | ok fl =>
    cases fl with
    | ret obj =>
      obtain ⟨rfl, rfl⟩ := hr
      have gS : (s.heap.push (noSet w)).get? s.heap.objs.size = some (noSet w) := Heap.get?_push_size _ rfl
      have tS : Shared.TypeIs { s with heap := s.heap.push (noSet w) } (.ref s.heap.objs.size) "set" := ⟨_, gS, rfl⟩
      have hli := F.called_set.init.lookup
      have hbi := F.called_set.init.bind (.ref s.heap.objs.size)
      repeat (any_goals (first | assumption | wp_step))
      refine codeAny_mono (codeAny_call_builtin (R := wants (fun r s₂ => r = .none ∧ ∃ h' tk L es ep t, s₂ = { s with heap := h', toks := tk } ∧ SetN w κ h' s.heap.objs.size L es ep t ∧ Met κ as as.length L ∧
          (∀ b o, s.heap.get? b = some o → h'.get? b = some o)) E) F.called_set.init.plain F.entry_set_init (check_set_init_1 tS ?_)) fun r₂ s₂ hr₂ => ?_
      · obtain ⟨ol, hol, hcl, nl, hdl⟩ := hl
        obtain ⟨ocls, odict, odata, oslots⟩ := ol
        simp only at hcl hdl
        subst hcl; subst hdl
        have hol' : (s.heap.push (noSet w)).get? l = some { cls := .type "list", dict := odict, data := .seq items nl, slots := oslots } := Heap.get?_push_of_some _ hol
        have hsls := F.sub_list_set
        have hslf := F.sub_list_frozenset
        have hne : (Value.type "list" == Value.type "dict") = false := by decide
        have hl1 : (s.heap.push (noSet w)).IsList l items := ⟨_, hol', rfl, nl, rfl⟩
        unfold Builtin.«set.__init__» noKeywords Builtin.Frozenset.updateFrom
        generalize hPI : pyIter = PI
        wp_walk
        subst hPI
        refine wpAny_pyIter_list hl1 ?_
        refine wpAny_bind (wpAny_runValue ?_)
        have hz1 : (s.heap.push (noSet w)).objs.size = s.heap.objs.size + 1 := Heap.size_push ..
        have W := (Walks.list (prog := P) (w := w) (A := A.in1.in1.in1) (by simp [hh]) (s.heap.push (noSet w)).objs.size l (by rw [hz1]; exact Nat.ne_of_lt (Nat.lt_succ_of_lt lS)) items).toS
        rw [isz] at W
        have get : (((s.heap.push (noSet w)).push { cls := .type "list_iterator", data := .fields #[.ref l, .int 0 0] })).get? s.heap.objs.size = some (noSet w) := Heap.get?_push_of_some _ gS
        refine update_loop (κ := κ) (as := as) W (S := s.heap.objs.size) (by rw [hz1]; simp only [List.mem_cons, List.not_mem_nil, or_false, not_or]; exact ⟨Nat.ne_of_lt (Nat.lt_succ_self _), Nat.ne_of_gt lS⟩) few (fun i v hv => ?_) s.heap hk (fresh _ (Nat.le_refl _)) (fun b hb => fresh b (by
            rw [List.mem_singleton.mp hb, hz1]
            exact Nat.le_succ _)) (show A.units + 3 + 8 < cLine by omega) as.length 0 _ (by omega) ⟨⟨_, Heap.get?_push_size _ rfl, rfl, rfl⟩, (hl1.push _)⟩ (fun b o e => Heap.get?_push_of_some _ (Heap.get?_push_of_some _ e))
          ⟨[], #[], 0, _, set_empty get, ⟨fun _ h => (by cases h), fun _ h => (by simp at h), Nat.le_refl _⟩⟩ ?_
        · have e : items.toList[i]? = some v := by rw [Array.getElem?_toList]; exact hv
          rw [hit, List.getElem?_map] at e
          cases z : as[i]? with
          | none => rw [z] at e; cases e
          | some a => rw [z] at e; exact ⟨a, rfl, (Option.some.inj e).symm⟩
        · intro s' L es ep t hm hS' g' k
          obtain ⟨h', g2, d', tk', os'⟩ := s'
          have e1 : g2 = s.gens := hm.gens
          have e2 : d' = s.drawn := hm.drawn
          have e3 : os' = s.os := hm.os
          subst e1 e2 e3
          refine wpAny_pure ?_
          show wpAny _ _ (ret Value.none) _ _ _
          exact wpAny_pure ⟨rfl, h', tk', L, es, ep, t, rfl, hS', g', k⟩
      · cases r₂ with
        | error e => exact hr₂
        | ok fl₂ =>
          cases fl₂ with
          | ret r =>
            obtain ⟨rfl, h', tk, L, es, ep, t, rfl, hS', g', k⟩ := hr₂
            repeat (any_goals (first | assumption | wp_step))
            exact q _ _ _ _ _ _ hS' g' k
          | _ => exact hr₂.elim
    | _ => exact hr.elim
/-- an address is one tuple alone -/
theorem key_one {h : Heap} {κ : Addr → NestedKey} {L : List Addr} (nd : (L.map κ).Nodup) : L.Nodup := List.Pairwise.of_map κ (fun _ _ hne e => hne (congrArg κ e)) nd
/-- sorted(S): enc says as what data each tuple reads -/
theorem sorted_setN {S : Addr} {L : List Addr} {es : Array (Int × Value)} {ep : Nat} {t : SetTable} {Q : Value → Shared → Prop} {enc : Addr → PyData} (R : SetN w κ s.heap S L es ep t) (hh : A.handled = none)
    (rd : ∀ a ∈ L, Reads s.heap (.ref a) (enc a) []) (al : ∀ a ∈ L, ∀ b ∈ L, PySem.W.alike (enc a) (enc b) = true) (hk : ∀ a ∈ L, ∃ x r, enc a = .tuple (x :: r)) (hu : ∀ a ∈ L, A.units + 2 + (enc a).depth < cLine)
    (q : ∀ s' p (out : Array Value) (c : Nat) (L' : List Addr), (∀ b o, s.heap.get? b = some o → s'.heap.get? b = some o) → s'.gens = s.gens → s'.os = s.os → s.heap.objs.size ≤ p →
      s'.heap.get? p = some (seqObj "list" out c) → out.toList = L'.map Value.ref → L'.Perm L → L'.Pairwise (fun a b => PySem.W.dataLe false enc a b = true) → Q (.ref p) s') :
    wpAny (model P w) A (call (.builtin "sorted") [.ref S]) Q E s := by
  obtain ⟨o, ho, hex, hd⟩ := R.ob
  have hsz := rows_size R.rows
  have few := R.few
  refine Calls.call_function_entry kind_sorted plain_sorted entry_sorted (args_sorted1 _) ?_
  unfold Builtin.«sorted»
  refine wpAny_bind (m := checkCount "sorted" 1 1 _) (wpAny_pure ?_)
  refine wpAny_bind (collect_set (A := A.in1) hh ⟨o, ho, hex.1, hd⟩ R.fits (by unfold scanBound; omega) R.tab.ris R.led fun s1 vs k1 hz g1 o1 pm => ?_)
  have e1 : es.toList.map (·.2) = L.map Value.ref := by rw [R.rows, List.map_map]; rfl
  rw [e1] at pm
  obtain ⟨L1, e2, e3⟩ : ∃ L1 : List Addr, L1.Perm L ∧ vs = L1.map Value.ref := by
    obtain ⟨L1, a1, a2⟩ := perm_lift Value.ref pm L rfl
    exact ⟨L1, a1, a2.symm⟩
  subst e3
  have l1 : L1.length < 64 := by rw [e2.length_eq]; exact few
  refine wpAny_bind (wpAny_newList ?_ (by rw [List.length_map, sizeLine_eq]; omega))
  have hoL : (s1.heap.push (seqObj "list" (L1.map Value.ref).toArray 0)).get? s1.heap.objs.size = some (seqObj "list" (L1.map Value.ref).toArray 0) := Heap.get?_push_size _ rfl
  have er : ∀ l : List Addr, (∀ a ∈ l, a ∈ L) → PySem.W.EachIs (fun v b => ∃ as, Reads (s1.heap.push (seqObj "list" (L1.map Value.ref).toArray 0)) v (enc b) as ∧ s1.heap.objs.size ∉ as) (l.map Value.ref) l := by
    intro l
    induction l with
    | nil => intro _; exact .nil
    | cons a l ih => intro hl; exact .cons ⟨[], PyProof.Rows.Reads.keeps (fun b u e => Heap.get?_push_of_some _ (k1 b u e)) (rd a (hl a (by simp))), by simp⟩ (ih fun b hb => hl b (by simp [hb]))
  have ee : ∀ l : List Addr, PySem.W.EachIs (fun v b => v = Value.ref b) (l.map Value.ref) l := by
    intro l
    induction l with
    | nil => exact .nil
    | cons a l ih => exact .cons rfl ih
  have inL : ∀ a ∈ L1, a ∈ L := fun a ha => e2.mem_iff.mp ha
  refine wpAny_bind (wpAny_holding (PySem.W.list_sort_data (s := { s1 with heap := s1.heap.push (seqObj "list" (L1.map Value.ref).toArray 0) }) (R := fun v b => v = Value.ref b) (enc := enc) (bs := L1) hoL (ee L1) (er L1 inL) ?_ ?_ (by rw [sizeLine_eq]; omega) ?_ fun out z1 z2 => ?_))
  · intro d hd' d' hd2
    obtain ⟨a, ha, rfl⟩ := List.mem_map.mp hd'
    obtain ⟨b, hb, rfl⟩ := List.mem_map.mp hd2
    exact al a (inL a ha) b (inL b hb)
  · refine .inl fun d hd' => ?_
    obtain ⟨a, ha, rfl⟩ := List.mem_map.mp hd'
    exact hk a (inL a ha)
  · intro b hb
    have := hu b (inL b hb)
    show A.units + 1 + 1 + (enc b).depth < cLine
    omega
  · have e4 : out = (L1.mergeSort (PySem.W.dataLe false enc)).map Value.ref := by
      have : ∀ (o : List Value) (l : List Addr), PySem.W.EachIs (fun v b => v = Value.ref b) o l → o = l.map Value.ref := by
        intro o l h
        induction h with
        | nil => rfl
        | cons h1 _ ih => rw [h1, ih]; rfl
      exact this _ _ z2
    have pm2 : (L1.mergeSort (PySem.W.dataLe false enc)).Perm L1 := List.mergeSort_perm _ _
    have pw : (L1.mergeSort (PySem.W.dataLe false enc)).Pairwise fun a b => PySem.W.dataLe false enc a b = true := PySem.W.sort_pairwise (PySem.W.sortLe_total _ false _) L1
    obtain ⟨c, hc⟩ := sortedHeap_at (vs := L1.map Value.ref) (out := out.toArray) hoL
    refine wpAny_pure ⟨_, rfl, q _ s1.heap.objs.size out.toArray c _ (fun b u e => ?_) g1 o1 hz hc (by rw [e4]) (pm2.trans e2) pw⟩
    have z := k1 b u e
    have hlt := Heap.lt_size z
    show (sortedHeap (s1.heap.push (seqObj "list" (L1.map Value.ref).toArray 0)) s1.heap.objs.size (L1.map Value.ref) out.toArray).get? b = some u
    rw [sortedHeap_old (Nat.ne_of_lt hlt) (by rw [size_push']; exact Nat.lt_succ_of_lt hlt)]
    exact Heap.get?_push_of_some _ z
end
end DL

/-! SC: sorted(set(xs)) over trees. -/
namespace DL
open PySem PySem.Spec PyProof.Rows L2
theorem nkDs_cons {d : D} {r : List D} {ks : List NestedKey} (h : nkDs (d :: r) = some ks) : ∃ k l, nkD d = some k ∧ nkDs r = some l ∧ ks = k :: l := by
  unfold nkDs at h
  split at h
  · rename_i k l h1 h2
    cases h
    exact ⟨k, l, h1, h2, rfl⟩
  · cases h
theorem nkD_tup {xs : List D} {k : NestedKey} (h : nkD (.tup xs) = some k) : ∃ ks, nkDs xs = some ks ∧ k = .tup ks := by
  unfold nkD at h
  cases e : nkDs xs with
  | none => rw [e] at h; cases h
  | some ks => rw [e] at h; cases h; exact ⟨ks, rfl, rfl⟩
mutual
theorem nkD_inj : ∀ {d e : D} {k : NestedKey}, nkD d = some k → nkD e = some k → d = e
  | .int i, e, k, h1, h2 => by
    simp only [nkD, Option.some.injEq] at h1; subst h1
    cases e <;> first | (simp [nkD] at h2; done) | skip
    · simp [nkD] at h2; rw [h2]
  | .str i, e, k, h1, h2 => by
    simp only [nkD, Option.some.injEq] at h1; subst h1
    cases e <;> first | (simp [nkD] at h2; done) | skip
    · simp [nkD] at h2; rw [h2]
  | .non, e, k, h1, h2 => by
    simp only [nkD, Option.some.injEq] at h1; subst h1
    cases e <;> first | (simp [nkD] at h2; done) | skip
    · rfl
  | .tup xs, e, k, h1, h2 => by
    obtain ⟨ks, a1, rfl⟩ := nkD_tup h1
    cases e <;> first | (simp [nkD] at h2; done) | skip
    obtain ⟨ls, a2, z⟩ := nkD_tup h2
    cases z
    rw [nkDs_inj a1 a2]
  | .bl _, _, _, h1, _ => by simp [nkD] at h1
  | .lst _, _, _, h1, _ => by simp [nkD] at h1
  | .dct _, _, _, h1, _ => by simp [nkD] at h1
  | .ref _, _, _, h1, _ => by simp [nkD] at h1
  | .ty _, _, _, h1, _ => by simp [nkD] at h1
  | .ins _ _, _, _, h1, _ => by simp [nkD] at h1
  | .rol _, _, _, h1, _ => by simp [nkD] at h1
  | .ptp _, _, _, h1, _ => by simp [nkD] at h1
theorem nkDs_inj : ∀ {ds es : List D} {ks : List NestedKey}, nkDs ds = some ks → nkDs es = some ks → ds = es
  | [], [], _, _, _ => rfl
  | [], e :: es, ks, h1, h2 => by
    obtain ⟨k, l, _, _, rfl⟩ := nkDs_cons h2
    simp [nkDs] at h1
  | d :: ds, [], ks, h1, h2 => by
    obtain ⟨k, l, _, _, rfl⟩ := nkDs_cons h1
    simp [nkDs] at h2
  | d :: ds, e :: es, ks, h1, h2 => by
    obtain ⟨k, l, a1, a2, rfl⟩ := nkDs_cons h1
    obtain ⟨k', l', b1, b2, z⟩ := nkDs_cons h2
    cases z
    rw [nkD_inj a1 b1, nkDs_inj a2 b2]
end
variable [Wsh]
mutual
theorem nk_py : ∀ {d : D} {k : NestedKey}, nkD d = some k → toPy d = some k.data ∧ noLst d = true ∧ k.data.depth = k.depth
  | .int i, k, h => by simp only [nkD, Option.some.injEq] at h; subst h; exact ⟨rfl, rfl, rfl⟩
  | .str i, k, h => by simp only [nkD, Option.some.injEq] at h; subst h; exact ⟨rfl, rfl, rfl⟩
  | .non, k, h => by simp only [nkD, Option.some.injEq] at h; subst h; exact ⟨rfl, rfl, rfl⟩
  | .tup xs, k, h => by
    obtain ⟨ks, a, rfl⟩ := nkD_tup h
    obtain ⟨z1, z2, z3⟩ := nks_py a
    exact ⟨by simp [toPy, z1, NestedKey.data], by simpa [noLst] using z2, by simp [NestedKey.data, PyData.depth, NestedKey.depth, z3]⟩
  | .bl _, _, h => by simp [nkD] at h
  | .lst _, _, h => by simp [nkD] at h
  | .dct _, _, h => by simp [nkD] at h
  | .ref _, _, h => by simp [nkD] at h
  | .ty _, _, h => by simp [nkD] at h
  | .ins _ _, _, h => by simp [nkD] at h
  | .rol _, _, h => by simp [nkD] at h
  | .ptp _, _, h => by simp [nkD] at h
theorem nks_py : ∀ {ds : List D} {ks : List NestedKey}, nkDs ds = some ks → toPys ds = some (NestedKey.datas ks) ∧ noLsts ds = true ∧ PyData.depthAll (NestedKey.datas ks) = NestedKey.depthAll ks
  | [], _, h => by simp only [nkDs, Option.some.injEq] at h; subst h; exact ⟨rfl, rfl, rfl⟩
  | d :: ds, _, h => by
    obtain ⟨k, l, a1, a2, rfl⟩ := nkDs_cons h
    obtain ⟨z1, z2, z3⟩ := nk_py a1
    obtain ⟨y1, y2, y3⟩ := nks_py a2
    exact ⟨by simp [toPys, z1, y1, NestedKey.datas], by simp [noLsts, z2, y2], by simp [NestedKey.datas, PyData.depthAll, NestedKey.depthAll, z3, y3]⟩
end
section
variable {X : Cx} {pins : List (Addr × Obj)} {σ : L2.St} {F H : Hp} {s : Shared}
mutual
theorem nk_of (I : Inv X pins σ H s) (e : Ext F H) : ∀ (d : D) (k : NestedKey) (v : V) (u : Value), nkD d = some k → RelD X.K F v d → RelV v u → NestedIs s.heap k u
  | .int i, k, v, u, h, r, q => by simp only [nkD, Option.some.injEq] at h; subst h; cases r; obtain ⟨t, rfl⟩ := q; exact .int i t
  | .str i, k, v, u, h, r, q => by simp only [nkD, Option.some.injEq] at h; subst h; cases r; obtain ⟨t, rfl⟩ := q; exact .text i t
  | .non, k, v, u, h, r, q => by simp only [nkD, Option.some.injEq] at h; subst h; cases r; cases q; exact .none
  | .tup xs, k, v, u, h, r, q => by
    obtain ⟨ks, a, rfl⟩ := nkD_tup h
    cases r with
    | tup hs rs =>
      cases q
      obtain ⟨its, rv, ⟨o, ho, hc, n, hd⟩, _⟩ := I.tuple (e.sqT hs)
      exact .tup ho hc hd (by simpa using nks_of I e xs ks _ its a rs rv)
  | .bl _, _, _, _, h, _, _ => by simp [nkD] at h
  | .lst _, _, _, _, h, _, _ => by simp [nkD] at h
  | .dct _, _, _, _, h, _, _ => by simp [nkD] at h
  | .ref _, _, _, _, h, _, _ => by simp [nkD] at h
  | .ty _, _, _, _, h, _, _ => by simp [nkD] at h
  | .ins _ _, _, _, _, h, _, _ => by simp [nkD] at h
  | .rol _, _, _, _, h, _, _ => by simp [nkD] at h
  | .ptp _, _, _, _, h, _, _ => by simp [nkD] at h
theorem nks_of (I : Inv X pins σ H s) (e : Ext F H) : ∀ (ds : List D) (ks : List NestedKey) (vs : List V) (us : List Value), nkDs ds = some ks → RelDs X.K F vs ds → Vals vs us → NestedAll s.heap ks us
  | [], ks, vs, us, h, r, q => by simp only [nkDs, Option.some.injEq] at h; subst h; cases r; cases q; exact .nil
  | d :: ds, ks, vs, us, h, r, q => by
    obtain ⟨k, l, a1, a2, rfl⟩ := nkDs_cons h
    cases r with
    | cons r1 r2 => cases q with
      | cons q1 q2 => exact .cons (nk_of I e d k _ _ a1 r1 q1) (nks_of I e ds l _ _ a2 r2 q2)
end
mutual
theorem nk_reads (I : Inv X pins σ H s) (e : Ext F H) : ∀ (d : D) (k : NestedKey) (v : V) (u : Value), nkD d = some k → RelD X.K F v d → RelV v u → Reads s.heap u k.data []
  | .int i, k, v, u, h, r, q => by simp only [nkD, Option.some.injEq] at h; subst h; cases r; obtain ⟨t, rfl⟩ := q; exact .int i t
  | .str i, k, v, u, h, r, q => by simp only [nkD, Option.some.injEq] at h; subst h; cases r; obtain ⟨t, rfl⟩ := q; exact .str i t
  | .non, k, v, u, h, r, q => by simp only [nkD, Option.some.injEq] at h; subst h; cases r; cases q; exact .none
  | .tup xs, k, v, u, h, r, q => by
    obtain ⟨ks, a, rfl⟩ := nkD_tup h
    cases r with
    | tup hs rs =>
      cases q
      obtain ⟨its, rv, ⟨o, ho, hc, n, hd⟩, _⟩ := I.tuple (e.sqT hs)
      exact .tuple ho hc hd (by simpa using nks_reads I e xs ks _ its a rs rv)
  | .bl _, _, _, _, h, _, _ => by simp [nkD] at h
  | .lst _, _, _, _, h, _, _ => by simp [nkD] at h
  | .dct _, _, _, _, h, _, _ => by simp [nkD] at h
  | .ref _, _, _, _, h, _, _ => by simp [nkD] at h
  | .ty _, _, _, _, h, _, _ => by simp [nkD] at h
  | .ins _ _, _, _, _, h, _, _ => by simp [nkD] at h
  | .rol _, _, _, _, h, _, _ => by simp [nkD] at h
  | .ptp _, _, _, _, h, _, _ => by simp [nkD] at h
theorem nks_reads (I : Inv X pins σ H s) (e : Ext F H) : ∀ (ds : List D) (ks : List NestedKey) (vs : List V) (us : List Value), nkDs ds = some ks → RelDs X.K F vs ds → Vals vs us → ReadsAll s.heap us (NestedKey.datas ks) []
  | [], ks, vs, us, h, r, q => by simp only [nkDs, Option.some.injEq] at h; subst h; cases r; cases q; exact .nil
  | d :: ds, ks, vs, us, h, r, q => by
    obtain ⟨k, l, a1, a2, rfl⟩ := nkDs_cons h
    cases r with
    | cons r1 r2 => cases q with
      | cons q1 q2 => exact .cons (nk_reads I e d k _ _ a1 r1 q1) (nks_reads I e ds l _ _ a2 r2 q2)
end
end
/-- the set at S, without its tuples -/
def SetQ (w : World) (κ : Addr → NestedKey) (h : Heap) (S : Addr) (L : List Addr) : Prop := ∃ (es : Array (Int × Value)) (ep : Nat) (t : SetTable), (∃ o, h.get? S = some o ∧ o.ExactSet ∧ o.data = .set es ep t) ∧ es.toList = L.map (rowK w κ) ∧ TabOk t (L.map fun a => (κ a).hash w) ∧ (L.map κ).Nodup ∧
  (w.params.followText "set-order" = true ∨ t.led = true) ∧ L.length * 5 < t.mask * 3 ∧ L.length < 64
def SetNO (w : World) (κ : Addr → NestedKey) (S : Addr) (L : List Addr) : HO := .ext fun h => SetQ w κ h S L
theorem SetN.q {w : World} {κ : Addr → NestedKey} {h : Heap} {S : Addr} {L : List Addr} {es : Array (Int × Value)} {ep : Nat} {t : SetTable} (R : SetN w κ h S L es ep t) : SetQ w κ h S L := ⟨es, ep, t, R.ob, R.rows, R.tab, R.nd, R.led, R.room, R.few⟩
theorem SetQ.n {w : World} {κ : Addr → NestedKey} {h : Heap} {S : Addr} {L : List Addr} (R : SetQ w κ h S L) (k : ∀ a ∈ L, Nk h (κ a) a) : ∃ es ep t, SetN w κ h S L es ep t := by
  obtain ⟨es, ep, t, a, b, c, d, e, f, g⟩ := R
  exact ⟨es, ep, t, a, b, c, d, k, e, f, g⟩
theorem setNO_ok {P : Program} {w : World} {H : Hp} {h : Heap} {κ : Addr → NestedKey} {S : Addr} {L : List Addr} (R : SetQ w κ h S L) : ObjOk P w H h S (SetNO w κ S L) := by
  obtain ⟨es, ep, t, ⟨o, ho, r⟩, z⟩ := id R
  refine ⟨R, ⟨o, ho⟩, fun h1 h2 p k => ?_⟩
  obtain ⟨es', ep', t', ⟨o', ho', r'⟩, z'⟩ := (show SetQ w κ h1 S L from p)
  exact ⟨es', ep', t', ⟨o', k o' ho', r'⟩, z'⟩
theorem refs_vals : ∀ {as : List Addr} {us : List Value}, Vals (as.map V.ref) us → us = as.map Value.ref
  | [], _, .nil => rfl
  | a :: as, _, .cons r t => by
    cases r
    rw [refs_vals t]; rfl
theorem vals_refs : ∀ as : List Addr, Vals (as.map V.ref) (as.map Value.ref)
  | [] => .nil
  | _ :: as => .cons rfl (vals_refs as)
section
variable {X : Cx}
def rSetN (K : PySem.W.Frag) (w : World) : List V → Hp → VK → Prop := fun xs H Q => ∃ (F : Hp) (l : Addr) (as : List Addr) (ds : List D), Ext F H ∧ xs = [V.ref l] ∧ SqL K H l (as.map V.ref) ∧ RelDs K F (as.map V.ref) ds ∧ (∀ d ∈ ds, ∃ k, nkD d = some k ∧ k.depth ≤ 8) ∧ as.length < 64 ∧
  ∀ p L κ, H p = none → (∀ a ∈ L, a ∈ as) → (∀ a ∈ as, κ a ∈ L.map κ) → (L.map κ).Nodup → L.length < 64 → (∀ a d, RelD K F (.ref a) d → a ∈ as → d ∈ ds → nkD d = some (κ a)) → Q (.ref p) (upd H p (SetNO w κ p L))
theorem RelDs.at_mem {K : PySem.W.Frag} {F : Hp} {vs : List V} {ds : List D} (r : RelDs K F vs ds) : ∀ v ∈ vs, ∃ d ∈ ds, RelD K F v d := by
  intro v hv
  obtain ⟨i, hi⟩ := List.getElem?_of_mem hv
  obtain ⟨d, h1, h2⟩ := r.getV hi
  exact ⟨d, List.mem_of_getElem? h1, h2⟩
theorem cr_setN (hc : X.calm = true) (hu : X.A.units + 11 < cLine) : CallR X (.type "set") (rSetN X.K X.w) := by
  intro pins s σ H xs us Q I r h
  obtain ⟨F, l, as, ds, ex, rfl, hl, hr, hk, few, q⟩ := h
  rw [Vals.ref1 r]
  obtain ⟨its, rv, pl, hz⟩ := I.list hl
  have hn : H s.heap.objs.size = none := I.hok.fresh (Nat.le_refl _)
  have key : ∀ a ∈ as, ∀ d ∈ ds, RelD X.K F (.ref a) d → ∃ k, nkD d = some k ∧ Nk s.heap k a := fun a ha d hd rd => by
    obtain ⟨k, h1, h2⟩ := hk d hd
    exact ⟨k, h1, nk_of I ex d k _ (.ref a) h1 rd rfl, h2⟩
  let κ : Addr → NestedKey := fun a => open Classical in if z : ∃ k, Nk s.heap k a then z.choose else .none
  have κe : ∀ a k, Nk s.heap k a → κ a = k := fun a k z => by
    have w : ∃ k, Nk s.heap k a := ⟨k, z⟩
    have : κ a = w.choose := dif_pos w
    rw [this]
    exact NestedIs.inj _ _ _ w.choose_spec.1 z.1
  have κk : ∀ a ∈ as, Nk s.heap (κ a) a := fun a ha => by
    obtain ⟨d, hd, rd⟩ := hr.at_mem (.ref a) (List.mem_map.mpr ⟨a, ha, rfl⟩)
    obtain ⟨k, _, z⟩ := key a ha d hd rd
    rw [κe a k z]; exact z
  refine call_setN (P := X.prog) (w := X.w) (κ := κ) (as := as) (I.ok.hd hc) pl.isList (by simpa using refs_vals rv) κk few hu fun h' tk L es ep t R g k => ?_
  refine ⟨.ref s.heap.objs.size, upd H s.heap.objs.size (SetNO X.w κ s.heap.objs.size L), I.laid (t' := tk) k (Nat.le_refl _) (setNO_ok R.q), rfl, q _ L κ hn (fun a ha => ?_) (fun a ha => ?_) R.nd R.few fun a d rd ha hd => ?_⟩
  · exact List.mem_of_mem_take (g.sub a ha)
  · exact g.all a (by rw [List.take_length]; exact ha)
  · obtain ⟨k, h1, h2⟩ := key a ha d hd rd
    rw [κe a k h2]; exact h1
def rSortN (K : PySem.W.Frag) (w : World) : List V → Hp → VK → Prop := fun vs H Q => ∃ (F : Hp) (S : Addr) (L : List Addr) (κ : Addr → NestedKey), Ext F H ∧ vs = [V.ref S] ∧ H S = some (SetNO w κ S L) ∧ (∀ a ∈ L, ∃ d, RelD K F (.ref a) d ∧ nkD d = some (κ a) ∧ (κ a).depth ≤ 8) ∧
  (∀ a ∈ L, ∀ b ∈ L, PySem.W.alike (κ a).data (κ b).data = true) ∧ (∀ a ∈ L, ∃ x r, (κ a).data = .tuple (x :: r)) ∧
  ∀ (L' : List Addr) (p : Addr), L'.Perm L → L'.Pairwise (fun a b => PySem.W.dataLe false (fun a => (κ a).data) a b = true) → H p = none → Q (.ref p) (upd H p (.lst (L'.map V.ref)))
theorem cr_sortN (hc : X.calm = true) (hu : X.A.units + 11 < cLine) : CallR X (.builtin "sorted") (rSortN X.K X.w) := by
  intro pins s σ H vs us Q I r h
  obtain ⟨F, S, L, κ, ex, rfl, ha, hk, al, tu, q⟩ := h
  have R0 : SetQ X.w κ s.heap S L := (I.hok S _ ha).1
  have key : ∀ a ∈ L, Nk s.heap (κ a) a := fun a m => by
    obtain ⟨d, rd, h1, h2⟩ := hk a m
    exact ⟨nk_of I ex d _ _ (.ref a) h1 rd rfl, h2⟩
  obtain ⟨es, ep, t, R⟩ := R0.n key
  rw [Vals.ref1 r]
  refine sorted_setN (enc := fun a => (κ a).data) R (I.ok.hd hc) (fun a m => ?_) al tu (fun a m => ?_) fun s' p out c L' k g o hp hg hout pm pw => ?_
  · obtain ⟨d, rd, h1, h2⟩ := hk a m
    exact nk_reads I ex d _ _ (.ref a) h1 rd rfl
  · obtain ⟨d, rd, h1, h2⟩ := hk a m
    obtain ⟨z1, z2, z3⟩ := nk_py h1
    rw [z3]; omega
  · have few : L'.length < 64 := by rw [pm.length_eq]; exact R.few
    have hn : H p = none := I.hok.fresh hp
    have hv : Vals (L'.map V.ref) out.toList := by rw [hout]; exact vals_refs L'
    have J : Inv X pins σ (upd H p (.lst (L'.map V.ref))) { s with heap := s'.heap, gens := s'.gens, drawn := s'.drawn, toks := s'.toks } :=
      I.call (ch := []) (Un.laid k hp hn) (I.hok.laid k hp ⟨by rw [List.length_map, sizeLine_eq]; omega, out.toList, c, hv, hg⟩) (by rw [g]; exact I.bare) (fun _ z => nomatch z)
    have e : s' = { s with heap := s'.heap, gens := s'.gens, drawn := s'.drawn, toks := s'.toks } := by
      cases s'; cases s; cases o; rfl
    rw [e]
    exact ⟨.ref p, _, J, rfl, q L' p pm pw hn⟩
end
end DL

/-! SD: the reading of sorted(set(xs)). -/
namespace DL
open PySem PySem.Spec PyProof.Rows L2
variable [Wsh]
theorem Rst0.extra {K : PySem.W.Frag} {F H : Hp} {M : Sto} {p : Addr} (r : Rst0 K F H M) {o : HO} (h : H p = none) : Stp F H M F (upd H p o) M ∧ Rst0 K F (upd H p o) M := by
  refine ⟨⟨Ext.refl F, fun b u e n => ⟨by rw [upd_ne (ne_of_none e h)]; exact e, n, fun z => z⟩, upd_al⟩, fun b u e => ?_, fun b u e => ?_⟩
  · have := r.sub b u e
    rw [upd_ne (ne_of_none this h)]; exact this
  · obtain ⟨h1, ho, h2, h3⟩ := r.sto b u e
    exact ⟨h1, ho, by rw [upd_ne (ne_of_none h2 h)]; exact h2, h3⟩
def pyD (d : D) : PyData := (toPy d).getD .none
/-- things that a set can have and sorted can sort -/
structure SetOk (xs : List D) : Prop where
  few : xs.length < 64
  key : ∀ d ∈ xs, ∃ k, nkD d = some k ∧ k.depth ≤ 8
  al : ∀ d ∈ xs, ∀ e ∈ xs, PySem.W.alike (pyD d) (pyD e) = true
  tup : ∀ d ∈ xs, ∃ x r, d = .tup (x :: r)
abbrev leD (x y : D) : Bool := PySem.W.dataLe false pyD x y
/-- ys: the things of xs, each once, ascending -/
structure SortedSet (xs ys : List D) : Prop where
  mem : ∀ y, y ∈ ys ↔ y ∈ xs
  nd : ys.Nodup
  le : ys.Pairwise fun x y => leD x y = true
def dSortSet (t : DTE) : DTE := fun τ M Q => t τ M fun x M1 => match lstOf x M1 with
  | some xs => SetOk xs ∧ ∀ ys, SortedSet xs ys → Q (.lst ys) M1
  | none => False
theorem refs_of {K : PySem.W.Frag} {F : Hp} : ∀ {vs : List V} {ds : List D}, RelDs K F vs ds → (∀ d ∈ ds, ∃ x r, d = .tup (x :: r)) → ∃ as : List Addr, vs = as.map V.ref
  | _, _, .nil, _ => ⟨[], rfl⟩
  | _, _, .cons (d := d) h r, t => by
    obtain ⟨as, e⟩ := refs_of r fun d hd => t d (by simp [hd])
    obtain ⟨x, y, z⟩ := t d (by simp)
    subst z
    cases h with
    | tup _ _ => exact ⟨_ :: as, by rw [List.map_cons, e]⟩
theorem trees_of {K : PySem.W.Frag} {F : Hp} {κ : Addr → NestedKey} {ds : List D} : ∀ {L : List Addr}, (∀ a ∈ L, ∃ d ∈ ds, RelD K F (.ref a) d ∧ nkD d = some (κ a)) → ∃ ys, RelDs K F (L.map V.ref) ys ∧ (∀ y ∈ ys, y ∈ ds) ∧ ys.map nkD = L.map fun a => some (κ a)
  | [], _ => ⟨[], .nil, by simp, rfl⟩
  | a :: L, h => by
    obtain ⟨ys, r, m, e⟩ := trees_of (L := L) fun b hb => h b (by simp [hb])
    obtain ⟨d, hd, rd, hk⟩ := h a (by simp)
    refine ⟨d :: ys, .cons rd r, fun y hy => ?_, by rw [List.map_cons, List.map_cons, e, hk]⟩
    rcases List.mem_cons.mp hy with rfl | hy
    · exact hd
    · exact m y hy
theorem dataLe_map {α β : Type} (f : α → β) (g : β → PyData) (x y : α) : PySem.W.dataLe false (fun a => g (f a)) x y = PySem.W.dataLe false g (f x) (f y) := rfl
section
variable {X : Cx} {e : Expr} {t : DTE}
theorem de_sortSet {p1 p2 q1 q2 : Pos} (hc : X.calm = true) (hu : X.A.units + 11 < cLine) (he : DE X e t) (m1 : X.mg "sorted" = none) (m2 : X.mg "set" = none)
    (v1 : bootBuiltins "sorted" = some (.builtin "sorted") := by decide +kernel) (v2 : bootBuiltins "set" = some (.type "set") := by decide +kernel) (g1 : Gl X "sorted" := by rfl) (g2 : Gl X "set" := by rfl)
    (s1 : starEach [e] X.env = (false, eval e X.env) :: starEach [] X.env := by rfl) (s2 : (backTo q2 (starEach [] X.env)).any (·.1) = false := by rfl)
    (s3 : starEach [.Call (.Name "set" p2) [e] [] q2] X.env = (false, eval (.Call (.Name "set" p2) [e] [] q2) X.env) :: starEach [] X.env := by rfl) (s4 : (backTo q1 (starEach [] X.env)).any (·.1) = false := by rfl) :
    DE X (.Call (.Name "sorted" p1) [.Call (.Name "set" p2) [e] [] q2] [] q1) (dSortSet t) := by
  obtain ⟨u, pu, ru⟩ := he.ex
  refine ⟨_, pe_callB (cr_sortN hc hu) g1 m1 v1 (pa_cons (pe_callTy (cr_setN hc hu) g2 m2 v2 (pa_cons pu pa_nil s1) (by decide) (by decide) s1 s2) pa_nil s3) (by decide) (by decide) s3 s4, fun F H σ τ M Qd Q R q k => ?_⟩
  refine ru F H σ τ M _ _ R q fun v F1 H1 d M1 e1 R1 r1 q1 => ?_
  split at q1
  · rename_i xs hx
    obtain ⟨ok, q1⟩ := q1
    obtain ⟨a, vs, rfl, hs, rs⟩ := lst_ok R1.heap r1 hx
    obtain ⟨as, rfl⟩ := refs_of rs ok.tup
    refine ⟨F1, a, as, xs, R1.heap.sub, rfl, SqL.of hs, rs, ok.key, by have := rs.length; simp at this; have := ok.few; omega, fun p L κ hp sub all nd fewL kk => ?_⟩
    obtain ⟨e2, R2⟩ := R1.heap.extra (o := SetNO X.w κ p L) hp
    have tr : ∀ a ∈ as, ∃ d ∈ xs, RelD X.K F1 (.ref a) d ∧ nkD d = some (κ a) := fun a ha => by
      obtain ⟨d, hd, rd⟩ := rs.at_mem (.ref a) (List.mem_map.mpr ⟨a, ha, rfl⟩)
      exact ⟨d, hd, rd, kk a d rd ha hd⟩
    have py : ∀ a ∈ as, ∃ d ∈ xs, pyD d = (κ a).data := fun a ha => by
      obtain ⟨d, hd, _, hk⟩ := tr a ha
      exact ⟨d, hd, by unfold pyD; rw [(nk_py hk).1]; rfl⟩
    refine ⟨F1, p, L, κ, R2.sub, rfl, upd_same, fun b hb => ?_, fun b hb c hc' => ?_, fun b hb => ?_, fun L' p2 pm pw hp2 => ?_⟩
    · obtain ⟨d, hd, rd, hk⟩ := tr b (sub b hb)
      obtain ⟨k', h1, h2⟩ := ok.key d hd
      rw [hk] at h1; cases h1
      exact ⟨d, rd, hk, h2⟩
    · obtain ⟨d, hd, hk⟩ := py b (sub b hb)
      obtain ⟨d', hd', hk'⟩ := py c (sub c hc')
      rw [← hk, ← hk']
      exact ok.al d hd d' hd'
    · obtain ⟨d, hd, _, hk⟩ := tr b (sub b hb)
      obtain ⟨x, r, rfl⟩ := ok.tup d hd
      obtain ⟨ks, h1, h2⟩ := nkD_tup hk
      obtain ⟨k1, l, _, _, rfl⟩ := nkDs_cons h1
      rw [h2]
      exact ⟨k1.data, NestedKey.datas l, by simp [NestedKey.data, NestedKey.datas]⟩
    · obtain ⟨e3, R3⟩ := R2.frozen (o := .lst (L'.map V.ref)) hp2
      obtain ⟨ys, y1, y2, y3⟩ := trees_of (K := X.K) (F := F1) (κ := κ) (ds := xs) (L := L') fun a ha => tr a (sub a (pm.mem_iff.mp ha))
      refine k (.ref p2) _ _ (.lst ys) M1 ((e1.trans e2).trans e3) (R1.mono e3.ext R3) (.lst upd_same (y1.mono e3.ext)) (q1 ys ⟨fun y => ⟨y2 y, fun hy => ?_⟩, ?_, ?_⟩)
      · -- every thing came in
        obtain ⟨i, hi⟩ := List.getElem?_of_mem hy
        obtain ⟨v, hv, rv⟩ := rs.get hi
        rw [List.getElem?_map] at hv
        cases ha : as[i]? with
        | none => rw [ha] at hv; cases hv
        | some b =>
          rw [ha] at hv; cases hv
          have bm := List.mem_of_getElem? ha
          have hk := kk b y rv bm hy
          have : κ b ∈ L'.map κ := (pm.map κ).mem_iff.mpr (all b bm)
          obtain ⟨c, hc', ec⟩ := List.mem_map.mp this
          have : some (κ c) ∈ ys.map nkD := by rw [y3]; exact List.mem_map.mpr ⟨c, hc', rfl⟩
          obtain ⟨z, hz, ez⟩ := List.mem_map.mp this
          rw [ec] at ez
          rw [nkD_inj hk ez]; exact hz
      · have n1 : (ys.map nkD).Nodup := by
          rw [y3]
          have : (L'.map κ).Nodup := (pm.map κ).nodup_iff.mpr nd
          rw [List.nodup_iff_pairwise_ne, List.pairwise_map] at this ⊢
          exact this.imp fun h z => h (Option.some.inj z)
        exact List.Pairwise.of_map nkD (fun _ _ hne z => hne (congrArg nkD z)) n1
      · have pys : ys.map pyD = L'.map fun a => (κ a).data := by
          have h1 : ∀ y ∈ ys, ∃ k, nkD y = some k := fun y hy => by
            obtain ⟨k, h, _⟩ := ok.key y (y2 y hy)
            exact ⟨k, h⟩
          have h2 : ys.map pyD = (ys.map nkD).map fun o => (o.map NestedKey.data).getD .none := by
            rw [List.map_map]
            apply List.map_congr_left
            intro y hy
            obtain ⟨k, h⟩ := h1 y hy
            simp only [Function.comp_apply, h, Option.map_some, Option.getD_some]
            unfold pyD
            rw [(nk_py h).1]; rfl
          rw [h2, y3, List.map_map]; rfl
        have a1 : (L'.map fun a => (κ a).data).Pairwise fun x y => PySem.W.dataLe false id x y = true := by
          rw [List.pairwise_map]
          exact pw
        rw [← pys, List.pairwise_map] at a1
        exact a1
  · exact q1.elim
end
end DL

/-! SE: a comprehension with two fors; a comprehension within another one. -/
namespace DL
open PySem PySem.Spec PyProof.Rows L2
variable [Wsh]
def compD2 (g : DTG) (tt : DTT) (it1 : DTI) (g1 : DTG) (tt1 : DTT) (te : DTE) (vs1 : List Nat) (τ : DSt) (Q : List D → Sto → Prop) : List D → List D → Sto → Prop
  | [], acc, M => Q acc M
  | d :: ds, acc, M => g d τ M fun τ2 M2 => tt τ2 M2 fun b M3 => if b = true then it1 τ2 M3 fun ds1 M4 => compD g1 tt1 te (dwipe τ2 vs1) (fun acc1 M5 => compD2 g tt it1 g1 tt1 te vs1 τ Q ds acc1 M5) ds1 acc M4 else compD2 g tt it1 g1 tt1 te vs1 τ Q ds acc M3
@[simp] def dLc2 (it : DTI) (g : DTG) (tt : DTT) (it1 : DTI) (g1 : DTG) (tt1 : DTT) (te : DTE) (vs vs1 : List Nat) : DTE := fun τ M Q => it τ M fun ds M1 => compD2 g tt it1 g1 tt1 te vs1 (dwipe τ vs) (fun acc M2 => Q (.lst acc) M2) ds [] M1
theorem lc2_coreD {K : PySem.W.Frag} {wi wi1 : TI} {it it1 : DTI} {tg tg1 : TG} {g g1 : DTG} {tt tt1 : TT} {dt dt1 : DTT} {te : TE} {de : DTE} {vs vs1 : List Nat} (hi : RefI K wi it) (hg : RefG K tg g) (ho : OwnAny tg vs) (ht : RefT K tt dt)
    (hi1 : RefI K wi1 it1) (hg1 : RefG K tg1 g1) (ho1 : OwnAny tg1 vs1) (ht1 : RefT K tt1 dt1) (he : RefE K te de)
    {F H : Hp} {σ : L2.St} {τ : DSt} {M : Sto} {Qc : List D → Sto → Prop} {Q : VK} (R : Rst K F H σ τ M) (q : it τ M fun ds M1 => compD2 g dt it1 g1 dt1 de vs1 (dwipe τ vs) Qc ds [] M1)
    (k : ∀ p F' H' M' xs acc, Stp F H M F' H' M' → Rst K F' H' σ τ M' → H p = none → M' p = none → F' p = none → H' p = some (.lst xs) → RelDs K F' xs acc → Qc acc M' → Q (.ref p) H') : tLc2 wi tg tt wi1 tg1 tt1 te vs vs1 σ H Q := by
  refine hi F H σ τ M _ _ R q fun J F1 H1 ds M1 e1 R1 hJ q1 p hp => ?_
  have hp0 : H p = none := e1.al p hp
  obtain ⟨hf1, hm1⟩ := R1.heap.free hp
  refine ⟨fun i m H' => m = ds.length - i ∧ i ≤ ds.length ∧ ∃ F' M' xs acc, Stp F H M F' H' M' ∧ Ext F1 F' ∧ Rst K F' H' σ τ M' ∧ M' p = none ∧ F' p = none ∧ H' p = some (.lst xs) ∧ RelDs K F' xs acc ∧ compD2 g dt it1 g1 dt1 de vs1 (dwipe τ vs) Qc (ds.drop i) acc M',
    ⟨ds.length, by simp, Nat.zero_le _, F1, M1, [], [], e1.side hp0 _, Ext.refl _, ⟨R1.heap.side hm1 hf1 _, R1.slots⟩, hm1, hf1, upd_same, .nil, by simpa using q1⟩, ?_⟩
  rintro i m H2 ⟨rfl, hil, F2, M2, xs, acc, s2, x2, R2, m2, f2, h2, rl2, q2⟩
  by_cases hlt : i < ds.length
  · obtain ⟨d, hd⟩ : ∃ d, ds[i]? = some d := ⟨ds[i], List.getElem?_eq_getElem hlt⟩
    rw [drop_cons hd] at q2
    refine .inr ⟨hJ.go i F2 H2 M2 hlt x2 R2.heap, fun H' => ∃ F' M' xs acc, Stp F H M F' H' M' ∧ Ext F1 F' ∧ Rst K F' H' σ τ M' ∧ M' p = none ∧ F' p = none ∧ H' p = some (.lst xs) ∧ RelDs K F' xs acc ∧ compD2 g dt it1 g1 dt1 de vs1 (dwipe τ vs) Qc (ds.drop (i + 1)) acc M', fun H' z => ⟨ds.length - (i + 1), by omega, rfl, hlt, z⟩, fun x H' y => ?_⟩
    obtain ⟨F3, e3, R3, r3⟩ := hJ.yld i F2 H2 M2 d x H' hd x2 R2.heap y
    have sl3 : RelSl K F3 (wipe σ vs) (dwipe τ vs) := (R2.slots.mono e3.ext).wipe vs
    refine ho.own _ _ _ _ (hg F3 H' (wipe σ vs) (dwipe τ vs) M2 x d _ _ ⟨R3, sl3⟩ r3 q2 fun F4 H4 σ4 τ4 M4 e4 R4 q4 => ?_)
    refine ht F4 H4 σ4 τ4 M4 _ _ R4 q4 fun b F5 H5 M5 e5 R5 q5 => ?_
    have s5 : Stp F2 H2 M2 F5 H5 M5 := (e3.trans e4).trans e5
    cases b with
    | false =>
      obtain ⟨h5, m5, f5⟩ := s5.kp p _ h2 m2
      exact iteF ⟨F5, M5, xs, acc, s2.trans s5, x2.trans s5.ext, ⟨R5.heap, R2.slots.mono s5.ext⟩, m5, f5 f2, h5, rl2.mono s5.ext, q5⟩
    | true =>
      refine iteT (hi1 F5 H5 σ4 τ4 M5 _ _ R5 q5 fun J1 F6 H6 ds1 M6 e6 R6 hJ1 q6 => ?_)
      have s6 := s5.trans e6
      obtain ⟨h6, m6, f6⟩ := s6.kp p _ h2 m2
      refine ⟨fun j k' H' => k' = ds1.length - j ∧ j ≤ ds1.length ∧ ∃ F' M' xs acc, Stp F H M F' H' M' ∧ Ext F1 F' ∧ Ext F6 F' ∧ Rst K F' H' σ4 τ4 M' ∧ RelSl K F' σ τ ∧ M' p = none ∧ F' p = none ∧ H' p = some (.lst xs) ∧ RelDs K F' xs acc ∧ compD g1 dt1 de (dwipe τ4 vs1) (fun acc1 M5 => compD2 g dt it1 g1 dt1 de vs1 (dwipe τ vs) Qc (ds.drop (i + 1)) acc1 M5) (ds1.drop j) acc M',
        ⟨ds1.length, by simp, Nat.zero_le _, F6, M6, xs, acc, s2.trans s6, x2.trans s6.ext, Ext.refl _, R6, R2.slots.mono s6.ext, m6, f6 f2, h6, rl2.mono s6.ext, by simpa using q6⟩, ?_⟩
      rintro j k' H7 ⟨rfl, hjl, F7, M7, xs7, acc7, s7, x7, y7, R7, sl7, m7, f7, h7, rl7, q7⟩
      by_cases hlt1 : j < ds1.length
      · obtain ⟨d1, hd1⟩ : ∃ d, ds1[j]? = some d := ⟨ds1[j], List.getElem?_eq_getElem hlt1⟩
        rw [drop_cons hd1] at q7
        refine .inr ⟨hJ1.go j F7 H7 M7 hlt1 y7 R7.heap, fun H' => ∃ F' M' xs acc, Stp F H M F' H' M' ∧ Ext F1 F' ∧ Ext F6 F' ∧ Rst K F' H' σ4 τ4 M' ∧ RelSl K F' σ τ ∧ M' p = none ∧ F' p = none ∧ H' p = some (.lst xs) ∧ RelDs K F' xs acc ∧ compD g1 dt1 de (dwipe τ4 vs1) (fun acc1 M5 => compD2 g dt it1 g1 dt1 de vs1 (dwipe τ vs) Qc (ds.drop (i + 1)) acc1 M5) (ds1.drop (j + 1)) acc M',
          fun H' z => ⟨ds1.length - (j + 1), by omega, rfl, hlt1, z⟩, fun x H' y => ?_⟩
        obtain ⟨F8, e8, R8, r8⟩ := hJ1.yld j F7 H7 M7 d1 x H' hd1 y7 R7.heap y
        have sl8 : RelSl K F8 (wipe σ4 vs1) (dwipe τ4 vs1) := (R7.slots.mono e8.ext).wipe vs1
        refine ho1.own _ _ _ _ (hg1 F8 H' (wipe σ4 vs1) (dwipe τ4 vs1) M7 x d1 _ _ ⟨R8, sl8⟩ r8 q7 fun F9 H9 σ9 τ9 M9 e9 R9 q9 => ?_)
        refine ht1 F9 H9 σ9 τ9 M9 _ _ R9 q9 fun b Fa Ha Ma ea Ra qa => ?_
        have sa : Stp F7 H7 M7 Fa Ha Ma := (e8.trans e9).trans ea
        cases b with
        | false =>
          obtain ⟨ha, ma, fa⟩ := sa.kp p _ h7 m7
          exact iteF ⟨Fa, Ma, xs7, acc7, s7.trans sa, x7.trans sa.ext, y7.trans sa.ext, ⟨Ra.heap, R7.slots.mono sa.ext⟩, sl7.mono sa.ext, ma, fa f7, ha, rl7.mono sa.ext, qa⟩
        | true =>
          refine iteT (he Fa Ha σ9 τ9 Ma _ _ Ra qa fun y Fb Hb dy Mb eb Rb rb qb => ?_)
          have sb := sa.trans eb
          obtain ⟨hb, mb, fb⟩ := sb.kp p _ h7 m7
          exact ⟨xs7, hb, by rw [rl7.length]; exact qb.1, Fb, Mb, xs7 ++ [y], acc7 ++ [dy], (s7.trans sb).side hp0 _, x7.trans sb.ext, y7.trans sb.ext, ⟨Rb.heap.side mb (fb f7) _, R7.slots.mono sb.ext⟩, sl7.mono sb.ext, mb, fb f7, upd_same, (rl7.mono sb.ext).append (.cons rb .nil), qb.2⟩
      · have e : j = ds1.length := by omega
        subst e
        rw [List.drop_length] at q7
        exact .inl ⟨hJ1.stop F7 H7 M7 y7 R7.heap, F7, M7, xs7, acc7, s7, x7, ⟨R7.heap, sl7⟩, m7, f7, h7, rl7, q7⟩
  · have e : i = ds.length := by omega
    subst e
    rw [List.drop_length] at q2
    exact .inl ⟨hJ.stop F2 H2 M2 x2 R2.heap, k p F2 H2 M2 xs acc s2 R2 hp0 m2 f2 h2 rl2 q2⟩
theorem refLc2 {K : PySem.W.Frag} {wi wi1 : TI} {it it1 : DTI} {tg tg1 : TG} {g g1 : DTG} {tt tt1 : TT} {dt dt1 : DTT} {te : TE} {de : DTE} {vs vs1 : List Nat} (hi : RefI K wi it) (hg : RefG K tg g) (ho : OwnAny tg vs) (ht : RefT K tt dt)
    (hi1 : RefI K wi1 it1) (hg1 : RefG K tg1 g1) (ho1 : OwnAny tg1 vs1) (ht1 : RefT K tt1 dt1) (he : RefE K te de) :
    RefE K (tLc2 wi tg tt wi1 tg1 tt1 te vs vs1) (dLc2 it g dt it1 g1 dt1 de vs vs1) := fun F H σ τ M Qd Q R q k =>
  lc2_coreD hi hg ho ht hi1 hg1 ho1 ht1 he R q fun p F' H' M' xs acc s' R' h0 m' f' h' rl q' => by
    obtain ⟨e, s2, R2⟩ := R'.heap.adopt s' h' m' f' h0
    exact k (.ref p) _ H' (.lst acc) M' s2 (R'.mono e R2) (.lst upd_same (rl.mono e)) q'
section
variable {X : Cx} {elt tg iter tg1 iter1 : Expr} {ifs ifs1 : List Expr} {scope : Scope} {own own1 : List (Str × Nat)} {pos spos : Pos} {it it1 : DTI} {g g1 : DTG} {tt tt1 : DTT} {te : DTE} {i : Nat} {y : Str} {py : Pos}
theorem uni_i {t : DTI} (h : ∀ (s : Shared) (H : Hp) (C : Addr) (cl : List (Str × Addr)) (fp : List Addr), DI (X.blk s H scope (compEnvC scope cl C X.env) fp) tg1 iter1 t) :
    ∃ te, (∀ (s : Shared) (H : Hp) (C : Addr) (cl : List (Str × Addr)) (fp : List Addr), PI (X.blk s H scope (compEnvC scope cl C X.env) fp) tg1 iter1 te) ∧ RefI X.K te t := by
  refine ⟨fun σ Hh Q => ∀ (s : Shared) (H : Hp) (C : Addr) (cl : List (Str × Addr)) (fp : List Addr) (te : TI), PI (X.blk s H scope (compEnvC scope cl C X.env) fp) tg1 iter1 te → RefI X.K te t → te σ Hh Q, fun s H C cl fp => ?_, fun F H σ τ M Qd Q R q k => ?_⟩
  · obtain ⟨te, p, r⟩ := (h s H C cl fp).ex
    exact ⟨fun pins s' σ H' Q I q => p.run pins s' σ H' Q I (q s H C cl fp te p r)⟩
  · intro s H' C cl fp te p r
    exact r F H σ τ M Qd Q R q k
theorem de_lc2 (hc : X.calm = true) (hN : X.N.Nodup) (hi : DI X tg iter it) (ok : BlkOk X.N X.env.scope scope own) (hv : ∀ i ∈ own1.map (·.2), i ∈ own.map (·.2)) (hg : DGC X scope tg (own.map (·.2)) g)
    (ht : ∀ (s : Shared) (H : Hp) (C : Addr) (cl : List (Str × Addr)) (fp : List Addr), DTs (X.blk s H scope (compEnvC scope cl C X.env) fp) ifs tt)
    (hi1 : ∀ (s : Shared) (H : Hp) (C : Addr) (cl : List (Str × Addr)) (fp : List Addr), DI (X.blk s H scope (compEnvC scope cl C X.env) fp) tg1 iter1 it1) (hg1 : DGC X scope tg1 (own1.map (·.2)) g1)
    (ht1 : ∀ (s : Shared) (H : Hp) (C : Addr) (cl : List (Str × Addr)) (fp : List Addr), DTs (X.blk s H scope (compEnvC scope cl C X.env) fp) ifs1 tt1) (he : ∀ (s : Shared) (H : Hp) (C : Addr) (cl : List (Str × Addr)) (fp : List Addr), DE (X.blk s H scope (compEnvC scope cl C X.env) fp) elt te)
    (hs : ∀ x, foldedSetIterable iter X.env x = pure x := by intro _; rfl) (hs1 : ∀ env x, foldedSetIterable iter1 env x = pure x := by intro _ _; rfl) : DE X (.ListComp elt [⟨tg, iter, ifs, 0⟩, ⟨tg1, iter1, ifs1, 0⟩] scope pos) (dLc2 it g tt it1 g1 tt1 te (own.map (·.2)) (own1.map (·.2))) := by
  obtain ⟨wi, pi, ri⟩ := hi.ex
  obtain ⟨gg, pg, rg, og, mg⟩ := hg.ex
  obtain ⟨wi1, pi1, ri1⟩ := uni_i hi1
  obtain ⟨gg1, pg1, rg1, og1, mg1⟩ := hg1.ex
  obtain ⟨ee, pe, re⟩ := uni_e he
  obtain ⟨t', pt, rt⟩ := uni_t ht
  obtain ⟨t1', pt1, rt1⟩ := uni_t ht1
  exact ⟨_, pe_lc2 hc hN pi ok hv pg pt pi1 pg1 pt1 pe hs hs1, refLc2 ri rg og rt ri1 rg1 og1 rt1 re⟩
end
/-- the names of a block as they stand within another block -/
theorem blkOk_in {X : Cx} {s : Shared} {H : Hp} {C : Addr} {cl : List (Str × Addr)} {fp : List Addr} {N : List Str} {sc scope1 scope : Scope} {own : List (Str × Nat)} (hs : X.env.scope = sc) (hN : X.N = N) (h : blkC N (relS scope1 sc) scope own = true) :
    BlkOk (X.blk s H scope1 (compEnvC scope1 cl C X.env) fp).N (X.blk s H scope1 (compEnvC scope1 cl C X.env) fp).env.scope scope own := by
  subst hs hN
  exact blkOk_by h
end DL

/-! SF: sorted(xs) of a list of tuples, nested ones too. -/
namespace DL
open PySem PySem.Spec PyProof.Rows L2
variable [Wsh]
/-- things that sorted can sort -/
structure SortOk (xs : List D) : Prop where
  few : xs.length ≤ 100000
  key : ∀ d ∈ xs, ∃ k, nkD d = some k ∧ k.depth ≤ 8
  al : ∀ d ∈ xs, ∀ e ∈ xs, PySem.W.alike (pyD d) (pyD e) = true
  tup : ∀ d ∈ xs, ∃ x r, d = .tup (x :: r)
def rSortT (K : PySem.W.Frag) : List V → Hp → VK → Prop := fun vs H Q => ∃ (F : Hp) (l : Addr) (as : List Addr) (ds : List D), Ext F H ∧ vs = [V.ref l] ∧ SqL K H l (as.map V.ref) ∧ RelDs K F (as.map V.ref) ds ∧ SortOk ds ∧
  ∀ (bs : List (Addr × D)) (p : Addr), (bs.map (·.2)).Perm ds → (∀ q ∈ bs, RelD K F (.ref q.1) q.2) → bs.Pairwise (fun q r => leD q.2 r.2 = true) → H p = none → Q (.ref p) (upd H p (.lst (bs.map fun q => V.ref q.1)))
section
variable {X : Cx}
theorem zip_rel {K : PySem.W.Frag} {F : Hp} : ∀ {as : List Addr} {ds : List D}, RelDs K F (as.map V.ref) ds → (∀ q ∈ as.zip ds, RelD K F (.ref q.1) q.2) ∧ (as.zip ds).map (·.2) = ds ∧ (as.zip ds).map (·.1) = as
  | [], _, .nil => ⟨by simp, rfl, rfl⟩
  | a :: as, _, .cons (d := d) (ds := ds) h r => by
    obtain ⟨h1, h2, h3⟩ := zip_rel (as := as) r
    refine ⟨fun q hq => ?_, by rw [List.zip_cons_cons, List.map_cons, h2], by rw [List.zip_cons_cons, List.map_cons, h3]⟩
    rw [List.zip_cons_cons] at hq
    rcases List.mem_cons.mp hq with rfl | hq
    · exact h
    · exact h1 q hq
theorem rel_zip {K : PySem.W.Frag} {F : Hp} : ∀ {bs : List (Addr × D)}, (∀ q ∈ bs, RelD K F (.ref q.1) q.2) → RelDs K F (bs.map fun q => V.ref q.1) (bs.map (·.2))
  | [], _ => .nil
  | b :: bs, h => .cons (h b (by simp)) (rel_zip fun q hq => h q (by simp [hq]))
theorem cr_sortT (hc : X.calm = true) (hu : X.A.units + 11 < cLine) : CallR X (.builtin "sorted") (rSortT X.K) := by
  intro pins s σ H vs us Q I r h
  obtain ⟨F, l, as, ds, ex, rfl, hl, hr, ok, q⟩ := h
  rw [Vals.ref1 r]
  obtain ⟨its, rv, pl, hz⟩ := I.list hl
  obtain ⟨z1, z2, z3⟩ := zip_rel hr
  have ei : its = as.map Value.ref := refs_vals rv
  have key : ∀ b ∈ as.zip ds, ∃ k, nkD b.2 = some k ∧ k.depth ≤ 8 ∧ Reads s.heap (.ref b.1) (pyD b.2) [] ∧ (pyD b.2).depth = k.depth := fun b hb => by
    have hd : b.2 ∈ ds := by rw [← z2]; exact List.mem_map.mpr ⟨b, hb, rfl⟩
    obtain ⟨k, h1, h2⟩ := ok.key _ hd
    obtain ⟨y1, y2, y3⟩ := nk_py h1
    have e : pyD b.2 = k.data := by unfold pyD; rw [y1]; rfl
    exact ⟨k, h1, h2, by rw [e]; exact nk_reads I ex b.2 k _ (.ref b.1) h1 (z1 b hb) rfl, by rw [e]; exact y3⟩
  have ee : ∀ l : List (Addr × D), PySem.W.EachIs (fun v (b : Addr × D) => v = Value.ref b.1) (l.map fun b => Value.ref b.1) l := by
    intro l
    induction l with
    | nil => exact .nil
    | cons a l ih => exact .cons rfl ih
  have er : ∀ l : List (Addr × D), (∀ b ∈ l, b ∈ as.zip ds) → PySem.W.EachIs (fun v (b : Addr × D) => ∃ as, Reads s.heap v (pyD b.2) as) (l.map fun b => Value.ref b.1) l := by
    intro l
    induction l with
    | nil => intro _; exact .nil
    | cons a l ih => intro hl; exact .cons ⟨[], (key a (hl a (by simp))).choose_spec.2.2.1⟩ (ih fun b hb => hl b (by simp [hb]))
  have ev : as.map Value.ref = (as.zip ds).map fun b => Value.ref b.1 := by
    have e3 := congrArg (List.map Value.ref) z3
    rw [List.map_map] at e3
    exact e3.symm
  have hL : s.heap.IsList l (((as.zip ds).map fun b => Value.ref b.1).toArray) := by
    rw [← ev, ← ei]; exact pl.isList
  have mem : ∀ b ∈ as.zip ds, b.2 ∈ ds := fun b hb => by rw [← z2]; exact List.mem_map.mpr ⟨b, hb, rfl⟩
  have hlen : (as.zip ds).length = ds.length := by have := congrArg List.length z2; simpa using this
  refine PySem.W.sorted_data (R := fun v (b : Addr × D) => v = Value.ref b.1) (enc := fun b => pyD b.2) (bs := as.zip ds) hL (ee _) (er _ fun b hb => hb) ?_ ?_ (by rw [hlen, sizeLine_eq]; have := ok.few; omega) ?_ fun out o1 o2 => ?_
  · intro d hd' d' hd2
    obtain ⟨a, ha, rfl⟩ := List.mem_map.mp hd'
    obtain ⟨b, hb, rfl⟩ := List.mem_map.mp hd2
    exact ok.al _ (mem a ha) _ (mem b hb)
  · refine .inl fun d hd' => ?_
    obtain ⟨a, ha, rfl⟩ := List.mem_map.mp hd'
    obtain ⟨x, r, e⟩ := ok.tup _ (mem a ha)
    obtain ⟨k, h1, h2⟩ := ok.key _ (mem a ha)
    rw [e] at h1
    obtain ⟨ks, k1, k2⟩ := nkD_tup h1
    obtain ⟨k3, l, _, _, rfl⟩ := nkDs_cons k1
    refine ⟨k3.data, NestedKey.datas l, ?_⟩
    unfold pyD
    rw [e, (nk_py h1).1, k2]
    simp [NestedKey.data, NestedKey.datas]
  · intro b hb
    obtain ⟨k, _, h2, _, h3⟩ := key b hb
    rw [h3]; omega
  · have e4 : out = ((as.zip ds).mergeSort (PySem.W.dataLe false fun b => pyD b.2)).map fun b => Value.ref b.1 := by
      have : ∀ (o : List Value) (l : List (Addr × D)), PySem.W.EachIs (fun v (b : Addr × D) => v = Value.ref b.1) o l → o = l.map fun b => Value.ref b.1 := by
        intro o l h
        induction h with
        | nil => rfl
        | cons h1 _ ih => rw [h1, ih]; rfl
      exact this _ _ o2
    have pm2 : ((as.zip ds).mergeSort (PySem.W.dataLe false fun b => pyD b.2)).Perm (as.zip ds) := List.mergeSort_perm _ _
    have pw : ((as.zip ds).mergeSort (PySem.W.dataLe false fun b => pyD b.2)).Pairwise fun a b => PySem.W.dataLe false (fun b : Addr × D => pyD b.2) a b = true := PySem.W.sort_pairwise (PySem.W.sortLe_total _ false _) _
    generalize (as.zip ds).mergeSort (PySem.W.dataLe false fun b => pyD b.2) = bs at e4 pm2 pw
    obtain ⟨c, hc'⟩ := PyProof.Rows.sortedAll_at s.heap ((as.zip ds).map fun b => Value.ref b.1) out.toArray
    have hn : H (s.heap.objs.size + 1) = none := I.hok.fresh (Nat.le_succ _)
    have hv : Vals (bs.map fun b => V.ref b.1) out.toArray.toList := by
      have := vals_refs (bs.map (·.1))
      rw [List.map_map, List.map_map] at this
      rw [List.toList_toArray, e4]; exact this
    have hlb : bs.length = ds.length := by rw [pm2.length_eq, hlen]
    refine ⟨.ref (s.heap.objs.size + 1), upd H (s.heap.objs.size + 1) (.lst (bs.map fun b => V.ref b.1)), I.laid (t' := s.toks) (fun _ _ => PyProof.Rows.sortedAll_old) (Nat.le_succ _) ⟨by rw [List.length_map, hlb, sizeLine_eq]; have := ok.few; omega, out.toArray.toList, c, hv, hc'⟩, rfl, q bs _ ?_ (fun b hb => z1 b (pm2.mem_iff.mp hb)) pw hn⟩
    have := pm2.map (·.2)
    rw [z2] at this
    exact this
def gSortT : GC := fun ds M Q => match ds with
  | [x] => (match lstOf x M with
    | some xs => SortOk xs ∧ ∀ ys, ys.Perm xs → (ys.Pairwise fun x y => leD x y = true) → Q (.lst ys) M
    | none => False)
  | _ => False
theorem cd_sortT (hc : X.calm = true) (hu : X.A.units + 11 < cLine) : CallD X (.builtin "sorted") gSortT := fun F H M xs ds Qd Q R r q k => by
  unfold gSortT at q
  split at q
  · cases r with
    | cons r1 r2 =>
      cases r2
      split at q
      · rename_i ys hy
        obtain ⟨ok, q⟩ := q
        obtain ⟨a, vs, rfl, hs, rs⟩ := lst_ok R r1 hy
        obtain ⟨as, rfl⟩ := refs_of rs ok.tup
        refine ⟨_, cr_sortT hc hu, F, a, as, ys, R.sub, rfl, SqL.of hs, rs, ok, fun bs p pm rb pw hp => ?_⟩
        obtain ⟨e2, R2⟩ := R.frozen (o := .lst (bs.map fun q => V.ref q.1)) hp
        refine k (.ref p) _ _ (.lst (bs.map (·.2))) M e2 R2 (.lst upd_same ((rel_zip rb).mono e2.ext)) (q _ pm ?_)
        rw [List.pairwise_map]
        exact pw
      · exact q.elim
  · exact q.elim
end
end DL

/-! SG: printed by mk_sg.py: sorted(set(xs)) of a tuple. -/
namespace DL
open PySem PySem.Spec PyProof.Rows L2
variable [Wsh]
section
variable {P : Program} {w : World} {A : Around} {E : Value → Shared → Prop} {s : Shared} {κ : Addr → NestedKey}
/-- set(xs) of a tuple -/
theorem call_setNT {l : Addr} {items : Array Value} {as : List Addr} {Q : Value → Shared → Prop} (hh : A.handled = none) (hl : s.heap.IsTuple l items) (hit : items.toList = as.map Value.ref) (hk : ∀ a ∈ as, Nk s.heap (κ a) a) (few : as.length < 64) (hu : A.units + 11 < cLine)
    (q : ∀ (h' : Heap) (tk : Nat) L es ep t, SetN w κ h' s.heap.objs.size L es ep t → Met κ as as.length L → (∀ b o, s.heap.get? b = some o → h'.get? b = some o) → Q (.ref s.heap.objs.size) { s with heap := h', toks := tk }) :
    wpAny (model P w) A (call (.type "set") [.ref l]) Q E s := by
  have isz : items.size = as.length := by rw [← Array.length_toList, hit, List.length_map]
  have lS : l < s.heap.objs.size := by obtain ⟨o, ho, _⟩ := hl; exact Heap.lt_size ho
  have fresh : ∀ b, s.heap.objs.size ≤ b → s.heap.get? b = none := fun b hb => by
    cases e : s.heap.get? b with
    | none => rfl
    | some o => exact absurd (Nat.lt_of_lt_of_le (Heap.lt_size e) hb) (Nat.lt_irrefl _)
  obtain ⟨c, tl, hmro⟩ := F.called_set.mro
  have hmade := F.called_set.made
  have hsub := F.called_set.sub
  refine wpAny_call (codeAny_of_tree ?_)
  show wpAny _ _ (callAny (.type "set") _) _ _ _
  refine wpAny_pure ⟨Code.quiet_builtin _ (by decide +kernel), codeAny_builtin F.entry_type_call ?_⟩
  rw [Around.under_plain (weight_type_call_type "set" [.ref l] []) rfl]
  have h1 := F.called_set.notType
  have h2 := F.called_set.canCreate
  have hct := F.typeCall_set_1 (.ref l)
  repeat (any_goals (first | assumption | wp_step))
  refine codeAny_mono (code_set_led1 (.ref l) (E := E) (Q₁ := fun obj s₁ => obj = .ref s.heap.objs.size ∧ s₁ = { s with heap := s.heap.push (noSet w) }) ⟨rfl, rfl⟩) fun r s₁ hr => ?_
  cases r with
  | error e => exact hr
  | ok fl =>
    cases fl with
    | ret obj =>
      obtain ⟨rfl, rfl⟩ := hr
      have gS : (s.heap.push (noSet w)).get? s.heap.objs.size = some (noSet w) := Heap.get?_push_size _ rfl
      have tS : Shared.TypeIs { s with heap := s.heap.push (noSet w) } (.ref s.heap.objs.size) "set" := ⟨_, gS, rfl⟩
      have hli := F.called_set.init.lookup
      have hbi := F.called_set.init.bind (.ref s.heap.objs.size)
      repeat (any_goals (first | assumption | wp_step))
      refine codeAny_mono (codeAny_call_builtin (R := wants (fun r s₂ => r = .none ∧ ∃ h' tk L es ep t, s₂ = { s with heap := h', toks := tk } ∧ SetN w κ h' s.heap.objs.size L es ep t ∧ Met κ as as.length L ∧
          (∀ b o, s.heap.get? b = some o → h'.get? b = some o)) E) F.called_set.init.plain F.entry_set_init (check_set_init_1 tS ?_)) fun r₂ s₂ hr₂ => ?_
      · obtain ⟨ol, hol, hcl, nl, hdl⟩ := hl
        obtain ⟨ocls, odict, odata, oslots⟩ := ol
        simp only at hcl hdl
        subst hcl; subst hdl
        have hol' : (s.heap.push (noSet w)).get? l = some { cls := .type "tuple", dict := odict, data := .seq items nl, slots := oslots } := Heap.get?_push_of_some _ hol
        have hsls := PySem.F.sub_tuple_set
        have hslf := PySem.F.sub_tuple_frozenset
        have hne : (Value.type "tuple" == Value.type "dict") = false := by decide
        have hl1 : (s.heap.push (noSet w)).IsTuple l items := ⟨_, hol', rfl, nl, rfl⟩
        unfold Builtin.«set.__init__» noKeywords Builtin.Frozenset.updateFrom
        generalize hPI : pyIter = PI
        wp_walk
        subst hPI
        refine wpAny_pyIter_tuple hl1 ?_
        refine wpAny_bind (wpAny_runValue ?_)
        have hz1 : (s.heap.push (noSet w)).objs.size = s.heap.objs.size + 1 := Heap.size_push ..
        have W := (Walks.tuple (prog := P) (w := w) (A := A.in1.in1.in1) (by simp [hh]) (s.heap.push (noSet w)).objs.size l (by rw [hz1]; exact Nat.ne_of_lt (Nat.lt_succ_of_lt lS)) items).toS
        rw [isz] at W
        have get : (((s.heap.push (noSet w)).push { cls := .type "tuple_iterator", data := .fields #[.ref l, .int 0 0] })).get? s.heap.objs.size = some (noSet w) := Heap.get?_push_of_some _ gS
        refine update_loop (κ := κ) (as := as) W (S := s.heap.objs.size) (by rw [hz1]; simp only [List.mem_cons, List.not_mem_nil, or_false, not_or]; exact ⟨Nat.ne_of_lt (Nat.lt_succ_self _), Nat.ne_of_gt lS⟩) few (fun i v hv => ?_) s.heap hk (fresh _ (Nat.le_refl _)) (fun b hb => fresh b (by
            rw [List.mem_singleton.mp hb, hz1]
            exact Nat.le_succ _)) (show A.units + 3 + 8 < cLine by omega) as.length 0 _ (by omega) ⟨⟨_, Heap.get?_push_size _ rfl, rfl, rfl⟩, (hl1.push _)⟩ (fun b o e => Heap.get?_push_of_some _ (Heap.get?_push_of_some _ e))
          ⟨[], #[], 0, _, set_empty get, ⟨fun _ h => (by cases h), fun _ h => (by simp at h), Nat.le_refl _⟩⟩ ?_
        · have e : items.toList[i]? = some v := by rw [Array.getElem?_toList]; exact hv
          rw [hit, List.getElem?_map] at e
          cases z : as[i]? with
          | none => rw [z] at e; cases e
          | some a => rw [z] at e; exact ⟨a, rfl, (Option.some.inj e).symm⟩
        · intro s' L es ep t hm hS' g' k
          obtain ⟨h', g2, d', tk', os'⟩ := s'
          have e1 : g2 = s.gens := hm.gens
          have e2 : d' = s.drawn := hm.drawn
          have e3 : os' = s.os := hm.os
          subst e1 e2 e3
          refine wpAny_pure ?_
          show wpAny _ _ (ret Value.none) _ _ _
          exact wpAny_pure ⟨rfl, h', tk', L, es, ep, t, rfl, hS', g', k⟩
      · cases r₂ with
        | error e => exact hr₂
        | ok fl₂ =>
          cases fl₂ with
          | ret r =>
            obtain ⟨rfl, h', tk, L, es, ep, t, rfl, hS', g', k⟩ := hr₂
            repeat (any_goals (first | assumption | wp_step))
            exact q _ _ _ _ _ _ hS' g' k
          | _ => exact hr₂.elim
    | _ => exact hr.elim
end
section
variable {X : Cx}
theorem tup_ok {K : PySem.W.Frag} {F H : Hp} {M : Sto} {v : V} {xs : List D} (R : Rst0 K F H M) (r : RelD K F v (.tup xs)) : ∃ a vs, v = .ref a ∧ SqT K H a vs ∧ RelDs K F vs xs := by
  cases r with
  | tup hs rs => exact ⟨_, _, rfl, R.sub.sqT hs, rs⟩
def rSetNT (K : PySem.W.Frag) (w : World) : List V → Hp → VK → Prop := fun xs H Q => ∃ (F : Hp) (l : Addr) (as : List Addr) (ds : List D), Ext F H ∧ xs = [V.ref l] ∧ SqT K H l (as.map V.ref) ∧ RelDs K F (as.map V.ref) ds ∧ (∀ d ∈ ds, ∃ k, nkD d = some k ∧ k.depth ≤ 8) ∧ as.length < 64 ∧
  ∀ p L κ, H p = none → (∀ a ∈ L, a ∈ as) → (∀ a ∈ as, κ a ∈ L.map κ) → (L.map κ).Nodup → L.length < 64 → (∀ a d, RelD K F (.ref a) d → a ∈ as → d ∈ ds → nkD d = some (κ a)) → Q (.ref p) (upd H p (SetNO w κ p L))
theorem cr_setNT (hc : X.calm = true) (hu : X.A.units + 11 < cLine) : CallR X (.type "set") (rSetNT X.K X.w) := by
  intro pins s σ H xs us Q I r h
  obtain ⟨F, l, as, ds, ex, rfl, hl, hr, hk, few, q⟩ := h
  rw [Vals.ref1 r]
  obtain ⟨its, rv, pl, hz⟩ := I.tuple hl
  have hn : H s.heap.objs.size = none := I.hok.fresh (Nat.le_refl _)
  have key : ∀ a ∈ as, ∀ d ∈ ds, RelD X.K F (.ref a) d → ∃ k, nkD d = some k ∧ Nk s.heap k a := fun a ha d hd rd => by
    obtain ⟨k, h1, h2⟩ := hk d hd
    exact ⟨k, h1, nk_of I ex d k _ (.ref a) h1 rd rfl, h2⟩
  let κ : Addr → NestedKey := fun a => open Classical in if z : ∃ k, Nk s.heap k a then z.choose else .none
  have κe : ∀ a k, Nk s.heap k a → κ a = k := fun a k z => by
    have w : ∃ k, Nk s.heap k a := ⟨k, z⟩
    have : κ a = w.choose := dif_pos w
    rw [this]
    exact NestedIs.inj _ _ _ w.choose_spec.1 z.1
  have κk : ∀ a ∈ as, Nk s.heap (κ a) a := fun a ha => by
    obtain ⟨d, hd, rd⟩ := hr.at_mem (.ref a) (List.mem_map.mpr ⟨a, ha, rfl⟩)
    obtain ⟨k, _, z⟩ := key a ha d hd rd
    rw [κe a k z]; exact z
  refine call_setNT (P := X.prog) (w := X.w) (κ := κ) (as := as) (I.ok.hd hc) pl (by simpa using refs_vals rv) κk few hu fun h' tk L es ep t R g k => ?_
  refine ⟨.ref s.heap.objs.size, upd H s.heap.objs.size (SetNO X.w κ s.heap.objs.size L), I.laid (t' := tk) k (Nat.le_refl _) (setNO_ok R.q), rfl, q _ L κ hn (fun a ha => ?_) (fun a ha => ?_) R.nd R.few fun a d rd ha hd => ?_⟩
  · exact List.mem_of_mem_take (g.sub a ha)
  · exact g.all a (by rw [List.take_length]; exact ha)
  · obtain ⟨k, h1, h2⟩ := key a ha d hd rd
    rw [κe a k h2]; exact h1
end
def dSortSetT (t : DTE) : DTE := fun τ M Q => t τ M fun x M1 => match x with
  | .tup xs => SetOk xs ∧ ∀ ys, SortedSet xs ys → Q (.lst ys) M1
  | _ => False
section
variable {X : Cx} {e : Expr} {t : DTE}
theorem de_sortSetT {p1 p2 q1 q2 : Pos} (hc : X.calm = true) (hu : X.A.units + 11 < cLine) (he : DE X e t) (m1 : X.mg "sorted" = none) (m2 : X.mg "set" = none)
    (v1 : bootBuiltins "sorted" = some (.builtin "sorted") := by decide +kernel) (v2 : bootBuiltins "set" = some (.type "set") := by decide +kernel) (g1 : Gl X "sorted" := by rfl) (g2 : Gl X "set" := by rfl)
    (s1 : starEach [e] X.env = (false, eval e X.env) :: starEach [] X.env := by rfl) (s2 : (backTo q2 (starEach [] X.env)).any (·.1) = false := by rfl)
    (s3 : starEach [.Call (.Name "set" p2) [e] [] q2] X.env = (false, eval (.Call (.Name "set" p2) [e] [] q2) X.env) :: starEach [] X.env := by rfl) (s4 : (backTo q1 (starEach [] X.env)).any (·.1) = false := by rfl) :
    DE X (.Call (.Name "sorted" p1) [.Call (.Name "set" p2) [e] [] q2] [] q1) (dSortSetT t) := by
  obtain ⟨u, pu, ru⟩ := he.ex
  refine ⟨_, pe_callB (cr_sortN hc hu) g1 m1 v1 (pa_cons (pe_callTy (cr_setNT hc hu) g2 m2 v2 (pa_cons pu pa_nil s1) (by decide) (by decide) s1 s2) pa_nil s3) (by decide) (by decide) s3 s4, fun F H σ τ M Qd Q R q k => ?_⟩
  refine ru F H σ τ M _ _ R q fun v F1 H1 d M1 e1 R1 r1 q1 => ?_
  split at q1
  · rename_i xs
    obtain ⟨ok, q1⟩ := q1
    obtain ⟨a, vs, rfl, hs, rs⟩ := tup_ok R1.heap r1
    obtain ⟨as, rfl⟩ := refs_of rs ok.tup
    refine ⟨F1, a, as, xs, R1.heap.sub, rfl, hs, rs, ok.key, by have := rs.length; simp at this; have := ok.few; omega, fun p L κ hp sub all nd fewL kk => ?_⟩
    obtain ⟨e2, R2⟩ := R1.heap.extra (o := SetNO X.w κ p L) hp
    have tr : ∀ a ∈ as, ∃ d ∈ xs, RelD X.K F1 (.ref a) d ∧ nkD d = some (κ a) := fun a ha => by
      obtain ⟨d, hd, rd⟩ := rs.at_mem (.ref a) (List.mem_map.mpr ⟨a, ha, rfl⟩)
      exact ⟨d, hd, rd, kk a d rd ha hd⟩
    have py : ∀ a ∈ as, ∃ d ∈ xs, pyD d = (κ a).data := fun a ha => by
      obtain ⟨d, hd, _, hk⟩ := tr a ha
      exact ⟨d, hd, by unfold pyD; rw [(nk_py hk).1]; rfl⟩
    refine ⟨F1, p, L, κ, R2.sub, rfl, upd_same, fun b hb => ?_, fun b hb c hc' => ?_, fun b hb => ?_, fun L' p2 pm pw hp2 => ?_⟩
    · obtain ⟨d, hd, rd, hk⟩ := tr b (sub b hb)
      obtain ⟨k', h1, h2⟩ := ok.key d hd
      rw [hk] at h1; cases h1
      exact ⟨d, rd, hk, h2⟩
    · obtain ⟨d, hd, hk⟩ := py b (sub b hb)
      obtain ⟨d', hd', hk'⟩ := py c (sub c hc')
      rw [← hk, ← hk']
      exact ok.al d hd d' hd'
    · obtain ⟨d, hd, _, hk⟩ := tr b (sub b hb)
      obtain ⟨x, r, rfl⟩ := ok.tup d hd
      obtain ⟨ks, h1, h2⟩ := nkD_tup hk
      obtain ⟨k1, l, _, _, rfl⟩ := nkDs_cons h1
      rw [h2]
      exact ⟨k1.data, NestedKey.datas l, by simp [NestedKey.data, NestedKey.datas]⟩
    · obtain ⟨e3, R3⟩ := R2.frozen (o := .lst (L'.map V.ref)) hp2
      obtain ⟨ys, y1, y2, y3⟩ := trees_of (K := X.K) (F := F1) (κ := κ) (ds := xs) (L := L') fun a ha => tr a (sub a (pm.mem_iff.mp ha))
      refine k (.ref p2) _ _ (.lst ys) M1 ((e1.trans e2).trans e3) (R1.mono e3.ext R3) (.lst upd_same (y1.mono e3.ext)) (q1 ys ⟨fun y => ⟨y2 y, fun hy => ?_⟩, ?_, ?_⟩)
      · -- every thing came in
        obtain ⟨i, hi⟩ := List.getElem?_of_mem hy
        obtain ⟨v, hv, rv⟩ := rs.get hi
        rw [List.getElem?_map] at hv
        cases ha : as[i]? with
        | none => rw [ha] at hv; cases hv
        | some b =>
          rw [ha] at hv; cases hv
          have bm := List.mem_of_getElem? ha
          have hk := kk b y rv bm hy
          have : κ b ∈ L'.map κ := (pm.map κ).mem_iff.mpr (all b bm)
          obtain ⟨c, hc', ec⟩ := List.mem_map.mp this
          have : some (κ c) ∈ ys.map nkD := by rw [y3]; exact List.mem_map.mpr ⟨c, hc', rfl⟩
          obtain ⟨z, hz, ez⟩ := List.mem_map.mp this
          rw [ec] at ez
          rw [nkD_inj hk ez]; exact hz
      · have n1 : (ys.map nkD).Nodup := by
          rw [y3]
          have : (L'.map κ).Nodup := (pm.map κ).nodup_iff.mpr nd
          rw [List.nodup_iff_pairwise_ne, List.pairwise_map] at this ⊢
          exact this.imp fun h z => h (Option.some.inj z)
        exact List.Pairwise.of_map nkD (fun _ _ hne z => hne (congrArg nkD z)) n1
      · have pys : ys.map pyD = L'.map fun a => (κ a).data := by
          have h1 : ∀ y ∈ ys, ∃ k, nkD y = some k := fun y hy => by
            obtain ⟨k, h, _⟩ := ok.key y (y2 y hy)
            exact ⟨k, h⟩
          have h2 : ys.map pyD = (ys.map nkD).map fun o => (o.map NestedKey.data).getD .none := by
            rw [List.map_map]
            apply List.map_congr_left
            intro y hy
            obtain ⟨k, h⟩ := h1 y hy
            simp only [Function.comp_apply, h, Option.map_some, Option.getD_some]
            unfold pyD
            rw [(nk_py h).1]; rfl
          rw [h2, y3, List.map_map]; rfl
        have a1 : (L'.map fun a => (κ a).data).Pairwise fun x y => PySem.W.dataLe false id x y = true := by
          rw [List.pairwise_map]
          exact pw
        rw [← pys, List.pairwise_map] at a1
        exact a1
  · exact q1.elim
end
end DL

/-! SH: isinstance(x, (A, B)). -/
namespace DL
open PySem PySem.Spec PyProof.Rows L2
variable [Wsh]
def rIsiS (K : PySem.W.Frag) : List V → Hp → VK → Prop := fun xs H Q => ∃ (x : V) (tp : Addr) (cs : List V) (t : Value) (us : List Value) (b : Bool), xs = [x, .ref tp] ∧ SqT K H tp cs ∧ Paired ClsV cs us ∧ TyX K H x t ∧ PySem.W.kitAny K t us = some b ∧ Q (.bl b) H
section
variable {X : Cx}
theorem cr_isiS : CallR X (.builtin "isinstance") (rIsiS X.K) := by
  intro pins s σ H xs us Q I r h
  obtain ⟨x, tp, cs, t, ws, b, rfl, hT, k, ty, e, q⟩ := h
  obtain ⟨u1, u2, rfl, r1, r2⟩ := vals2 r
  cases (show u2 = Value.ref tp from r2)
  obtain ⟨P, Z, p, hx⟩ := kit_of I r1 ty
  obtain ⟨its, rv, ⟨o, h1, h2, n, h3⟩, _⟩ := I.tuple hT
  have e3 := ClsV.all k rv
  subst e3
  obtain ⟨oc, od, dt, sl⟩ := o
  simp only at h2 h3
  subst h2 h3
  exact PySem.W.kia_tup Z I.kIn p h1 e hx fun tk => ⟨.bl b, H, I.tok tk, rfl, q⟩
@[simp] def gIsiT : GC := fun ds M Q => match ds with
  | [x, .tup [.ty n1, .ty n2]] => (match tyName x M with
    | some t => (match kitB t n1, kitB t n2 with
      | some b1, some b2 => Q (.bl (b1 || b2)) M
      | _, _ => False)
    | none => False)
  | _ => False
theorem cd_isiT : CallD X (.builtin "isinstance") gIsiT := fun F H M xs ds Qd Q R r q k => by
  unfold gIsiT at q
  split at q
  · rename_i x n1 n2
    split at q
    · rename_i t ht
      split at q
      · rename_i b1 b2 h1 h2
        cases r with
        | cons r1 r2 => cases r2 with
          | cons r2 r3 =>
            cases r3
            cases r2 with
            | tup hs rs =>
              cases rs with
              | cons ra rs => cases rs with
                | cons rb rs =>
                  cases rs; cases ra; cases rb
                  have e : PySem.W.kitAny X.K (.type t) [.type n1, .type n2] = some (b1 || b2) := by
                    cases b1 with
                    | true => exact kitAny_cons (kit_ty h1) (fun z => by cases z) fun _ => rfl
                    | false =>
                      refine kitAny_cons (kit_ty h1) (fun _ => ?_) fun z => by cases z
                      refine kitAny_cons (kit_ty h2) (fun z => ?_) fun z => ?_
                      · rw [z]; exact kitAny_nil
                      · rw [z]; rfl
                  exact ⟨_, cr_isiS, _, _, _, _, _, (b1 || b2), rfl, R.sub.sqT hs, .cons (.ty n1) (.cons (.ty n2) .nil), tyX_ok R r1 ht, e, k _ F H _ M (Stp.refl F H M) R (.bl _) q⟩
      · exact q.elim
    · exact q.elim
  · exact q.elim
end
end DL

/-! SI: dicts whose keys are tuples of numbers, texts, None and such tuples: {}, len, setdefault. -/
namespace DL
open PySem PySem.Spec PyProof.Rows L2
variable [Wsh]
/-! ### the object -/
theorem ok_ext {P : Program} {w : World} {H : Hp} {h : Heap} {a : Addr} {phi : Heap → Prop} : L2.ObjOk P w H h a (.ext phi) ↔ phi h ∧ (∃ o, h.get? a = some o) ∧ ∀ (h1 h2 : Heap), phi h1 → (∀ (o : Obj), h1.get? a = some o → h2.get? a = some o) → phi h2 := by
  unfold L2.ObjOk
  exact Iff.rfl
theorem nobj_stays {w : World} {a : Addr} {xs : List (NestedKey × Addr × V)} (h1 h2 : Heap) (q : NObj w a xs h1) (g : ∀ (o : Obj), h1.get? a = some o → h2.get? a = some o) : NObj w a xs h2 := by
  obtain ⟨z, n, vs, p, o, es, ep, ho, r⟩ := q
  exact ⟨z, n, vs, p, o, es, ep, g o ho, r⟩
theorem nobj_ok {P : Program} {w w' : World} {H : Hp} {h : Heap} {a : Addr} {xs : List (NestedKey × Addr × V)} (q : NObj w' a xs h) : L2.ObjOk P w H h a (.ext (NObj w' a xs)) := by
  refine ok_ext.mpr ⟨q, ?_, fun h1 h2 => nobj_stays h1 h2⟩
  obtain ⟨z, n, vs, p, o, es, ep, ho, r⟩ := q
  exact ⟨o, ho⟩
/-! ### two arguments by place -/
theorem evalArgs_two {M : Model} {A : Around} {E : Value → Shared → Prop} {s : Shared} {id : String} {a b : Sem Value} {Q : Args → Shared → Prop}
    (h : wpAny M A (spliced [(false, a), (false, b)]) (fun vs s₁ => Q ⟨vs, []⟩ s₁) E s) : wpAny M A (evalArgs (Value.builtin id) true [(false, a), (false, b)] []) Q E s := by
  dsimp only [evalArgs]
  refine wpAny_bind (thn h fun vs s1 q => ?_)
  refine wpAny_bind (wpAny_pure ?_)
  refine wpAny_holding ?_
  refine wp_if_pos (by rfl) ?_
  refine wpAny_bind ?_
  simp only [List.map_nil]
  refine wpAny_evalAll_nil ?_
  refine wpAny_bind (wpAny_pure ?_)
  exact wpAny_pure q
section
variable {X : Cx} {o e f : Expr} {apos cpos pos : Pos}
/-! ### {} -/
def tDNewN (w : World) : TE := fun _ H Q => ∀ p, H p = none → Q (.ref p) (upd H p (.ext (NObj w p [])))
theorem pe_dnewN : PE X (.Dict [] [] pos) (tDNewN X.w) := by
  refine ⟨fun pins s σ H Q I h => ?_⟩
  refine thn ((pe_dnewK (X := X) (pos := pos)).run pins s σ H (fun v H' => ∃ p, v = .ref p ∧ H p = none ∧ H' = upd H p (.dK [])) I fun p hp => ⟨p, rfl, hp, rfl⟩) ?_
  rintro u s1 ⟨v, H1, I1, rv, p, rfl, hp, rfl⟩
  have hk := I1.hok p _ upd_same
  unfold L2.ObjOk at hk
  obtain ⟨_, ns, vs, kv, ob, es, ep, ho, hx, hd, _, pr, _⟩ := hk
  cases kv
  have he : es.toList = [] := by
    generalize es.toList = l at pr
    cases pr; rfl
  have no : NObj X.w p [] s1.heap := ⟨Nat.zero_le _, ns, [], .nil, ob, es, ep, ho, hx, hd, by rw [he]; rfl, List.Pairwise.nil⟩
  have I2 := I1.write (x := p) (e := p) (o := .ext (NObj X.w p [])) (h' := s1.heap) (t' := s1.toks) (by rw [upd_same]; exact True.intro) (.inl rfl) (fun b u _ hu => hu) ⟨ob, ho⟩ (nobj_ok no)
  rw [upd_upd] at I2
  exact ⟨_, _, I2, rv, h p hp⟩
@[simp] def dDictN (w : World) : DTE := fun _ M Q => ∀ p, M p = none → Q (.ref p) (M.upd p (.dctN w p []))
theorem de_dictN : DE X (.Dict [] [] pos) (dDictN X.w) := ⟨_, pe_dnewN, fun F H σ τ M Qd Q R q k p hp => by
  obtain ⟨e2, R2⟩ := R.heap.fresh (o := .ext (NObj X.w p [])) (u := .dctN X.w p []) hp ⟨[], rfl, True.intro⟩
  exact k _ _ _ (.ref p) _ e2 (R.mono e2.ext R2) (.ref p) (q p (R.heap.free hp).2)⟩
/-! ### what stands there -/
/-- the tuple at a is the key k, by what is frozen -/
def KeyAt (K : PySem.W.Frag) (F : Hp) (k : NestedKey) (a : Addr) : Prop := k.depth ≤ 8 ∧ ∃ dk, nkD dk = some k ∧ RelD K F (.ref a) dk
theorem KeyAt.is {pins : List (Addr × Obj)} {σ : L2.St} {F H : Hp} {s : Shared} {k : NestedKey} {a : Addr} (h : KeyAt X.K F k a) (I : Inv X pins σ H s) (e : Ext F H) : (nestedKind X.prog X.w).is s.heap k a := by
  obtain ⟨hd, dk, hk, r⟩ := h
  exact ⟨nk_of I e dk k _ _ hk r rfl, hd⟩
abbrev NEnt := List (NestedKey × Addr × V)
/-- the dict at p with these entries -/
structure HasN (X : Cx) (F H : Hp) (p : Addr) (xs : NEnt) : Prop where
  at_ : H p = some (.ext (NObj X.w p xs))
  ext : Ext F H
  key : ∀ x ∈ xs, KeyAt X.K F x.1 x.2.1
theorem RelNK.key {K : PySem.W.Frag} {F : Hp} : ∀ {xs : NEnt} {ds : List (NestedKey × D)}, RelNK K F xs ds → ∀ x ∈ xs, KeyAt K F x.1 x.2.1
  | [], _, _, x, hx => by cases hx
  | y :: ys, [], h, _, _ => h.elim
  | y :: ys, d :: ds, ⟨_, h2, h3, _, h5⟩, x, hx => by
    rcases List.mem_cons.mp hx with rfl | hx
    · exact ⟨h2, h3⟩
    · exact RelNK.key h5 x hx
theorem RelNK.length {K : PySem.W.Frag} {F : Hp} : ∀ {xs : NEnt} {ds : List (NestedKey × D)}, RelNK K F xs ds → xs.length = ds.length
  | [], [], _ => rfl
  | y :: ys, d :: ds, ⟨_, _, _, _, h5⟩ => by rw [List.length_cons, List.length_cons, RelNK.length h5]
  | [], _ :: _, h => h.elim
  | _ :: _, [], h => h.elim
theorem RelNK.snoc {K : PySem.W.Frag} {F : Hp} {x : NestedKey × Addr × V} {d : NestedKey × D} (h1 : x.1 = d.1) (h2 : KeyAt K F x.1 x.2.1) (h3 : RelD K F x.2.2 d.2) : ∀ {xs : NEnt} {ds : List (NestedKey × D)}, RelNK K F xs ds → RelNK K F (xs ++ [x]) (ds ++ [d])
  | [], [], _ => ⟨h1, h2.1, h2.2, h3, True.intro⟩
  | y :: ys, e :: es, ⟨a1, a2, a3, a4, a5⟩ => ⟨a1, a2, a3, a4, RelNK.snoc h1 h2 h3 a5⟩
  | [], _ :: _, h => h.elim
  | _ :: _, [], h => h.elim
def valX (xs : NEnt) (k : NestedKey) : Option V := (xs.find? fun x => decide (x.1 = k)).map fun x => x.2.2
def valNd (ds : List (NestedKey × D)) (k : NestedKey) : Option D := (ds.find? fun x => decide (x.1 = k)).map fun x => x.2
theorem RelNK.val {K : PySem.W.Frag} {F : Hp} (k : NestedKey) : ∀ {xs : NEnt} {ds : List (NestedKey × D)}, RelNK K F xs ds → (valX xs k = none ∧ valNd ds k = none) ∨ ∃ v d, valX xs k = some v ∧ valNd ds k = some d ∧ RelD K F v d
  | [], [], _ => .inl ⟨rfl, rfl⟩
  | x :: xs, d :: ds, ⟨a1, _, _, a4, a5⟩ => by
    have ih := RelNK.val k a5
    unfold valX valNd at ih ⊢
    rw [List.find?_cons, List.find?_cons, ← a1]
    by_cases c : x.1 = k
    · simp only [c, decide_true]
      exact .inr ⟨_, _, rfl, rfl, a4⟩
    · simp only [c, decide_false]
      exact ih
  | [], _ :: _, h => h.elim
  | _ :: _, [], h => h.elim
abbrev RelE1 : NestedKey × Addr × V → NestedKey × Addr × Value → Prop := fun p q => p.1 = q.1 ∧ p.2.1 = q.2.1 ∧ L2.RelV p.2.2 q.2.2
theorem ent_val (k : NestedKey) : ∀ {xs : NEnt} {vs : List (NestedKey × Addr × Value)}, Paired RelE1 xs vs → (valX xs k = none ∧ atKey vs k = none) ∨ ∃ v p, valX xs k = some v ∧ atKey vs k = some p ∧ L2.RelV v p.2
  | [], [], _ => .inl ⟨rfl, rfl⟩
  | x :: xs, y :: ys, h => by
    cases h with
    | cons h1 h2 =>
      have ih := ent_val k h2
      unfold valX atKey at ih ⊢
      rw [List.find?_cons, List.find?_cons, ← h1.1]
      by_cases c : x.1 = k
      · simp only [c, decide_true]
        exact .inr ⟨_, _, rfl, rfl, h1.2.2⟩
      · simp only [c, decide_false]
        exact ih
theorem ent_len : ∀ {xs : NEnt} {vs : List (NestedKey × Addr × Value)}, Paired RelE1 xs vs → xs.length = vs.length
  | [], [], _ => rfl
  | x :: xs, y :: ys, h => by
    cases h with
    | cons h1 h2 => rw [List.length_cons, List.length_cons, ent_len h2]
theorem ent_snoc {x : NestedKey × Addr × V} {y : NestedKey × Addr × Value} (h : RelE1 x y) : ∀ {xs : NEnt} {vs : List (NestedKey × Addr × Value)}, Paired RelE1 xs vs → Paired RelE1 (xs ++ [x]) (vs ++ [y])
  | [], [], _ => .cons h .nil
  | x :: xs, y :: ys, k => by
    cases k with
    | cons h1 h2 => exact .cons h1 (ent_snoc h h2)
theorem ent_key {xs : NEnt} {vs : List (NestedKey × Addr × Value)} {P : NestedKey → Addr → Prop} (p : Paired RelE1 xs vs) (h : ∀ x ∈ xs, P x.1 x.2.1) : ∀ y ∈ vs, P y.1 y.2.1 := by
  induction p with
  | nil => intro y hy; cases hy
  | cons a b ih =>
    intro y hy
    rcases List.mem_cons.mp hy with rfl | hy
    · rw [← a.1, ← a.2.1]; exact h _ (by simp)
    · exact ih (fun x hx => h x (by simp [hx])) y hy
section
variable {pins : List (Addr × Obj)} {σ : L2.St} {F H : Hp} {s : Shared} {p : Addr} {xs : NEnt}
theorem HasN.dict (h : HasN X F H p xs) (I : Inv X pins σ H s) : xs.length ≤ sizeLine ∧ (p == sysModules) = false ∧ ∃ vs, Paired RelE1 xs vs ∧ Heap.DictOfH (nestedKind X.prog X.w) s.heap p vs := by
  obtain ⟨⟨z, n, vs, pr, ob, es, ep, ho, hx, hd, he, nd⟩, _⟩ := ok_ext.mp (I.hok p _ h.at_)
  exact ⟨z, n, vs, pr, ob, es, ep, ho, hx, hd, he, ent_key (P := fun k a => (nestedKind X.prog X.w).is s.heap k a) pr fun x hx => (h.key x hx).is I h.ext, nd⟩
theorem HasN.obj (h : HasN X F H p xs) (I : Inv X pins σ H s) : s.TypeIs (.ref p) "dict" ∧ ∃ ob, s.heap.get? p = some ob ∧ ob.dict = none := by
  obtain ⟨_, _, vs, _, ob, es, ep, ho, hx, _⟩ := h.dict I
  exact ⟨⟨ob, ho, hx.1⟩, ob, ho, hx.2.1⟩
end
/-! ### len(d) -/
def rLenN (X : Cx) : List V → Hp → VK → Prop := fun xs H Q => ∃ F p es, xs = [.ref p] ∧ HasN X F H p es ∧ Q (.int (es.length : Nat)) H
theorem cr_lenN : CallR X (.builtin "len") (rLenN X) := by
  intro pins s σ H xs us Q I r h
  obtain ⟨F, p, es, rfl, hN, q⟩ := h
  obtain ⟨u, rfl, ru⟩ := r.one
  cases ru
  obtain ⟨z, n, vs, pr, hD⟩ := hN.dict I
  have hl := ent_len pr
  refine PyProof.Rows.call_len_slot (n := vs.length) (hN.obj I).1 PySem.F.slot_dict_len (fun Q' hq => len_keyed (knd := nestedKind X.prog X.w) (kvs := pairsH vs) n ⟨vs, hD, rfl⟩ (by simpa [pairsH] using hq)) (by omega) (by rw [sizeLine_eq] at z; omega) ?_
  refine ⟨.int (es.length : Nat), H, I.tok _, ?_, q⟩
  rw [hl]
  exact ⟨_, rfl⟩
/-- len of such a dict -/
@[simp] def gLenN (w : World) : GC := fun ds M Q => match ds with
  | [.ref a] => (match M a with
    | some (.dctN w' p kvs) => w' = w ∧ p = a ∧ Q (.int kvs.length) M
    | _ => False)
  | _ => False
theorem cd_lenN : CallD X (.builtin "len") (gLenN X.w) := fun F H M xs ds Qd Q R r q k => by
  unfold gLenN at q
  split at q
  · rename_i a
    split at q
    · rename_i w' p kvs hM
      obtain ⟨rfl, rfl, q⟩ := q
      cases r with
      | cons r1 r2 =>
        cases r2; cases r1
        obtain ⟨hf, ho, hh, hr⟩ := R.sto _ _ hM
        cases ho <;> first | exact False.elim hr | skip
        obtain ⟨es, rfl, hr⟩ := hr
        refine ⟨_, cr_lenN, F, p, es, rfl, ⟨hh, R.sub, hr.key⟩, ?_⟩
        rw [hr.length]
        exact k _ F H _ M (Stp.refl F H M) R (.int _) q
    · exact q.elim
  · exact q.elim
/-! ### d.setdefault(k, x) -/
def tDSetdN (X : Cx) (td ty tx : TE) : TE := fun σ H Q => td σ H fun x H1 => ∃ p, x = .ref p ∧ (∃ F xs, HasN X F H1 p xs) ∧ ty σ H1 fun y H2 => tx σ H2 fun z H3 => ∃ F xs k a, HasN X F H3 p xs ∧ y = .ref a ∧ KeyAt X.K F k a ∧ xs.length < sizeLine ∧
  (∀ v, valX xs k = some v → Q v H3) ∧ (valX xs k = none → Q z (upd H3 p (.ext (NObj X.w p (xs ++ [(k, a, z)])))))
theorem pe_dsetdN {td ty tx : TE} (hu : X.A.units + 10 < cLine) (ho : PE X o td) (he : PE X e ty) (hf : PE X f tx) (m : M2 X o "setdefault" apos e f cpos)
    (hs : starEach [e, f] X.env = (false, eval e X.env) :: starEach [f] X.env) (hs2 : starEach [f] X.env = (false, eval f X.env) :: starEach [] X.env) : PE X (.Call (.Attribute o "setdefault" apos) [e, f] [] cpos) (tDSetdN X td ty tx) := by
  refine ⟨fun pins s σ H Q I h => ?_⟩
  refine wpAny_Call_method m.base m.few m.line F.plainAttrs_dict F.slot_dict_setdefault F.type_dict_setdefault ?_
  refine thn (ho.run pins s σ H _ I h) ?_
  rintro ov s1 ⟨v, H1, I1, rv, p, rfl, ⟨F0, xs0, h0⟩, h⟩
  cases rv
  obtain ⟨ty0, ob0, get0, no0⟩ := h0.obj I1
  refine ⟨ty0, fun a ha => by cases ha; exact ⟨ob0, get0, no0⟩, ?_⟩
  rw [m.trees]
  refine Calls.callWith_builtin rfl (evalArgs_two ?_)
  have run := (pa_cons he (pa_cons hf pa_nil hs2) hs).run cpos pins s1 σ H1 (fun vs H3 => match vs with
    | [y, z] => ∃ F xs k a, HasN X F H3 p xs ∧ y = .ref a ∧ KeyAt X.K F k a ∧ xs.length < sizeLine ∧ (∀ v, valX xs k = some v → Q v H3) ∧ (valX xs k = none → Q z (upd H3 p (.ext (NObj X.w p (xs ++ [(k, a, z)])))))
    | _ => False) I1 h
  rw [m.trees] at run
  refine thn run ?_
  rintro us s3 ⟨vs, H3, I3, rv, h⟩
  split at h
  · rename_i y z
    obtain ⟨F, xs, k, a, hN, rfl, hk, hz, yes, no⟩ := h
    obtain ⟨u1, u2, rfl, r1, r2⟩ := vals2 rv
    cases r1
    obtain ⟨zl, ns, ents, pr, hD⟩ := hN.dict I3
    have hl := ent_len pr
    refine call_setdefault_heap (knd := nestedKind X.prog X.w) (xs := ents) (k := k) (by show X.A.units + 1 + 8 < cLine; omega) (hk.is I3 hN.ext) ns hD (fun q hq => ?_) (fun hn h' hD' sb => ?_) (by omega)
    · rcases ent_val k pr with ⟨_, e2⟩ | ⟨v, q', e1, e2, rq⟩
      · rw [e2] at hq; cases hq
      · rw [e2] at hq; cases hq
        exact ⟨v, H3, I3.tok _, rq, yes v e1⟩
    · rcases ent_val k pr with ⟨e1, _⟩ | ⟨v, q', _, e2, _⟩
      · have st : storedH ents k a u2 = ents ++ [(k, a, u2)] := by
          unfold storedH
          rw [if_neg (by rw [hn]; decide)]
        rw [st] at hD'
        obtain ⟨ob, es, ep, ho, hx, hd, he', _, nd⟩ := hD'
        have nob : NObj X.w p (xs ++ [(k, a, z)]) h' := ⟨by rw [List.length_append]; simp; omega, ns, _, ent_snoc ⟨rfl, rfl, r2⟩ pr, ob, es, ep, ho, hx, hd, he', nd⟩
        have I4 := I3.write (x := p) (e := p) (o := .ext (NObj X.w p (xs ++ [(k, a, z)]))) (h' := h') (t' := s3.toks + (nestedKind X.prog X.w).draws k) (by rw [hN.at_]; exact True.intro) (.inl rfl) (fun b u hb hu => by rw [sb.2 b hb]; exact hu) ⟨ob, ho⟩ (nobj_ok nob)
        exact ⟨z, _, I4, r2, no e1⟩
      · rw [e2] at hn; cases hn
  · exact h.elim
@[simp] def dDSetdN (w : World) (to te tf : DTE) : DTE := fun τ M Q => to τ M fun x M1 => match x with
  | .ref p => (∃ kvs, M1 p = some (.dctN w p kvs)) ∧ te τ M1 fun y M2 => tf τ M2 fun z M3 => (match M3 p, y with
    | some (.dctN w' p' kvs), .tup ys => w' = w ∧ p' = p ∧ kvs.length < sizeLine ∧ ∃ k, nkD (.tup ys) = some k ∧ k.depth ≤ 8 ∧ (match valNd kvs k with
      | some d => Q d M3
      | none => Q z (M3.upd p (.dctN w p (kvs ++ [(k, z)]))))
    | _, _ => False)
  | _ => False
theorem de_dsetdN {to te tf : DTE} (hu : X.A.units + 10 < cLine) (ho : DE X o to) (he : DE X e te) (hf : DE X f tf) (m : M2 X o "setdefault" apos e f cpos := by exact ⟨rfl, rfl, rfl, rfl⟩)
    (hs : starEach [e, f] X.env = (false, eval e X.env) :: starEach [f] X.env := by rfl) (hs2 : starEach [f] X.env = (false, eval f X.env) :: starEach [] X.env := by rfl) :
    DE X (.Call (.Attribute o "setdefault" apos) [e, f] [] cpos) (dDSetdN X.w to te tf) := by
  obtain ⟨uo, po, ro⟩ := ho.ex
  obtain ⟨ue, pe, re⟩ := he.ex
  obtain ⟨uf, pf, rf⟩ := hf.ex
  refine ⟨_, pe_dsetdN hu po pe pf m hs hs2, fun F H σ τ M Qd Q R q k => ?_⟩
  refine ro F H σ τ M _ _ R q fun v F1 H1 d M1 e1 R1 r1 q1 => ?_
  cases d <;> first | exact False.elim q1 | skip
  rename_i p
  cases r1
  obtain ⟨⟨kvs0, h0⟩, q1⟩ := q1
  obtain ⟨_, ho0, hh0, hr0⟩ := R1.heap.sto p _ h0
  cases ho0 <;> first | exact False.elim hr0 | skip
  obtain ⟨xs0, rfl, hr0⟩ := hr0
  refine ⟨p, rfl, ⟨F1, xs0, hh0, R1.heap.sub, hr0.key⟩, ?_⟩
  refine re F1 H1 σ τ M1 _ _ R1 q1 fun y F2 H2 dy M2 e2 R2 r2 q2 => ?_
  refine rf F2 H2 σ τ M2 _ _ R2 q2 fun z F3 H3 dz M3 e3 R3 r3 q3 => ?_
  split at q3
  · rename_i w' p' kvs ys hM
    obtain ⟨rfl, rfl, hz, kk, hk, hd, q3⟩ := q3
    obtain ⟨_, ho3, hh3, hr3⟩ := R3.heap.sto _ _ hM
    cases ho3 <;> first | exact False.elim hr3 | skip
    obtain ⟨xs, rfl, hr3⟩ := hr3
    have r2' := r2.mono e3.ext
    obtain ⟨a, rfl⟩ : ∃ a, y = .ref a := by
      cases r2'
      exact ⟨_, rfl⟩
    refine ⟨F3, xs, kk, a, ⟨hh3, R3.heap.sub, hr3.key⟩, rfl, ⟨hd, _, hk, r2'⟩, by rw [hr3.length]; exact hz, fun v hv => ?_, fun hn => ?_⟩
    · rcases hr3.val kk with ⟨n1, _⟩ | ⟨v', d', n1, n2, rd⟩
      · rw [n1] at hv; cases hv
      · rw [n1] at hv; cases hv
        rw [n2] at q3
        exact k v F3 H3 d' M3 ((e1.trans e2).trans e3) R3 rd q3
    · rcases hr3.val kk with ⟨_, n2⟩ | ⟨v', d', n1, _, _⟩
      · rw [n2] at q3
        obtain ⟨e4, R4⟩ := R3.heap.write (o := .ext (NObj X.w p' (xs ++ [(kk, a, z)]))) (u := .dctN X.w p' (kvs ++ [(kk, dz)])) hM ⟨_, rfl, RelNK.snoc rfl ⟨hd, _, hk, r2'⟩ r3 hr3⟩
        exact k z F3 _ dz _ (((e1.trans e2).trans e3).trans e4) (R3.mono e4.ext R4) r3 q3
      · rw [n1] at hn; cases hn
  · exact q3.elim
end
end DL

/-! SJ: tuple(list) with nothing hung at it. -/
namespace DL
open PySem PySem.Spec PyProof.Rows L2
variable [Wsh]
def rTupPl (K : PySem.W.Frag) : List V → Hp → VK → Prop := fun xs H Q => ∃ a ys, xs = [.ref a] ∧ SqL K H a ys ∧ ∀ l o, o.dict = none → H l = none → Q (.ref l) (upd H l (.frz o (.tup ys)))
section
variable {X : Cx}
theorem call_tupP : CallR X (.type "tuple") (rTupPl X.K) := by
  intro pins s σ H xs us Q I r h
  obtain ⟨a, ys, rfl, hs, q⟩ := h
  obtain ⟨u, rfl, ru⟩ := vals1 r
  cases ru
  obtain ⟨its, rv, hl, z⟩ := I.list hs
  refine call_tuple_list (items := its.toArray) (by obtain ⟨o, n, h1, h2, h3⟩ := hl; exact ⟨o, h1, h2, n, by first | exact h3 | exact h3.1 | simp_all⟩) (fun h' g => ?_) (by rw [List.size_toArray, ← rv.length]; exact z)
  have I2 := I.kept (h' := h') (t' := s.toks) g
  have hf : H h'.objs.size = none := I2.hok.fresh (Nat.le_refl _)
  refine ⟨.ref h'.objs.size, upd H h'.objs.size (.frz { cls := .type "tuple", data := .seq its.toArray } (.tup ys)), I2.laid (t' := s.toks) (fun b u e => Heap.get?_push_of_some _ e) (Nat.le_refl _) ?_, rfl, q _ _ rfl hf⟩
  exact ⟨Heap.get?_push_size _ rfl, z, its, rv, ⟨_, Heap.get?_push_size _ rfl, rfl, _, rfl⟩⟩
@[simp] def gTupOfP : GC := fun ds M Q => match ds with
  | [.lst ys] => Q (.ptp ys) M
  | _ => False
theorem cd_tupleP : CallD X (.type "tuple") gTupOfP := fun F H M xs ds Qd Q R r q k => by
  unfold gTupOfP at q
  split at q
  · rename_i ys
    cases r with
    | cons r1 r2 =>
      cases r2
      cases r1 with
      | lst hs rs =>
        refine ⟨_, call_tupP, _, _, rfl, SqL.of (R.sub _ _ hs), fun p o ho hp => ?_⟩
        obtain ⟨e2, R2⟩ := R.frozen (o := .frz o (.tup _)) hp
        exact k (.ref p) _ _ (.ptp ys) M e2 R2 (.ptp upd_same ho (rs.mono e2.ext)) q
  · exact q.elim
/-- a list of two, that may change -/
def gAddM : G2 := fun x y M Q => match lstOf x M, lstOf y M with
  | some a, some b => a.length + b.length ≤ sizeLine ∧ ∀ p, M p = none → Q (.ref p) (M.upd p (.lst (a ++ b)))
  | _, _ => False
theorem od_addM : OpD X (binaryOp .Add) gAddM := fun F H M x y d e Qd Q R rx ry q k => by
  unfold gAddM at q
  split at q
  · rename_i a b ha hb
    obtain ⟨hz, q⟩ := q
    obtain ⟨p1, v1, rfl, h1, r1⟩ := lst_ok R rx ha
    obtain ⟨p2, v2, rfl, h2, r2⟩ := lst_ok R ry hb
    refine ⟨_, op_cat, p1, p2, v1, v2, rfl, rfl, h1, h2, by rw [r1.length, r2.length]; exact hz, fun p hp => ?_⟩
    obtain ⟨e2, R2⟩ := R.fresh (o := .lst (v1 ++ v2)) (u := .lst (a ++ b)) hp (r1.append r2)
    exact k _ _ _ (.ref p) _ e2 R2 (.ref p) (q p (R.free hp).2)
  · exact q.elim
end
end DL

/-! EX: errors over trees: defs that raise, raise, try. -/
namespace DL
open PySem PySem.Spec PyProof.Rows L2

/-! ### a def that may raise keeps its promise -/
abbrev DXK := Str → List (Str × D) → Sto → Prop
abbrev DSpX := List D → Sto → DK → DXK → Prop
def spDX (cls : Str → Addr) (K : PySem.W.Frag) (dsp : DSpX) : Sp := fun vs H Q E => ∃ (F : Hp) (M : Sto) (ds : List D) (Qd : DK) (Xd : DXK), Rst0 K F H M ∧ RelDs K F vs ds ∧ dsp ds M Qd Xd ∧
  (∀ v F' H' d M', Stp F H M F' H' M' → Rst0 K F' H' M' → RelD K F' v d → Qd d M' → Q v H') ∧
  ∀ F' H' M' n d fs, Stp F H M F' H' M' → Rst0 K F' H' M' → RelX K F' d fs → Xd n fs M' → E (.ref (cls n)) d H'
structure DFnX (P : Program) (w : World) (K : PySem.W.Frag) (mg : Str → Option Value) (base : Heap) (cls : Str → Addr) (k : Nat) (x : Str) (ps : List Str) (dsp : DSpX) : Prop where
  ex : ∃ f fd, FnG P w K mg base (L2.CX P w) k f fd ps (spDX cls K dsp) ∧ mg x = some (.ref f) ∧ PySem.W.keepIn K (.ref f) = true ∧ Binds K fd ps []
theorem DFnX.mono {P : Program} {w : World} {K : PySem.W.Frag} {mg : Str → Option Value} {base : Heap} {cls : Str → Addr} {j k : Nat} {x : Str} {ps : List Str} {dsp : DSpX} (G : DFnX P w K mg base cls j x ps dsp) (h : j ≤ k) : DFnX P w K mg base cls k x ps dsp := by
  obtain ⟨f, fd, g, r⟩ := G.ex
  haveI : Wsh := ⟨fun _ => 0, fun _ _ _ _ => True⟩
  exact ⟨f, fd, g.mono h, r⟩
section
variable {X : Cx} {CX : CXT} {k : Nat} {f : Addr} {fd : FuncData} {ps : List Str} {sp : Sp} {E : L2.St → XK} {x : Str} {p pos : Pos} {e : Expr} {es : List Expr} {t : TA}
theorem goGS {pins : List (Addr × Obj)} {σ : L2.St} {H : Hp} {s : Shared} {Q : VK} {us : List Value} {vs : List V} {E : XK} (G : FnG X.prog X.w X.K X.mg X.base CX k f fd ps sp)
    (g : X.A.guards = some []) (hr : Room k X.A) (hb : Binds X.K fd ps []) (hx : PassesAt CX X σ E) (I : Inv X pins σ H s) (r : Vals vs us) (h : sp vs H Q E) :
    wpAny (model X.prog X.w) X.A (call (.ref f) us) (EP X pins σ Q) X.xe s := by
  have n1 : (us ++ ([] : List Value)).length = ps.length := by rw [List.append_nil, ← r.length, G.many h]
  have bd := hb s us I.kIn n1
  rw [List.append_nil] at bd
  have c := G.goes (args := ⟨us, []⟩) g hr I.env0 bd r h
  refine wpAny_call (codeAny_mono c ?_)
  intro res s' z
  match res, z with
  | .error er, z => exact hx pins H s er s' I z
  | .ok (.ret u), z => exact I.after z
  | .ok .next, z => exact z.elim
  | .ok .brk, z => exact z.elim
  | .ok .cont, z => exact z.elim
theorem peGS (G : FnG X.prog X.w X.K X.mg X.base CX k f fd ps sp) (g : X.A.guards = some []) (hr : Room k X.A) (hg : Gl X x) (hm : X.mg x = some (.ref f)) (hk : PySem.W.keepIn X.K (.ref f) = true) (hb : Binds X.K fd ps []) (hx : ∀ σ, PassesAt CX X σ (E σ))
    (ha : PA X (e :: es) t) (hdb : (x == ("__debug__" : Str)) = false) (he : starEach (e :: es) X.env = (false, eval e X.env) :: starEach es X.env) (hpl : (backTo pos (starEach es X.env)).any (·.1) = false) :
    PE X (.Call (.Name x p) (e :: es) [] pos) (fun σ H Q => t σ H fun vs H1 => sp vs H1 Q (E σ)) := by
  constructor
  intro pins s σ H Q I h
  apply wpAny_Call_Name_kw
  apply ld_glob I hg hm _ hdb
  apply PySem.W.callWith_K (h₀ := X.base) I.ok.mod.kin hk _ he hpl
  refine thn (ha.run pos pins s σ H _ I h) ?_
  rintro us s1 ⟨vs, H1, I1, r, q⟩
  exact ⟨I1.kIn, goGS G g hr hb (hx σ) I1 r q⟩
theorem peGS0 (G : FnG X.prog X.w X.K X.mg X.base CX k f fd ps sp) (g : X.A.guards = some []) (hr : Room k X.A) (hg : Gl X x) (hm : X.mg x = some (.ref f)) (hk : PySem.W.keepIn X.K (.ref f) = true) (hb : Binds X.K fd ps []) (hx : ∀ σ, PassesAt CX X σ (E σ))
    (hdb : (x == ("__debug__" : Str)) = false) : PE X (.Call (.Name x p) [] [] pos) (fun σ H Q => sp [] H Q (E σ)) := by
  constructor
  intro pins s σ H Q I h
  apply wpAny_Call_Name_kw
  apply ld_glob I hg hm _ hdb
  exact PySem.W.callWith_K0 I.kIn hk (goGS G g hr hb (hx σ) I .nil h)
end

/-! ### expressions that may raise: they stand alone on a line's right side -/
abbrev DTX := DSt → Sto → DK → DXK → Prop
variable [Wsh]
def RefEX (K : PySem.W.Frag) (te : TE) (t : DTX) : Prop := ∀ (F H : Hp) (σ : L2.St) (τ : DSt) (M : Sto) (Qd : DK) (Xd : DXK) (Q : VK), Rst K F H σ τ M → t τ M Qd Xd →
  (∀ v F' H' d M', Stp F H M F' H' M' → Rst K F' H' σ τ M' → RelD K F' v d → Qd d M' → Q v H') →
  (∀ F' H' M' n d fs, Stp F H M F' H' M' → Rst K F' H' σ τ M' → RelX K F' d fs → Xd n fs M' → Wsh.W (.ref (Wsh.cls n)) d σ H') → te σ H Q
structure DEX (X : Cx) (e : Expr) (t : DTX) : Prop where
  ex : ∃ te, PE X e te ∧ RefEX X.K te t
section
variable {X : Cx} {k : Nat} {ps : List Str} {dsp : DSpX} {x : Str} {p pos : Pos} {e : Expr} {es : List Expr} {t : DTA}
@[simp] def dCallX (dsp : DSpX) (t : DTA) : DTX := fun τ M Q Xd => t τ M fun ds M1 => dsp ds M1 Q Xd
/-- it is known that nothing is raised -/
@[simp] def dCallN (dsp : DSpX) (t : DTA) : DTE := fun τ M Q => t τ M fun ds M1 => dsp ds M1 Q fun _ _ _ => False
theorem dex_call (G : DFnX X.prog X.w X.K X.mg X.base Wsh.cls k x ps dsp) (tk : Takes X Wsh.W) (g : X.A.guards = some []) (hr : Room k X.A) (ha : DA X (e :: es) t) (hg : Gl X x := by rfl)
    (hdb : (x == ("__debug__" : Str)) = false := by decide) (he : starEach (e :: es) X.env = (false, eval e X.env) :: starEach es X.env := by rfl) (hpl : (backTo pos (starEach es X.env)).any (·.1) = false := by rfl) :
    DEX X (.Call (.Name x p) (e :: es) [] pos) (dCallX dsp t) := by
  obtain ⟨u, pu, ru⟩ := ha.ex
  obtain ⟨f, fd, G, hm, hk, hb⟩ := G.ex
  refine ⟨_, peGS G g hr hg hm hk hb (passAt tk) pu hdb he hpl, fun F H σ τ M Qd Xd Q R q k kx => ?_⟩
  refine ru F H σ τ M _ _ R q fun vs F1 H1 ds M1 e1 R1 r1 q1 => ?_
  exact ⟨F1, M1, ds, Qd, Xd, R1.heap, r1, q1, fun v F2 H2 d M2 e2 R2 r2 q2 => k v F2 H2 d M2 (e1.trans e2) (R1.mono e2.ext R2) r2 q2,
    fun F2 H2 M2 n d fs e2 R2 r2 q2 => kx F2 H2 M2 n d fs (e1.trans e2) (R1.mono e2.ext R2) r2 q2⟩
theorem dex_call0 (G : DFnX X.prog X.w X.K X.mg X.base Wsh.cls k x ps dsp) (tk : Takes X Wsh.W) (g : X.A.guards = some []) (hr : Room k X.A) (hg : Gl X x := by rfl)
    (hdb : (x == ("__debug__" : Str)) = false := by decide) : DEX X (.Call (.Name x p) [] [] pos) (dCallX dsp dNil) := by
  obtain ⟨f, fd, G, hm, hk, hb⟩ := G.ex
  refine ⟨_, peGS0 G g hr hg hm hk hb (passAt tk) hdb, fun F H σ τ M Qd Xd Q R q k kx => ?_⟩
  exact ⟨F, M, [], Qd, Xd, R.heap, .nil, q, fun v F2 H2 d M2 e2 R2 r2 q2 => k v F2 H2 d M2 e2 (R.mono e2.ext R2) r2 q2,
    fun F2 H2 M2 n d fs e2 R2 r2 q2 => kx F2 H2 M2 n d fs e2 (R.mono e2.ext R2) r2 q2⟩
theorem passN {P : Program} {w : World} (hp : P = X.prog) (hw : w = X.w) : Passes (L2.CX P w) X (fun _ _ _ => False) := fun _ _ _ _ _ _ _ c => by
  obtain ⟨_, _, _, _, _, _, _, _, _, _, _, _, z⟩ := c
  exact z.elim
theorem de_callN {cls : Str → Addr} (G : DFnX X.prog X.w X.K X.mg X.base cls k x ps dsp) (g : X.A.guards = some []) (hr : Room k X.A) (ha : DA X (e :: es) t) (hg : Gl X x := by rfl)
    (hdb : (x == ("__debug__" : Str)) = false := by decide) (he : starEach (e :: es) X.env = (false, eval e X.env) :: starEach es X.env := by rfl) (hpl : (backTo pos (starEach es X.env)).any (·.1) = false := by rfl) :
    DE X (.Call (.Name x p) (e :: es) [] pos) (dCallN dsp t) := by
  obtain ⟨u, pu, ru⟩ := ha.ex
  obtain ⟨f, fd, G, hm, hk, hb⟩ := G.ex
  refine ⟨_, peG G g hr hg hm hk hb (passN rfl rfl) pu hdb he hpl, fun F H σ τ M Qd Q R q k => ?_⟩
  refine ru F H σ τ M _ _ R q fun vs F1 H1 ds M1 e1 R1 r1 q1 => ?_
  exact ⟨F1, M1, ds, Qd, _, R1.heap, r1, q1, fun v F2 H2 d M2 e2 R2 r2 q2 => k v F2 H2 d M2 (e1.trans e2) (R1.mono e2.ext R2) r2 q2, fun _ _ _ _ _ _ _ _ _ z => z.elim⟩
end

/-! ### statements with such -/
section
variable {X : Cx} {e : Expr} {pos : Pos} {t : DTX}
@[simp] def dAsgX (t : DTX) (g : DTG) : DTS := fun D τ M => t τ M (fun d M1 => g d τ M1 D.nx) fun n fs M1 => D.xr n fs τ M1
@[simp] def dRetX (t : DTX) : DTS := fun D τ M => t τ M D.rt fun n fs M1 => D.xr n fs τ M1
@[simp] def dDropX (t : DTX) : DTS := fun D τ M => t τ M (fun _ M1 => D.nx τ M1) fun n fs M1 => D.xr n fs τ M1
theorem refAsgX {K : PySem.W.Frag} {te : TE} {tg : TG} {g : DTG} (h : RefEX K te t) (hg : RefG K tg g) : RefS K (tAsg te tg) (dAsgX t g) := fun F H σ τ M D E R q r =>
  h F H σ τ M _ _ _ R q (fun v F1 H1 d M1 e1 R1 r1 q1 => hg F1 H1 σ τ M1 v d _ _ R1 r1 q1 fun F2 H2 σ2 τ2 M2 e2 R2 q2 => r.nx F2 H2 σ2 τ2 M2 (e1.trans e2) R2 q2)
    fun F1 H1 M1 n d fs e1 R1 r1 q1 => r.xr F1 H1 σ τ M1 n d fs e1 R1 r1 q1
theorem ds_setX {i : Nat} {x : Str} {pos' : Pos} (hN : X.N.Nodup) (he : DEX X e t) (hi : X.N[i]? = some x := by rfl) (hx : Loc X.env.scope x := by first | exact .inl rfl | exact .inr rfl) (hs : swapsWith e (some (.Name x pos')) pos.line X.env = pure false := by rfl)
    (hf : X.fn x = true ∨ X.env.scope.names.lookup x = some .local := by first | exact .inl rfl | exact .inr rfl | assumption) : DS X (.Assign [.Name x pos'] e pos) (dAsgX t (dgName i)) := by
  obtain ⟨u, pu, ru⟩ := he.ex
  exact ⟨_, ps_set hN hi hx pu hs hf, refAsgX ru refGName⟩
theorem ds_asgX {tg : Expr} {g : DTG} (he : DEX X e t) (hg : DG X tg g) (hs : swapsWithSole [tg] e pos.line X.env = pure false := by rfl) (hw : swappedStores [tg] e X.env = pure none := by rfl)
    (h1 : (assignEach [tg] X.env).map (·.2) = [assign tg X.env] := by rfl) : DS X (.Assign [tg] e pos) (dAsgX t g) := by
  obtain ⟨u, pu, ru⟩ := he.ex
  obtain ⟨w, pw, rw'⟩ := hg.ex
  exact ⟨_, ps_asg pu pw hs hw h1, refAsgX ru rw'⟩
theorem ds_retX (he : DEX X e t) : DS X (.Return (some e) pos) (dRetX t) := by
  obtain ⟨u, pu, ru⟩ := he.ex
  exact ⟨_, ps_ret pu, fun F H σ τ M D E R q r => ru F H σ τ M _ _ _ R q (fun v F1 H1 d M1 e1 R1 r1 q1 => r.rt v F1 H1 d M1 e1 R1.heap r1 q1)
    fun F1 H1 M1 n d fs e1 R1 r1 q1 => r.xr F1 H1 σ τ M1 n d fs e1 R1 r1 q1⟩
theorem ds_exprX (he : DEX X e t) (hs : swapsWith e none pos.line X.env = pure false := by rfl) : DS X (.Expr e pos) (dDropX t) := by
  obtain ⟨u, pu, ru⟩ := he.ex
  exact ⟨_, ps_expr pu hs, fun F H σ τ M D E R q r => ru F H σ τ M _ _ _ R q (fun v F1 H1 d M1 e1 R1 r1 q1 => r.nx F1 H1 σ τ M1 e1 R1 q1)
    fun F1 H1 M1 n d fs e1 R1 r1 q1 => r.xr F1 H1 σ τ M1 n d fs e1 R1 r1 q1⟩
end

/-! ### raise -/
abbrev DTM := DSt → Sto → DXK → Prop
def RefM (K : PySem.W.Frag) (te : L2.St → Hp → XK → Prop) (t : DTM) : Prop := ∀ (F H : Hp) (σ : L2.St) (τ : DSt) (M : Sto) (Xd : DXK) (Q : XK), Rst K F H σ τ M → t τ M Xd →
  (∀ F' H' M' n d fs, Stp F H M F' H' M' → Rst K F' H' σ τ M' → RelX K F' d fs → Xd n fs M' → Q (.ref (Wsh.cls n)) d H') → te σ H Q
/-- an expression that makes an error -/
structure DMk (X : Cx) (e : Expr) (t : DTM) : Prop where
  ex : ∃ te, PMk X e te ∧ RefM X.K te t
@[simp] def dRaise (t : DTM) : DTS := fun D τ M => t τ M fun n fs M1 => D.xr n fs τ M1
theorem ds_raise {X : Cx} {e : Expr} {pos : Pos} {t : DTM} (hc : X.calm = true) (tk : Takes X Wsh.W) (he : DMk X e t) : DS X (.Raise (some e) none pos) (dRaise t) := by
  obtain ⟨u, pu, ru⟩ := he.ex
  exact ⟨_, ps_raise hc tk pu, fun F H σ τ M D E R q r => ru F H σ τ M _ _ R q fun F1 H1 M1 n d fs e1 R1 r1 q1 => r.xr F1 H1 σ τ M1 n d fs e1 R1 r1 q1⟩
end DL

/-! EY: try over trees; the promise of a def that may raise, by its body. -/
namespace DL
open PySem PySem.Spec PyProof.Rows L2

section
variable {P : Program} {w : World} {K : PySem.W.Frag} {mg : Str → Option Value} {base : Heap} {cls : Str → Addr}
/-- how a def's body ends: it falls off, returns, raises -/
def endsX (Q : DK) (Xd : DXK) : DEnds := { nx := fun _ M' => ∃ M2, M2.le M' ∧ Q .non M2, rt := fun d M' => ∃ M2, M2.le M' ∧ Q d M2, xr := fun n fs _ M' => ∃ M2, M2.le M' ∧ Xd n fs M2 }
/-- THE RULE: a def that may raise keeps its promise over trees -/
theorem fnX_ok {x qual : Str} {st : Stmt} {f : Addr} {fd : FuncData} {N ps : List Str} {k : Nat} {dsp : DSpX} (F : Fun K x qual st f fd) (S : FnScope N ps (defScope st)) (len : ∀ ds M Q Xd, dsp ds M Q Xd → ds.length = ps.length)
    (hbody : ∀ (cdv : Value) (A : Around) (outer : List Env) (s : Shared) (H : Hp) (E : XK), (A.deeper (envOfC qual (defScope st) s.heap.objs.size f cdv)).guards = some [] → Room k (A.deeper (envOfC qual (defScope st) s.heap.objs.size f cdv)) →
      ∃ t, (letI : Wsh := ⟨cls, fun c d _ H' => E c d H'⟩; DSs (cxOf (L2.CX P w) P w K mg base N qual (defScope st) f cdv A outer s H E) (defBody st) t) ∧ ∀ ds M Q Xd, dsp ds M Q Xd → t (endsX Q Xd) (dstart N.length ds) M) :
    FnG P w K mg base (L2.CX P w) (k + 1) f fd ps (spDX cls K dsp) := by
  haveI W0 : Wsh := ⟨fun _ => 0, fun _ _ _ _ => True⟩
  refine funG F S (fun h => ?_) (fun cdv A outer s H vs Q E hgd hr h => ?_)
  · obtain ⟨F0, M, ds, Qd, Xd, _, r, q, _⟩ := h
    rw [r.length]; exact len _ _ _ _ q
  · obtain ⟨F0, M, ds, Qd, Xd, R, r, q, kk, kx⟩ := h
    obtain ⟨t, ht, hq⟩ := hbody cdv A outer s H E hgd hr
    obtain ⟨ts, pt, rt⟩ := @DSs.ex ⟨cls, fun c d _ H' => E c d H'⟩ _ _ _ ht
    refine ⟨ts, pt, rt F0 H _ _ M (endsX Qd Xd) _ ⟨R, rel_start r⟩ (hq ds M Qd Xd q) (@RefD.mk ⟨cls, fun c d _ H' => E c d H'⟩ _ _ _ _ _ _ (fun F' H' σ' τ' M' e' R' z => ?_) (fun F' H' σ' τ' M' e' R' z => False.elim z) (fun F' H' σ' τ' M' e' R' z => False.elim z) (fun v F' H' d M' e' R' rd z => ?_) (fun F' H' σ' τ' M' n d fs e' R' rx z => ?_))⟩
    · obtain ⟨M2, l, z⟩ := z
      exact kk .non F' H' .non M2 (e'.less l) (R'.heap.less l) .non z
    · obtain ⟨M2, l, z⟩ := z
      exact kk v F' H' d M2 (e'.less l) (R'.less l) rd z
    · obtain ⟨M2, l, z⟩ := z
      exact kx F' H' M2 n d fs (e'.less l) (R'.heap.less l) rx z
end

/-! ### try: body, except x as n: suite -/
theorem RelSl.gone {K : PySem.W.Frag} {F : Hp} {σ : L2.St} {τ : DSt} (r : RelSl K F σ τ) (i : Nat) : RelSl K F (σ.set i none) (τ.set i none) := by
  refine ⟨by rw [List.length_set, List.length_set, r.len], fun j e he => ?_⟩
  by_cases hj : j = i
  · subst hj
    have hl : j < τ.length := by
      have := (List.getElem?_eq_some_iff.mp he).1
      rw [List.length_set] at this; exact this
    rw [List.getElem?_set_self hl] at he
    cases he
  · rw [List.getElem?_set_ne (Ne.symm hj)] at he ⊢
    exact r.get j e he
/-- the ends of a suite whose name goes behind it -/
def endsAs (D : DEnds) (i : Nat) : DEnds := { nx := fun τ M => D.nx (τ.set i none) M, rt := D.rt, bk := fun τ M => D.bk (τ.set i none) M, ct := fun τ M => D.ct (τ.set i none) M }
/-- a suite's reading: where the error stands, its dict, its class's name -/
abbrev DSu := Addr → Option Addr → Str → DTS
/-- try: body, except c as the name of slot i: suite; sub: which class is below which -/
def dTryAs (sub : Str → Str → Option Bool) (c : Str) (i : Nat) (tb : DTS) (ts : DSu) : DTS := fun D τ M => tb { D with xr := fun n fs τ' M' => ∃ b, sub n c = some b ∧
  (b = true → ∀ a dx, ts a dx n (endsAs D i) (τ'.set i (some (.exc a dx n fs))) M') ∧ (b = false → D.xr n fs τ' M') } τ M
theorem relD_exc {K : PySem.W.Frag} {F : Hp} {a : Addr} {d : Option Addr} {n : Str} {fs : List (Str × D)} (r : RelX K F d fs) : RelD K F (.ref a) (.exc a d n fs) := by
  rcases r with ⟨rfl, rfl⟩ | ⟨dx, vs, rfl, h2, h3⟩
  · exact .exc0 a n
  · exact .exc1 h2 h3
theorem psX_mix {X : Cx} {body : List Stmt} {ι : Prop} {t : ι → TS} (hi : ι) (h : ∀ z, PSs X body (t z)) : PSs X body (fun D σ H => ∀ z, t z D σ H) := ⟨fun pins s σ H D I q => (h hi).run pins s σ H D I (q hi)⟩
theorem ds_try_as [W0 : Wsh] {X : Cx} {x n : Str} {i : Nat} {body suite : List Stmt} {b₀ : Stmt} {np pos pos' : Pos} {tb : DTS} {ts : DSu} {sub : Str → Str → Option Bool} (hs : X.stack = X.env :: X.outer) (hf : X.env.frame = some X.env.locals) (hN : X.N.Nodup) (hln : X.env.kindOf n = some .local)
    (hc : Names X x (.ref (Wsh.cls x))) (tk : Takes X Wsh.W) (hsub : ∀ m b, sub m x = some b → PySem.W.exmOne X.K (.ref (Wsh.cls m)) (.ref (Wsh.cls x)) = some b)
    (hb : ∀ (W1 : Wsh) (pn : List (Addr × Obj)) (xe : Value → Shared → Prop), W1.cls = W0.cls → Takes (X.tr pn xe) W1.W → PassesOwn (model X.prog X.w) X.A X.env xe → @DSs W1 (X.tr pn xe) body tb)
    (hsu : ∀ (a : Addr) (oe : Obj) (m : Str) (d : Option Addr) (pn : List (Addr × Obj)), sub m x = some true → Zc (.ref (Wsh.cls m)) d oe → (∃ vs, oe.data = .fields vs) → DSs (X.suite a ((a, oe) :: pn)) (b₀ :: suite) (ts a d m))
    (hi : X.N[i]? = some n := by rfl) :
    DS X (.Try body [.ExceptHandler (some (.Name x np)) (some n) (b₀ :: suite) pos'] [] [] pos) (dTryAs sub x i tb ts) := by
  -- the body's reading, by what is wished for
  let ub : WX → TS := fun W D σ H => ∀ (pn : List (Addr × Obj)) (xe : Value → Shared → Prop) (t1 : Takes (X.tr pn xe) W) (po : PassesOwn (model X.prog X.w) X.A X.env xe), Classical.choose (@DSs.ex ⟨W0.cls, W⟩ _ _ _ (hb ⟨W0.cls, W⟩ pn xe rfl t1 po)) D σ H
  let us : Addr → Value → Option Addr → TS := fun a c d D σ H => ∃ (m : Str) (hs : sub m x = some true), c = .ref (Wsh.cls m) ∧ ∀ (oe : Obj) (pn : List (Addr × Obj)) (hz : Zc (.ref (Wsh.cls m)) d oe) (hd : ∃ vs, oe.data = .fields vs), Classical.choose (hsu a oe m d pn hs hz hd).ex D σ H
  refine ⟨_, ps_try_as (tb := ub) (ts := us) hs hf hN hi hln hc tk (fun W pn xe t1 po => ⟨fun pins s σ H D I q => ?_⟩) (fun a oe c d pn hz hd => ⟨fun pins s σ H D I q => ?_⟩), fun F H σ τ M D E R q r => ?_⟩
  · exact (Classical.choose_spec (@DSs.ex ⟨W0.cls, W⟩ _ _ _ (hb ⟨W0.cls, W⟩ pn xe rfl t1 po))).1.run pins s σ H D I (q pn xe t1 po)
  · obtain ⟨m, hm, rfl, q⟩ := q
    exact (Classical.choose_spec (hsu a oe m d pn hm hz hd).ex).1.run pins s σ H D I (q oe pn hz hd)
  · intro pn xe t1 po
    have rb := (Classical.choose_spec (@DSs.ex ⟨W0.cls, wAs X.K (.ref (Wsh.cls x)) i us Wsh.W E⟩ _ _ _ (hb ⟨W0.cls, wAs X.K (.ref (Wsh.cls x)) i us Wsh.W E⟩ pn xe rfl t1 po))).2
    refine rb F H σ τ M _ E R q (@RefD.mk ⟨W0.cls, wAs X.K (.ref (Wsh.cls x)) i us Wsh.W E⟩ _ _ _ _ _ _ r.nx r.bk r.ct r.rt ?_)
    rintro F1 H1 σ1 τ1 M1 m d fs e1 R1 rx ⟨b, hb1, hy, hn⟩
    refine ⟨b, hsub m b hb1, fun hb2 a na => ⟨m, hb2 ▸ hb1, rfl, fun oe pn hz hd => ?_⟩, fun hb2 => r.xr F1 H1 σ1 τ1 M1 m d fs e1 R1 rx (hn hb2)⟩
    have rs := (Classical.choose_spec (hsu a oe m d pn (hb2 ▸ hb1) hz hd).ex).2
    refine rs F1 H1 _ _ M1 _ _ ⟨R1.heap, R1.slots.set i (relD_exc rx)⟩ (hy hb2 a d) ⟨fun F2 H2 σ2 τ2 M2 e2 R2 z => ?_, fun F2 H2 σ2 τ2 M2 e2 R2 z => ?_, fun F2 H2 σ2 τ2 M2 e2 R2 z => ?_, fun v F2 H2 d M2 e2 R2 rd z => ?_, fun _ _ _ _ _ _ _ _ _ _ _ z => z.elim⟩
    · exact r.nx F2 H2 _ _ M2 (e1.trans e2) ⟨R2.heap, R2.slots.gone i⟩ z
    · exact r.bk F2 H2 _ _ M2 (e1.trans e2) ⟨R2.heap, R2.slots.gone i⟩ z
    · exact r.ct F2 H2 _ _ M2 (e1.trans e2) ⟨R2.heap, R2.slots.gone i⟩ z
    · exact r.rt v F2 H2 d M2 (e1.trans e2) R2 rd z
end DL

/-! SX: errors whose __init__ says super().__init__(f); self.f = f. -/
namespace DL
open PySem PySem.Spec PyProof.Rows L2
open PySem.W PySem.Calls

/-- the body: super().__init__(f); self.f = f -/
abbrev supBody (f : Str) (p0 p1 p2 p3 p4 p5 p6 p7 p8 p9 : Pos) : List Stmt :=
  [.Expr (.Call (.Attribute (.Call (.Name "super" p0) [] [] p1) "__init__" p2) [.Name f p3] [] p4) p5, .Assign [.Attribute (.Name "self" p6) f p7] (.Name f p8) p9]
/-- what the written part says of the class at C and its __init__ -/
structure SupC (P : Program) (K : Frag) (C : Addr) (f : Str) (mg : Str → Option Value) : Prop where
  ox : OexC K C
  init : ∃ fI, findIn K (.ref C) "__init__" = some (some (.ref fI)) ∧ typeIn K (.ref fI) = some (.type "function") ∧
    ∃ (oc od : _) (qual : Str) (params : Arguments) (scope : Scope) (dV kV doc pm : Value) (an : Option Addr) (cda cc : Addr) (ct : Value) (osl : Array (Option Value)) (p0 p1 p2 p3 p4 p5 p6 p7 p8 p9 : Pos) (ar : Arg)
      (ccl : Value) (cdd : Option Addr) (vs : Array Value) (ccs : Array (Option Value)) (file : Str) (tf : Tok) (cl : Value) (cld : Option Addr) (csl : Array (Option Value)),
      K.lookup fI = some ⟨oc, od, .func (ksFn "__init__" qual params (supBody f p0 p1 p2 p3 p4 p5 p6 p7 p8 p9) scope dV kV doc pm an (.ref cda) ct cc), osl⟩ ∧ codeIn K (.ref cda) qual = true ∧
      (∀ a u : Value, bindArgs (ksFn "__init__" qual params (supBody f p0 p1 p2 p3 p4 p5 p6 p7 p8 p9) scope dV kV doc pm an (.ref cda) ct cc) ⟨[a, u], []⟩ = pure [(("self" : Str), a), (f, u)]) ∧
      (∀ x ∈ scope.names, x.2 ≠ .cell) ∧ scope.isCoroutine = false ∧ scope.isGenerator = false ∧ scope.kind = .function ∧
      scope.names.lookup ("super" : Str) = some .globalImplicit ∧ scope.names.lookup ("__class__" : Str) = some .free ∧ scope.names.lookup ("self" : Str) = some .local ∧ scope.names.lookup f = some .local ∧
      (params.posonlyargs ++ params.args).head? = some ar ∧ ar.arg = "self" ∧
      K.lookup cda = some ⟨ccl, cdd, .fields vs, ccs⟩ ∧ vs[2]? = some (.str file tf) ∧ ((P.main.file : Str) == file) = true ∧ (P.main.scope.names.lookup ("super" : Str)).isSome = false ∧
      K.lookup cc = some ⟨cl, cld, .cell (some (.ref C)), csl⟩ ∧
      (∃ pl : Env → Sem Bool, ∀ env : Env, eval (.Call (.Attribute (.Call (.Name "super" p0) [] [] p1) "__init__" p2) [.Name f p3] [] p4) env = (do
        let ov ← attributeBase (.Call (.Name "super" p0) [] [] p1) "__init__" env (eval (.Call (.Name "super" p0) [] [] p1) env)
        standAt p2.atName
        let (f', first) ← holding [ov] (getMethod ov "__init__" (pl env))
        callWith p4 f' first (backTo p4 (starEach [.Name f p3] env)) [])) ∧
      (∀ env : Env, swapsWith (.Call (.Attribute (.Call (.Name "super" p0) [] [] p1) "__init__" p2) [.Name f p3] [] p4) none p5.line env = pure false) ∧
      (∀ env : Env, swapsWith (.Name f p8) (some (.Attribute (.Name "self" p6) f p7)) p9.line env = pure false)
  exi : excInitIn K C [.type "ValueError", .type "Exception", .type "BaseException", .type "object"] "ValueError.__new__" = true
  nof : findIn K (.ref C) f = some none
  sup : ks_superIn K C C "__init__" = some (some (.builtin "ValueError.__init__"))
  sub : subIn K (.ref C) (.type "ValueError") = some true
  slf : mroIn K C (.ref C) = some true
  opq : nsIn K cStatics "thirdparty.any" = some none
  mgs : mg "super" = none
  neq : (("self" : Str) == f) = false ∧ (f == ("__debug__" : Str)) = false

section
variable {P : Program} {w : World} {A : Around} {K : Frag} {mg mb : Str → Option Value} {hp : Heap} {g : Array GenState} {d : Drawn} {t : Nat} {os : OsState} {C e t0 : Addr} {u : Value} {f : Str} {R : Result → Shared → Prop}
theorem sup_run (T : SupC P K C f mg) (KX : K.In hp) (lim : hp.NoLimit) (hns : hp.Ns mainGlobals mg) (hnb : hp.Ns builtinsNs mb) (hmb : mb "super" = some (.type "super")) (hroom : A.depth < recursionLimit)
    (he : hp.get? e = some (HandSPX.excO C t0)) (hKe : K.lookup e = none) {fI : Addr} (hfI : findIn K (.ref C) "__init__" = some (some (.ref fI)))
    (hR : ∀ h' t' dx t1, (∀ b o, b ≠ e → hp.get? b = some o → h'.get? b = some o) → hp.objs.size ≤ dx → dx ≠ e → h'.get? e = some { cls := .ref C, dict := some dx, data := .fields #[.ref t1, .none, .none, .none, .bool false, .none] } →
      h'.Ns1 dx (fun y => if y = f then some u else none) → R (.ok (.ret .none)) ⟨h', g, d, t', os⟩) :
    codeAny (model P w) A (.call (.ref fI) ⟨[.ref e, u], []⟩) R ⟨hp, g, d, t, os⟩ := by
  obtain ⟨fI', hfI', tI, oc, od, qual, params, scope, dV, kV, doc, pm, an, cda, cc, ct, osl, p0, p1, p2, p3, p4, p5, p6, p7, p8, p9, ar, ccl, cdd, vs, ccs, file, tf, cl, cld, csl, lk, cdI, bnd, ncell, hco, hgen, hk, sk, ck, slk, fk, hd, har, lcda, hvs, hfile, htop, lcc, ⟨pl, hcall⟩, hs1, hs2⟩ := T.init
  rw [hfI] at hfI'
  cases hfI'
  refine ks_codeAny_call_defAt (fd := ksFn "__init__" qual params (supBody f p0 p1 p2 p3 p4 p5 p6 p7 p8 p9) scope dV kV doc pm an (.ref cda) ct cc) (body := supBody f p0 p1 p2 p3 p4 p5 p6 p7 p8 p9) (binds := [(("self" : Str), .ref e), (f, u)]) hroom (KX _ _ lk) rfl lim (codeRec_of KX cdI) rfl (BindsTo.of_eq (bnd _ _)) ncell ?_ (fun h₁ hns₁ k1 => ?_) hco hgen hk
  · intro y hy
    simp only [List.mem_cons, List.not_mem_nil, or_false] at hy
    rcases hy with rfl | rfl
    · exact slk
    · exact fk
  -- in the frame
  have K1 : K.In h₁ := KX.keeps k1
  have lt1 : ∀ b o, hp.get? b = some o → b ≠ hp.objs.size := fun b o z => Nat.ne_of_lt (Heap.lt_size z)
  obtain ⟨env, henv⟩ : ∃ env, env = callEnv (ksFn "__init__" qual params (supBody f p0 p1 p2 p3 p4 p5 p6 p7 p8 p9) scope dV kV doc pm an (.ref cda) ct cc) hp.objs.size fI := ⟨_, rfl⟩
  have e1 : env.scope = scope := by rw [henv]; rfl
  have e2 : env.locals = hp.objs.size := by rw [henv]; rfl
  have e3 : env.globals = mainGlobals := by rw [henv]; rfl
  have e4 : env.builtins = builtinsNs := by rw [henv]; rfl
  have e5 : env.func = some fI := by rw [henv]; rfl
  have e6 : env.code = .ref cda := by rw [henv]; rfl
  have e7 : env.cells = [(("__class__" : Str), cc)] := by rw [henv]; rfl
  have e8 : interactive env = false := by unfold interactive; rw [e1, hk]; rfl
  rw [← henv]
  refine ks_wpAt_execs_cons (ks_wpAt_Expr_any (ks_wpAt_MethodCall (pl := pl env) ?_ (hcall env)) e8 (hs1 env))
  refine ks_wpAt_super_base (by rw [Env.kindOf, e1]; exact sk) (by rw [Env.kindOf, e1]; exact ck) (by decide) e5 (K1 _ _ lk) rfl hd e6 (K1 _ _ lcda) rfl hvs hfile htop ?_
  refine ks_loadName_global (by rw [e1]; exact hk) (by rw [Env.kindOf, e1]; exact sk) (loadGlobal_builtin (by rw [e3]; exact hns.keeps k1) T.mgs (by rw [e4]; exact hnb.keeps k1) hmb ⟨rfl, ?_⟩)
  refine wpAny_loadName_free (by rw [e1]; exact hk) (by rw [Env.kindOf, e1]; exact ck) (by rw [e7]; rfl) ⟨_, K1 _ _ lcc, rfl⟩ ?_
  rw [har]
  refine wpAny_loadName_local (by rw [e1]; exact hk) (by rw [Env.kindOf, e1]; exact slk) (by rw [e2]; exact hns₁) (v := .ref e) ?_ ?_
  · simp [List.lookup, T.neq.1]
  obtain ⟨nm, qn, Nc, bs, bm, sn, subs, ab, col, dd, k0, kk1, k2, k3, k5, hC, hbm⟩ := T.ox.cls
  have hC1 := K1 _ _ hC
  have he1 : h₁.get? e = some (HandSPX.excO C t0) := k1 _ _ he
  refine ks_wpAny_isType_cls hC1 rfl ⟨rfl, ?_⟩
  refine ks_wpAny_call_super hC1 rfl he1 rfl (fun c z => by cases z) (looks_mroIn K1 T.slf) (fun h₂ hs2' k2' => ?_)
  -- the ledger
  have ne0 : e ≠ hp.objs.size := lt1 _ _ he
  have X₀ : K.In (hideAll hp [e]) := fun b o z => hideAll_get _ (KX b o z) (fun hb => by
    rw [List.mem_singleton.mp hb] at z
    rw [hKe] at z; cases z)
  have F1 : Fr (hideAll hp [e]) hp.objs.size h₁ (fun x => List.lookup x [(("self" : Str), .ref e), (f, u)].reverse) := ⟨hns₁, fun b o z => k1 b o (of_hideAll _ z), Nat.le_of_eq (hideAll_size _ _)⟩
  have N1 : News (hideAll hp [e]) hp.objs.size h₁ [(e, excObj C t0 none .none)] := fun p hp' => by
    rw [List.mem_singleton.mp hp']
    exact ⟨he1, ne0, hideAll_none _ (by simp)⟩
  obtain ⟨F2, N2, l2⟩ := ks_newsPush (s := ⟨h₁, g, d, t + 2, os⟩) (o := ks_superObj C e C) F1 N1 rfl hs2' k2'
  have I2 : InstAt h₂ e (excObj C t0 none .none) C none := ⟨k2' _ _ he1, rfl, rfl, trivial⟩
  refine kxs_method (s := ⟨h₂, g, d, t + 2, os⟩) (so := h₁.objs.size) kxs_ValueError F2 X₀ N2 (by simp) I2 T.opq T.sup T.sub (by decide) (fun q h₃ F3 N3 l3 => ?_)
  have hns3 : h₃.Ns hp.objs.size (fun x => List.lookup x [(("self" : Str), .ref e), (f, u)].reverse) := F3.ns
  have ldf : ∀ {h : Heap} {t' : Nat} {Q : Value → Shared → Prop} {E : Value → Shared → Prop} {p : Pos}, h.Ns hp.objs.size (fun x => List.lookup x [(("self" : Str), .ref e), (f, u)].reverse) → Q u ⟨h, g, d, t', os⟩ → wpAny (model P w) (A.deeper env) (eval (.Name f p) env) Q E ⟨h, g, d, t', os⟩ := fun {h t' Q E p} hn hq =>
    wpAny_Name (wpAny_loadName_local (by rw [e1]; exact hk) (by rw [Env.kindOf, e1]; exact fk) (by rw [e2]; exact hn) (v := u) (by simp [List.lookup]) hq) T.neq.2
  have lds : ∀ {h : Heap} {t' : Nat} {Q : Value → Shared → Prop} {E : Value → Shared → Prop} {p : Pos}, h.Ns hp.objs.size (fun x => List.lookup x [(("self" : Str), .ref e), (f, u)].reverse) → Q (.ref e) ⟨h, g, d, t', os⟩ → wpAny (model P w) (A.deeper env) (eval (.Name "self" p) env) Q E ⟨h, g, d, t', os⟩ := fun {h t' Q E p} hn hq =>
    wpAny_Name (wpAny_loadName_local (by rw [e1]; exact hk) (by rw [Env.kindOf, e1]; exact slk) (by rw [e2]; exact hn) (v := .ref e) (by simp [List.lookup, T.neq.1]) hq) (by decide)
  refine kxs_callWith1 (i := "ValueError.__init__") (u := q) (x := e) N3 (by simp) (spliced_more (ldf hns3 (spliced_none ⟨kxs_at N3 (by simp), ?_⟩)))
  have ls1 : e < h₁.objs.size := Heap.lt_size he1
  have nq : q ≠ e := Nat.ne_of_gt (Nat.lt_trans ls1 (l3 (h₁.objs.size, ks_superObj C e C) (by simp)))
  refine kxs_call (s := ⟨h₃, g, d, t + 3, os⟩) (t := t0) (dv := none) (c2 := .none) F3 X₀ N3 PySem.F.excBase_ValueError T.exi (by simp) (.tail nq (.tail (Nat.ne_of_gt ls1) (.head (by simp)))) (by rw [sizeLine_eq]; simp) (fun t' h₄ F4 N4 l4 => ?_)
  have K4 : K.In h₄ := X₀.keeps F4.keep
  have he4 : h₄.get? e = some (excObj C t' none .none) := (N4 (e, excObj C t' none .none) (by simp)).1
  have hcl : PySem.W.clsIn K C = some { name := nm, bases := bs, mro := .ref C :: bm, ns := Nc, qualname := qn, hasDict := true, slotNames := sn, subclasses := subs, abstract := ab, collection := col, hasDel := false } := by unfold PySem.W.clsIn; rw [hC] <;> rfl
  refine ks_wpAt_execs_cons (ks_wpAt_Assign_Attr (wpAt_of_wpAny (ldf F4.ns (lds F4.ns ?_))) (hs2 env))
  refine PySem.W.set_plain K4 (ox := { cls := .ref C, dict := none, data := .fields #[.ref t', .none, .none, .none, .bool false, .none] }) (od := none) ⟨he4, rfl, rfl, trivial⟩ T.ox.sa ?_
  refine PySem.HandSPX.exc_osa K4 he4 hcl (show PySem.HandSPX.refsVE (.ref C :: bm) = true from hbm) rfl T.nof (fun h' tk' dx k dn dne hx hn => ?_)
  refine wpAt_of_wpAny (wpAny_execs_nil ?_)
  refine hR h' tk' dx t' (fun b o hb hbo => k b o hb (F4.keep b o (hideAll_get _ hbo (by simpa using hb)))) (Nat.le_trans (Nat.le_of_lt F4.ns.lt) dn) dne hx hn
end
section
variable {X : Cx} {x : Str} {p pos : Pos} {ex : Expr} {ta : TA} {C : Addr} {f : Str}
def tMkS (C : Addr) (f : Str) (ta : TA) : L2.St → Hp → XK → Prop := fun σ H Q => ta σ H fun vs H1 => ∃ y, vs = [y] ∧ ∀ dx, H1 dx = none → Q (.ref C) (some dx) (upd H1 dx (.xd [(f, y)]))
theorem pmk_sup (T : SupC X.prog X.K C f X.mg) (hr : Room 1 X.A) (hg : Gl X x) (hm : X.mg x = some (.ref C)) (ha : PA X [ex] ta)
    (hdb : (x == ("__debug__" : Str)) = false := by decide) (he : starEach [ex] X.env = (false, eval ex X.env) :: starEach [] X.env := by rfl) (hpl : (backTo pos (starEach [] X.env)).any (·.1) = false := by rfl) :
    PMk X (.Call (.Name x p) [ex] [] pos) (tMkS C f ta) := by
  intro pins s σ H Q I h
  obtain ⟨nm, qn, Nc, bs, bm, sn, sub, ab, col, dd, k0, k1, k2, k3, k5, hC, hbm⟩ := T.ox.cls
  obtain ⟨fI, iC, tI, _⟩ := T.init
  refine wpAny_Call_Name_kw (ld_glob I hg hm ?_ hdb)
  refine PySem.W.callWith_K (h₀ := X.base) I.ok.mod.kin T.ox.kC (thn (ha.run pos pins s σ H _ I h) fun us s1 ⟨vs, H1, I1, r1, y, ev, q1⟩ => ⟨I1.kIn, ?_⟩) he hpl
  subst ev
  cases r1 with
  | @cons _ u _ us' ry rn =>
  cases rn
  show wpAny _ _ (call (.ref C) [u]) _ _ _
  obtain ⟨hp, g, dr, tk, os⟩ := s1
  have kk : ∀ b o, hp.get? b = some o → ((hp.push (PySem.W.kdv_tup [u])).push (PySem.HandSPX.excO C hp.objs.size)).get? b = some o := fun b o e => Heap.get?_push_of_some _ (Heap.get?_push_of_some _ e)
  have hget : ((hp.push (PySem.W.kdv_tup [u])).push (PySem.HandSPX.excO C hp.objs.size)).get? (hp.objs.size + 1) = some (PySem.HandSPX.excO C hp.objs.size) := by heap_get
  obtain ⟨mb, hnb, hmb⟩ := I1.ok.mod.blt
  have kb : ∀ b o, X.base.get? b = some o → ((hp.push (PySem.W.kdv_tup [u])).push (PySem.HandSPX.excO C hp.objs.size)).get? b = some o := fun b o z => kk b o (I1.bk b o z)
  have hKe : X.K.lookup (hp.objs.size + 1) = none := by
    cases z : X.K.lookup (hp.objs.size + 1) with
    | none => rfl
    | some o => exact absurd (Heap.lt_size (I1.kIn _ _ z)) (Nat.not_lt.mpr (Nat.le_succ _))
  refine wpAny_call (PySem.HandSPX.call_own PySem.F.excBase_ValueError (fun Y => PySem.HandSPX.refsVE_contains Y bm hbm) (I1.kIn _ _ hC) (PySem.W.looks_findIn I1.kIn iC) (fun self => PySem.W.bind_fn I1.kIn self tI) (by rw [sizeLine_eq]; simp)
    (sup_run (mb := mb) T (I1.ok.mod.kin.keeps kb) (I1.ok.mod.nolimit.keeps kb) (I1.ok.mod.glob.keeps kb) (hnb.keeps kb) ((hmb _ (by decide +kernel)).trans (by decide +kernel)) (hr.make C [u] []).depth hget hKe iC (fun h' t' dx t1 k dn dne hx hn => ⟨rfl, ?_⟩)))
  have hda : dx ≠ hp.objs.size + 1 := dne
  have hdn : hp.objs.size ≤ dx := by
    refine Nat.le_trans ?_ dn
    exact Nat.le_of_lt (Nat.lt_trans (Nat.lt_succ_self _) (Heap.lt_size hget))
  obtain ⟨G, g1, g2⟩ := restrict h' fun b => decide (b ≠ hp.objs.size + 1)
  have gk : ∀ b, b ≠ hp.objs.size + 1 → G.get? b = h'.get? b := fun b hb => g1 b (decide_eq_true hb)
  have ge : G.get? (hp.objs.size + 1) = none := g2 _ (by simp)
  have nh : ∀ {b : Addr} {o : Obj}, hp.get? b = some o → b ≠ hp.objs.size + 1 := fun {b o} z => Nat.ne_of_lt (Nat.lt_succ_of_lt (Heap.lt_size z))
  have kG : ∀ b o, hp.get? b = some o → G.get? b = some o := fun b o z => by rw [gk b (nh z)]; exact k b o (nh z) (kk b o z)
  have hd1 : H1 dx = none := I1.hok.fresh hdn
  have J : Inv X pins σ (upd H1 dx (.xd [(f, y)])) ⟨G, g, dr, t', os⟩ := I1.laid (t' := t') (a := dx) (o := .xd [(f, y)]) (h' := G) kG hdn
    ⟨_, hn.at fun o z => (gk dx hda).trans z, relO_put (fs := []) ry fun g => True.intro⟩
  have na : (upd H1 dx (.xd [(f, y)])) (hp.objs.size + 1) = none := by
    rw [upd_ne (Ne.symm hda)]
    exact I1.hok.fresh (Nat.le_succ _)
  exact ⟨hp.objs.size + 1, _, _, ⟨G, g, dr, t', os⟩, _, .ref C, some dx, rfl, J, fun b o z => by
    by_cases hb : b = hp.objs.size + 1
    · rw [hb, ge] at z; cases z
    · rw [← gk b hb]; exact z, ge, hx, ⟨rfl, rfl⟩, rfl, rfl, na, rfl, J.bare, raises_own T.ox.exC T.ox.tyC, q1 dx hd1⟩
end
end DL

/-! SY: over trees: making such errors; their fields and classes in a suite. -/
namespace DL
open PySem PySem.Spec PyProof.Rows L2
variable [W0 : Wsh]
/-! ### C(e) -/
def dMkS (x f : Str) (te : DTE) : DTM := fun τ M Xd => te τ M fun d M1 => Xd x [(f, d)] M1
theorem dmk_sup {X : Cx} {x f : Str} {p pos : Pos} {e : Expr} {te : DTE} (T : SupC X.prog X.K (Wsh.cls x) f X.mg) (hr : Room 1 X.A) (hm : X.mg x = some (.ref (Wsh.cls x))) (ha : DE X e te) (hg : Gl X x := by rfl)
    (hdb : (x == ("__debug__" : Str)) = false := by decide) (he : starEach [e] X.env = (false, eval e X.env) :: starEach [] X.env := by rfl) (hpl : (backTo pos (starEach [] X.env)).any (·.1) = false := by rfl) :
    DMk X (.Call (.Name x p) [e] [] pos) (dMkS x f te) := by
  obtain ⟨u, pu, ru⟩ := ha.ex
  refine ⟨_, pmk_sup T hr hg hm (pa_cons pu pa_nil he) hdb he hpl, fun F H σ τ M Xd Q R q kx => ?_⟩
  refine ru F H σ τ M _ _ R q fun v F1 H1 d M1 e1 R1 r1 q1 => ⟨v, rfl, fun dx hdx => ?_⟩
  obtain ⟨e2, R2⟩ := R1.heap.frozen (o := .xd [(f, v)]) hdx
  exact kx _ _ M1 x (some dx) [(f, d)] (e1.trans e2) (R1.mono e2.ext R2) (.inr ⟨dx, [(f, v)], rfl, upd_same, .cons (r1.mono e2.ext) .nil⟩) q1
/-! ### in a suite -/
section
variable {X : Cx} {a : Addr} {oe : Obj} {d : Option Addr} {m : Str} {pn : List (Addr × Obj)} {e : Expr} {te : DTE} {pos p p2 : Pos}
/-- the error's field -/
def dXf (a : Addr) (d : Option Addr) (f : Str) (te : DTE) : DTE := fun τ M Q => te τ M fun x M1 => match x with
  | .exc a' d' _ fs => a' = a ∧ d' = d ∧ ∃ v, fs.lookup f = some v ∧ Q v M1
  | _ => False
theorem RelFs.lookup {K : PySem.W.Frag} {F : Hp} {f : Str} : ∀ {vs : List (Str × V)} {ds : List (Str × D)} {y : D}, RelFs K F vs ds → ds.lookup f = some y → ∃ v, vs.lookup f = some v ∧ RelD K F v y
  | _, _, _, .nil, h => by simp at h
  | _, _, y, .cons (k := k) (v := v) (d := d) h r, e => by
    by_cases c : f = k
    · subst c
      simp [List.lookup] at e
      subst e
      exact ⟨v, by simp [List.lookup], h⟩
    · have c' : (f == k) = false := by simpa using c
      rw [List.lookup, c'] at e
      obtain ⟨v', h1, h2⟩ := RelFs.lookup r e
      exact ⟨v', by rw [List.lookup, c']; exact h1, h2⟩
theorem de_xf {f : Str} (T : XfC X.K (Wsh.cls m)) (hno : PySem.W.findIn X.K (.ref (Wsh.cls m)) f = some none) (hz : Zc (.ref (Wsh.cls m)) d oe) (hf : ∃ vs, oe.data = .fields vs)
    (he : DE (X.suite a ((a, oe) :: pn)) e te) (hb : attributeBase e f X.env (eval e X.env) = eval e X.env := by rfl) : DE (X.suite a ((a, oe) :: pn)) (.Attribute e f pos) (dXf a d f te) := by
  obtain ⟨u, pu, ru⟩ := he.ex
  refine ⟨_, pe_xf T hno hz hf pu hb, fun F H σ τ M Qd Q R q k => ?_⟩
  refine ru F H σ τ M _ _ R q fun v F1 H1 x M1 e1 R1 r1 q1 => ?_
  cases x <;> first | exact q1.elim | skip
  obtain ⟨rfl, rfl, y, h1, q2⟩ := q1
  cases r1 with
  | exc0 => simp at h1
  | exc1 h2 h3 =>
    obtain ⟨v', h4, h5⟩ := h3.lookup h1
    exact ⟨rfl, rfl, _, _, v', rfl, R1.heap.sub _ _ h2, h4, k v' F1 H1 y M1 e1 R1 h5 q2⟩
/-- isinstance(error, a class of the text) -/
def dIsE (sub : Str → Str → Option Bool) (a : Addr) (d : Option Addr) (m n : Str) (te : DTE) : DTE := fun τ M Q => te τ M fun x M1 => match x with
  | .exc a' d' _ _ => a' = a ∧ d' = d ∧ ∃ b, sub m n = some b ∧ Q (.bl b) M1
  | _ => False
/-- what is known of an error's class for isinstance -/
structure IsC (K : PySem.W.Frag) (C : Addr) : Prop where
  hcl : (PySem.W.clsIn K C).isSome = true
  hg : PySem.W.findIn K (.ref C) "__getattribute__" = some (some (.builtin "BaseException.__getattribute__"))
  hk : PySem.W.findIn K (.ref C) "__getattr__" = some none
  hs : PySem.W.subIn K (.ref C) (.type "BaseException") = some true
  ha : PySem.W.findIn K (.ref C) "__class__" = some (some (.builtin "object.__class__"))
  hn : PySem.W.specialIn K (.builtin "object.__class__") "__get__" = some (some (.builtin "getset_descriptor.__get__"))
  ht : PySem.W.takesIn K (.builtin "object.__class__") = some true
  hm : PySem.W.mroIn K C (.type "object") = some true
def rIsX (K : PySem.W.Frag) (C a : Addr) (d : Option Addr) : List V → Hp → VK → Prop := fun xs H Q => ∃ (c : Addr) (b : Bool), xs = [.ref a, .ref c] ∧ (d = none ∨ ∃ dd fs, d = some dd ∧ H dd = some (.xd fs)) ∧ PySem.W.kitOne K (.ref C) (.ref c) = some b ∧ Q (.bl b) H
theorem call_isX {C : Addr} (T : IsC X.K C) (hz : Zc (.ref C) d oe) (hf : ∃ vs, oe.data = .fields vs) : CallR (X.suite a ((a, oe) :: pn)) (.builtin "isinstance") (rIsX X.K C a d) := by
  intro pins s σ H xs us Q I r h
  obtain ⟨c, b, rfl, hd, e, q⟩ := h
  cases r with
  | cons rx rr =>
    cases rr with
    | cons rt rr =>
      cases rr
      cases rx
      cases rt
      obtain ⟨hget, _⟩ := I.pin (a, oe) (List.mem_append.mpr (.inl List.mem_cons_self))
      obtain ⟨vs, hv⟩ := hf
      have J : ∃ od, PySem.W.InstAt s.heap a oe C od := by
        obtain ⟨oc, odd, oda, osl⟩ := oe
        obtain ⟨h1, h2⟩ := hz
        dsimp only at h1 h2 hv
        subst h1 h2 hv
        rcases hd with rfl | ⟨dd, fs, rfl, hdd⟩
        · exact ⟨none, hget, rfl, rfl, trivial⟩
        · have hx : ObjOk X.prog X.w H s.heap dd (.xd fs) := I.hok dd _ hdd
          obtain ⟨mA, ⟨od, _, _, ho, _⟩, _⟩ := hx
          exact ⟨some od, hget, rfl, rfl, ho⟩
      obtain ⟨od, J⟩ := J
      exact PySem.W.kia_one (PySem.W.kitx_exc T.hcl T.hg T.hk T.hs T.ha T.hn T.ht T.hm) I.kIn J e (fun z => nomatch z) fun tk => ⟨.bl b, H, I.kept (t' := tk) fun _ _ z => z, rfl, q⟩
theorem de_isE {n x : Str} {sub : Str → Str → Option Bool} (T : IsC X.K (Wsh.cls m)) (hz : Zc (.ref (Wsh.cls m)) d oe) (hf : ∃ vs, oe.data = .fields vs) (hsub : ∀ b, sub m n = some b → PySem.W.kitOne X.K (.ref (Wsh.cls m)) (.ref (Wsh.cls n)) = some b)
    (he : DE (X.suite a ((a, oe) :: pn)) e te) (hn : X.mg n = some (.ref (Wsh.cls n))) (hm : X.mg x = none) (hgn : Gl X n := by rfl) (hg : Gl X x := by rfl) (hv : bootBuiltins x = some (.builtin "isinstance") := by decide +kernel)
    (hnd : (n == ("__debug__" : Str)) = false := by decide) (hx : x ≠ "__name__" := by decide) (hdb : (x == ("__debug__" : Str)) = false := by decide)
    (h1 : starEach [e, .Name n p2] X.env = (false, eval e X.env) :: starEach [.Name n p2] X.env := by rfl) (h2 : starEach [.Name n p2] X.env = (false, eval (.Name n p2) X.env) :: starEach [] X.env := by rfl)
    (hpl : (backTo pos (starEach [.Name n p2] X.env)).any (·.1) = false := by rfl) : DE (X.suite a ((a, oe) :: pn)) (.Call (.Name x p) [e, .Name n p2] [] pos) (dIsE sub a d m n te) := by
  obtain ⟨u, pu, ru⟩ := he.ex
  refine ⟨_, pe_callB (X := X.suite a ((a, oe) :: pn)) (call_isX T hz hf) hg hm hv (pa_cons pu (pa_cons (pe_glob (X := X.suite a ((a, oe) :: pn)) (v := .ref (Wsh.cls n)) hgn hn rfl hnd) pa_nil h2) h1) hx hdb h1 hpl, fun F H σ τ M Qd Q R q k => ?_⟩
  refine ru F H σ τ M _ _ R q fun v F1 H1 y M1 e1 R1 r1 q1 => ?_
  cases y <;> first | exact q1.elim | skip
  obtain ⟨rfl, rfl, b, hb, q2⟩ := q1
  cases r1 with
  | exc0 => exact ⟨_, b, rfl, .inl rfl, hsub b hb, k _ F1 H1 _ M1 e1 R1 (.bl b) q2⟩
  | exc1 h2 h3 => exact ⟨_, b, rfl, .inr ⟨_, _, rfl, R1.heap.sub _ _ h2⟩, hsub b hb, k _ F1 H1 _ M1 e1 R1 (.bl b) q2⟩
end
end DL

/-! EZ: own classes' instances over trees: made, fields, methods. -/
namespace DL
open PySem PySem.Spec PyProof.Rows L2
variable [Wsh]
section
variable {X : Cx} {CX : CXT} {k : Nat} {f C : Addr} {fd : FuncData} {ps : List Str} {sp : Sp} {E : XK} {x m : Str} {p pos apos : Pos} {e o : Expr} {es : List Expr} {t : TA} {ta : TE}
theorem guards_make {A : Around} {us : List Value} (g : A.guards = some []) : (A.under (.builtin "type.__call__" ⟨us, []⟩)).guards = some [] := by
  have c : (Code.builtin "type.__call__" ⟨us, []⟩).isGuard = false := by first | rfl | (simp [Code.isGuard]; done) | decide +kernel
  simp [Around.under, g, pushGuards, Code.guards, c]
theorem goMake {pins : List (Addr × Obj)} {σ : L2.St} {H : Hp} {s : Shared} {Q : VK} {us : List Value} {vs : List V} (Mk : L2.Mk X.K C f) (G : FnG X.prog X.w X.K X.mg X.base CX k f fd ps sp) (g : X.A.guards = some []) (hr : Room (k + 1) X.A) (hb : Binds X.K fd ps [])
    (hx : Passes CX X E) (I : Inv X pins σ H s) (r : Vals vs us)
    (h : ∀ x dx, H x = none → H dx = none → dx ≠ x → sp (.ref x :: vs) (upd (upd H dx (.own x)) x (.ins C dx [])) (fun v H2 => v = .non ∧ Q (.ref x) H2) E) :
    wpAny (model X.prog X.w) X.A (call (.ref C) us) (EP X pins σ Q) X.xe s := by
  have hq := h (s.heap.objs.size + 1) s.heap.objs.size (I.hok.fresh (Nat.le_succ _)) (I.hok.fresh (Nat.le_refl _)) (Nat.ne_of_lt (Nat.lt_succ_self _))
  have I2 := Inv.made (C := C) I
  have r2 : Vals (V.ref (s.heap.objs.size + 1) :: vs) (Value.ref (s.heap.objs.size + 1) :: us) := .cons rfl r
  have hl : (Value.ref (s.heap.objs.size + 1) :: us ++ []).length = ps.length := by
    have e := r2.length
    rw [G.many hq] at e
    rw [List.append_nil]
    exact e.symm
  have bd := hb _ (Value.ref (s.heap.objs.size + 1) :: us) I2.kIn hl
  rw [List.append_nil] at bd
  refine wpAny_call (make_map (f := f) I.kIn Mk.makes Mk.init (beq_iff_eq.mp Mk.fn) (codeAny_mono (G.goes (args := ⟨Value.ref (s.heap.objs.size + 1) :: us, []⟩) (guards_make g) (hr.make C us []) (I2.env0.make C us []) bd r2 hq) fun r s' hq' => ?_))
  cases r with
  | error e => exact hx pins σ _ _ e s' I2 hq'
  | ok fl =>
    cases fl with
    | ret u =>
      obtain ⟨v, H', I3, rv, ev, q3⟩ := I2.after hq'
      subst ev
      exact ⟨rv, ⟨V.ref (s.heap.objs.size + 1), H', I3, rfl, q3⟩⟩
    | next => exact False.elim hq'
    | brk => exact False.elim hq'
    | cont => exact False.elim hq'
theorem pe_makeG0 (Mk : L2.Mk X.K C f) (G : FnG X.prog X.w X.K X.mg X.base CX k f fd ps sp) (g : X.A.guards = some []) (hr : Room (k + 1) X.A) (hg : Gl X x) (hm : X.mg x = some (.ref C)) (hb : Binds X.K fd ps []) (hx : Passes CX X E)
    (hdb : (x == ("__debug__" : Str)) = false) : PE X (.Call (.Name x p) [] [] pos) (tMake C sp [] E tNil) := by
  refine ⟨fun pins s σ H Q I h => ?_⟩
  refine wpAny_Call_Name_kw (ld_glob I hg hm ?_ hdb)
  exact PySem.W.callWith_K0 I.kIn Mk.kp (goMake (us := []) Mk G g hr hb hx I .nil h)
theorem pe_methG {pl : Sem Bool} (he : PE X o ta) (c : Cls X.K C) (hm : Meth X.K C m f) (G : FnG X.prog X.w X.K X.mg X.base CX k f fd ps sp) (g : X.A.guards = some []) (hr : Room k X.A) (hb : Binds X.K fd ps []) (hx : Passes CX X E) (ha : PA X (e :: es) t)
    (hst : starEach (e :: es) X.env = (false, eval e X.env) :: starEach es X.env) (hpl : (backTo pos (starEach es X.env)).any (·.1) = false)
    (ht : eval (.Call (.Attribute o m apos) (e :: es) [] pos) X.env = (do
      let ov ← eval o X.env
      standAt apos.atName
      let (f, first) ← holding [ov] (getMethod ov m pl)
      callWith pos f first (backTo pos (starEach (e :: es) X.env)) (backToKw pos (keywordEach [] X.env)))) :
    PE X (.Call (.Attribute o m apos) (e :: es) [] pos) (tMeth C m sp [] E ta t) := by
  refine ⟨fun pins s σ H Q I h => ?_⟩
  refine PySem.W.methodCall_KW (pl := pl) (thn (he.run pins s σ H _ I h) fun u s1 ⟨x, H1, I1, rx, a, dx, fs, ex, ea, l, q⟩ => ?_) ht
  subst ex
  obtain rfl : u = Value.ref a := rx
  refine getmeth_ok I1 ea c hm l ?_
  refine PySem.W.callWith_K (first := [.ref a]) (h₀ := X.base) I.ok.mod.kin hm.kp (thn (ha.run pos pins s1 σ H1 _ I1 q) fun us s2 ⟨vs, H2, I2, r, q2⟩ => ⟨I2.kIn, ?_⟩) hst hpl
  have q2 : sp (V.ref a :: (vs ++ [])) H2 Q E := q2
  rw [List.append_nil] at q2
  exact goG (us := .ref a :: us) (vs := .ref a :: vs) G g hr hb hx I2 (.cons rfl r) q2
end

/-! ### over trees -/
section
variable {X : Cx} {k : Nat} {C : Addr} {ps : List Str} {dsp : DSp} {x m : Str} {p pos apos : Pos} {e o : Expr} {es : List Expr} {t : DTA} {to te : DTE}
/-- a method of the class at C keeps its promise -/
structure DMt (P : Program) (w : World) (K : PySem.W.Frag) (mg : Str → Option Value) (base : Heap) (C : Addr) (k : Nat) (m : Str) (ps : List Str) (dsp : DSp) : Prop where
  ex : ∃ f fd, FnG P w K mg base CX0 k f fd ps (spD K dsp) ∧ Cls K C ∧ Meth K C m f ∧ Binds K fd ps []
/-- .. its __init__ -/
structure DIn (P : Program) (w : World) (K : PySem.W.Frag) (mg : Str → Option Value) (base : Heap) (C : Addr) (k : Nat) (ps : List Str) (dsp : DSp) : Prop where
  ex : ∃ f fd, FnG P w K mg base CX0 k f fd ps (spD K dsp) ∧ Mk K C f ∧ Binds K fd ps []
/-- C() -/
def dMake0 (C : Addr) (dsp : DSp) : DTE := fun _ M Q => ∀ a, M a = none → dsp [.ref a] (M.upd a (.ins C [])) fun v M2 => v = .non ∧ Q (.ref a) M2
theorem Rst0.made {K : PySem.W.Frag} {F H : Hp} {M : Sto} {C x dx : Addr} (r : Rst0 K F H M) (hx : H x = none) (hd : H dx = none) (n : dx ≠ x) :
    Stp F H M F (upd (upd H dx (.own x)) x (.ins C dx [])) (M.upd x (.ins C [])) ∧ Rst0 K F (upd (upd H dx (.own x)) x (.ins C dx [])) (M.upd x (.ins C [])) := by
  obtain ⟨f1, m1⟩ := r.free hx
  obtain ⟨f2, m2⟩ := r.free hd
  refine ⟨⟨Ext.refl F, fun b w e nn => ?_, fun b hb => ?_⟩, fun b w e => ?_, fun b w e => ?_⟩
  · have h1 := ne_of_none e hx
    have h2 := ne_of_none e hd
    exact ⟨by rw [upd_ne h1, upd_ne h2]; exact e, by rw [Sto.upd_ne h1]; exact nn, fun z => z⟩
  · exact upd_al b (upd_al b hb)
  · rw [upd_ne (ne_of_none e f1), upd_ne (ne_of_none e f2)]; exact r.sub b w e
  · by_cases hb : b = x
    · subst hb
      rw [Sto.upd_same] at e; cases e
      exact ⟨f1, _, upd_same, rfl, .nil⟩
    · rw [Sto.upd_ne hb] at e
      obtain ⟨h1, ho, h2, h3⟩ := r.sto b w e
      exact ⟨h1, ho, by rw [upd_ne hb, upd_ne (ne_of_none h2 hd)]; exact h2, h3⟩
theorem de_make0 (G : DIn X.prog X.w X.K X.mg X.base C k ps dsp) (g : X.A.guards = some []) (hr : Room (k + 1) X.A) (hm : X.mg x = some (.ref C)) (hg : Gl X x := by rfl) (hdb : (x == ("__debug__" : Str)) = false := by decide) :
    DE X (.Call (.Name x p) [] [] pos) (dMake0 C dsp) := by
  obtain ⟨f, fd, G, mk, hb⟩ := G.ex
  refine ⟨_, pe_makeG0 mk G g hr hg hm hb pass0 hdb, fun F H σ τ M Qd Q R q k => ?_⟩
  intro a dx ha hd hn
  obtain ⟨e1, R1⟩ := R.heap.made (C := C) ha hd hn
  refine ⟨F, M.upd a (.ins C []), [.ref a], _, R1, .cons (.ref a) .nil, q a (R.heap.free ha).2, fun v F2 H2 d M2 e2 R2 r2 q2 => ?_⟩
  obtain ⟨rfl, q2⟩ := q2
  cases r2
  exact ⟨rfl, k (.ref a) F2 H2 (.ref a) M2 (e1.trans e2) (R.mono e2.ext R2) (.ref a) q2⟩
/-- o.m(..) -/
def dMeth (C : Addr) (m : Str) (dsp : DSp) (to : DTE) (t : DTA) : DTE := fun τ M Q => to τ M fun x M1 => match x with
  | .ref a => (∃ fs, M1 a = some (.ins C fs) ∧ fs.lookup m = none) ∧ t τ M1 fun ds M2 => dsp (.ref a :: ds) M2 Q
  | _ => False
theorem RelFs.lookup_none {K : PySem.W.Frag} {F : Hp} {f : Str} : ∀ {vs : List (Str × V)} {ds : List (Str × D)}, RelFs K F vs ds → ds.lookup f = none → vs.lookup f = none
  | _, _, .nil, h => rfl
  | _, _, .cons (k := k) (v := v) (d := d) h r, e => by
    by_cases c : f = k
    · subst c; simp [List.lookup] at e
    · have c' : (f == k) = false := by simpa using c
      rw [List.lookup, c'] at e ⊢
      exact RelFs.lookup_none r e
theorem de_meth {pl : Sem Bool} (he : DE X o to) (G : DMt X.prog X.w X.K X.mg X.base C k m ps dsp) (g : X.A.guards = some []) (hr : Room k X.A) (ha : DA X (e :: es) t)
    (hst : starEach (e :: es) X.env = (false, eval e X.env) :: starEach es X.env := by rfl) (hpl : (backTo pos (starEach es X.env)).any (·.1) = false := by rfl)
    (ht : eval (.Call (.Attribute o m apos) (e :: es) [] pos) X.env = (do
      let ov ← eval o X.env
      standAt apos.atName
      let (f, first) ← holding [ov] (getMethod ov m pl)
      callWith pos f first (backTo pos (starEach (e :: es) X.env)) (backToKw pos (keywordEach [] X.env))) := by rfl) :
    DE X (.Call (.Attribute o m apos) (e :: es) [] pos) (dMeth C m dsp to t) := by
  obtain ⟨u, pu, ru⟩ := he.ex
  obtain ⟨w, pw, rw'⟩ := ha.ex
  obtain ⟨f, fd, G, c, hm, hb⟩ := G.ex
  refine ⟨_, pe_methG (pl := pl) pu c hm G g hr hb pass0 pw hst hpl ht, fun F H σ τ M Qd Q R q k => ?_⟩
  refine ru F H σ τ M _ _ R q fun v F1 H1 y M1 e1 R1 r1 q1 => ?_
  cases y <;> first | exact q1.elim | skip
  rename_i a
  obtain ⟨⟨fs, h1, h2⟩, q1⟩ := q1
  obtain ⟨hf, ho, h3, h4⟩ := R1.heap.sto a _ h1
  cases r1
  cases ho <;> first | exact False.elim h4 | skip
  obtain ⟨rfl, h5⟩ := h4
  refine ⟨a, _, _, rfl, h3, h5.lookup_none h2, ?_⟩
  refine rw' F1 H1 σ τ M1 _ _ R1 q1 fun vs F2 H2 ds M2 e2 R2 r2 q2 => ?_
  refine ⟨F2, M2, .ref a :: ds, Qd, R2.heap, .cons (.ref a) (by rw [List.append_nil]; exact r2), q2, fun v F3 H3 d M3 e3 R3 r3 q3 => k v F3 H3 d M3 (e1.trans (e2.trans e3)) (R2.mono e3.ext R3) r3 q3⟩
/-- o.f -/
def dFld (C : Addr) (f : Str) (to : DTE) : DTE := fun τ M Q => to τ M fun x M1 => match x with
  | .ref a => (match M1 a with
    | some (.ins C' fs) => C' = C ∧ ∃ v, fs.lookup f = some v ∧ Q v M1
    | _ => False)
  | _ => False
theorem de_fld {f : Str} (c : Cls X.K C) (n : NoAttr X.K C f) (he : DE X e to) (hb : attributeBase e f X.env (eval e X.env) = eval e X.env := by rfl) : DE X (.Attribute e f pos) (dFld C f to) := by
  obtain ⟨u, pu, ru⟩ := he.ex
  refine ⟨_, pe_fld pu hb, fun F H σ τ M Qd Q R q k => ?_⟩
  refine ru F H σ τ M _ _ R q fun v F1 H1 y M1 e1 R1 r1 q1 => ?_
  cases y <;> first | exact q1.elim | skip
  rename_i a
  simp only at q1
  split at q1
  · rename_i C' fs h1
    obtain ⟨rfl, y, h2, q1⟩ := q1
    obtain ⟨hf, ho, h3, h4⟩ := R1.heap.sto a _ h1
    cases r1
    cases ho <;> first | exact False.elim h4 | skip
    obtain ⟨rfl, h5⟩ := h4
    obtain ⟨v', h6, h7⟩ := h5.lookup h2
    exact ⟨a, _, _, _, v', rfl, h3, c, n, h6, k v' F1 H1 y M1 e1 R1 h7 q1⟩
  · exact q1.elim
def putFD (f : Str) (d : D) : List (Str × D) → List (Str × D)
  | [] => [(f, d)]
  | (g, x) :: r => if g = f then (g, d) :: r else (g, x) :: putFD f d r
theorem RelFs.put {K : PySem.W.Frag} {F : Hp} {f : Str} {v : V} {d : D} (h : RelD K F v d) : ∀ {vs : List (Str × V)} {ds : List (Str × D)}, RelFs K F vs ds → RelFs K F (putF f v vs) (putFD f d ds)
  | _, _, .nil => .cons h .nil
  | _, _, .cons (k := k) a r => by
    unfold putF putFD
    by_cases c : k = f
    · rw [if_pos c, if_pos c]; exact .cons h r
    · rw [if_neg c, if_neg c]; exact .cons a (RelFs.put h r)
theorem RelFs.len {K : PySem.W.Frag} {F : Hp} : ∀ {vs : List (Str × V)} {ds : List (Str × D)}, RelFs K F vs ds → vs.length = ds.length
  | _, _, .nil => rfl
  | _, _, .cons _ r => by rw [List.length_cons, List.length_cons, RelFs.len r]
/-- o.f = e -/
def dFldSet (C : Addr) (f : Str) (to te : DTE) : DTS := fun D τ M => te τ M fun y M1 => to τ M1 fun x M2 => match x with
  | .ref a => (match M2 a with
    | some (.ins C' fs) => C' = C ∧ fs.length < 1000 ∧ D.nx τ (M2.upd a (.ins C (putFD f y fs)))
    | _ => False)
  | _ => False
theorem ds_fld {f : Str} {pos' : Pos} (c : Cls X.K C) (n : NoAttr X.K C f) (ho : DE X o to) (he : DE X e te) (hs : swapsWith e (some (.Attribute o f pos')) pos.line X.env = pure false := by rfl) : DS X (.Assign [.Attribute o f pos'] e pos) (dFldSet C f to te) := by
  obtain ⟨u, pu, ru⟩ := ho.ex
  obtain ⟨w, pw, rw'⟩ := he.ex
  refine ⟨_, ps_fld pu pw hs, fun F H σ τ M D E R q r => ?_⟩
  refine rw' F H σ τ M _ _ R q fun v F1 H1 y M1 e1 R1 r1 q1 => ?_
  refine ru F1 H1 σ τ M1 _ _ R1 q1 fun z F2 H2 x M2 e2 R2 r2 q2 => ?_
  cases x <;> first | exact q2.elim | skip
  rename_i a
  simp only at q2
  split at q2
  · rename_i C' fs h1
    obtain ⟨rfl, hl, q2⟩ := q2
    obtain ⟨hf, ho, h3, h4⟩ := R2.heap.sto a _ h1
    cases r2
    cases ho <;> first | exact False.elim h4 | skip
    obtain ⟨rfl, h5⟩ := h4
    obtain ⟨e3, R3⟩ := R2.heap.write (o := .ins _ _ (putF f v _)) (u := .ins _ (putFD f y fs)) h1 ⟨rfl, h5.put (r1.mono e2.ext)⟩
    exact ⟨a, _, _, _, rfl, h3, c, n, by rw [h5.len]; exact hl, r.nx _ _ σ τ _ (e1.trans (e2.trans e3)) (R2.mono e3.ext R3) q2⟩
  · exact q2.elim
end
end DL

/-! FA: dicts whose keys are numbers, texts, None and tuples of such: look-up, in, [], []=. -/
namespace DL
open PySem PySem.Spec PyProof.Rows L2
/-! ### where a key stands -/
section
variable {K β : Type} [DecidableEq K]
def atB (xs : List (K × β)) (k : K) : Option β := (xs.find? fun x => decide (x.1 = k)).map (·.2)
theorem idx_uniq {xs : List (K × β)} (hn : (xs.map (·.1)).Nodup) {i j : Nat} {k : K} {p q : β} (hi : xs[i]? = some (k, p)) (hj : xs[j]? = some (k, q)) : i = j := by
  have hi' : (xs.map (·.1))[i]? = some k := by rw [List.getElem?_map, hi]; rfl
  have hj' : (xs.map (·.1))[j]? = some k := by rw [List.getElem?_map, hj]; rfl
  exact (List.getElem?_inj (List.getElem?_eq_some_iff.mp hi').1 hn).mp (hi'.trans hj'.symm)
theorem atB_of_get {xs : List (K × β)} (hn : (xs.map (·.1)).Nodup) {i : Nat} {k : K} {p : β} (hx : xs[i]? = some (k, p)) : atB xs k = some p := by
  induction xs generalizing i with
  | nil => simp at hx
  | cons x rest ih =>
    rw [List.map_cons, List.nodup_cons] at hn
    cases i with
    | zero =>
      simp only [List.getElem?_cons_zero, Option.some.injEq] at hx
      subst hx; simp [atB]
    | succ j =>
      simp only [List.getElem?_cons_succ] at hx
      have hmem : k ∈ rest.map (·.1) := List.mem_map.mpr ⟨(k, p), List.mem_of_getElem? hx, rfl⟩
      have hne : ¬ x.1 = k := fun e => hn.1 (e ▸ hmem)
      have := ih hn.2 hx
      simpa [atB, List.find?_cons, hne] using this
theorem atB_none {xs : List (K × β)} {k : K} (h : ∀ (j : Nat) (p : β), xs[j]? ≠ some (k, p)) : atB xs k = none := by
  have : (xs.find? fun x => decide (x.1 = k)) = none := by
    rw [List.find?_eq_none]
    intro x hx hk
    obtain ⟨j, hj⟩ := List.mem_iff_getElem?.mp hx
    have hk' : x.1 = k := of_decide_eq_true hk
    exact h j x.2 (by rw [hj, ← hk'])
  simp [atB, this]
theorem not_mem_keysB {xs : List (K × β)} {k : K} (h : ∀ (j : Nat) (p : β), xs[j]? ≠ some (k, p)) : k ∉ xs.map (·.1) := by
  intro hm
  obtain ⟨x, hx, rfl⟩ := List.mem_map.mp hm
  obtain ⟨j, hj⟩ := List.mem_iff_getElem?.mp hx
  exact h j x.2 hj
end
/-- k's value is v, another key is put at the end -/
def putB {K α β : Type} [DecidableEq K] (xs : List (K × α × β)) (k : K) (a : α) (v : β) : List (K × α × β) :=
  if (atB xs k).isSome then xs.map (fun x => if x.1 = k then (x.1, x.2.1, v) else x) else xs ++ [(k, a, v)]
theorem keys_putB {K α β : Type} [DecidableEq K] {xs : List (K × α × β)} {k : K} {v : β} : (xs.map fun x => if x.1 = k then (x.1, x.2.1, v) else x).map (·.1) = xs.map (·.1) := by
  rw [List.map_map]
  apply List.map_congr_left
  intro x _
  simp only [Function.comp_apply]
  split <;> rfl
theorem putB_same {K α β : Type} [DecidableEq K] {xs : List (K × α × β)} {k : K} {v : β} (h : k ∉ xs.map (·.1)) : (xs.map fun x => if x.1 = k then (x.1, x.2.1, v) else x) = xs := by
  have : ∀ x ∈ xs, (if x.1 = k then (x.1, x.2.1, v) else x) = x := fun x hx => if_neg fun e => h (List.mem_map.mpr ⟨x, hx, e⟩)
  exact (List.map_congr_left this).trans (List.map_id _)
theorem modify_putB {K α β γ : Type} [DecidableEq K] (f : K × α × β → γ) (g : γ → γ) (k : K) (v : β) (hg : ∀ a v₀, g (f (k, a, v₀)) = f (k, a, v)) :
    ∀ {xs : List (K × α × β)} {j : Nat} {p : α × β}, (xs.map (·.1)).Nodup → xs[j]? = some (k, p) → (xs.map f).modify j g = (xs.map fun x => if x.1 = k then (x.1, x.2.1, v) else x).map f := by
  intro xs
  induction xs with
  | nil => intro j p _ hj; simp at hj
  | cons x rest ih =>
    intro j p hn hj
    rw [List.map_cons, List.nodup_cons] at hn
    cases j with
    | zero =>
      simp only [List.getElem?_cons_zero, Option.some.injEq] at hj
      subst hj
      rw [List.map_cons, List.map_cons, putB_same hn.1, if_pos rfl, List.map_cons]
      show g (f (k, p)) :: rest.map f = f (k, p.1, v) :: rest.map f
      rw [show (k, p) = (k, p.1, p.2) from rfl, hg]
    | succ j =>
      simp only [List.getElem?_cons_succ] at hj
      have hmem : k ∈ rest.map (·.1) := List.mem_map.mpr ⟨(k, p), List.mem_of_getElem? hj, rfl⟩
      have hne : ¬ x.1 = k := fun e => hn.1 (e ▸ hmem)
      rw [List.map_cons, List.map_cons, if_neg hne, List.map_cons]
      show f x :: (rest.map f).modify j g = f x :: _
      rw [ih hn.2 hj]
/-! ### look-up -/
abbrev TEnt := List (NestedKey × Value × Value)
def entT (w : World) (x : NestedKey × Value × Value) : DictEntry := { hash := x.1.hash w, key := x.2.1, val := x.2.2 }
theorem entT_at {w : World} {es : Array DictEntry} {xs : TEnt} (he : es.toList = xs.map (entT w)) (j : Nat) : es[j]? = (xs[j]?).map (entT w) := by
  rw [← Array.getElem?_toList, he, List.getElem?_map]
section
variable {prog : Program} {w : World} {A : Around} {E : Value → Shared → Prop} {s : Shared}
theorem key_eq {x y : NestedKey} {a b : Value} {Q : Bool → Shared → Prop} (hu : A.units + 8 < cLine) (hx : NestedIs s.heap x a) (hd : x.depth ≤ 8) (hy : NestedIs s.heap y b) (h : Q (decide (x = y)) s) : wpAny (model prog w) A (eqBool a b) Q E s :=
  eqAt_key x y A s _ _ hx hy (by omega) _ _ _ _ (by rw [← NestedKey.decide_eq]; exact h)
theorem tells_quiet {k : NestedKey} {key : Value} {stored : List Value} {Q : Bool → Shared → Prop} (hkey : NestedIs s.heap k key) (hd : k.depth ≤ 8)
    (hst : ∀ v ∈ stored, ∃ k', NestedIs s.heap k' v ∧ k'.depth ≤ 8) (h : Q false s) : wpAny (model prog w) A (tableMayTell key stored) Q E s := by
  unfold tableMayTell
  split
  · exact wpAny_pure h
  · refine wpAny_bind (quiet_key k _ 8 s hkey hd A E _ ?_)
    simp only [Bool.not_true, Bool.false_eq_true, if_false]
    refine wpAny_bind ?_
    refine wpAny_forIn_list _ (fun rest r s' => s' = s ∧ r = (none, ()) ∧ ∀ v ∈ rest, ∃ k', NestedIs s.heap k' v ∧ k'.depth ≤ 8) _ ?_ ?_ _ _ ⟨rfl, rfl, hst⟩
    · rintro x rest r s' ⟨rfl, rfl, hr⟩
      obtain ⟨k', hb, hd'⟩ := hr x List.mem_cons_self
      refine wpAny_bind (quiet_key k' _ 8 _ hb hd' A E _ ?_)
      simp only [Bool.not_true, Bool.false_eq_true, if_false]
      exact wpAny_pure ⟨rfl, rfl, fun v hv => hr v (List.mem_cons_of_mem _ hv)⟩
    · rintro r s' ⟨rfl, rfl, _⟩
      exact wpAny_pure h
/-- the walk where all that is met is carried by value -/
theorem walk_plain {d : Addr} {o : Obj} {es ep} {xs : TEnt} {k : NestedKey} {key : Value} {Q : Option Nat → Shared → Prop} (hu : A.units + 8 < cLine) (hkey : NestedIs s.heap k key)
    (ho : s.heap.get? d = some o) (hd : o.data = .dict es ep) (he : es.toList = xs.map (entT w)) (his : ∀ x ∈ xs, NestedIs s.heap x.1 x.2.1 ∧ x.1.depth ≤ 8)
    (hnone : (∀ (j : Nat) (p : Value × Value), xs[j]? ≠ some (k, p)) → Q none s) (hsome : ∀ (j : Nat) (p : Value × Value), xs[j]? = some (k, p) → Q (some j) s) :
    wpAny (model prog w) A (dictWalkPlain d key (k.hash w) es (placesWithHash es.size (fun i => es[i]?.map (·.hash)) (k.hash w))) Q E s := by
  have hsz : es.size = xs.length := by rw [← Array.length_toList, he, List.length_map]
  have haskey : ∀ (j : Nat) (p : Value × Value), xs[j]? = some (k, p) → ((es[j]?.map (·.hash)) == some (k.hash w)) = true := by
    intro j p hj
    rw [entT_at he j, hj]
    simp [entT]
  refine wpAny_bind ?_
  refine wpAny_forIn_list _
    (fun rest b s' => s' = s ∧ b = (none, ()) ∧ ∃ i, rest = (List.range' i (es.size - i)).filter (fun i => (es[i]?.map (·.hash)) == some (k.hash w)) ∧ i ≤ es.size ∧
      ∀ j p, j < i → xs[j]? ≠ some (k, p)) _ ?_ ?_ _ _
    ⟨rfl, rfl, 0, by rw [placesWithHash, List.range_eq_range', Nat.sub_zero], Nat.zero_le _, fun _ _ h => absurd h (Nat.not_lt_zero _)⟩
  · rintro x rest b s' ⟨rfl, rfl, i, hr, hi, hno⟩
    obtain ⟨hix, hxn, hpx, hskip, hrest⟩ := filter_range'_cons _ _ _ _ _ hr.symm
    have hlt : x < es.size := by omega
    obtain ⟨⟨k', b, v'⟩, hkv⟩ : ∃ y, xs[x]? = some y := ⟨xs[x]'(by rw [← hsz]; exact hlt), List.getElem?_eq_getElem _⟩
    obtain ⟨hib, hdb⟩ := his _ (List.mem_of_getElem? hkv)
    have hex : es[x]? = some ⟨k'.hash w, b, v'⟩ := by rw [entT_at he x, hkv]; rfl
    have hnext : ¬ k' = k → ∃ i, rest = (List.range' i (es.size - i)).filter (fun i => (es[i]?.map (·.hash)) == some (k.hash w)) ∧ i ≤ es.size ∧ ∀ j p, j < i → xs[j]? ≠ some (k, p) := fun hne =>
      ⟨x + 1, by rw [hrest]; congr 2; omega, hlt, fun j p hji hj => by
        rcases Nat.lt_or_ge j i with h | h
        · exact hno j p h hj
        · rcases Nat.lt_or_ge j x with h' | h'
          · have := hskip j h h'
            rw [haskey j p hj] at this
            exact absurd this (by decide)
          · have hjx' : j = x := by omega
            subst hjx'
            rw [hkv] at hj
            injection hj with hj
            injection hj with hj
            exact hne hj⟩
    rw [hex]
    dsimp only
    by_cases hh : (k'.hash w == k.hash w) = true
    · rw [if_pos hh]
      refine wpAny_bind (wpAny_dictEpoch ho hd (wpAny_bind (key_eq (x := k') (y := k) hu hib hdb hkey (wpAny_bind (wpAny_dictEpoch ho hd ?_)))))
      show wpAny _ _ (if (ep != ep) = true then _ else _) _ E _
      rw [if_neg (by simp)]
      by_cases hkk : k' = k
      · rw [decide_eq_true hkk]
        subst hkk
        exact wpAny_bind (wpAny_rule (wpAny_pure (wpAny_pure (hsome x _ hkv))))
      · rw [decide_eq_false hkk]
        exact wpAny_bind (wpAny_rule (wpAny_pure ⟨rfl, rfl, hnext hkk⟩))
    · rw [if_neg hh]
      refine wpAny_pure ⟨rfl, rfl, hnext ?_⟩
      intro hkk
      rw [hkk] at hh; simp at hh
  · rintro b s' ⟨rfl, rfl, i, hr, hi, hno⟩
    refine wpAny_pure (hnone fun j p hj => ?_)
    rcases Nat.lt_or_ge j i with h | h
    · exact hno j p h hj
    · have hjl : j < es.size := by
        rw [hsz]
        exact (List.getElem?_eq_some_iff.mp hj).1
      have := List.filter_eq_nil_iff.mp hr.symm j (List.mem_range'_1.mpr ⟨h, by omega⟩)
      exact this (haskey j p hj)
/-- all keys are texts, and so is this one -/
theorem found_text {d : Addr} {o : Obj} {es ep} {xs : TEnt} {x : Str} {t : Tok} {Q : Option Nat → Shared → Prop} (hu : A.units + 8 < cLine)
    (ho : s.heap.get? d = some o) (hd : o.data = .dict es ep) (he : es.toList = xs.map (entT w)) (his : ∀ x ∈ xs, NestedIs s.heap x.1 x.2.1 ∧ x.1.depth ≤ 8)
    (hnone : (∀ (j : Nat) (p : Value × Value), xs[j]? ≠ some (NestedKey.text x, p)) → Q none s) (hsome : ∀ (j : Nat) (p : Value × Value), xs[j]? = some (NestedKey.text x, p) → Q (some j) s) :
    wpAny (model prog w) A (foundByValue d (.str x t) es x) Q E s := by
  have hsz : es.size = xs.length := by rw [← Array.length_toList, he, List.length_map]
  have isx : ∀ (j : Nat) (k' : NestedKey) (b v' : Value), xs[j]? = some (k', b, v') → (b.isStr x = true ↔ k' = .text x) := fun j k' b v' hj => by
    obtain ⟨h1, _⟩ := his _ (List.mem_of_getElem? hj)
    cases h1 with
    | none => simp [Value.isStr]
    | bool e => simp [Value.isStr]
    | int _ t => simp [Value.isStr]
    | text z u =>
      simp only [Value.isStr, NestedKey.text.injEq, beq_iff_eq]
    | tup _ _ _ _ => simp [Value.isStr]
  unfold foundByValue
  cases hf : es.findIdx? (fun e => e.key.isStr x) with
  | none =>
    refine wpAny_pure (hnone fun j p hj => ?_)
    have hjl : j < es.size := by rw [hsz]; exact (List.getElem?_eq_some_iff.mp hj).1
    have := Array.findIdx?_eq_none_iff.mp hf es[j] (Array.getElem_mem hjl)
    have e : es[j] = entT w (NestedKey.text x, p) := by
      have := entT_at he j
      rw [hj, Array.getElem?_eq_getElem hjl] at this
      exact Option.some.inj this
    rw [e] at this
    have z := (isx j _ _ _ hj).mpr rfl
    simp only [entT] at this
    rw [z] at this
    cases this
  | some i =>
    obtain ⟨hlt, hi, _⟩ := Array.findIdx?_eq_some_iff_getElem.mp hf
    obtain ⟨⟨k', b, v'⟩, hkv⟩ : ∃ y, xs[i]? = some y := ⟨xs[i]'(by rw [← hsz]; exact hlt), List.getElem?_eq_getElem _⟩
    have hex : es[i]? = some ⟨k'.hash w, b, v'⟩ := by rw [entT_at he i, hkv]; rfl
    have e : es[i] = ⟨k'.hash w, b, v'⟩ := by
      rw [Array.getElem?_eq_getElem hlt] at hex
      exact Option.some.inj hex
    rw [e] at hi
    have hk := (isx i _ _ _ hkv).mp hi
    obtain ⟨hib, hdb⟩ := his _ (List.mem_of_getElem? hkv)
    simp only [hex]
    refine wpAny_bind (wpAny_dictEpoch ho hd (wpAny_bind (key_eq (x := k') (y := .text x) hu hib hdb (.text x t) (wpAny_bind (wpAny_dictEpoch ho hd ?_)))))
    show wpAny _ _ (if (ep != ep) = true then _ else _) _ E _
    rw [if_neg (by simp), decide_eq_true hk]
    subst hk
    exact wpAny_bind (wpAny_rule (wpAny_pure (hsome i _ hkv)))
theorem ite_cases {M : Model} {β : Type} {Q : β → Shared → Prop} {c : Prop} [Decidable c] {x y : Sem β} (h : c → wpAny M A x Q E s) (h2 : ¬ c → wpAny M A y Q E s) : wpAny M A (if c then x else y) Q E s := by
  by_cases z : c
  · rw [if_pos z]; exact h z
  · rw [if_neg z]; exact h2 z
theorem find_val {d : Addr} {o : Obj} {es ep} {xs : TEnt} {k : NestedKey} {key : Value} {Q : Option Nat → Shared → Prop} (hu : A.units + 8 < cLine) (hkey : NestedIs s.heap k key) (hdp : k.depth ≤ 8)
    (ho : s.heap.get? d = some o) (hd : o.data = .dict es ep) (he : es.toList = xs.map (entT w)) (his : ∀ x ∈ xs, NestedIs s.heap x.1 x.2.1 ∧ x.1.depth ≤ 8) (hn : (xs.map (·.1)).Nodup)
    (hnone : (∀ (j : Nat) (p : Value × Value), xs[j]? ≠ some (k, p)) → Q none s) (hsome : ∀ (j : Nat) (p : Value × Value), xs[j]? = some (k, p) → Q (some j) s) :
    wpAny (model prog w) A (dictFind d key (k.hash w)) Q E s := by
  have hsz : es.size = xs.length := by rw [← Array.length_toList, he, List.length_map]
  have haskey : ∀ (j : Nat) (p : Value × Value), xs[j]? = some (k, p) → ((es[j]?.map (·.hash)) == some (k.hash w)) = true := by
    intro j p hj
    rw [entT_at he j, hj]
    simp [entT]
  have hmem : ∀ e ∈ es, ∃ x ∈ xs, e = entT w x := by
    intro e hin
    have : e ∈ xs.map (entT w) := he ▸ Array.mem_toList_iff.mpr hin
    obtain ⟨x, hx, rfl⟩ := List.mem_map.mp this
    exact ⟨x, hx, rfl⟩
  have hany : ¬ (es.any fun e => e.key == key && e.hash != k.hash w) = true := by
    rw [← Array.any_toList, List.any_eq_true]
    rintro ⟨e, hin, hc⟩
    obtain ⟨x, hx, rfl⟩ := hmem e (Array.mem_toList_iff.mp hin)
    simp only [entT, Bool.and_eq_true, beq_iff_eq, bne_iff_ne, ne_eq] at hc
    obtain ⟨hxa, hne⟩ := hc
    have := (his x hx).1
    rw [hxa] at this
    exact hne (by rw [NestedIs.inj _ _ _ this hkey])
  have hst : ∀ v ∈ (placesWithHash es.size (fun i => es[i]?.map (·.hash)) (k.hash w)).filterMap (fun i => es[i]?.map (·.key)), ∃ k', NestedIs s.heap k' v ∧ k'.depth ≤ 8 := by
    intro v hv
    obtain ⟨i, _, hi⟩ := List.mem_filterMap.mp hv
    cases hei : es[i]? with
    | none => rw [hei] at hi; cases hi
    | some e =>
      rw [hei] at hi
      obtain rfl : e.key = v := by simpa using hi
      obtain ⟨x, hx, rfl⟩ := hmem e (Array.mem_of_getElem? hei)
      exact ⟨x.1, his x hx⟩
  have plain := walk_plain (E := E) (prog := prog) hu hkey ho hd he his hnone hsome
  unfold dictFind
  try with_reducible refine wpAny_holding ?_
  refine wpAny_bind (wpAny_dictEntries ho hd ?_)
  dsimp only
  by_cases hall : ((key :: (placesWithHash es.size (fun i => es[i]?.map (·.hash)) (k.hash w)).filterMap (fun i => es[i]?.map (·.key))).all carriedByValue) = true
  · rw [if_pos hall]
    split
    next x t =>
      split
      next _ =>
        cases hkey with
        | text _ _ => exact found_text hu ho hd he his hnone hsome
      next => exact plain
    next => exact plain
  · rw [if_neg hall]
    rw [if_neg hany]
    have hk := hkey
    have sh : key = .none ∨ (∃ b, key = .bool b) ∨ (∃ i t, key = .int i t) ∨ (∃ x t, key = .str x t ∧ k = .text x) ∨ ∃ a, key = .ref a := by
      cases hkey with
      | none => exact .inl rfl
      | bool e => exact .inr (.inl ⟨_, rfl⟩)
      | int i t => exact .inr (.inr (.inl ⟨i, t, rfl⟩))
      | text x t => exact .inr (.inr (.inr (.inl ⟨x, t, rfl, rfl⟩)))
      | tup _ _ _ _ => exact .inr (.inr (.inr (.inr ⟨_, rfl⟩)))
    clear hkey plain
    rcases sh with rfl | ⟨b, rfl⟩ | ⟨i, t, rfl⟩ | ⟨x, t, rfl, hkx⟩ | ⟨a, rfl⟩ <;> dsimp only
    all_goals first | (refine ite_cases (fun _ => ?_) (fun _ => ?_); subst hkx; exact found_text hu ho hd he his hnone hsome) | skip
    all_goals (
      refine ite_cases (fun hone => ?_) (fun hone => ?_) <;> (first | refine wpAny_bind (wpAny_pure ?_) | refine wpAny_bind (tells_quiet hk hdp hst ?_)) <;> (
        rw [if_neg (by simp)]
        refine wpAny_bind ?_
        refine wpAny_forIn_list _
          (fun rest b s' => s' = s ∧ ∃ i hit, b = (none, hit) ∧ rest = (List.range' i (es.size - i)).filter (fun i => (es[i]?.map (·.hash)) == some (k.hash w)) ∧ i ≤ es.size ∧
            ((hit = none ∧ ∀ j p, j < i → xs[j]? ≠ some (k, p)) ∨ ∃ j p, hit = some j ∧ j < i ∧ xs[j]? = some (k, p))) _ ?_ ?_ _ _
          ⟨rfl, 0, none, rfl, by rw [placesWithHash, List.range_eq_range', Nat.sub_zero], Nat.zero_le _, .inl ⟨rfl, fun _ _ h => absurd h (Nat.not_lt_zero _)⟩⟩
        · rintro x rest b s' ⟨rfl, i, hit, rfl, hr, hi, hH⟩
          obtain ⟨hix, hxn, hpx, hskip, hrest'⟩ := filter_range'_cons _ _ _ _ _ hr.symm
          have hlt : x < es.size := by omega
          have hrest : rest = (List.range' (x + 1) (es.size - (x + 1))).filter (fun i => (es[i]?.map (·.hash)) == some (k.hash w)) := by rw [hrest']; congr 2; omega
          obtain ⟨⟨k', b, v'⟩, hkv⟩ : ∃ y, xs[x]? = some y := ⟨xs[x]'(by rw [← hsz]; exact hlt), List.getElem?_eq_getElem _⟩
          obtain ⟨hib, hdb⟩ := his _ (List.mem_of_getElem? hkv)
          have hex : es[x]? = some ⟨k'.hash w, b, v'⟩ := by rw [entT_at he x, hkv]; rfl
          have hHx : (hit = none ∧ ∀ j p, j < x → xs[j]? ≠ some (k, p)) ∨ ∃ j p, hit = some j ∧ j < x ∧ xs[j]? = some (k, p) := by
            rcases hH with ⟨h0, hno⟩ | ⟨j, p, h1, hji, hj⟩
            · refine .inl ⟨h0, fun j p hjx hj => ?_⟩
              rcases Nat.lt_or_ge j i with h | h
              · exact hno j p h hj
              · have := hskip j h hjx
                rw [haskey j p hj] at this
                exact absurd this (by decide)
            · exact .inr ⟨j, p, h1, by omega, hj⟩
          have hstay : ¬ k' = k → ((hit = none ∧ ∀ j p, j < x + 1 → xs[j]? ≠ some (k, p)) ∨ ∃ j p, hit = some j ∧ j < x + 1 ∧ xs[j]? = some (k, p)) := by
            intro hne
            rcases hHx with ⟨h0, hno⟩ | ⟨j, p, h1, hjx, hj⟩
            · refine .inl ⟨h0, fun j p hjx hj => ?_⟩
              rcases Nat.lt_or_ge j x with h | h
              · exact hno j p h hj
              · have hjx' : j = x := by omega
                subst hjx'
                rw [hkv] at hj
                injection hj with hj
                injection hj with hj
                exact hne hj
            · exact .inr ⟨j, p, h1, by omega, hj⟩
          rw [hex]
          dsimp only
          by_cases hh : (k'.hash w == k.hash w) = true
          · rw [if_pos hh]
            refine wpAny_bind (wpAny_dictEpoch ho hd (wpAny_bind (key_eq (x := k') hu hib hdb hk (wpAny_bind (wpAny_dictEpoch ho hd ?_)))))
            show wpAny _ _ (if (ep != ep) = true then _ else _) _ E _
            rw [if_neg (by simp)]
            by_cases hkk : k' = k
            · rw [decide_eq_true hkk]
              subst hkk
              rcases hHx with ⟨rfl, _⟩ | ⟨j, p, _, hjx, hj⟩
              · first | rw [if_pos rfl] | skip
                simp only [Option.isSome_none, Bool.false_eq_true, if_false]
                first | refine wpAny_bind (wpAny_pure ?_) | skip
                refine wpAny_bind (wpAny_rule ?_)
                split
                · exact wpAny_pure (wpAny_pure (hsome x _ hkv))
                · exact wpAny_pure ⟨rfl, x + 1, some x, rfl, hrest, hlt, .inr ⟨x, _, rfl, Nat.lt_succ_self x, hkv⟩⟩
              · exact absurd (idx_uniq hn hj hkv) (by omega)
            · rw [decide_eq_false hkk]
              simp only [Bool.false_eq_true, if_false]
              refine wpAny_bind (wpAny_rule ?_)
              first | rw [if_neg (by simp)] | skip
              first
                | exact wpAny_pure ⟨rfl, x + 1, hit, rfl, hrest, hlt, hstay hkk⟩
                | exact wpAny_bind (wpAny_pure (wpAny_pure ⟨rfl, x + 1, hit, rfl, hrest, hlt, hstay hkk⟩))
          · rw [if_neg hh]
            refine wpAny_pure ⟨rfl, x + 1, hit, rfl, hrest, hlt, hstay ?_⟩
            intro hkk
            rw [hkk] at hh; simp at hh
        · rintro b s' ⟨rfl, i, hit, rfl, hr, hi, hH⟩
          rcases hH with ⟨rfl, hno⟩ | ⟨j, p, rfl, _, hj⟩
          · refine wpAny_pure (hnone fun j p hj => ?_)
            rcases Nat.lt_or_ge j i with h | h
            · exact hno j p h hj
            · have hjl : j < es.size := by rw [hsz]; exact (List.getElem?_eq_some_iff.mp hj).1
              have := List.filter_eq_nil_iff.mp hr.symm j (List.mem_range'_1.mpr ⟨h, by omega⟩)
              exact this (haskey j p hj)
          · exact wpAny_pure (hsome j p hj)))
/-- the object at d is a dict with these entries -/
def DictT (w : World) (h : Heap) (d : Addr) (xs : TEnt) : Prop :=
  ∃ o es ep, h.get? d = some o ∧ o.ExactDict ∧ o.data = Data.dict es ep ∧ es.toList = xs.map (entT w) ∧ (∀ x ∈ xs, NestedIs h x.1 x.2.1 ∧ x.1.depth ≤ 8) ∧ (xs.map (·.1)).Nodup
theorem DictT.typeIs {d : Addr} {xs : TEnt} (hm : DictT w s.heap d xs) : s.TypeIs (.ref d) "dict" :=
  let ⟨o, _, _, ho, hc, _⟩ := hm; ⟨o, ho, hc.1⟩
theorem get_val {d : Addr} {xs : TEnt} {k : NestedKey} {key : Value} {Q : Option Value → Shared → Prop} (hu : A.units + 8 < cLine) (hkey : NestedIs s.heap k key) (hdp : k.depth ≤ 8) (hm : DictT w s.heap d xs)
    (h : Q ((atB xs k).map (·.2)) { s with toks := s.toks + k.draws }) : wpAny (model prog w) A (dictGet d key) Q E s := by
  obtain ⟨o, es, ep, ho, _, hd, he, his, hn⟩ := hm
  unfold dictGet
  try with_reducible refine wpAny_holding ?_
  refine wpAny_bind (pyHash_key (w := w) k key A s _ hkey (by omega) (wpAny_bind (find_val (s := { s with toks := s.toks + k.draws }) hu hkey hdp ho hd he his hn ?_ ?_)))
  · intro hno
    rw [atB_none hno] at h
    exact wpAny_pure h
  · intro j p hj
    rw [atB_of_get hn hj] at h
    refine wpAny_bind (wpAny_dictEntries (s := { s with toks := s.toks + k.draws }) ho hd ?_)
    rw [entT_at he j, hj]
    exact wpAny_pure h
theorem key_keeps {h h' : Heap} {k : NestedKey} {v : Value} {d : Addr} {o : Obj} {es ep} (x : NestedIs h k v) (ho : h.get? d = some o) (hd : o.data = .dict es ep) (hs : Heap.SameBut d h h') : NestedIs h' k v :=
  NestedIs.at (fun b ob vs n hb hc => by
    refine (hs.2 b fun e => ?_).trans hb
    subst e
    rw [ho] at hb
    cases hb
    rw [hd] at hc
    cases hc) k _ x
theorem set_val {d : Addr} {xs : TEnt} {k : NestedKey} {key v : Value} {Q : Unit → Shared → Prop} (hu : A.units + 8 < cLine) (hkey : NestedIs s.heap k key) (hdp : k.depth ≤ 8) (hm : DictT w s.heap d xs)
    (hQ : ∀ h', DictT w h' d (putB xs k key v) → Heap.SameBut d s.heap h' → Q () { s with heap := h', toks := s.toks + k.draws })
    (hsz : xs.length ≤ sizeLine) :
    wpAny (model prog w) A (dictSet d key v) Q E s := by
  obtain ⟨o, es, ep, ho, hc, hd, he, his, hn⟩ := hm
  have hz : es.size = xs.length := by rw [← Array.length_toList, he, List.length_map]
  unfold dictSet
  try with_reducible refine wpAny_holding ?_
  refine wpAny_bind (pyHash_key (w := w) k key A s _ hkey (by omega) ?_)
  unfold dictSetHashed
  try with_reducible refine wpAny_holding ?_
  refine wpAny_bind (find_val (s := { s with toks := s.toks + k.draws }) hu hkey hdp ho hd he his hn ?_ ?_)
  · intro hno
    have hnot : k ∉ xs.map (·.1) := not_mem_keysB hno
    have hput : putB xs k key v = xs ++ [(k, key, v)] := by unfold putB; rw [atB_none hno]; rfl
    refine wpAny_bind (wpAny_rule (wpAny_updateDictKeys (hz := by omega) (s := { s with toks := s.toks + k.draws }) ho hd (hQ _ ⟨_, _, ep + 1, Heap.get?_update_self _ ho (Obj.isFreed_of_dict (Obj.data_mapDictKeys hd _)),
      hc.mapDictKeys _, Obj.data_mapDictKeys hd _, ?_, ?_, ?_⟩ (Heap.SameBut.update ..))))
    · rw [hput]
      simp [he, entT]
    · rw [hput]
      intro x hx
      rcases List.mem_append.mp hx with hx | hx
      · exact ⟨key_keeps (his x hx).1 ho hd (Heap.SameBut.update ..), (his x hx).2⟩
      · simp only [List.mem_singleton] at hx
        subst hx
        exact ⟨key_keeps hkey ho hd (Heap.SameBut.update ..), hdp⟩
    · rw [hput]
      rw [List.map_append, List.nodup_append]
      refine ⟨hn, by simp, ?_⟩
      intro x hx y hy
      simp only [List.map_cons, List.map_nil, List.mem_singleton] at hy
      subst hy
      exact fun e => hnot (e ▸ hx)
  · intro j p hj
    have hput : putB xs k key v = xs.map fun x => if x.1 = k then (x.1, x.2.1, v) else x := by unfold putB; rw [atB_of_get hn hj]; rfl
    refine wpAny_bind (wpAny_rule (wpAny_bind (wpAny_updateDict (s := { s with toks := s.toks + k.draws }) ho hd (wpAny_point (hQ _ ⟨_, _, ep, Heap.get?_update_self _ ho (Obj.isFreed_of_dict (Obj.data_mapDict hd _)),
      hc.mapDict _, Obj.data_mapDict hd _, ?_, ?_, ?_⟩ (Heap.SameBut.update ..))))))
    · rw [hput]
      have := modify_putB (entT w) (fun e : DictEntry => { e with val := v }) k v (fun _ _ => rfl) hn hj
      rw [← he] at this
      obtain ⟨l⟩ := es
      simpa using this
    · rw [hput]
      intro x hx
      obtain ⟨y, hy, rfl⟩ := List.mem_map.mp hx
      split <;> exact ⟨key_keeps (his y hy).1 ho hd (Heap.SameBut.update ..), (his y hy).2⟩
    · rw [hput, keys_putB]; exact hn
theorem contains_val {d : Addr} {xs : TEnt} {k : NestedKey} {key : Value} {Q : Bool → Shared → Prop} (hu : A.units + 9 < cLine) (hkey : NestedIs s.heap k key) (hdp : k.depth ≤ 8) (hd : (d == sysModules) = false) (hm : DictT w s.heap d xs)
    (h : Q (atB xs k).isSome { s with toks := s.toks + k.draws }) : wpAny (model prog w) A (contains (.ref d) key) Q E s := by
  refine wpAny_contains_slot hm.typeIs F.slot_dict_contains ?_
  refine call_meetsIn F.slot_dict_contains hm.typeIs F.entry_dict_contains (F.args_dict_contains_2 _ _) (S := fun A' R s' => A' = A ∧ s' = s ∧ R (.ok (.ret (.bool (atB xs k).isSome))) { s with toks := s.toks + k.draws }) (fun A' R s' hS => ?_) ⟨rfl, rfl, wpAny_truthy_bool h⟩
  obtain ⟨rfl, rfl, hq⟩ := hS
  show wpAny _ _ (dictGet d key >>= _) _ _ _
  refine wpAny_bind (get_val (by simp only [Around.in1_units]; omega) hkey hdp hm ?_)
  cases hf : atB xs k with
  | some p =>
    rw [hf] at hq
    show wpAny _ _ (ret (.bool true)) _ _ _
    exact wpAny_pure hq
  | none =>
    rw [hf] at hq
    show wpAny _ _ (Builtin.Dict.pendingKey? d key >>= _) _ _ _
    exact wpAny_bind (wpAny_pendingKey_other hd (wpAny_pure hq))
theorem in_val {d : Addr} {xs : TEnt} {k : NestedKey} {key : Value} {Q : Value → Shared → Prop} (hu : A.units + 9 < cLine) (hkey : NestedIs s.heap k key) (hdp : k.depth ≤ 8) (hd : (d == sysModules) = false) (hm : DictT w s.heap d xs)
    (h : Q (.bool (atB xs k).isSome) { s with toks := s.toks + k.draws }) : wpAny (model prog w) A (compareOp .In key (.ref d)) Q E s := by
  show wpAny _ _ (do return .bool (← contains (.ref d) key)) Q E s
  exact wpAny_bind (contains_val hu hkey hdp hd hm (wpAny_pure h))
theorem notIn_val {d : Addr} {xs : TEnt} {k : NestedKey} {key : Value} {Q : Value → Shared → Prop} (hu : A.units + 9 < cLine) (hkey : NestedIs s.heap k key) (hdp : k.depth ≤ 8) (hd : (d == sysModules) = false) (hm : DictT w s.heap d xs)
    (h : Q (.bool (!(atB xs k).isSome)) { s with toks := s.toks + k.draws }) : wpAny (model prog w) A (compareOp .NotIn key (.ref d)) Q E s := by
  show wpAny _ _ (do return .bool (!(← contains (.ref d) key))) Q E s
  exact wpAny_bind (contains_val hu hkey hdp hd hm (wpAny_pure h))
theorem getItem_val {d : Addr} {xs : TEnt} {k : NestedKey} {key : Value} {p : Value × Value} {Q : Value → Shared → Prop} (hu : A.units + 9 < cLine) (hkey : NestedIs s.heap k key) (hdp : k.depth ≤ 8) (hm : DictT w s.heap d xs) (hp : atB xs k = some p)
    (h : Q p.2 { s with toks := s.toks + k.draws }) : wpAny (model prog w) A (getItem (.ref d) key) Q E s := by
  unfold getItem
  try with_reducible refine wpAny_holding ?_
  refine wpAny_bind (wpAny_sequenceKey hm.typeIs (by decide) ?_)
  refine wpAny_bind (wpAny_callSpecial?_slot (name := Str.ofString "__getitem__") hm.typeIs slot_dict_getitem
    (wpAny_call_entry slot_dict_getitem hm.typeIs entry_dict_getitem ?_ (args_dict_getitem _ _)))
  show wpAny _ _ (dictGet d key >>= _) _ _ s
  refine wpAny_bind (get_val (by simp only [Around.in1_units]; omega) hkey hdp hm ?_)
  rw [hp]
  exact wpAny_pure ⟨p.2, rfl, wpAny_pure h⟩
theorem setItem_val {d : Addr} {xs : TEnt} {k : NestedKey} {key v : Value} {Q : Unit → Shared → Prop} (hu : A.units + 9 < cLine) (hkey : NestedIs s.heap k key) (hdp : k.depth ≤ 8) (hm : DictT w s.heap d xs)
    (hQ : ∀ h', DictT w h' d (putB xs k key v) → Heap.SameBut d s.heap h' → Q () { s with heap := h', toks := s.toks + k.draws })
    (hsz : xs.length ≤ sizeLine) :
    wpAny (model prog w) A (setItem (.ref d) key v) Q E s := by
  unfold setItem
  try with_reducible refine wpAny_holding ?_
  refine wpAny_bind (wpAny_sequenceKey hm.typeIs (by decide) ?_)
  refine wpAny_bind (wpAny_callSpecial?_slot (name := Str.ofString "__setitem__") hm.typeIs slot_dict_setitem
    (wpAny_call_entry slot_dict_setitem hm.typeIs entry_dict_setitem ?_ (args_dict_setitem _ _ _)))
  show wpAny _ _ (Builtin.Dict.notOrdered "__setitem__" ⟨[.ref d, key, v], []⟩ >>= _) _ _ s
  refine wpAny_bind (wpAny_notOrdered_dict hm.typeIs ?_)
  show wpAny _ _ (dictSet d key v >>= _) _ _ s
  exact wpAny_bind (set_val (by simp only [Around.in1_units]; omega) hkey hdp hm (fun h' hm' hs' => wpAny_pure ⟨.none, rfl, wpAny_pure (hQ h' hm' hs')⟩) hsz)
end
end DL

/-! FB: over trees: dicts with keys of any kind; a list unpacked; sum. -/
namespace DL
open PySem PySem.Spec PyProof.Rows L2
variable [Wsh]
/-! ### what stands there -/
abbrev TV := List (NestedKey × V × V)
/-- v carries the key k, by what is frozen -/
def KeyV (K : PySem.W.Frag) (F : Hp) (k : NestedKey) (v : V) : Prop := k.depth ≤ 8 ∧ ∃ dk, nkD dk = some k ∧ RelD K F v dk
theorem KeyV.is {X : Cx} {pins : List (Addr × Obj)} {σ : L2.St} {F H : Hp} {s : Shared} {k : NestedKey} {v : V} {u : Value} (h : KeyV X.K F k v) (I : Inv X pins σ H s) (e : Ext F H) (r : RelV v u) : NestedIs s.heap k u := by
  obtain ⟨hd, dk, hk, r1⟩ := h
  exact nk_of I e dk k _ _ hk r1 r
structure HasT (X : Cx) (F H : Hp) (p : Addr) (xs : TV) : Prop where
  at_ : H p = some (.ext (TObj X.w p xs))
  ext : Ext F H
  key : ∀ x ∈ xs, KeyV X.K F x.1 x.2.1
theorem tobj_stays {w : World} {a : Addr} {xs : TV} (h1 h2 : Heap) (q : TObj w a xs h1) (g : ∀ (o : Obj), h1.get? a = some o → h2.get? a = some o) : TObj w a xs h2 := by
  obtain ⟨z, n, vs, p, o, es, ep, ho, r⟩ := q
  exact ⟨z, n, vs, p, o, es, ep, g o ho, r⟩
theorem tobj_ok {P : Program} {w w' : World} {H : Hp} {h : Heap} {a : Addr} {xs : TV} (q : TObj w' a xs h) : L2.ObjOk P w H h a (.ext (TObj w' a xs)) := by
  refine ok_ext.mpr ⟨q, ?_, fun h1 h2 => tobj_stays h1 h2⟩
  obtain ⟨z, n, vs, p, o, es, ep, ho, r⟩ := q
  exact ⟨o, ho⟩
theorem RelTK.key {K : PySem.W.Frag} {F : Hp} : ∀ {xs : TV} {ds : List (NestedKey × D)}, RelTK K F xs ds → ∀ x ∈ xs, KeyV K F x.1 x.2.1
  | [], _, _, x, hx => by cases hx
  | y :: ys, [], h, _, _ => h.elim
  | y :: ys, d :: ds, ⟨_, h2, h3, _, h5⟩, x, hx => by
    rcases List.mem_cons.mp hx with rfl | hx
    · exact ⟨h2, h3⟩
    · exact RelTK.key h5 x hx
theorem RelTK.length {K : PySem.W.Frag} {F : Hp} : ∀ {xs : TV} {ds : List (NestedKey × D)}, RelTK K F xs ds → xs.length = ds.length
  | [], [], _ => rfl
  | y :: ys, d :: ds, ⟨_, _, _, _, h5⟩ => by rw [List.length_cons, List.length_cons, RelTK.length h5]
  | [], _ :: _, h => h.elim
  | _ :: _, [], h => h.elim
def valT (xs : TV) (k : NestedKey) : Option V := (atB xs k).map (·.2)
theorem RelTK.val {K : PySem.W.Frag} {F : Hp} (k : NestedKey) : ∀ {xs : TV} {ds : List (NestedKey × D)}, RelTK K F xs ds → (atB xs k = none ∧ valNd ds k = none) ∨ ∃ a v d, atB xs k = some (a, v) ∧ valNd ds k = some d ∧ RelD K F v d
  | [], [], _ => .inl ⟨rfl, rfl⟩
  | x :: xs, d :: ds, ⟨a1, _, _, a4, a5⟩ => by
    have ih := RelTK.val k a5
    unfold atB valNd at ih ⊢
    rw [List.find?_cons, List.find?_cons, ← a1]
    by_cases c : x.1 = k
    · simp only [c, decide_true]
      exact .inr ⟨_, _, _, rfl, rfl, a4⟩
    · simp only [c, decide_false]
      exact ih
  | [], _ :: _, h => h.elim
  | _ :: _, [], h => h.elim
/-- k's value is d, another key is put at the end -/
def putN (ds : List (NestedKey × D)) (k : NestedKey) (d : D) : List (NestedKey × D) := if (valNd ds k).isSome then ds.map (fun x => if x.1 = k then (x.1, d) else x) else ds ++ [(k, d)]
theorem RelTK.snoc {K : PySem.W.Frag} {F : Hp} {x : NestedKey × V × V} {d : NestedKey × D} (h1 : x.1 = d.1) (h2 : KeyV K F x.1 x.2.1) (h3 : RelD K F x.2.2 d.2) : ∀ {xs : TV} {ds : List (NestedKey × D)}, RelTK K F xs ds → RelTK K F (xs ++ [x]) (ds ++ [d])
  | [], [], _ => ⟨h1, h2.1, h2.2, h3, True.intro⟩
  | y :: ys, e :: es, ⟨a1, a2, a3, a4, a5⟩ => ⟨a1, a2, a3, a4, RelTK.snoc h1 h2 h3 a5⟩
  | [], _ :: _, h => h.elim
  | _ :: _, [], h => h.elim
theorem RelTK.upd {K : PySem.W.Frag} {F : Hp} {k : NestedKey} {v : V} {d : D} (h3 : RelD K F v d) : ∀ {xs : TV} {ds : List (NestedKey × D)}, RelTK K F xs ds → RelTK K F (xs.map fun x => if x.1 = k then (x.1, x.2.1, v) else x) (ds.map fun x => if x.1 = k then (x.1, d) else x)
  | [], [], _ => True.intro
  | y :: ys, e :: es, ⟨a1, a2, a3, a4, a5⟩ => by
    rw [List.map_cons, List.map_cons, ← a1]
    by_cases c : y.1 = k
    · rw [if_pos c, if_pos c]
      exact ⟨rfl, a2, a3, h3, RelTK.upd h3 a5⟩
    · rw [if_neg c, if_neg c]
      exact ⟨a1, a2, a3, a4, RelTK.upd h3 a5⟩
  | [], _ :: _, h => h.elim
  | _ :: _, [], h => h.elim
theorem RelTK.put {K : PySem.W.Frag} {F : Hp} {k : NestedKey} {a v : V} {d : D} (h2 : KeyV K F k a) (h3 : RelD K F v d) {xs : TV} {ds : List (NestedKey × D)} (r : RelTK K F xs ds) : RelTK K F (putB xs k a v) (putN ds k d) := by
  unfold putB putN
  rcases r.val k with ⟨e1, e2⟩ | ⟨a', v', d', e1, e2, _⟩
  · rw [e1, e2]
    exact r.snoc rfl h2 h3
  · rw [e1, e2]
    exact r.upd h3
abbrev RelT1 : NestedKey × V × V → NestedKey × Value × Value → Prop := fun p q => p.1 = q.1 ∧ L2.RelV p.2.1 q.2.1 ∧ L2.RelV p.2.2 q.2.2
theorem entT_val (k : NestedKey) : ∀ {xs : TV} {vs : TEnt}, Paired RelT1 xs vs → (atB xs k = none ∧ atB vs k = none) ∨ ∃ a v a' v', atB xs k = some (a, v) ∧ atB vs k = some (a', v') ∧ L2.RelV v v'
  | [], [], _ => .inl ⟨rfl, rfl⟩
  | x :: xs, y :: ys, h => by
    cases h with
    | cons h1 h2 =>
      have ih := entT_val k h2
      unfold atB at ih ⊢
      rw [List.find?_cons, List.find?_cons, ← h1.1]
      by_cases c : x.1 = k
      · simp only [c, decide_true]
        exact .inr ⟨_, _, _, _, rfl, rfl, h1.2.2⟩
      · simp only [c, decide_false]
        exact ih
theorem entT_len : ∀ {xs : TV} {vs : TEnt}, Paired RelT1 xs vs → xs.length = vs.length
  | [], [], _ => rfl
  | x :: xs, y :: ys, h => by
    cases h with
    | cons h1 h2 => rw [List.length_cons, List.length_cons, entT_len h2]
theorem entT_snoc {x : NestedKey × V × V} {y : NestedKey × Value × Value} (h : RelT1 x y) : ∀ {xs : TV} {vs : TEnt}, Paired RelT1 xs vs → Paired RelT1 (xs ++ [x]) (vs ++ [y])
  | [], [], _ => .cons h .nil
  | x :: xs, y :: ys, k => by
    cases k with
    | cons h1 h2 => exact .cons h1 (entT_snoc h h2)
theorem entT_upd {k : NestedKey} {v : V} {v' : Value} (h : RelV v v') : ∀ {xs : TV} {vs : TEnt}, Paired RelT1 xs vs → Paired RelT1 (xs.map fun x => if x.1 = k then (x.1, x.2.1, v) else x) (vs.map fun x => if x.1 = k then (x.1, x.2.1, v') else x)
  | [], [], _ => .nil
  | x :: xs, y :: ys, r => by
    cases r with
    | cons h1 h2 =>
      rw [List.map_cons, List.map_cons, ← h1.1]
      refine .cons ?_ (entT_upd h h2)
      by_cases c : x.1 = k
      · rw [if_pos c, if_pos c]; exact ⟨rfl, h1.2.1, h⟩
      · rw [if_neg c, if_neg c]; exact h1
theorem entT_put {k : NestedKey} {a v : V} {a' v' : Value} (ha : RelV a a') (h : RelV v v') {xs : TV} {vs : TEnt} (r : Paired RelT1 xs vs) : Paired RelT1 (putB xs k a v) (putB vs k a' v') := by
  unfold putB
  rcases entT_val k r with ⟨e1, e2⟩ | ⟨_, _, _, _, e1, e2, _⟩
  · rw [e1, e2]; exact entT_snoc ⟨rfl, ha, h⟩ r
  · rw [e1, e2]; exact entT_upd h r
theorem entT_key {X : Cx} {pins : List (Addr × Obj)} {σ : L2.St} {F H : Hp} {s : Shared} (I : Inv X pins σ H s) (e : Ext F H) : ∀ {xs : TV} {vs : TEnt}, Paired RelT1 xs vs → (∀ x ∈ xs, KeyV X.K F x.1 x.2.1) → ∀ y ∈ vs, NestedIs s.heap y.1 y.2.1 ∧ y.1.depth ≤ 8
  | [], [], _, _, y, hy => by cases hy
  | x :: xs, z :: zs, r, hk, y, hy => by
    cases r with
    | cons a b =>
      rcases List.mem_cons.mp hy with rfl | hy
      · have k1 := hk x (by simp)
        rw [← a.1]
        exact ⟨k1.is I e a.2.1, k1.1⟩
      · exact entT_key I e b (fun x hx => hk x (by simp [hx])) y hy
section
variable {X : Cx} {pins : List (Addr × Obj)} {σ : L2.St} {F H : Hp} {s : Shared} {p : Addr} {xs : TV}
theorem HasT.dict (h : HasT X F H p xs) (I : Inv X pins σ H s) : xs.length ≤ sizeLine ∧ (p == sysModules) = false ∧ ∃ vs, Paired RelT1 xs vs ∧ DictT X.w s.heap p vs := by
  obtain ⟨⟨z, n, vs, pr, ob, es, ep, ho, hx, hd, he, nd⟩, _⟩ := ok_ext.mp (I.hok p _ h.at_)
  exact ⟨z, n, vs, pr, ob, es, ep, ho, hx, hd, he, entT_key I h.ext pr h.key, nd⟩
/-! ### k in d, d[k] -/
def rInT (X : Cx) (neg : Bool) : R2 := fun x y H Q => ∃ F p xs k, y = .ref p ∧ HasT X F H p xs ∧ KeyV X.K F k x ∧ Q (.bl (if neg then !(atB xs k).isSome else (atB xs k).isSome)) H
theorem op_inT (hu : X.A.units + 9 < cLine) : OpR X (compareOp .In) (rInT X false) := by
  intro pins s σ H x y v u Q I rx ry h
  obtain ⟨F, p, xs, k, rfl, hN, hk, q⟩ := h
  cases ry
  obtain ⟨z, n, vs, pr, hD⟩ := hN.dict I
  refine in_val hu (hk.is I hN.ext rx) hk.1 n hD ⟨.bl (atB xs k).isSome, H, I.tok _, ?_, q⟩
  rcases entT_val k pr with ⟨e1, e2⟩ | ⟨_, _, _, _, e1, e2, _⟩ <;> rw [e1, e2] <;> rfl
theorem op_notInT (hu : X.A.units + 9 < cLine) : OpR X (compareOp .NotIn) (rInT X true) := by
  intro pins s σ H x y v u Q I rx ry h
  obtain ⟨F, p, xs, k, rfl, hN, hk, q⟩ := h
  cases ry
  obtain ⟨z, n, vs, pr, hD⟩ := hN.dict I
  refine notIn_val hu (hk.is I hN.ext rx) hk.1 n hD ⟨.bl (!(atB xs k).isSome), H, I.tok _, ?_, q⟩
  rcases entT_val k pr with ⟨e1, e2⟩ | ⟨_, _, _, _, e1, e2, _⟩ <;> rw [e1, e2] <;> rfl
def rIxT1 (X : Cx) : R2 := fun x y H Q => ∃ F p xs k a v, x = .ref p ∧ HasT X F H p xs ∧ KeyV X.K F k y ∧ atB xs k = some (a, v) ∧ Q v H
theorem pe_ixT {o i : Expr} {pos : Pos} {td ty : TE} (hu : X.A.units + 9 < cLine) (ho : PE X o td) (hi : PE X i ty) (hs : NoSl i) : PE X (.Subscript o i pos) (tOp (rIxT1 X) td ty) := by
  refine ⟨fun pins s σ H Q I h => ?_⟩
  refine subD_of PySem.F.slot_dict_getitem.lookup hs (thn (ho.run pins s σ H _ I h) fun u s1 ⟨x, H1, I1, rx, q1⟩ => thn (hi.run pins s1 σ H1 _ I1 q1) fun iv s2 ⟨y, H2, I2, ry, q2⟩ => ?_)
  obtain ⟨F, p, xs, k, a, v1, rfl, hN, hk, e, q⟩ := q2
  cases rx
  obtain ⟨z, n, vs, pr, hD⟩ := hN.dict I2
  rcases entT_val k pr with ⟨e1, _⟩ | ⟨_, v2, a', v', e1, e2, r⟩
  · rw [e] at e1; cases e1
  · rw [e] at e1; cases e1
    exact ⟨hD.typeIs, getItem_val hu (hk.is I2 hN.ext ry) hk.1 hD e2 ⟨_, H2, I2.tok _, r, q⟩⟩
/-! ### d[k] = v -/
def rSetT (X : Cx) : TSet := fun o i v H Q => ∃ F p xs k, o = .ref p ∧ HasT X F H p xs ∧ KeyV X.K F k i ∧ xs.length < sizeLine ∧ Q (upd H p (.ext (TObj X.w p (putB xs k i v))))
theorem putB_len {K α β : Type} [DecidableEq K] (xs : List (K × α × β)) (k : K) (a : α) (v : β) : (putB xs k a v).length ≤ xs.length + 1 := by
  unfold putB
  split <;> simp
theorem set_T (hu : X.A.units + 9 < cLine) : PSet X (rSetT X) := by
  intro pins s σ H o i v ov iv u Q I ro ri rv h
  obtain ⟨F, p, xs, k, rfl, hN, hk, hz, q⟩ := h
  cases ro
  obtain ⟨z, n, vs, pr, hD⟩ := hN.dict I
  refine setItem_val hu (hk.is I hN.ext ri) hk.1 hD (fun h' hD' sb => ?_) (by rw [← entT_len pr]; exact z)
  obtain ⟨ob, es, ep, ho, hx, hd, he', _, nd⟩ := hD'
  have hl := putB_len xs k i v
  have nob : TObj X.w p (putB xs k i v) h' := ⟨by omega, n, _, entT_put ri rv pr, ob, es, ep, ho, hx, hd, he', nd⟩
  have I4 := I.write (x := p) (e := p) (o := .ext (TObj X.w p (putB xs k i v))) (h' := h') (t' := s.toks + k.draws) (by rw [hN.at_]; exact True.intro) (.inl rfl) (fun b u hb hu => by rw [sb.2 b hb]; exact hu) ⟨ob, ho⟩ (tobj_ok nob)
  exact ⟨_, I4, q⟩
theorem ps_setT {o i value : Expr} {pos pos' : Pos} {td ty tv : TE} (hu : X.A.units + 9 < cLine) (ho : PE X o td) (hi : PE X i ty) (hv : PE X value tv) (hs : swapsWith value (some (.Subscript o i pos')) pos.line X.env = pure false) :
    PS X (.Assign [.Subscript o i pos'] value pos) (fun E σ H => tv σ H fun v H1 => td σ H1 fun x H2 => ty σ H2 fun y H3 => rSetT X x y v H3 fun H4 => E.nx σ H4) := by
  refine ⟨fun pins s σ H D I h => ?_⟩
  refine wpAny_Assign_Subscript (thn (hv.run pins s σ H _ I h) fun r s1 ⟨v, H1, I1, rv, q1⟩ => thn (ho.run pins s1 σ H1 _ I1 q1) fun u s2 ⟨x, H2, I2, rx, q2⟩ => thn (hi.run pins s2 σ H2 _ I2 q2) fun iv s3 ⟨y, H3, I3, ry, q3⟩ => ?_) hs
  refine thn (set_T hu pins s3 σ H3 x y v u iv r _ I3 rx ry rv q3) fun _ s4 ⟨H4, I4, q4⟩ => ?_
  exact ⟨σ, H4, I4, q4⟩
end
/-! ### over trees -/
section
variable {X : Cx}
theorem hasT_of {K : PySem.W.Frag} {F H : Hp} {M : Sto} {w : World} {p p' : Addr} {kvs : List (NestedKey × D)} (R : Rst0 K F H M) (h : M p = some (.dctT w p' kvs)) : ∃ xs, H p = some (.ext (TObj w p' xs)) ∧ RelTK K F xs kvs := by
  obtain ⟨hf, ho, hh, hr⟩ := R.sto _ _ h
  cases ho <;> first | exact False.elim hr | skip
  obtain ⟨xs, rfl, hr⟩ := hr
  exact ⟨xs, hh, hr⟩
@[simp] def gInT (w : World) (neg : Bool) : G2 := fun x y M Q => match y with
  | .ref p => (match M p with
    | some (.dctT w' p' kvs) => w' = w ∧ p' = p ∧ ∃ k, nkD x = some k ∧ k.depth ≤ 8 ∧ Q (.bl (if neg then !(valNd kvs k).isSome else (valNd kvs k).isSome)) M
    | _ => False)
  | _ => False
theorem inT_ref {neg : Bool} {f : Value → Value → Sem Value} (ho : OpR X f (rInT X neg)) : OpD X f (gInT X.w neg) := fun F H M x y d e Qd Q R rx ry q k => by
  unfold gInT at q
  split at q
  · rename_i p
    split at q
    · rename_i w' p' kvs hM
      obtain ⟨rfl, rfl, kk, hk, hd, q⟩ := q
      cases ry
      obtain ⟨xs, hh, hr⟩ := hasT_of R hM
      refine ⟨_, ho, F, p', xs, kk, rfl, ⟨hh, R.sub, hr.key⟩, ⟨hd, d, hk, rx⟩, ?_⟩
      have e : (atB xs kk).isSome = (valNd kvs kk).isSome := by
        rcases hr.val kk with ⟨e1, e2⟩ | ⟨_, _, _, e1, e2, _⟩ <;> rw [e1, e2] <;> rfl
      rw [e]
      exact k _ F H _ M (Stp.refl F H M) R (.bl _) q
    · exact q.elim
  · exact q.elim
theorem od_inT (hu : X.A.units + 9 < cLine) : OpD X (compareOp .In) (gInT X.w false) := inT_ref (op_inT hu)
theorem od_notInT (hu : X.A.units + 9 < cLine) : OpD X (compareOp .NotIn) (gInT X.w true) := inT_ref (op_notInT hu)
/-- d[k], k there -/
@[simp] def gIxT (w : World) : G2 := fun x y M Q => match x with
  | .ref p => (match M p with
    | some (.dctT w' p' kvs) => w' = w ∧ p' = p ∧ ∃ k, nkD y = some k ∧ k.depth ≤ 8 ∧ ∃ d, valNd kvs k = some d ∧ Q d M
    | _ => False)
  | _ => False
theorem de_ixT {a b : Expr} {pos : Pos} {ta tb : DTE} (hu : X.A.units + 9 < cLine) (ha : DE X a ta) (hb : DE X b tb) (hs : NoSl b := by exact fun _ _ => rfl) : DE X (.Subscript a b pos) (dOp (gIxT X.w) ta tb) := by
  obtain ⟨u, pu, ru⟩ := ha.ex
  obtain ⟨w, pw, rw'⟩ := hb.ex
  refine ⟨_, pe_ixT hu pu pw hs, fun F H σ τ M Qd Q R q k => ?_⟩
  refine ru F H σ τ M _ _ R q fun v F1 H1 d M1 e1 R1 r1 q1 => ?_
  refine rw' F1 H1 σ τ M1 _ _ R1 q1 fun v' F2 H2 d' M2 e2 R2 r2 q2 => ?_
  unfold gIxT at q2
  split at q2
  · rename_i p
    split at q2
    · rename_i w' p' kvs hM
      obtain ⟨rfl, rfl, kk, hk, hd, y, hy, q2⟩ := q2
      cases r1
      obtain ⟨xs, hh, hr⟩ := hasT_of R2.heap hM
      rcases hr.val kk with ⟨e1', e2'⟩ | ⟨a0, v0, d0, e1', e2', rd⟩
      · rw [e2'] at hy; cases hy
      · rw [e2'] at hy; cases hy
        exact ⟨F2, p', xs, kk, a0, v0, rfl, ⟨hh, R2.heap.sub, hr.key⟩, ⟨hd, d', hk, r2⟩, e1', k v0 F2 H2 _ M2 (e1.trans e2) R2 rd q2⟩
    · exact q2.elim
  · exact q2.elim
/-- d[k] = v: the value first, then the object, then the key -/
@[simp] def dPutT (w : World) (td ti tv : DTE) : DTS := fun E τ M => tv τ M fun v M1 => td τ M1 fun x M2 => ti τ M2 fun y M3 => match x with
  | .ref p => (match M3 p with
    | some (.dctT w' p' kvs) => w' = w ∧ p' = p ∧ kvs.length < sizeLine ∧ ∃ k, nkD y = some k ∧ k.depth ≤ 8 ∧ E.nx τ (M3.upd p (.dctT w p (putN kvs k v)))
    | _ => False)
  | _ => False
theorem ds_putT {o i value : Expr} {pos pos' : Pos} {td ti tv : DTE} (hu : X.A.units + 9 < cLine) (ho : DE X o td) (hi : DE X i ti) (hv : DE X value tv) (hs : swapsWith value (some (.Subscript o i pos')) pos.line X.env = pure false := by rfl) : DS X (.Assign [.Subscript o i pos'] value pos) (dPutT X.w td ti tv) := by
  obtain ⟨uo, po, ro⟩ := ho.ex
  obtain ⟨ui, pi, ri⟩ := hi.ex
  obtain ⟨uv, pv', rv⟩ := hv.ex
  refine ⟨_, ps_setT hu po pi pv' hs, fun F H σ τ M D E R q r => ?_⟩
  refine rv F H σ τ M _ _ R q fun v F1 H1 d M1 e1 R1 r1 q1 => ?_
  refine ro F1 H1 σ τ M1 _ _ R1 q1 fun x F2 H2 dx M2 e2 R2 r2 q2 => ?_
  refine ri F2 H2 σ τ M2 _ _ R2 q2 fun y F3 H3 dy M3 e3 R3 r3 q3 => ?_
  cases dx <;> first | exact False.elim q3 | skip
  rename_i p
  cases r2
  dsimp only at q3
  split at q3
  · rename_i w' p' kvs hM
    obtain ⟨rfl, rfl, hz, kk, hk, hd, q3⟩ := q3
    obtain ⟨xs, hh, hr⟩ := hasT_of R3.heap hM
    obtain ⟨e4, R4⟩ := R3.heap.write (o := .ext (TObj X.w p' (putB xs kk y v))) (u := .dctT X.w p' (putN kvs kk d)) hM ⟨_, rfl, hr.put ⟨hd, dy, hk, r3⟩ (r1.mono (e2.trans e3).ext)⟩
    exact ⟨F3, p', xs, kk, rfl, ⟨hh, R3.heap.sub, hr.key⟩, ⟨hd, dy, hk, r3⟩, by rw [hr.length]; exact hz, r.nx _ _ _ _ _ (((e1.trans e2).trans e3).trans e4) (R3.mono e4.ext R4) q3⟩
  · exact q3.elim
/-- {} -/
def tDNewT (w : World) : TE := fun _ H Q => ∀ p, H p = none → Q (.ref p) (upd H p (.ext (TObj w p [])))
theorem pe_dnewT {pos : Pos} : PE X (.Dict [] [] pos) (tDNewT X.w) := by
  refine ⟨fun pins s σ H Q I h => ?_⟩
  refine thn ((pe_dnewK (X := X) (pos := pos)).run pins s σ H (fun v H' => ∃ p, v = .ref p ∧ H p = none ∧ H' = upd H p (.dK [])) I fun p hp => ⟨p, rfl, hp, rfl⟩) ?_
  rintro u s1 ⟨v, H1, I1, rv, p, rfl, hp, rfl⟩
  have hk := I1.hok p _ upd_same
  unfold L2.ObjOk at hk
  obtain ⟨_, ns, vs, kv, ob, es, ep, ho, hx, hd, _, pr, _⟩ := hk
  cases kv
  have he : es.toList = [] := by
    generalize es.toList = l at pr
    cases pr; rfl
  have no : TObj X.w p [] s1.heap := ⟨Nat.zero_le _, ns, [], .nil, ob, es, ep, ho, hx, hd, by rw [he]; rfl, List.Pairwise.nil⟩
  have I2 := I1.write (x := p) (e := p) (o := .ext (TObj X.w p [])) (h' := s1.heap) (t' := s1.toks) (by rw [upd_same]; exact True.intro) (.inl rfl) (fun b u _ hu => hu) ⟨ob, ho⟩ (tobj_ok no)
  rw [upd_upd] at I2
  exact ⟨_, _, I2, rv, h p hp⟩
@[simp] def dDictT (w : World) : DTE := fun _ M Q => ∀ p, M p = none → Q (.ref p) (M.upd p (.dctT w p []))
theorem de_dictT {pos : Pos} : DE X (.Dict [] [] pos) (dDictT X.w) := ⟨_, pe_dnewT, fun F H σ τ M Qd Q R q k p hp => by
  obtain ⟨e2, R2⟩ := R.heap.fresh (o := .ext (TObj X.w p [])) (u := .dctT X.w p []) hp ⟨[], rfl, True.intro⟩
  exact k _ _ _ (.ref p) _ e2 (R.mono e2.ext R2) (.ref p) (q p (R.heap.free hp).2)⟩
/-! ### (a, b, ..) = a list -/
@[simp] def dgUnl (n : Nat) (t : DTGs) : DTG := fun d τ M Q => match lstOf d M with
  | some xs => xs.length = n ∧ t xs τ M Q
  | none => False
theorem refGUnl {K : PySem.W.Frag} {n : Nat} {t : TGs} {g : DTGs} (h : RefGs K t g) : RefG K (gUnl K n t) (dgUnl n g) := fun F H σ τ M v d Qd Q R r q k => by
  unfold dgUnl at q
  split at q
  · rename_i xs hx
    obtain ⟨hl, q⟩ := q
    obtain ⟨a, vs, rfl, hs, rs⟩ := lst_ok R.heap r hx
    exact ⟨a, vs, rfl, SqL.of hs, by rw [rs.length]; exact hl, h F H σ τ M _ _ _ _ R rs q k⟩
  · exact q.elim
theorem dg_unl {es : List Expr} {k : Nat} {t : DTGs} {n : Nat} {pos : Pos} (hc : X.calm = true) (h : DGs X es t) (hn : (assignEach es X.env).length = n := by rfl) (hst : (assignEach es X.env).findIdx? (·.1) = none := by rfl) : DG X (.Tuple es k pos) (dgUnl n t) := by
  obtain ⟨a, pa, ra⟩ := h.ex
  exact ⟨_, pg_unl hc pa hn hst, refGUnl ra⟩
/-! ### sum -/
@[simp] def gSum : GC := fun ds M Q => match ds with
  | [x] => ∃ ns : List Int, lstOf x M = some (ns.map D.int) ∧ Q (.int ns.sum) M
  | _ => False
theorem ints_ok {K : PySem.W.Frag} {F : Hp} : ∀ {ns : List Int} {vs : List V}, RelDs K F vs (ns.map D.int) → vs = ns.map V.int
  | [], _, r => by cases r; rfl
  | n :: ns, _, r => by
    cases r with
    | cons a b =>
      cases a
      rw [ints_ok b]; rfl
theorem cd_sum (hc : X.calm = true) : CallD X (.builtin "sum") gSum := fun F H M xs ds Qd Q R r q k => by
  unfold gSum at q
  split at q
  · obtain ⟨ns, hx, q⟩ := q
    cases r with
    | cons r1 r2 =>
      cases r2
      obtain ⟨a, vs, rfl, hs, rs⟩ := lst_ok R r1 hx
      have e := ints_ok rs
      subst e
      exact ⟨_, cr_sum hc, a, ns, rfl, SqL.of hs, k _ F H _ M (Stp.refl F H M) R (.int _) q⟩
  · exact q.elim
end
end DL

/-! FC: dict comprehensions; a dict that was just made, walked by its keys. -/
namespace DL
open PySem PySem.Spec PyProof.Rows L2
variable [Wsh]
/-! ### a dict that nobody else knows is locked for good, then walked -/
theorem pe_lockV {X : Cx} {e : Expr} {t : TE} (h : PE X e t) : PE X e (fun σ H Q => t σ H fun v H1 => ∃ d u, v = .ref d ∧ H1 d = some u ∧ Mut (some u) ∧ ∀ od, Q v (upd H1 d (.frz od u))) := by
  refine ⟨fun pins s σ H Q I hw => ?_⟩
  refine thn (h.run pins s σ H _ I hw) fun v s1 ⟨x, H1, I1, r, d, u, ex, hd, mu, q⟩ => ?_
  obtain ⟨od, I2⟩ := I1.lock hd mu
  exact ⟨x, _, I2, r, q od⟩
theorem Rst0.lockd {K : PySem.W.Frag} {F H : Hp} {M : Sto} {p : Addr} {kvs : List (Key × D)} (r : Rst0 K F H M) (h : M p = some (.dct kvs)) : ∃ vs, H p = some (.dK vs) ∧ ∀ od, RelKv K (upd F p (.frz od (.dK vs))) vs kvs ∧
    Stp F H M (upd F p (.frz od (.dK vs))) (upd H p (.frz od (.dK vs))) (M.del p) ∧ Rst0 K (upd F p (.frz od (.dK vs))) (upd H p (.frz od (.dK vs))) (M.del p) := by
  obtain ⟨hf, ho, h1, h2⟩ := r.sto p _ h
  cases ho <;> first | exact False.elim h2 | skip
  rename_i vs
  have h2' : RelKv K F vs kvs := h2
  refine ⟨vs, h1, fun od => ?_⟩
  have e := Ext.new (o := HO.frz od (.dK vs)) hf
  refine ⟨RelKv.mono e h2', ⟨e, fun b u q n => ?_, fun b q => ?_⟩, fun b u q => ?_, fun b u q => ?_⟩
  · have hb : b ≠ p := (Sto.ne h n).symm
    exact ⟨by rw [upd_ne hb]; exact q, by rw [Sto.del_ne hb]; exact n, fun z => by rw [upd_ne hb]; exact z⟩
  · by_cases hb : b = p
    · subst hb; rw [upd_same] at q; cases q
    · rw [upd_ne hb] at q; exact q
  · by_cases hb : b = p
    · subst hb; rw [upd_same] at q ⊢; exact q
    · rw [upd_ne hb] at q ⊢; exact r.sub b u q
  · have hb : b ≠ p := by intro z; subst z; rw [Sto.del_same] at q; cases q
    rw [Sto.del_ne hb] at q
    obtain ⟨g1, go, g2, g3⟩ := r.sto b u q
    exact ⟨by rw [upd_ne hb]; exact g1, go, by rw [upd_ne hb]; exact g2, g3.mono e⟩
def iKeysD (t : DTE) : DTI := fun τ M Q => t τ M fun x M1 => match x with
  | .ref p => (match M1 p with
    | some (.dct kvs) => Q (kvs.map fun kv => keyT kv.1) (M1.del p)
    | _ => False)
  | _ => False
theorem di_keysD {X : Cx} {tg e : Expr} {t : DTE} (he : DE X e t) : DI X tg e (iKeysD t) := by
  obtain ⟨u, pu, ru⟩ := he.ex
  refine ⟨_, pi_keys (pe_lockV pu), fun F H σ τ M Qd Q R q k => ?_⟩
  refine ru F H σ τ M _ _ R q fun v F1 H1 d M1 e1 R1 r1 q1 => ?_
  cases d <;> first | exact False.elim q1 | skip
  rename_i p
  cases r1
  dsimp only at q1
  split at q1
  · rename_i kvs hM
    obtain ⟨vs, h1, hod⟩ := R1.heap.lockd hM
    refine ⟨p, .dK vs, rfl, h1, trivial, fun od => ?_⟩
    obtain ⟨r2, e2, R2⟩ := hod od
    refine ⟨p, od, rfl, .inl ⟨vs, upd_same, ?_⟩⟩
    exact k _ _ _ _ _ (e1.trans e2) (R1.mono e2.ext R2) (itd_keys upd_same r2) q1
  · exact q1.elim
/-! ### {k: v for ..} -/
def compDd (g : DTG) (tt : DTT) (tk tv : DTE) (τ : DSt) (Q : List (Key × D) → Sto → Prop) : List D → List (Key × D) → Sto → Prop
  | [], acc, M => Q acc M
  | d :: ds, acc, M => g d τ M fun τ2 M2 => tt τ2 M2 fun b M3 => if b = true then tk τ2 M3 fun y M4 => tv τ2 M4 fun z M5 => acc.length < sizeLine ∧ ∃ k, dKey y = some k ∧ compDd g tt tk tv τ Q ds (putD acc k z) M5 else compDd g tt tk tv τ Q ds acc M3
@[simp] def dDcM (it : DTI) (g : DTG) (tt : DTT) (tk tv : DTE) (vs : List Nat) : DTE := fun τ M Q => it τ M fun ds M1 => compDd g tt tk tv (dwipe τ vs) (fun acc M2 => ∀ p, M2 p = none → Q (.ref p) (M2.upd p (.dct acc))) ds [] M1
theorem refDcM {K : PySem.W.Frag} {wi : TI} {it : DTI} {tg : TG} {g : DTG} {tt : TT} {dt : DTT} {tk tv : TE} {dk dv : DTE} {vs : List Nat} (hi : RefI K wi it) (hg : RefG K tg g) (ho : OwnAny tg vs) (hm : ∀ x σ H Q Q', (∀ σ2 H2, Q σ2 H2 → Q' σ2 H2) → tg x σ H Q → tg x σ H Q') (ht : RefT K tt dt) (hk : RefE K tk dk) (hv : RefE K tv dv) :
    RefE K (tDc wi tg tt tk tv vs) (dDcM it g dt dk dv vs) := fun F H σ τ M Qd Q R q k => by
  refine hi F H σ τ M _ _ R q fun J F1 H1 ds M1 e1 R1 hJ q1 p hp => ?_
  have hp0 : H p = none := e1.al p hp
  obtain ⟨hf1, hm1⟩ := R1.heap.free hp
  refine ⟨fun i m H' => m = ds.length - i ∧ i ≤ ds.length ∧ ∃ F' M' xs acc, Stp F H M F' H' M' ∧ Ext F1 F' ∧ Rst K F' H' σ τ M' ∧ M' p = none ∧ F' p = none ∧ H' p = some (.dK xs) ∧ RelKv K F' xs acc ∧ compDd g dt dk dv (dwipe τ vs) (fun acc M2 => ∀ p, M2 p = none → Qd (.ref p) (M2.upd p (.dct acc))) (ds.drop i) acc M',
    ⟨ds.length, by simp, Nat.zero_le _, F1, M1, [], [], e1.side hp0 _, Ext.refl _, ⟨R1.heap.side hm1 hf1 _, R1.slots⟩, hm1, hf1, upd_same, .nil, by simpa using q1⟩, ?_⟩
  rintro i m H2 ⟨rfl, hil, F2, M2, xs, acc, s2, x2, R2, m2, f2, h2, rl2, q2⟩
  by_cases hlt : i < ds.length
  · obtain ⟨d, hd⟩ : ∃ d, ds[i]? = some d := ⟨ds[i], List.getElem?_eq_getElem hlt⟩
    rw [drop_cons hd] at q2
    refine .inr ⟨hJ.go i F2 H2 M2 hlt x2 R2.heap, fun H' => ∃ F' M' xs acc, Stp F H M F' H' M' ∧ Ext F1 F' ∧ Rst K F' H' σ τ M' ∧ M' p = none ∧ F' p = none ∧ H' p = some (.dK xs) ∧ RelKv K F' xs acc ∧ compDd g dt dk dv (dwipe τ vs) (fun acc M2 => ∀ p, M2 p = none → Qd (.ref p) (M2.upd p (.dct acc))) (ds.drop (i + 1)) acc M', fun H' z => ⟨ds.length - (i + 1), by omega, rfl, hlt, z⟩, fun x H' y => ?_⟩
    obtain ⟨F3, e3, R3, r3⟩ := hJ.yld i F2 H2 M2 d x H' hd x2 R2.heap y
    have sl3 : RelSl K F3 (wipe σ vs) (dwipe τ vs) := (R2.slots.mono e3.ext).wipe vs
    refine ho.own _ _ _ _ (hg F3 H' (wipe σ vs) (dwipe τ vs) M2 x d _ _ ⟨R3, sl3⟩ r3 q2 fun F4 H4 σ4 τ4 M4 e4 R4 q4 => ?_)
    refine ht F4 H4 σ4 τ4 M4 _ _ R4 q4 fun b F5 H5 M5 e5 R5 q5 => ?_
    have s5 : Stp F2 H2 M2 F5 H5 M5 := (e3.trans e4).trans e5
    cases b with
    | false =>
      obtain ⟨h5, m5, f5⟩ := s5.kp p _ h2 m2
      exact iteF ⟨F5, M5, xs, acc, s2.trans s5, x2.trans s5.ext, ⟨R5.heap, R2.slots.mono s5.ext⟩, m5, f5 f2, h5, rl2.mono s5.ext, q5⟩
    | true =>
      refine iteT (hk F5 H5 σ4 τ4 M5 _ _ R5 q5 fun y F6 H6 dy M6 e6 R6 r6 q6 => ?_)
      refine hv F6 H6 σ4 τ4 M6 _ _ R6 q6 fun z F7 H7 dz M7 e7 R7 r7 q7 => ?_
      have s6 := (s5.trans e6).trans e7
      obtain ⟨h6, m6, f6⟩ := s6.kp p _ h2 m2
      obtain ⟨hz, kk, hkk, q7⟩ := q7
      have ek := dKey_ok r6 hkk
      subst ek
      refine ⟨xs, kk, rfl, h6, by rw [rl2.length]; exact hz, F7, M7, putK xs kk z, putD acc kk dz, (s2.trans s6).side hp0 _, x2.trans s6.ext, ⟨R7.heap.side m6 (f6 f2) _, R2.slots.mono s6.ext⟩, m6, f6 f2, upd_same, (rl2.mono s6.ext).put r7, q7⟩
  · have e : i = ds.length := by omega
    subst e
    rw [List.drop_length] at q2
    refine .inl ⟨hJ.stop F2 H2 M2 x2 R2.heap, ?_⟩
    refine k (.ref p) F2 H2 (.ref p) (M2.upd p (.dct acc)) ⟨s2.ext, fun b u e n => ?_, s2.al⟩ ⟨⟨R2.heap.sub, fun b u e => ?_⟩, R2.slots⟩ (.ref p) (q2 p m2)
    · obtain ⟨h1, m1, f1⟩ := s2.kp b u e n
      exact ⟨h1, by rw [Sto.upd_ne (ne_of_none e hp0)]; exact m1, f1⟩
    · by_cases hb : b = p
      · subst hb
        rw [Sto.upd_same] at e; cases e
        exact ⟨f2, _, h2, rl2⟩
      · rw [Sto.upd_ne hb] at e
        exact R2.heap.sto b u e
section
variable {X : Cx} {kx vx tg iter : Expr} {ifs : List Expr} {scope : Scope} {own : List (Str × Nat)} {pos : Pos} {it : DTI} {g : DTG} {tt : DTT} {tk tv : DTE}
theorem de_dcM (hc : X.calm = true) (hN : X.N.Nodup) (hi : DI X tg iter it) (ok : BlkOk X.N X.env.scope scope own) (hg : DGC X scope tg (own.map (·.2)) g)
    (ht : ∀ (s : Shared) (H : Hp) (C : Addr) (cl : List (Str × Addr)) (fp : List Addr), DTs (X.blk s H scope (compEnvC scope cl C X.env) fp) ifs tt)
    (hk : ∀ (s : Shared) (H : Hp) (C : Addr) (cl : List (Str × Addr)) (fp : List Addr), DE (X.blk s H scope (compEnvC scope cl C X.env) fp) kx tk)
    (hv : ∀ (s : Shared) (H : Hp) (C : Addr) (cl : List (Str × Addr)) (fp : List Addr), DE (X.blk s H scope (compEnvC scope cl C X.env) fp) vx tv)
    (hs : ∀ x, foldedSetIterable iter X.env x = pure x := by intro _; rfl) : DE X (.DictComp kx vx [⟨tg, iter, ifs, 0⟩] scope pos) (dDcM it g tt tk tv (own.map (·.2))) := by
  obtain ⟨wi, pi, ri⟩ := hi.ex
  obtain ⟨gg, pg, rg, og, mg⟩ := hg.ex
  obtain ⟨ke, pk, rk⟩ := uni_e hk
  obtain ⟨ve, pv, rv⟩ := uni_e hv
  obtain ⟨t', pt, rt⟩ := uni_t ht
  exact ⟨_, pe_dc hc hN pi ok pg pt pk pv hs, refDcM ri rg og mg rt rk rv⟩
end
end DL

/-! FD: texts: a sign in a text, slices, int(text), join; dicts of the module. -/
namespace DL
open PySem PySem.Spec PyProof.Rows L2
variable [Wsh]
section
variable {X : Cx}
/-! ### a sign in a text -/
def gInU (n : Nat) (neg : Bool) : G2 := fun x y M Q => match x, y with
  | .str a, .str z => ∃ c, a = ⟨#[c]⟩ ∧ Q (.bl (if neg then !decide (c ∈ z.cps.toList) else decide (c ∈ z.cps.toList))) M
  | x, y => gIn n neg x y M Q
theorem od_inU {n : Nat} (hu : X.A.units + (n + 2) < cLine) : OpD X (compareOp .In) (gInU n false) := fun F H M x y d e Qd Q R rx ry q k => by
  unfold gInU at q
  split at q
  · cases rx; cases ry
    obtain ⟨c, rfl, q⟩ := q
    exact ⟨_, op_in_sign, c, _, rfl, rfl, k _ F H _ M (Stp.refl F H M) R (.bl _) q⟩
  · exact od_in hu F H M x y _ _ Qd Q R rx ry q k
theorem od_notInU {n : Nat} (hu : X.A.units + (n + 2) < cLine) : OpD X (compareOp .NotIn) (gInU n true) := fun F H M x y d e Qd Q R rx ry q k => by
  unfold gInU at q
  split at q
  · cases rx; cases ry
    obtain ⟨c, rfl, q⟩ := q
    exact ⟨_, op_notIn_sign, c, _, rfl, rfl, k _ F H _ M (Stp.refl F H M) R (.bl _) q⟩
  · exact od_notIn hu F H M x y _ _ Qd Q R rx ry q k
/-! ### slices -/
def gCutU (x : D) (lo hi : Option Int) (M : Sto) (Q : DK) : Prop := match x with
  | .str z => z.length ≤ sizeLine ∧ Q (.str (cutS z lo hi)) M
  | x => gCut x lo hi M Q
def dSlU (t : DTE) (tl th : DTO) : DTE := fun τ M Q => t τ M fun x M1 => tl τ M1 fun lo M2 => th τ M2 fun hi M3 => gCutU x lo hi M3 Q
theorem de_slU {e : Expr} {lo hi : Option Expr} {p2 pos : Pos} {t : DTE} {tl th : DTO} (he : DE X e t) (hl : DO X lo tl) (hh : DO X hi th) : DE X (.Subscript e (.Slice lo hi none p2) pos) (dSlU t tl th) := by
  obtain ⟨u, pu, ru⟩ := he.ex
  obtain ⟨ul, pl, rl⟩ := hl.ex
  obtain ⟨uh, ph, rh⟩ := hh.ex
  refine ⟨_, pe_slice sl_any pu pl ph, fun F H σ τ M Qd Q R q k => ?_⟩
  refine ru F H σ τ M _ _ R q fun v F1 H1 d M1 e1 R1 r1 q1 => ?_
  refine rl F1 H1 σ τ M1 _ _ R1 q1 fun o F2 H2 M2 e2 R2 q2 => ?_
  refine rh F2 H2 σ τ M2 _ _ R2 q2 fun o' F3 H3 M3 e3 R3 q3 => ?_
  unfold gCutU at q3
  split at q3
  · cases r1
    exact ⟨_, sl_str, _, rfl, q3.1, k _ F3 H3 _ M3 ((e1.trans e2).trans e3) R3 (.str _) q3.2⟩
  · exact cut_ok R3.heap (r1.mono (e2.trans e3).ext) q3 fun v4 F4 H4 z M4 e4 R4 r4 q4 => k v4 F4 H4 z M4 (((e1.trans e2).trans e3).trans e4) (R3.mono e4.ext R4) r4 q4
/-! ### int(text) -/
def gIntU : GC := fun ds M Q => match ds with
  | [.str a] => ∃ n, PySem.intText? a = some n ∧ a.length ≤ 640 ∧ Q (.int n) M
  | ds => gInt ds M Q
theorem cd_intU : CallD X (.type "int") gIntU := fun F H M xs ds Qd Q R r q k => by
  unfold gIntU at q
  split at q
  · cases r with
    | cons r1 r2 =>
      cases r1; cases r2
      obtain ⟨n, h1, h2, q⟩ := q
      exact ⟨_, call_int_str, _, n, rfl, h1, h2, k _ F H _ M (Stp.refl F H M) R (.int _) q⟩
  · exact cd_int F H M xs _ Qd Q R r q k
/-! ### join -/
def strsOf : List D → Option (List Str)
  | [] => some []
  | .str a :: r => (strsOf r).map (a :: ·)
  | _ :: _ => none
theorem strs_rel {K : PySem.W.Frag} {F : Hp} : ∀ {vs : List V} {ds : List D} {ys : List Str}, RelDs K F vs ds → strsOf ds = some ys → vs = ys.map V.str
  | _, _, ys, .nil, h => by simp [strsOf] at h; subst h; rfl
  | _, _, ys, .cons (d := d) a r, h => by
    cases a <;> simp [strsOf] at h
    obtain ⟨zs, h1, rfl⟩ := h
    rw [strs_rel r h1]; rfl
def dJoin (to te : DTE) : DTE := fun τ M Q => to τ M fun x M1 => match x with
  | .str a => te τ M1 fun y M2 => ∃ xs ys, seqOf y M2 = some xs ∧ strsOf xs = some ys ∧ (ys.map (·.length)).sum + ys.length * a.length ≤ 16777216 ∧ Q (.str (Txt.join a ys)) M2
  | _ => False
theorem de_join {o e : Expr} {to te : DTE} {apos pos : Pos} (ho : DE X o to) (he : DE X e te) (hs : starEach [e] X.env = [(false, eval e X.env)] := by rfl) (hbase : attributeBase o "join" X.env (eval o X.env) = eval o X.env := by rfl) (hline : (apos.endLine == pos.line) = true := by rfl) :
    DE X (.Call (.Attribute o "join" apos) [e] [] pos) (dJoin to te) := by
  obtain ⟨u, pu, ru⟩ := ho.ex
  obtain ⟨w, pw, rw'⟩ := he.ex
  refine ⟨_, pe_join pu pw hs hbase hline, fun F H σ τ M Qd Q R q k => ?_⟩
  refine ru F H σ τ M _ _ R q fun v F1 H1 x M1 e1 R1 r1 q1 => ?_
  cases x <;> first | exact False.elim q1 | skip
  cases r1
  refine ⟨⟨_, rfl⟩, rw' F1 H1 σ τ M1 _ _ R1 q1 fun v2 F2 H2 y M2 e2 R2 r2 q2 => ?_⟩
  obtain ⟨xs, ys, h1, h2, h3, q2⟩ := q2
  obtain ⟨a, vs, rfl, hv, rv⟩ := seq_ok R2.heap r2 h1
  have ev := strs_rel rv h2
  subst ev
  exact ⟨_, a, ys, rfl, rfl, hv.imp SqL.of id, h3, k _ F2 H2 _ M2 (e1.trans e2) R2 (.str _) q2⟩
/-! ### dicts of the module, texts their keys -/
/-- at a: a dict of the module; at each of these keys this stands, or nothing -/
structure GD (K : PySem.W.Frag) (w : World) (a : Addr) (ks : List (Str × Option D)) : Prop where
  kd : ∃ es n, KDict K w a es n
  get : ∀ p ∈ ks, match p.2 with
    | none => PySem.W.nsIn K a p.1 = some none
    | some d => ∃ u v, PySem.W.nsIn K a p.1 = some (some u) ∧ RelV v u ∧ ∀ F, RelD K F v d
theorem de_gref {x : Str} {a : Addr} {pos : Pos} (hg : Gl X x) (hm : X.mg x = some (.ref a)) (hd : (x == ("__debug__" : Str)) = false := by decide) : DE X (.Name x pos) (dC (.ref a)) := ⟨_, pe_glob hg hm (v := .ref a) rfl hd, refC fun _ => .ref a⟩
def gInG (a : Addr) (ks : List (Str × Option D)) (neg : Bool) : G2 := fun x y M Q => match x, y with
  | .str z, .ref b => b = a ∧ ∃ o, (z, o) ∈ ks ∧ Q (.bl (if neg then !o.isSome else o.isSome)) M
  | _, _ => False
theorem od_inG {a : Addr} {ks : List (Str × Option D)} (G : GD X.K X.w a ks) : OpD X (compareOp .In) (gInG a ks false) := fun F H M x y d e Qd Q R rx ry q k => by
  cases d <;> first | exact False.elim q | skip
  cases e <;> first | exact False.elim q | skip
  cases rx; cases ry
  obtain ⟨rfl, o, h, q⟩ := q
  obtain ⟨es, n, D⟩ := G.kd
  have g := G.get _ h
  cases o with
  | none => exact ⟨_, op_in_kd D, _, none, rfl, rfl, g, k _ F H _ M (Stp.refl F H M) R (.bl _) q⟩
  | some d =>
    obtain ⟨u, v, h1, _, _⟩ := g
    exact ⟨_, op_in_kd D, _, some u, rfl, rfl, h1, k _ F H _ M (Stp.refl F H M) R (.bl _) q⟩
def gIxG (a : Addr) (ks : List (Str × Option D)) : G2 := fun x y M Q => match x, y with
  | .ref b, .str z => b = a ∧ ∃ d, (z, some d) ∈ ks ∧ Q d M
  | _, _ => False
theorem de_ixG {a : Addr} {ks : List (Str × Option D)} {x y : Expr} {pos : Pos} {ta tb : DTE} (G : GD X.K X.w a ks) (ha : DE X x ta) (hb : DE X y tb) (hs : PlainIx y := by exact fun _ _ => rfl) : DE X (.Subscript x y pos) (dOp (gIxG a ks) ta tb) := by
  obtain ⟨u, pu, ru⟩ := ha.ex
  obtain ⟨w, pw, rw'⟩ := hb.ex
  refine ⟨_, pe_ix ix_any pu pw hs, fun F H σ τ M Qd Q R q k => ?_⟩
  refine ru F H σ τ M _ _ R q fun v F1 H1 d M1 e1 R1 r1 q1 => ?_
  refine rw' F1 H1 σ τ M1 _ _ R1 q1 fun v' F2 H2 d' M2 e2 R2 r2 q2 => ?_
  have r1' := r1.mono e2.ext
  cases d <;> first | exact False.elim q2 | skip
  cases d' <;> first | exact False.elim q2 | skip
  cases r1'; cases r2
  obtain ⟨rfl, d0, h, q2⟩ := q2
  obtain ⟨es, n, D⟩ := G.kd
  obtain ⟨u0, v0, h1, h2, h3⟩ := G.get _ h
  exact ⟨_, ix_kdict, _, _, v0, rfl, rfl, ⟨es, n, u0, D.at_, D.lit, h1, h2⟩, k v0 F2 H2 d0 M2 (e1.trans e2) R2 (h3 _) q2⟩
end
end DL

/-! FE: instances made with arguments, methods without. -/
namespace DL
open PySem PySem.Spec PyProof.Rows L2
variable [Wsh]
section
variable {X : Cx} {CX : CXT} {k : Nat} {f C : Addr} {fd : FuncData} {ps : List Str} {sp : Sp} {E : XK} {x m : Str} {p pos apos : Pos} {e o : Expr} {es : List Expr} {t : TA} {ta : TE}
theorem pe_makeG (Mk : L2.Mk X.K C f) (G : FnG X.prog X.w X.K X.mg X.base CX k f fd ps sp) (g : X.A.guards = some []) (hr : Room (k + 1) X.A) (hg : Gl X x) (hm : X.mg x = some (.ref C)) (hb : Binds X.K fd ps []) (hx : Passes CX X E)
    (ha : PA X (e :: es) t) (hdb : (x == ("__debug__" : Str)) = false) (he : starEach (e :: es) X.env = (false, eval e X.env) :: starEach es X.env) (hpl : (backTo pos (starEach es X.env)).any (·.1) = false) :
    PE X (.Call (.Name x p) (e :: es) [] pos) (tMake C sp [] E t) := by
  refine ⟨fun pins s σ H Q I h => ?_⟩
  refine wpAny_Call_Name_kw (ld_glob I hg hm ?_ hdb)
  refine PySem.W.callWith_K (h₀ := X.base) I.ok.mod.kin Mk.kp (thn (ha.run pos pins s σ H _ I h) fun us s1 ⟨vs, H1, I1, r, q⟩ => ⟨I1.kIn, ?_⟩) he hpl
  refine goMake Mk G g hr hb hx I1 r fun y dx h1 h2 h3 => ?_
  have := q y dx h1 h2 h3
  rwa [List.append_nil] at this
theorem pe_methG0 {pl : Sem Bool} (he : PE X o ta) (c : Cls X.K C) (hm : Meth X.K C m f) (G : FnG X.prog X.w X.K X.mg X.base CX k f fd ps sp) (g : X.A.guards = some []) (hr : Room k X.A) (hb : Binds X.K fd ps []) (hx : Passes CX X E)
    (ht : eval (.Call (.Attribute o m apos) [] [] pos) X.env = (do
      let ov ← eval o X.env
      standAt apos.atName
      let (f, first) ← holding [ov] (getMethod ov m pl)
      callWith pos f first (backTo pos (starEach [] X.env)) (backToKw pos (keywordEach [] X.env)))) :
    PE X (.Call (.Attribute o m apos) [] [] pos) (tMeth C m sp [] E ta tNil) := by
  refine ⟨fun pins s σ H Q I h => ?_⟩
  refine PySem.W.methodCall_KW (pl := pl) (thn (he.run pins s σ H _ I h) fun u s1 ⟨x, H1, I1, rx, a, dx, fs, ex, ea, l, q⟩ => ?_) ht
  subst ex
  obtain rfl : u = Value.ref a := rx
  refine getmeth_ok I1 ea c hm l ?_
  refine PySem.W.callWith_K0 (first := [.ref a]) I1.kIn hm.kp ?_
  exact goG (us := [.ref a]) (vs := [.ref a]) G g hr hb hx I1 (.cons rfl .nil) q
end
section
variable {X : Cx} {k : Nat} {C : Addr} {ps : List Str} {dsp : DSp} {x m : Str} {p pos apos : Pos} {e o : Expr} {es : List Expr} {t : DTA} {to te : DTE}
/-- o.m() -/
theorem de_meth0 {pl : Sem Bool} (he : DE X o to) (G : DMt X.prog X.w X.K X.mg X.base C k m ps dsp) (g : X.A.guards = some []) (hr : Room k X.A)
    (ht : eval (.Call (.Attribute o m apos) [] [] pos) X.env = (do
      let ov ← eval o X.env
      standAt apos.atName
      let (f, first) ← holding [ov] (getMethod ov m pl)
      callWith pos f first (backTo pos (starEach [] X.env)) (backToKw pos (keywordEach [] X.env))) := by rfl) :
    DE X (.Call (.Attribute o m apos) [] [] pos) (dMeth C m dsp to dNil) := by
  obtain ⟨u, pu, ru⟩ := he.ex
  obtain ⟨f, fd, G, c, hm, hb⟩ := G.ex
  refine ⟨_, pe_methG0 (pl := pl) pu c hm G g hr hb pass0 ht, fun F H σ τ M Qd Q R q k => ?_⟩
  refine ru F H σ τ M _ _ R q fun v F1 H1 y M1 e1 R1 r1 q1 => ?_
  cases y <;> first | exact q1.elim | skip
  rename_i a
  obtain ⟨⟨fs, h1, h2⟩, q1⟩ := q1
  obtain ⟨hf, ho, h3, h4⟩ := R1.heap.sto a _ h1
  cases r1
  cases ho <;> first | exact False.elim h4 | skip
  obtain ⟨rfl, h5⟩ := h4
  refine ⟨a, _, _, rfl, h3, h5.lookup_none h2, ?_⟩
  exact ⟨F1, M1, [.ref a], Qd, R1.heap, .cons (.ref a) .nil, q1, fun v F3 H3 d M3 e3 R3 r3 q3 => k v F3 H3 d M3 (e1.trans e3) (R1.mono e3.ext R3) r3 q3⟩
/-- C(..) -/
def dMakeA (C : Addr) (dsp : DSp) (t : DTA) : DTE := fun τ M Q => t τ M fun ds M1 => ∀ a, M1 a = none → dsp (.ref a :: ds) (M1.upd a (.ins C [])) fun v M2 => v = .non ∧ Q (.ref a) M2
theorem de_makeA (G : DIn X.prog X.w X.K X.mg X.base C k ps dsp) (g : X.A.guards = some []) (hr : Room (k + 1) X.A) (hm : X.mg x = some (.ref C)) (ha : DA X (e :: es) t) (hg : Gl X x := by rfl) (hdb : (x == ("__debug__" : Str)) = false := by decide)
    (he : starEach (e :: es) X.env = (false, eval e X.env) :: starEach es X.env := by rfl) (hpl : (backTo pos (starEach es X.env)).any (·.1) = false := by rfl) :
    DE X (.Call (.Name x p) (e :: es) [] pos) (dMakeA C dsp t) := by
  obtain ⟨w, pw, rw'⟩ := ha.ex
  obtain ⟨f, fd, G, mk, hb⟩ := G.ex
  refine ⟨_, pe_makeG mk G g hr hg hm hb pass0 pw hdb he hpl, fun F H σ τ M Qd Q R q k => ?_⟩
  refine rw' F H σ τ M _ _ R q fun vs F1 H1 ds M1 e1 R1 r1 q1 => ?_
  intro a dx ha hd hn
  obtain ⟨e2, R2⟩ := R1.heap.made (C := C) ha hd hn
  refine ⟨F1, M1.upd a (.ins C []), .ref a :: ds, _, R2, .cons (.ref a) (by rw [List.append_nil]; exact r1), q1 a (R1.heap.free ha).2, fun v F2 H2 d M2 e3 R3 r2 q2 => ?_⟩
  obtain ⟨rfl, q2⟩ := q2
  cases r2
  exact ⟨rfl, k (.ref a) F2 H2 (.ref a) M2 (e1.trans (e2.trans e3)) (R1.mono (e2.trans e3).ext R3) (.ref a) q2⟩
end
end DL

/-! FF: [one for one in own if own[one] == sort], own a dict that may change: locked while it is walked. -/
namespace DL
open PySem PySem.Spec PyProof.Rows L2
theorem relKv_strs {K : PySem.W.Frag} {F : Hp} : ∀ {ns : List (Int × Str)} {vs : List (Key × V)}, RelKv K F vs (ns.map fun x => (Sum.inl x.1, D.str x.2)) → vs = ns.map fun x => (Sum.inl x.1, V.str x.2)
  | [], _, h => by cases h; rfl
  | x :: r, _, h => by
    cases h with
    | cons a b =>
      cases a
      rw [relKv_strs b]; rfl
theorem valV_strs : ∀ {ns : List (Int × Str)} {n : Int} {z : Str}, (ns.map (·.1)).Nodup → (n, z) ∈ ns → valV (ns.map fun x => ((Sum.inl x.1 : Key), V.str x.2)) (Sum.inl n) = some (V.str z)
  | x :: r, n, z, nd, h => by
    rw [List.map_cons, List.nodup_cons] at nd
    unfold valV
    rw [List.map_cons, List.find?_cons]
    rcases List.mem_cons.mp h with e | h
    · subst e; simp
    · have ne : x.1 ≠ n := fun e => nd.1 (List.mem_map.mpr ⟨_, h, e.symm⟩)
      have := valV_strs nd.2 h
      unfold valV at this
      simpa [ne] using this
variable [Wsh]
/-- the keys (slot j, none yet) of the dict in slot i whose value is slot k's -/
def dKeysEq (i j k : Nat) : DTE := fun τ M Q => ∃ (p : Addr) (s : Str) (ns : List (Int × Str)), τ[i]? = some (some (.ref p)) ∧ τ[k]? = some (some (.str s)) ∧ j < τ.length ∧ j ≠ i ∧ j ≠ k ∧ M p = some (.dct (ns.map fun x => (Sum.inl x.1, D.str x.2))) ∧
  (ns.map (·.1)).Nodup ∧ ns.length < sizeLine ∧ Q (.lst ((ns.filter fun x => decide (x.2 = s)).map fun x => D.int x.1)) M
section
variable {X : Cx} {i j k : Nat} {elt tg iter : Expr} {ifs : List Expr} {scope : Scope} {own : List (Str × Nat)} {pos : Pos}
theorem de_keysEq (hc : X.calm = true) (hN : X.N.Nodup) (hi : PE X iter (tVar i)) (ok : BlkOk X.N X.env.scope scope own) (ho : own.map (·.2) = [j])
    (hg : ∀ (s : Shared) (H : Hp) (C : Addr) (cl : List (Str × Addr)) (fp : List Addr), PG (X.blk s H scope (compEnvC scope cl C X.env) fp) tg (gName j))
    (ht : ∀ (s : Shared) (H : Hp) (C : Addr) (cl : List (Str × Addr)) (fp : List Addr), PTs (X.blk s H scope (compEnvC scope cl C X.env) fp) ifs (tTest (tOp rEq (tDGet (tVar i) (tVar j)) (tVar k))))
    (he : ∀ (s : Shared) (H : Hp) (C : Addr) (cl : List (Str × Addr)) (fp : List Addr), PE (X.blk s H scope (compEnvC scope cl C X.env) fp) elt (tVar j))
    (hs : ∀ x, foldedSetIterable iter X.env x = pure x := by intro _; rfl) : DE X (.ListComp elt [⟨tg, iter, ifs, 0⟩] scope pos) (dKeysEq i j k) := by
  refine ⟨_, pe_lock (pe_lc hc hN (pi_keys hi) ok hg ht he hs), fun F H σ τ M Qd Q R q kk => ?_⟩
  obtain ⟨p, s, ns, h1, h2, hj, hji, hjk, hM, nd, hl, q⟩ := q
  rw [ho]
  obtain ⟨v1, s1, r1⟩ := R.slots.get i _ h1
  obtain ⟨v2, s2, r2⟩ := R.slots.get k _ h2
  cases r1; cases r2
  obtain ⟨hF, hob, hH, hr⟩ := R.heap.sto p _ hM
  cases hob <;> first | exact False.elim hr | skip
  rename_i vs
  have hr' : RelKv X.K F vs _ := hr
  have ev := relKv_strs hr'
  subst ev
  refine ⟨p, _, hH, trivial, fun od => ?_⟩
  generalize hvs : (ns.map fun x => ((Sum.inl x.1 : Key), V.str x.2)) = vs at *
  have hlen : vs.length = ns.length := by rw [← hvs]; simp
  refine ⟨.ref p, s1, p, od, rfl, .inl ⟨vs, upd_same, fun D0 hD => ?_⟩⟩
  have nD : D0 ≠ p := fun e => by rw [e, upd_same] at hD; cases hD
  have hD0 : H D0 = none := by rw [upd_ne nD] at hD; exact hD
  let acc : Nat → List V := fun a => ((ns.take a).filter fun x => decide (x.2 = s)).map fun x => V.int x.1
  refine ⟨fun a m H' => m = ns.length - a ∧ a ≤ ns.length ∧ H' = upd (upd H p (.frz od (.dK vs))) D0 (.lst (acc a)), ⟨_, rfl, Nat.zero_le _, by simp [acc]⟩, ?_⟩
  rintro a m H' ⟨rfl, ha, rfl⟩
  have hfp : ∀ o, upd (upd H p (.frz od (.dK vs))) D0 o p = some (.frz od (.dK vs)) := fun o => by rw [upd_ne nD.symm, upd_same]
  by_cases c : a < ns.length
  · refine .inr ⟨⟨hfp _, by omega⟩, fun H' => H' = upd (upd H p (.frz od (.dK vs))) D0 (.lst (acc (a + 1))), fun H' e => ⟨_, by omega, rfl, c, e⟩, ?_⟩
    rintro x H' ⟨rfl, kx, vx, hkv, rfl⟩
    obtain ⟨⟨n, z⟩, hn⟩ : ∃ y, ns[a]? = some y := ⟨ns[a], List.getElem?_eq_getElem c⟩
    have hk : vs[a]? = some (Sum.inl n, V.str z) := by rw [← hvs, List.getElem?_map, hn]; rfl
    rw [hk] at hkv
    cases hkv
    have hjσ : j < σ.length := by rw [R.slots.len]; exact hj
    have acs : acc (a + 1) = acc a ++ (if z = s then [V.int n] else []) := by
      have : ns.take (a + 1) = ns.take a ++ [(n, z)] := by
        rw [List.take_succ, hn]; rfl
      simp only [acc, this, List.filter_append, List.map_append]
      congr 1
      by_cases cz : z = s <;> simp [cz]
    have gi : ((σ.set j none).set j (some (V.int n)))[i]? = some (some (.ref p)) := by rw [List.set_set, List.getElem?_set_ne hji]; exact s1
    have gk : ((σ.set j none).set j (some (V.int n)))[k]? = some (some (.str s)) := by rw [List.set_set, List.getElem?_set_ne hjk]; exact s2
    have gj : ((σ.set j none).set j (some (V.int n)))[j]? = some (some (.int n)) := by rw [List.set_set, List.getElem?_set_self hjσ]
    refine ⟨by simp [wipe, List.set_set], ?_⟩
    refine ⟨.ref p, gi, .int n, gj, p, .str z, rfl, .inl ⟨vs, Sum.inl n, .inr ⟨od, hfp _⟩, rfl, ?_⟩, .str s, gk, rfl, _, rfl, ?_⟩
    · rw [← hvs]; exact (valV_strs nd (List.mem_of_getElem? hn)).symm
    · have ed : decide (V.str z = V.str s) = decide (z = s) := by
        rw [Bool.eq_iff_iff]; simp
      rw [ed]
      by_cases cz : z = s
      · simp only [cz, decide_true, if_true]
        refine ⟨.int n, gj, acc a, upd_same, ?_, ?_⟩
        · have : (acc a).length ≤ ns.length := by
            simp only [acc, List.length_map]
            exact Nat.le_trans (List.length_filter_le _ _) (by rw [List.length_take]; omega)
          omega
        · rw [acs, if_pos cz]
          funext b
          by_cases hb : b = D0
          · subst hb; rw [upd_same, upd_same]
          · rw [upd_ne hb, upd_ne hb, upd_ne hb]
      · simp only [cz, decide_false, Bool.false_eq_true, if_false]
        rw [acs, if_neg cz, List.append_nil]
  · have ea : a = ns.length := by omega
    subst ea
    refine .inl ⟨⟨hfp _, by omega⟩, hfp _, ?_⟩
    have eh : upd (upd (upd H p (.frz od (.dK vs))) D0 (.lst (acc ns.length))) p (.dK vs) = upd H D0 (.lst (acc ns.length)) := by
      funext b
      by_cases hb : b = p
      · subst hb; rw [upd_same, upd_ne nD.symm, hH]
      · rw [upd_ne hb]
        by_cases hd : b = D0
        · subst hd; rw [upd_same, upd_same]
        · rw [upd_ne hd, upd_ne hd, upd_ne hb]
    rw [eh]
    obtain ⟨e2, R2⟩ := R.heap.frozen (o := .lst (acc ns.length)) hD0
    refine kk (.ref D0) _ _ _ M e2 (R.mono e2.ext R2) (.lst upd_same ?_) q
    have : acc ns.length = ((ns.filter fun x => decide (x.2 = s)).map (·.1)).map V.int := by
      simp only [acc, List.take_length, List.map_map]; rfl
    rw [this]
    have e3 : ((ns.filter fun x => decide (x.2 = s)).map fun x => D.int x.1) = ((ns.filter fun x => decide (x.2 = s)).map (·.1)).map D.int := by rw [List.map_map]; rfl
    rw [e3]
    exact rel_ints _
end
end DL

/-! GA: what may raise, within tuples, calls, operators; methods that may raise. -/
namespace DL
open PySem PySem.Spec PyProof.Rows L2
section
variable {X : Cx} {CX : CXT} {k : Nat} {f C : Addr} {fd : FuncData} {ps : List Str} {sp : Sp} {E : L2.St → XK} {m : Str} {pos apos : Pos} {e o : Expr} {es : List Expr} {t : TA} {ta : TE}
theorem pe_methGS {pl : Sem Bool} (he : PE X o ta) (c : Cls X.K C) (hm : Meth X.K C m f) (G : FnG X.prog X.w X.K X.mg X.base CX k f fd ps sp) (g : X.A.guards = some []) (hr : Room k X.A) (hb : Binds X.K fd ps []) (hx : ∀ σ, PassesAt CX X σ (E σ)) (ha : PA X (e :: es) t)
    (hst : starEach (e :: es) X.env = (false, eval e X.env) :: starEach es X.env) (hpl : (backTo pos (starEach es X.env)).any (·.1) = false)
    (ht : eval (.Call (.Attribute o m apos) (e :: es) [] pos) X.env = (do
      let ov ← eval o X.env
      standAt apos.atName
      let (f, first) ← holding [ov] (getMethod ov m pl)
      callWith pos f first (backTo pos (starEach (e :: es) X.env)) (backToKw pos (keywordEach [] X.env)))) :
    PE X (.Call (.Attribute o m apos) (e :: es) [] pos) (fun σ H Q => tMeth C m sp [] (E σ) ta t σ H Q) := by
  refine ⟨fun pins s σ H Q I h => ?_⟩
  refine PySem.W.methodCall_KW (pl := pl) (thn (he.run pins s σ H _ I h) fun u s1 ⟨x, H1, I1, rx, a, dx, fs, ex, ea, l, q⟩ => ?_) ht
  subst ex
  obtain rfl : u = Value.ref a := rx
  refine getmeth_ok I1 ea c hm l ?_
  refine PySem.W.callWith_K (first := [.ref a]) (h₀ := X.base) I.ok.mod.kin hm.kp (thn (ha.run pos pins s1 σ H1 _ I1 q) fun us s2 ⟨vs, H2, I2, r, q2⟩ => ⟨I2.kIn, ?_⟩) hst hpl
  have q2 : sp (V.ref a :: (vs ++ [])) H2 Q (E σ) := q2
  rw [List.append_nil] at q2
  exact goGS (us := .ref a :: us) (vs := .ref a :: vs) G g hr hb (hx σ) I2 (.cons rfl r) q2
theorem pe_methGS0 {pl : Sem Bool} (he : PE X o ta) (c : Cls X.K C) (hm : Meth X.K C m f) (G : FnG X.prog X.w X.K X.mg X.base CX k f fd ps sp) (g : X.A.guards = some []) (hr : Room k X.A) (hb : Binds X.K fd ps []) (hx : ∀ σ, PassesAt CX X σ (E σ))
    (ht : eval (.Call (.Attribute o m apos) [] [] pos) X.env = (do
      let ov ← eval o X.env
      standAt apos.atName
      let (f, first) ← holding [ov] (getMethod ov m pl)
      callWith pos f first (backTo pos (starEach [] X.env)) (backToKw pos (keywordEach [] X.env)))) :
    PE X (.Call (.Attribute o m apos) [] [] pos) (fun σ H Q => tMeth C m sp [] (E σ) ta tNil σ H Q) := by
  refine ⟨fun pins s σ H Q I h => ?_⟩
  refine PySem.W.methodCall_KW (pl := pl) (thn (he.run pins s σ H _ I h) fun u s1 ⟨x, H1, I1, rx, a, dx, fs, ex, ea, l, q⟩ => ?_) ht
  subst ex
  obtain rfl : u = Value.ref a := rx
  refine getmeth_ok I1 ea c hm l ?_
  refine PySem.W.callWith_K0 (first := [.ref a]) I1.kIn hm.kp ?_
  exact goGS (us := [.ref a]) (vs := [.ref a]) G g hr hb (hx σ) I1 (.cons rfl .nil) q
end
/-- a method that may raise keeps its promise -/
structure DMtX (P : Program) (w : World) (K : PySem.W.Frag) (mg : Str → Option Value) (base : Heap) (cls : Str → Addr) (C : Addr) (k : Nat) (m : Str) (ps : List Str) (dsp : DSpX) : Prop where
  ex : ∃ f fd, FnG P w K mg base (L2.CX P w) k f fd ps (spDX cls K dsp) ∧ Cls K C ∧ Meth K C m f ∧ Binds K fd ps []
theorem DMtX.mono {P : Program} {w : World} {K : PySem.W.Frag} {mg : Str → Option Value} {base : Heap} {cls : Str → Addr} {C : Addr} {j k : Nat} {m : Str} {ps : List Str} {dsp : DSpX} (G : DMtX P w K mg base cls C j m ps dsp) (h : j ≤ k) : DMtX P w K mg base cls C k m ps dsp := by
  obtain ⟨f, fd, g, r⟩ := G.ex
  haveI : Wsh := ⟨fun _ => 0, fun _ _ _ _ => True⟩
  exact ⟨f, fd, g.mono h, r⟩
abbrev DTAX := DSt → Sto → (List D → Sto → Prop) → DXK → Prop
def dNx (t : DTE) : DTX := fun τ M Q _ => t τ M Q
def dxNil : DTAX := fun _ M Q _ => Q [] M
def dxCons (a : DTX) (r : DTAX) : DTAX := fun τ M Q Xd => a τ M (fun x M1 => r τ M1 (fun xs M2 => Q (x :: xs) M2) Xd) Xd
def dTupX (t : DTAX) : DTX := fun τ M Q Xd => t τ M (fun xs M1 => xs.length ≤ sizeLine ∧ Q (.tup xs) M1) Xd
def dNegX (t : DTX) : DTX := fun τ M Q Xd => t τ M (fun d M1 => match d with
  | .int i => Q (.int (-i)) M1
  | _ => False) Xd
def dIfX (c : DTT) (a b : DTX) : DTX := fun τ M Q Xd => c τ M fun z M1 => if z = true then a τ M1 Q Xd else b τ M1 Q Xd
def dCBX (g : GC) (t : DTAX) : DTX := fun τ M Q Xd => t τ M (fun ds M1 => g ds M1 Q) Xd
def dMethX (C : Addr) (m : Str) (dsp : DSpX) (to : DTE) (t : DTAX) : DTX := fun τ M Q Xd => to τ M fun x M1 => match x with
  | .ref a => (∃ fs, M1 a = some (.ins C fs) ∧ fs.lookup m = none) ∧ t τ M1 (fun ds M2 => dsp (.ref a :: ds) M2 Q Xd) Xd
  | _ => False
variable [Wsh]
def RefAX (K : PySem.W.Frag) (te : TA) (t : DTAX) : Prop := ∀ (F H : Hp) (σ : L2.St) (τ : DSt) (M : Sto) (Qd : List D → Sto → Prop) (Xd : DXK) (Q : List V → Hp → Prop), Rst K F H σ τ M → t τ M Qd Xd →
  (∀ vs F' H' ds M', Stp F H M F' H' M' → Rst K F' H' σ τ M' → RelDs K F' vs ds → Qd ds M' → Q vs H') →
  (∀ F' H' M' n d fs, Stp F H M F' H' M' → Rst K F' H' σ τ M' → RelX K F' d fs → Xd n fs M' → Wsh.W (.ref (Wsh.cls n)) d σ H') → te σ H Q
structure DAX (X : Cx) (es : List Expr) (t : DTAX) : Prop where
  ex : ∃ te, PA X es te ∧ RefAX X.K te t
section
variable {X : Cx} {k : Nat} {C : Addr} {ps : List Str} {dsp : DSpX} {x m : Str} {p pos apos : Pos} {a b e o : Expr} {es : List Expr} {bid T : String} {g : GC}
theorem dex_de {t : DTE} (h : DE X e t) : DEX X e (dNx t) := by
  obtain ⟨u, pu, ru⟩ := h.ex
  exact ⟨_, pu, fun F H σ τ M Qd Xd Q R q k _ => ru F H σ τ M Qd Q R q k⟩
theorem dax_nil : DAX X [] dxNil := ⟨tNil, pa_nil, fun F H σ τ M Qd Xd Q R q k _ => k [] F H [] M (Stp.refl F H M) R .nil q⟩
theorem dax_cons {te : DTX} {t : DTAX} (ha : DEX X e te) (hr : DAX X es t) (hs : starEach (e :: es) X.env = (false, eval e X.env) :: starEach es X.env := by rfl) : DAX X (e :: es) (dxCons te t) := by
  obtain ⟨u, pu, ru⟩ := ha.ex
  obtain ⟨w, pw, rw'⟩ := hr.ex
  refine ⟨tCons u w, pa_cons pu pw hs, fun F H σ τ M Qd Xd Q R q k kx => ?_⟩
  refine ru F H σ τ M _ _ _ R q (fun v F1 H1 d M1 e1 R1 r1 q1 => ?_) kx
  refine rw' F1 H1 σ τ M1 _ _ _ R1 q1 (fun vs F2 H2 ds M2 e2 R2 r2 q2 => ?_) fun F2 H2 M2 n d fs e2 R2 r2 q2 => kx F2 H2 M2 n d fs (e1.trans e2) R2 r2 q2
  exact k _ F2 H2 _ M2 (e1.trans e2) R2 (.cons (r1.mono e2.ext) r2) q2
theorem dex_tup {t : DTAX} {x1} (h : DAX X es t) : DEX X (.Tuple es x1 pos) (dTupX t) := by
  obtain ⟨u, pu, ru⟩ := h.ex
  refine ⟨tTup u, pe_tup pu, fun F H σ τ M Qd Xd Q R q k kx => ?_⟩
  refine ru F H σ τ M _ _ _ R q (fun vs F1 H1 ds M1 e1 R1 r1 ⟨z, q1⟩ => ⟨by rw [r1.length]; exact z, fun p hp => ?_⟩) kx
  obtain ⟨e2, R2⟩ := R1.heap.frozen (o := .tup vs) hp
  exact k (.ref p) _ _ (.tup ds) M1 (e1.trans e2) (R1.mono e2.ext R2) (.tup (SqT.of upd_same) (r1.mono e2.ext)) q1
theorem dex_neg {t : DTX} (h : DEX X e t) : DEX X (.UnaryOp .USub e pos) (dNegX t) := by
  obtain ⟨u, pu, ru⟩ := h.ex
  refine ⟨_, pe_un un_neg pu, fun F H σ τ M Qd Xd Q R q k kx => ?_⟩
  refine ru F H σ τ M _ _ _ R q (fun v F1 H1 d M1 e1 R1 r1 q1 => ?_) kx
  cases d <;> first | exact False.elim q1 | skip
  cases r1
  exact ⟨_, rfl, k _ F1 H1 _ M1 e1 R1 (.int _) q1⟩
theorem dex_if {c : Expr} {t : DTT} {ta tb : DTX} (hc : DT X c t) (ha : DEX X a ta) (hb : DEX X b tb) : DEX X (.IfExp c a b pos) (dIfX t ta tb) := by
  obtain ⟨z, pz, rz⟩ := hc.ex
  obtain ⟨u, pu, ru⟩ := ha.ex
  obtain ⟨w, pw, rw'⟩ := hb.ex
  refine ⟨_, pe_ifExp pz pu pw, fun F H σ τ M Qd Xd Q R q k kx => ?_⟩
  refine rz F H σ τ M _ _ R q fun c F1 H1 M1 e1 R1 q1 => ?_
  cases c with
  | true => exact iteT (ru F1 H1 σ τ M1 _ _ _ R1 q1 (fun v F2 H2 d M2 e2 R2 r2 q2 => k v F2 H2 d M2 (e1.trans e2) R2 r2 q2) fun F2 H2 M2 n d fs e2 R2 r2 q2 => kx F2 H2 M2 n d fs (e1.trans e2) R2 r2 q2)
  | false => exact iteF (rw' F1 H1 σ τ M1 _ _ _ R1 q1 (fun v F2 H2 d M2 e2 R2 r2 q2 => k v F2 H2 d M2 (e1.trans e2) R2 r2 q2) fun F2 H2 M2 n d fs e2 R2 r2 q2 => kx F2 H2 M2 n d fs (e1.trans e2) R2 r2 q2)
theorem ref_cbx {f : Value} {u : TA} {t : DTAX} (hc : CallD X f g) (ru : RefAX X.K u t) : RefEX X.K (tCB (rCallAny X f) u) (dCBX g t) := fun F H σ τ M Qd Xd Q R q k kx => by
  refine ru F H σ τ M _ _ _ R q (fun vs F1 H1 ds M1 e1 R1 r1 q1 => ?_) kx
  exact hc F1 H1 M1 vs ds Qd Q R1.heap r1 q1 fun v F2 H2 z M2 e2 R2 r2 q2 => k v F2 H2 z M2 (e1.trans e2) (R1.mono e2.ext R2) r2 q2
theorem dex_callTy {t : DTAX} (hc : CallD X (.type T) g) (hm : X.mg x = none) (ha : DAX X (e :: es) t) (hv : bootBuiltins x = some (.type T) := by decide +kernel) (hg : Gl X x := by rfl) (hn : x ≠ "__name__" := by decide) (hdb : (x == ("__debug__" : Str)) = false := by decide)
    (he : starEach (e :: es) X.env = (false, eval e X.env) :: starEach es X.env := by rfl) (hpl : (backTo pos (starEach es X.env)).any (·.1) = false := by rfl) : DEX X (.Call (.Name x p) (e :: es) [] pos) (dCBX g t) := by
  obtain ⟨u, pu, ru⟩ := ha.ex
  exact ⟨_, pe_callTy (call_any _) hg hm hv pu hn hdb he hpl, ref_cbx hc ru⟩
theorem dex_meth {pl : Sem Bool} {to : DTE} {t : DTAX} (he : DE X o to) (G : DMtX X.prog X.w X.K X.mg X.base Wsh.cls C k m ps dsp) (tk : Takes X Wsh.W) (g : X.A.guards = some []) (hr : Room k X.A) (ha : DAX X (e :: es) t)
    (hst : starEach (e :: es) X.env = (false, eval e X.env) :: starEach es X.env := by rfl) (hpl : (backTo pos (starEach es X.env)).any (·.1) = false := by rfl)
    (ht : eval (.Call (.Attribute o m apos) (e :: es) [] pos) X.env = (do
      let ov ← eval o X.env
      standAt apos.atName
      let (f, first) ← holding [ov] (getMethod ov m pl)
      callWith pos f first (backTo pos (starEach (e :: es) X.env)) (backToKw pos (keywordEach [] X.env))) := by rfl) :
    DEX X (.Call (.Attribute o m apos) (e :: es) [] pos) (dMethX C m dsp to t) := by
  obtain ⟨u, pu, ru⟩ := he.ex
  obtain ⟨w, pw, rw'⟩ := ha.ex
  obtain ⟨f, fd, G, c, hm, hb⟩ := G.ex
  refine ⟨_, pe_methGS (pl := pl) pu c hm G g hr hb (passAt tk) pw hst hpl ht, fun F H σ τ M Qd Xd Q R q k kx => ?_⟩
  refine ru F H σ τ M _ _ R q fun v F1 H1 y M1 e1 R1 r1 q1 => ?_
  cases y <;> first | exact q1.elim | skip
  rename_i a
  obtain ⟨⟨fs, h1, h2⟩, q1⟩ := q1
  obtain ⟨hf, ho, h3, h4⟩ := R1.heap.sto a _ h1
  cases r1
  cases ho <;> first | exact False.elim h4 | skip
  obtain ⟨rfl, h5⟩ := h4
  refine ⟨a, _, _, rfl, h3, h5.lookup_none h2, ?_⟩
  refine rw' F1 H1 σ τ M1 _ _ _ R1 q1 (fun vs F2 H2 ds M2 e2 R2 r2 q2 => ?_) fun F2 H2 M2 n d fs e2 R2 r2 q2 => kx F2 H2 M2 n d fs (e1.trans e2) R2 r2 q2
  exact ⟨F2, M2, .ref a :: ds, Qd, Xd, R2.heap, .cons (.ref a) (by rw [List.append_nil]; exact r2), q2, fun v F3 H3 d M3 e3 R3 r3 q3 => k v F3 H3 d M3 (e1.trans (e2.trans e3)) (R2.mono e3.ext R3) r3 q3,
    fun F3 H3 M3 n d fs e3 R3 r3 q3 => kx F3 H3 M3 n d fs (e1.trans (e2.trans e3)) (R2.mono e3.ext R3) r3 q3⟩
theorem dex_meth0 {pl : Sem Bool} {to : DTE} (he : DE X o to) (G : DMtX X.prog X.w X.K X.mg X.base Wsh.cls C k m ps dsp) (tk : Takes X Wsh.W) (g : X.A.guards = some []) (hr : Room k X.A)
    (ht : eval (.Call (.Attribute o m apos) [] [] pos) X.env = (do
      let ov ← eval o X.env
      standAt apos.atName
      let (f, first) ← holding [ov] (getMethod ov m pl)
      callWith pos f first (backTo pos (starEach [] X.env)) (backToKw pos (keywordEach [] X.env))) := by rfl) :
    DEX X (.Call (.Attribute o m apos) [] [] pos) (dMethX C m dsp to dxNil) := by
  obtain ⟨u, pu, ru⟩ := he.ex
  obtain ⟨f, fd, G, c, hm, hb⟩ := G.ex
  refine ⟨_, pe_methGS0 (pl := pl) pu c hm G g hr hb (passAt tk) ht, fun F H σ τ M Qd Xd Q R q k kx => ?_⟩
  refine ru F H σ τ M _ _ R q fun v F1 H1 y M1 e1 R1 r1 q1 => ?_
  cases y <;> first | exact q1.elim | skip
  rename_i a
  obtain ⟨⟨fs, h1, h2⟩, q1⟩ := q1
  obtain ⟨hf, ho, h3, h4⟩ := R1.heap.sto a _ h1
  cases r1
  cases ho <;> first | exact False.elim h4 | skip
  obtain ⟨rfl, h5⟩ := h4
  refine ⟨a, _, _, rfl, h3, h5.lookup_none h2, ?_⟩
  exact ⟨F1, M1, [.ref a], Qd, Xd, R1.heap, .cons (.ref a) .nil, q1, fun v F3 H3 d M3 e3 R3 r3 q3 => k v F3 H3 d M3 (e1.trans e3) (R1.mono e3.ext R3) r3 q3,
    fun F3 H3 M3 n d fs e3 R3 r3 q3 => kx F3 H3 M3 n d fs (e1.trans e3) (R1.mono e3.ext R3) r3 q3⟩
/-- a call whose arguments may raise -/
theorem dex_callA {x : Str} {t : DTAX} (G : DFnX X.prog X.w X.K X.mg X.base Wsh.cls k x ps dsp) (tk : Takes X Wsh.W) (g : X.A.guards = some []) (hr : Room k X.A) (ha : DAX X (e :: es) t) (hg : Gl X x := by rfl)
    (hdb : (x == ("__debug__" : Str)) = false := by decide) (he : starEach (e :: es) X.env = (false, eval e X.env) :: starEach es X.env := by rfl) (hpl : (backTo pos (starEach es X.env)).any (·.1) = false := by rfl) :
    DEX X (.Call (.Name x p) (e :: es) [] pos) (fun τ M Q Xd => t τ M (fun ds M1 => dsp ds M1 Q Xd) Xd) := by
  obtain ⟨u, pu, ru⟩ := ha.ex
  obtain ⟨f, fd, G, hm, hk, hb⟩ := G.ex
  refine ⟨_, peGS G g hr hg hm hk hb (passAt tk) pu hdb he hpl, fun F H σ τ M Qd Xd Q R q k kx => ?_⟩
  refine ru F H σ τ M _ _ _ R q (fun vs F1 H1 ds M1 e1 R1 r1 q1 => ?_) kx
  exact ⟨F1, M1, ds, Qd, Xd, R1.heap, r1, q1, fun v F2 H2 d M2 e2 R2 r2 q2 => k v F2 H2 d M2 (e1.trans e2) (R1.mono e2.ext R2) r2 q2,
    fun F2 H2 M2 n d fs e2 R2 r2 q2 => kx F2 H2 M2 n d fs (e1.trans e2) (R1.mono e2.ext R2) r2 q2⟩
end
end DL

/-! GB: printed by mk_gb.py: len(set(texts)). -/
namespace DL
open PySem PySem.Spec PyProof.Rows L2
/-! ### len(set(texts)) -/
/-- how many unlike texts there are: all just if no two are alike -/
structure Cnt (xs : List Str) (i n : Nat) : Prop where
  le : n ≤ i
  all : n = i ↔ (xs.take i).Nodup
theorem Cnt.next {xs : List Str} {i n : Nat} {x : Str} (g : Cnt xs i n) (h : xs[i]? = some x) : Cnt xs (i + 1) (if (decide (x ∈ xs.take i)) = true then n else n + 1) := by
  have tk : xs.take (i + 1) = xs.take i ++ [x] := by rw [List.take_add_one, h]; rfl
  have nd : (xs.take (i + 1)).Nodup ↔ (xs.take i).Nodup ∧ x ∉ xs.take i := by
    rw [tk, List.nodup_append]
    constructor
    · rintro ⟨a, _, c⟩
      exact ⟨a, fun hx => c x hx x (by simp) rfl⟩
    · rintro ⟨a, c⟩
      refine ⟨a, by simp, fun y hy z hz e => ?_⟩
      rw [List.mem_singleton.mp hz] at e
      exact c (e ▸ hy)
  by_cases c : x ∈ xs.take i
  · simp only [c, decide_true, if_true]
    exact ⟨Nat.le_succ_of_le g.le, ⟨fun e => by have := g.le; omega, fun z => absurd c (nd.mp z).2⟩⟩
  · simp only [c, decide_false, Bool.false_eq_true, if_false]
    refine ⟨Nat.succ_le_succ g.le, ⟨fun e => nd.mpr ⟨g.all.mp (by omega), c⟩, fun z => by rw [g.all.mpr (nd.mp z).1]⟩⟩
section
variable {P : Program} {w : World} {A : Around} {E : Value → Shared → Prop} {s : Shared}
theorem txt_loop {I S : Addr} {fp wr : List Addr} {G : Array GenState → Array GenState → Prop} {Pv : Nat → Value → Prop} {St : Nat → Shared → Prop} {R : Result → Shared → Prop} {xs : List Str} (W : WalksS P w A.in1 I fp wr G xs.length Pv St) (hSf : S ∉ fp) (few : xs.length + 1 < scanBound)
    (hval : ∀ i v, Pv i v → ∃ x t, xs[i]? = some x ∧ v = .str x t) :
    ∀ (j i : Nat) (s : Shared), i + j = xs.length → St i s → (∃ n, Cnt xs i n ∧ s.heap.SetOf (PySem.strKind P w) S (fun k => decide (k ∈ xs.take i)) n) →
      (∀ s' n, Moved (S :: wr) G s s' → Cnt xs xs.length n → s'.heap.SetOf (PySem.strKind P w) S (fun k => decide (k ∈ xs.take xs.length)) n → R (.ok (.ret .none)) s') →
      codeAny (model P w) A (.builtin "set.update.loop" ⟨[.ref S, .ref I], []⟩) R s := by
  have out : S ∉ wr := fun h => hSf (W.sub _ h)
  have wider : ∀ b ∈ wr, b ∈ S :: wr := fun b hb => List.mem_cons_of_mem _ hb
  have mv : ∀ {s s' : Shared} {K : Str → Bool} {n : Nat}, Moved wr G s s' → s.heap.SetOf (PySem.strKind P w) S K n → s'.heap.SetOf (PySem.strKind P w) S K n := fun hm ⟨o, es, ep, t, ho, r⟩ => ⟨o, es, ep, t, hm.heap S o out ho, r⟩
  intro j
  induction j with
  | zero =>
    intro i s hij hst ⟨n, g, hS⟩ hR
    obtain rfl : i = xs.length := by omega
    refine codeAny_builtin F.entry_set_update_loop ?_
    rw [Around.under_plainId F.plain_set_update_loop _]
    show wpAny _ A.in1 (pyNext (.ref I) >>= _) _ _ s
    refine wpAny_bind (W.done s _ _ hst fun s' hm => ?_)
    exact wpAny_pure (hR s' n (hm.mono wider) g (mv hm hS))
  | succ j ih =>
    intro i s hij hst ⟨n, g, hS⟩ hR
    refine codeAny_builtin F.entry_set_update_loop ?_
    rw [Around.under_plainId F.plain_set_update_loop _]
    show wpAny _ A.in1 (pyNext (.ref I) >>= _) _ _ s
    refine wpAny_bind (W.item i s _ _ (by omega) hst fun v s' hP hst' hm => ?_)
    obtain ⟨x, tx, hx0, rfl⟩ := hval i v hP
    show wpAny _ A.in1 (holding [Value.str x tx] (setAdd S (.str x tx)) >>= _) _ _ s'
    refine wpAny_bind (wpAny_holding ?_)
    unfold setAdd
    refine wpAny_holding (wpAny_bind ((PySem.strKind P w).pyHash (k := x) (strKind_is _ _ _ _) ?_))
    refine wpAny_setAddHashed_of (knd := PySem.strKind P w) (s := { s' with toks := s'.toks + 1 }) (strKind_is _ _ _ _) rfl (show Heap.SetOf (PySem.strKind P w) s'.heap S _ n from mv hm hS) (by have := g.le; omega) fun h' hsb hS2 => ?_
    have tk : xs.take (i + 1) = xs.take i ++ [x] := by rw [List.take_add_one, hx0]; rfl
    refine wpAny_pure ⟨plainId_quiet F.plain_set_update_loop _, ih (i + 1) _ (by omega) (W.frame _ s' _ _ hst' (Nat.le_succ _) fun b hb o e => ?_) ⟨_, g.next hx0, SetOf_congr hS2 (fun k => ?_) rfl⟩ fun s2 n2 hm2 g2 hS3 => ?_⟩
    · exact (hsb.2 b (fun z => hSf (z ▸ hb))).trans e
    · rw [tk]; simp
    · refine hR s2 n2 (Moved.trans W.gtrans ((hm.mono wider).then_heap (Nat.le_succ _) fun b o hb e => ?_) hm2) g2 hS3
      exact (hsb.2 b (fun z => hb (z ▸ List.mem_cons_self))).trans e
theorem call_setX_list {l : Addr} {items : Array Value} {xs : List Str} {Q : Value → Shared → Prop} (hh : A.handled = none) (hl : s.heap.IsList l items) (hit : StrsAre items.toList xs) (few : xs.length + 1 < scanBound)
    (q : ∀ (h' : Heap) (tk n : Nat), Cnt xs xs.length n → h'.SetOf (PySem.strKind P w) s.heap.objs.size (fun k => decide (k ∈ xs.take xs.length)) n → (∀ b o, s.heap.get? b = some o → h'.get? b = some o) → Q (.ref s.heap.objs.size) { s with heap := h', toks := tk }) :
    wpAny (model P w) A (call (.type "set") [.ref l]) Q E s := by
  have isz : items.size = xs.length := by rw [← Array.length_toList, ← StrsAre.len_eq hit]
  have lS : l < s.heap.objs.size := by obtain ⟨o, ho, _⟩ := hl; exact Heap.lt_size ho
  obtain ⟨c, tl, hmro⟩ := F.called_set.mro
  have hmade := F.called_set.made
  have hsub := F.called_set.sub
  refine wpAny_call (codeAny_of_tree ?_)
  show wpAny _ _ (callAny (.type "set") _) _ _ _
  refine wpAny_pure ⟨Code.quiet_builtin _ (by decide +kernel), codeAny_builtin F.entry_type_call ?_⟩
  rw [Around.under_plain (weight_type_call_type "set" [.ref l] []) rfl]
  have h1 := F.called_set.notType
  have h2 := F.called_set.canCreate
  have hct := F.typeCall_set_1 (.ref l)
  repeat (any_goals (first | assumption | wp_step))
  refine codeAny_mono (code_set_led1 (.ref l) (E := E) (Q₁ := fun obj s₁ => obj = .ref s.heap.objs.size ∧ s₁ = { s with heap := s.heap.push (noSet w) }) ⟨rfl, rfl⟩) fun r s₁ hr => ?_
  cases r with
  | error e => exact hr
  | ok fl =>
    cases fl with
    | ret obj =>
      obtain ⟨rfl, rfl⟩ := hr
      have gS : (s.heap.push (noSet w)).get? s.heap.objs.size = some (noSet w) := Heap.get?_push_size _ rfl
      have tS : Shared.TypeIs { s with heap := s.heap.push (noSet w) } (.ref s.heap.objs.size) "set" := ⟨_, gS, rfl⟩
      have hli := F.called_set.init.lookup
      have hbi := F.called_set.init.bind (.ref s.heap.objs.size)
      repeat (any_goals (first | assumption | wp_step))
      refine codeAny_mono (codeAny_call_builtin (R := wants (fun r s₂ => r = .none ∧ ∃ h' tk n, s₂ = { s with heap := h', toks := tk } ∧ Cnt xs xs.length n ∧ h'.SetOf (PySem.strKind P w) s.heap.objs.size (fun k => decide (k ∈ xs.take xs.length)) n ∧
          (∀ b o, s.heap.get? b = some o → h'.get? b = some o)) E) F.called_set.init.plain F.entry_set_init (check_set_init_1 tS ?_)) fun r₂ s₂ hr₂ => ?_
      · obtain ⟨ol, hol, hcl, nl, hdl⟩ := hl
        obtain ⟨ocls, odict, odata, oslots⟩ := ol
        simp only at hcl hdl
        subst hcl; subst hdl
        have hol' : (s.heap.push (noSet w)).get? l = some { cls := .type "list", dict := odict, data := .seq items nl, slots := oslots } := Heap.get?_push_of_some _ hol
        have hsls := F.sub_list_set
        have hslf := F.sub_list_frozenset
        have hne : (Value.type "list" == Value.type "dict") = false := by decide
        have hl1 : (s.heap.push (noSet w)).IsList l items := ⟨_, hol', rfl, nl, rfl⟩
        unfold Builtin.«set.__init__» noKeywords Builtin.Frozenset.updateFrom
        generalize hPI : pyIter = PI
        wp_walk
        subst hPI
        refine wpAny_pyIter_list hl1 ?_
        refine wpAny_bind (wpAny_runValue ?_)
        have hz1 : (s.heap.push (noSet w)).objs.size = s.heap.objs.size + 1 := Heap.size_push ..
        have W := (Walks.list (prog := P) (w := w) (A := A.in1.in1.in1) (by simp [hh]) (s.heap.push (noSet w)).objs.size l (by rw [hz1]; exact Nat.ne_of_lt (Nat.lt_succ_of_lt lS)) items).toS
        rw [isz] at W
        have get : (((s.heap.push (noSet w)).push { cls := .type "list_iterator", data := .fields #[.ref l, .int 0 0] })).get? s.heap.objs.size = some (noSet w) := Heap.get?_push_of_some _ gS
        refine txt_loop (xs := xs) W (S := s.heap.objs.size) (by rw [hz1]; simp only [List.mem_cons, List.not_mem_nil, or_false, not_or]; exact ⟨Nat.ne_of_lt (Nat.lt_succ_self _), Nat.ne_of_gt lS⟩) few (fun i v hv => ?_) xs.length 0 _ (by omega) ⟨⟨_, Heap.get?_push_size _ rfl, rfl, rfl⟩, (hl1.push _)⟩
          ⟨0, ⟨Nat.le_refl _, by simp⟩, SetOf_congr ((setObjOf_fresh (knd := PySem.strKind P w) _).setOf get (by unfold scanBound; omega)) (fun _ => by simp) rfl⟩ ?_
        · have e : items.toList[i]? = some v := by rw [Array.getElem?_toList]; exact hv
          obtain ⟨t, ev⟩ := SS.strs_at hit i v e
          have hi : i < xs.length := by rw [← isz]; exact (Array.getElem?_eq_some_iff.mp hv).1
          exact ⟨xs.getD i Str.empty, t, by rw [List.getD_eq_getElem?_getD, List.getElem?_eq_getElem hi]; rfl, ev⟩
        · intro s' n hm g' hS'
          obtain ⟨h', g2, d', tk', os'⟩ := s'
          have e1 : g2 = s.gens := hm.gens
          have e2 : d' = s.drawn := hm.drawn
          have e3 : os' = s.os := hm.os
          subst e1 e2 e3
          refine wpAny_pure ?_
          show wpAny _ _ (ret Value.none) _ _ _
          refine wpAny_pure ⟨rfl, h', tk', n, rfl, g', hS', fun b o e => ?_⟩
          have hb : b < s.heap.objs.size := Heap.lt_size e
          refine hm.heap b o ?_ (Heap.get?_push_of_some _ (Heap.get?_push_of_some _ e))
          rw [hz1]
          simp only [List.mem_cons, List.not_mem_nil, or_false, not_or]
          exact ⟨Nat.ne_of_lt hb, Nat.ne_of_lt (Nat.lt_succ_of_lt hb)⟩
      · cases r₂ with
        | error e => exact hr₂
        | ok fl₂ =>
          cases fl₂ with
          | ret r =>
            obtain ⟨rfl, h', tk, n, rfl, g', hS', k⟩ := hr₂
            repeat (any_goals (first | assumption | wp_step))
            exact q _ _ _ g' hS' k
          | _ => exact hr₂.elim
    | _ => exact hr.elim
theorem call_setX_tup {l : Addr} {items : Array Value} {xs : List Str} {Q : Value → Shared → Prop} (hh : A.handled = none) (hl : s.heap.IsTuple l items) (hit : StrsAre items.toList xs) (few : xs.length + 1 < scanBound)
    (q : ∀ (h' : Heap) (tk n : Nat), Cnt xs xs.length n → h'.SetOf (PySem.strKind P w) s.heap.objs.size (fun k => decide (k ∈ xs.take xs.length)) n → (∀ b o, s.heap.get? b = some o → h'.get? b = some o) → Q (.ref s.heap.objs.size) { s with heap := h', toks := tk }) :
    wpAny (model P w) A (call (.type "set") [.ref l]) Q E s := by
  have isz : items.size = xs.length := by rw [← Array.length_toList, ← StrsAre.len_eq hit]
  have lS : l < s.heap.objs.size := by obtain ⟨o, ho, _⟩ := hl; exact Heap.lt_size ho
  obtain ⟨c, tl, hmro⟩ := F.called_set.mro
  have hmade := F.called_set.made
  have hsub := F.called_set.sub
  refine wpAny_call (codeAny_of_tree ?_)
  show wpAny _ _ (callAny (.type "set") _) _ _ _
  refine wpAny_pure ⟨Code.quiet_builtin _ (by decide +kernel), codeAny_builtin F.entry_type_call ?_⟩
  rw [Around.under_plain (weight_type_call_type "set" [.ref l] []) rfl]
  have h1 := F.called_set.notType
  have h2 := F.called_set.canCreate
  have hct := F.typeCall_set_1 (.ref l)
  repeat (any_goals (first | assumption | wp_step))
  refine codeAny_mono (code_set_led1 (.ref l) (E := E) (Q₁ := fun obj s₁ => obj = .ref s.heap.objs.size ∧ s₁ = { s with heap := s.heap.push (noSet w) }) ⟨rfl, rfl⟩) fun r s₁ hr => ?_
  cases r with
  | error e => exact hr
  | ok fl =>
    cases fl with
    | ret obj =>
      obtain ⟨rfl, rfl⟩ := hr
      have gS : (s.heap.push (noSet w)).get? s.heap.objs.size = some (noSet w) := Heap.get?_push_size _ rfl
      have tS : Shared.TypeIs { s with heap := s.heap.push (noSet w) } (.ref s.heap.objs.size) "set" := ⟨_, gS, rfl⟩
      have hli := F.called_set.init.lookup
      have hbi := F.called_set.init.bind (.ref s.heap.objs.size)
      repeat (any_goals (first | assumption | wp_step))
      refine codeAny_mono (codeAny_call_builtin (R := wants (fun r s₂ => r = .none ∧ ∃ h' tk n, s₂ = { s with heap := h', toks := tk } ∧ Cnt xs xs.length n ∧ h'.SetOf (PySem.strKind P w) s.heap.objs.size (fun k => decide (k ∈ xs.take xs.length)) n ∧
          (∀ b o, s.heap.get? b = some o → h'.get? b = some o)) E) F.called_set.init.plain F.entry_set_init (check_set_init_1 tS ?_)) fun r₂ s₂ hr₂ => ?_
      · obtain ⟨ol, hol, hcl, nl, hdl⟩ := hl
        obtain ⟨ocls, odict, odata, oslots⟩ := ol
        simp only at hcl hdl
        subst hcl; subst hdl
        have hol' : (s.heap.push (noSet w)).get? l = some { cls := .type "tuple", dict := odict, data := .seq items nl, slots := oslots } := Heap.get?_push_of_some _ hol
        have hsls := PySem.F.sub_tuple_set
        have hslf := PySem.F.sub_tuple_frozenset
        have hne : (Value.type "tuple" == Value.type "dict") = false := by decide
        have hl1 : (s.heap.push (noSet w)).IsTuple l items := ⟨_, hol', rfl, nl, rfl⟩
        unfold Builtin.«set.__init__» noKeywords Builtin.Frozenset.updateFrom
        generalize hPI : pyIter = PI
        wp_walk
        subst hPI
        refine wpAny_pyIter_tuple hl1 ?_
        refine wpAny_bind (wpAny_runValue ?_)
        have hz1 : (s.heap.push (noSet w)).objs.size = s.heap.objs.size + 1 := Heap.size_push ..
        have W := (Walks.tuple (prog := P) (w := w) (A := A.in1.in1.in1) (by simp [hh]) (s.heap.push (noSet w)).objs.size l (by rw [hz1]; exact Nat.ne_of_lt (Nat.lt_succ_of_lt lS)) items).toS
        rw [isz] at W
        have get : (((s.heap.push (noSet w)).push { cls := .type "tuple_iterator", data := .fields #[.ref l, .int 0 0] })).get? s.heap.objs.size = some (noSet w) := Heap.get?_push_of_some _ gS
        refine txt_loop (xs := xs) W (S := s.heap.objs.size) (by rw [hz1]; simp only [List.mem_cons, List.not_mem_nil, or_false, not_or]; exact ⟨Nat.ne_of_lt (Nat.lt_succ_self _), Nat.ne_of_gt lS⟩) few (fun i v hv => ?_) xs.length 0 _ (by omega) ⟨⟨_, Heap.get?_push_size _ rfl, rfl, rfl⟩, (hl1.push _)⟩
          ⟨0, ⟨Nat.le_refl _, by simp⟩, SetOf_congr ((setObjOf_fresh (knd := PySem.strKind P w) _).setOf get (by unfold scanBound; omega)) (fun _ => by simp) rfl⟩ ?_
        · have e : items.toList[i]? = some v := by rw [Array.getElem?_toList]; exact hv
          obtain ⟨t, ev⟩ := SS.strs_at hit i v e
          have hi : i < xs.length := by rw [← isz]; exact (Array.getElem?_eq_some_iff.mp hv).1
          exact ⟨xs.getD i Str.empty, t, by rw [List.getD_eq_getElem?_getD, List.getElem?_eq_getElem hi]; rfl, ev⟩
        · intro s' n hm g' hS'
          obtain ⟨h', g2, d', tk', os'⟩ := s'
          have e1 : g2 = s.gens := hm.gens
          have e2 : d' = s.drawn := hm.drawn
          have e3 : os' = s.os := hm.os
          subst e1 e2 e3
          refine wpAny_pure ?_
          show wpAny _ _ (ret Value.none) _ _ _
          refine wpAny_pure ⟨rfl, h', tk', n, rfl, g', hS', fun b o e => ?_⟩
          have hb : b < s.heap.objs.size := Heap.lt_size e
          refine hm.heap b o ?_ (Heap.get?_push_of_some _ (Heap.get?_push_of_some _ e))
          rw [hz1]
          simp only [List.mem_cons, List.not_mem_nil, or_false, not_or]
          exact ⟨Nat.ne_of_lt hb, Nat.ne_of_lt (Nat.lt_succ_of_lt hb)⟩
      · cases r₂ with
        | error e => exact hr₂
        | ok fl₂ =>
          cases fl₂ with
          | ret r =>
            obtain ⟨rfl, h', tk, n, rfl, g', hS', k⟩ := hr₂
            repeat (any_goals (first | assumption | wp_step))
            exact q _ _ _ g' hS' k
          | _ => exact hr₂.elim
    | _ => exact hr.elim
end
def tLenSetX (K : PySem.W.Frag) (ta : TE) : TE := fun σ H Q => ta σ H fun x H1 => ∃ l, ∃ xs : List Str, x = .ref l ∧ (SqL K H1 l (xs.map V.str) ∨ SqT K H1 l (xs.map V.str)) ∧ xs.length + 1 < scanBound ∧ ∀ n : Nat, n ≤ xs.length → (n = xs.length ↔ xs.Nodup) → Q (.int n) H1
theorem pe_lenSetX {X : Cx} {a : Expr} {ta : TE} {p p2 q pos : Pos} (hc : X.calm = true) (hg : Gl X "len") (hm : X.mg "len" = none) (hg2 : Gl X "set") (hm2 : X.mg "set" = none) (ha : PE X a ta)
    (na : starEach [a] X.env = (false, eval a X.env) :: starEach [] X.env := by rfl) : PE X (.Call (.Name "len" p) [.Call (.Name "set" p2) [a] [] q] [] pos) (tLenSetX X.K ta) := by
  refine ⟨fun pins s σ H Q I h => ?_⟩
  refine Call_ (ld_blt I hg hm boot_len ?_)
  refine PyProof.Rows.callWith_builtin1 (PyProof.Rows.args_cons ?_ rfl) rfl rfl
  refine Call_ (ld_blt I hg2 hm2 boot_set ?_)
  refine PyProof.Rows.callWith_type1 (PyProof.Rows.args_cons (thn (ha.run pins s σ H _ I h) fun v s1 ⟨x, H1, I1, r1, q1⟩ => PyProof.Rows.args_nil ?_) na) na rfl
  obtain ⟨l, xs, rfl, hq, few, q1⟩ := q1
  cases r1
  have fin : ∀ (h' : Heap) (tk n : Nat), Cnt xs xs.length n → h'.SetOf (PySem.strKind X.prog X.w) s1.heap.objs.size (fun k => decide (k ∈ xs.take xs.length)) n → (∀ b o, s1.heap.get? b = some o → h'.get? b = some o) →
      wpAny (model X.prog X.w) X.A (spliced (backTo pos (starEach [] X.env))) (fun vs s₂ => wpAny (model X.prog X.w) X.A (call (.builtin "len") (Value.ref s1.heap.objs.size :: vs)) (EP X pins σ Q) X.xe s₂) X.xe { s1 with heap := h', toks := tk } := fun h' tk n g hS hk => by
    refine PyProof.Rows.args_nil ?_
    have ga := g.all
    rw [List.take_length] at ga
    obtain ⟨o, es, ep, t, ho, hex, hd, _, _, _, hf, hn⟩ := hS
    have I2 : Inv X pins σ H1 { s1 with heap := h', toks := tk } := I1.kept hk
    have gl := g.le
    refine call_len_set ho hex hd hf (by rw [hn]; unfold scanBound at few; omega) ⟨.int n, H1, I2.tok _, ⟨_, by rw [hn]⟩, q1 n gl ga⟩
  have sa : ∀ its, Vals (xs.map V.str) its → StrsAre its xs := fun its r => strsAre_of r
  rcases hq with hq | hq
  · obtain ⟨its, r, pl, hz⟩ := I1.list hq
    exact call_setX_list (I1.ok.hd hc) pl.isList (by simpa using sa its r) few fun h' tk n g hS hk => fin h' tk n g hS hk
  · obtain ⟨its, r, pl, hz⟩ := I1.tuple hq
    exact call_setX_tup (I1.ok.hd hc) pl (by simpa using sa its r) few fun h' tk n g hS hk => fin h' tk n g hS hk
variable [Wsh]
section
variable {X : Cx} {e : Expr} {t : DTE}
def dLenSet (t : DTE) : DTE := fun τ M Q => t τ M fun x M1 => ∃ ys : List Str, seqOf x M1 = some (ys.map D.str) ∧ ys.length ≤ 1000 ∧ ∀ n : Nat, n ≤ ys.length → (n = ys.length ↔ ys.Nodup) → Q (.int n) M1
theorem strs_map {K : PySem.W.Frag} {F : Hp} : ∀ {ys : List Str} {vs : List V}, RelDs K F vs (ys.map D.str) → vs = ys.map V.str
  | [], _, .nil => rfl
  | y :: ys, _, .cons a r => by cases a; rw [strs_map r]; rfl
theorem de_lenSet {p p2 q pos : Pos} (hc : X.calm = true) (he : DE X e t) (hm : X.mg "len" = none) (hm2 : X.mg "set" = none) (hg : Gl X "len" := by rfl) (hg2 : Gl X "set" := by rfl) (na : starEach [e] X.env = (false, eval e X.env) :: starEach [] X.env := by rfl) :
    DE X (.Call (.Name "len" p) [.Call (.Name "set" p2) [e] [] q] [] pos) (dLenSet t) := by
  obtain ⟨u, pu, ru⟩ := he.ex
  refine ⟨_, pe_lenSetX hc hg hm hg2 hm2 pu na, fun F H σ τ M Qd Q R q k => ?_⟩
  refine ru F H σ τ M _ _ R q fun v F1 H1 x M1 e1 R1 r1 ⟨ys, h1, h2, q1⟩ => ?_
  obtain ⟨a, vs, rfl, hv, rv⟩ := seq_ok R1.heap r1 h1
  rw [strs_map rv] at hv
  refine ⟨a, ys, rfl, hv.imp SqL.of id, by unfold scanBound; omega, fun n hn ha => k _ F1 H1 _ M1 e1 R1 (.int _) (q1 n hn ha)⟩
end
end DL


/-! GC: isinstance of plain tuples, of instances; d[k] as a target; text.replace. -/
namespace DL
open PySem PySem.Spec PyProof.Rows L2
variable [Wsh]
section
variable {X : Cx}
/-! ### isinstance of more -/
/-- an instance of the class at C is no text -/
structure IsiC (K : PySem.W.Frag) (C : Addr) : Prop where
  cl : Cls K C
  ha : PySem.W.findIn K (.ref C) "__class__" = some (some (.builtin "object.__class__"))
  hn : PySem.W.specialIn K (.builtin "object.__class__") "__get__" = some (some (.builtin "getset_descriptor.__get__"))
  ht : PySem.W.takesIn K (.builtin "object.__class__") = some true
  hm : PySem.W.mroIn K C (.type "object") = some true
  no : PySem.W.kitOne K (.ref C) (.type "str") = some false
def gIsiW (C : Addr) : GC := fun ds M Q => match ds with
  | [.ptp xs, .ty n] => (match kitB "tuple" n with
    | some b => Q (.bl b) M
    | none => False)
  | [.ref a, .ty n] => (∃ fs, M a = some (.ins C fs) ∧ n = "str" ∧ Q (.bl false) M) ∨ gIsi [.ref a, .ty n] M Q
  | ds => gIsi ds M Q
theorem cd_isiW {C : Addr} (T : IsiC X.K C) : CallD X (.builtin "isinstance") (gIsiW C) := fun F H M xs ds Qd Q R r q k => by
  unfold gIsiW at q
  split at q
  · rename_i zs n
    split at q
    · rename_i b hb
      cases r with
      | cons r1 r2 =>
        cases r2 with
        | cons r2 r3 =>
          cases r3
          cases r1 with
          | ptp h1 h2 h3 =>
            cases r2
            exact ⟨_, call_isi, _, _, _, _, b, rfl, .ty n, .fTuple (R.sub _ _ h1), kit_ty hb, k _ F H _ M (Stp.refl F H M) R (.bl _) q⟩
    · exact q.elim
  · rename_i a n
    rcases q with ⟨fs, h1, rfl, q⟩ | q
    · cases r with
      | cons r1 r2 =>
        cases r2 with
        | cons r2 r3 =>
          cases r3
          cases r1
          cases r2
          obtain ⟨hf, ho, h3, h4⟩ := R.sto a _ h1
          cases ho <;> first | exact False.elim h4 | skip
          obtain ⟨rfl, h5⟩ := h4
          exact ⟨_, call_isi, _, _, _, _, false, rfl, .ty "str", .base (.ins h3 T.cl T.ha T.hn T.ht T.hm), T.no, k _ F H _ M (Stp.refl F H M) R (.bl _) q⟩
    · exact cd_isi F H M xs _ Qd Q R r q k
  · exact cd_isi F H M xs _ Qd Q R r q k
/-! ### d[k] as a target -/
def dgPutK (td ti : DTE) : DTG := fun v τ M Q => td τ M fun x M1 => ti τ M1 fun y M2 => match x, dKey y with
  | .ref a, some k => (match M2 a with
    | some (.dct kvs) => kvs.length < sizeLine ∧ Q τ (M2.upd a (.dct (putD kvs k v)))
    | _ => False)
  | _, _ => False
theorem dg_putK {o i : Expr} {pos' : Pos} {td ti : DTE} (hu : X.A.units + 1 < cLine) (ho : DE X o td) (hi : DE X i ti)
    (ha : ∀ v, assign (.Subscript o i pos') X.env v = (do
      let ov ← holding [v] (eval o X.env)
      let iv ← holding [v, ov] (eval i X.env)
      standAt pos'
      holding [v, ov, iv] (setItem ov iv v)
      release [v, ov, iv] []) := by intro _; rfl) : DG X (.Subscript o i pos') (dgPutK td ti) := by
  obtain ⟨uo, po, ro⟩ := ho.ex
  obtain ⟨ui, pi, ri⟩ := hi.ex
  refine ⟨_, pg_sub po pi (set_dict hu) ha, fun F H σ τ M v d Qd Q R r1 q k => ?_⟩
  refine ro F H σ τ M _ _ R q fun x F2 H2 dx M2 e2 R2 r2 q2 => ?_
  refine ri F2 H2 σ τ M2 _ _ R2 q2 fun y F3 H3 dy M3 e3 R3 r3 q3 => ?_
  cases dx <;> first | exact False.elim q3 | skip
  rename_i p
  cases r2
  cases hk : dKey dy with
  | none => rw [hk] at q3; exact q3.elim
  | some kk =>
    rw [hk] at q3
    dsimp only at q3
    have ek := dKey_ok r3 hk
    subst ek
    split at q3
    · rename_i kvs hp
      obtain ⟨hz, q3⟩ := q3
      obtain ⟨_, hob, hh, hr⟩ := R3.heap.sto p _ hp
      cases hob <;> first | exact False.elim hr | skip
      rename_i vs
      have hr' : RelKv X.K F3 vs kvs := hr
      obtain ⟨e4, R4⟩ := R3.heap.write (o := .dK (putK vs kk v)) (u := .dct (putD kvs kk d)) hp (hr'.put (r1.mono (e2.trans e3).ext))
      exact ⟨p, _, rfl, DPut.k hh (by rw [hr'.length]; exact hz), k _ _ _ _ _ ((e2.trans e3).trans e4) (R3.mono e4.ext R4) q3⟩
    · exact q3.elim
end
/-! ### text.replace: behind a test that gives out a token -/
section
variable {X : Cx} {a b e o : Expr} {es : List Expr} {pos p : Pos} {ta tb te : TE}
theorem pet_cmp {op : CmpOp} {r : R2} (ho : OpR X (compareOp op) r) (ha : PET X a ta) (hb : PE X b tb) (hm : behindInMarks op b = false) : PET X (.Compare a [op] [b] pos) (tOp r ta tb) := by
  intro pins s σ H Q h0 I h
  exact wpAny_Compare1 (thn (ha pins s σ H _ h0 I h) fun v s1 ⟨x, H1, I1, r1, q1⟩ => thn (hb.run pins s1 σ H1 _ I1 q1) fun u s2 ⟨y, H2, I2, r2, q2⟩ => ho pins s2 σ H2 x y v u Q I2 r1 r2 q2) hm
theorem pet_callB1 {id : String} {r : List V → Hp → VK → Prop} {x : Str} (hc : CallR X (.builtin id) r) (hg : Gl X x) (hm : X.mg x = none) (hv : bootBuiltins x = some (.builtin id)) (ha : PET X e te) (hn : x ≠ "__name__" := by decide) (hdb : (x == ("__debug__" : Str)) = false := by decide)
    (he : starEach [e] X.env = (false, eval e X.env) :: starEach [] X.env := by rfl) (hpl : (backTo pos (starEach [] X.env)).any (·.1) = false := by rfl) : PET X (.Call (.Name x p) [e] [] pos) (tCB r (tCons te tNil)) := by
  intro pins s σ H Q h0 I h
  refine wpAny_Call_Name_kw (ld_blt I hg hm hv ?_ hn hdb)
  refine PyProof.Rows.callWith_builtin1 ?_ he hpl
  rw [he]
  refine Calls.spliced_cons (thn (ha pins s σ H _ h0 I h) fun u s1 ⟨x, H1, I1, r1, q1⟩ => ?_)
  exact Calls.spliced_nil (hc pins s1 σ H1 [x] [u] Q I1 (.cons r1 .nil) q1)
theorem pst_set {i : Nat} {x : Str} {pos' : Pos} (hN : X.N.Nodup) (hi : X.N[i]? = some x) (hx : Loc X.env.scope x) (he : PET X e te) (hs : swapsWith e (some (.Name x pos')) pos.line X.env = pure false := by rfl) (hf : X.fn x = true ∨ X.env.scope.names.lookup x = some .local := by first | exact .inl rfl | exact .inr rfl | assumption) :
    PST X (.Assign [.Name x pos'] e pos) (tAsg te (gName i)) := by
  intro pins s σ H D h0 I h
  refine wpAny_Assign_Name (thn (he pins s σ H _ h0 I h) fun v s1 ⟨y, H1, I1, r1, q1⟩ => ?_) hs
  exact store_ok I1 hN hi hx r1 (fun s2 I2 => ⟨_, H1, I2, q1⟩) hf
theorem ps_ifTok {z : Str} {j : Nat} {c0 pos2 : Pos} {A B : List Stmt} {r : R2} {t u : TS} (ho : OpR X (compareOp .Eq) r) (ha : PE X a ta) (hA : PSs X A t) (hB : PSsT X B u) : PS X (.If (.Compare a [.Eq] [.Constant (.str z) j c0] pos) A B pos2) (tIfS (tTest (tOp r ta (tC (.str z)))) t u) := by
  refine ⟨fun pins s σ H D I h => ?_⟩
  refine wpAny_If (wpAny_isTrue_Compare1 (thn (ha.run pins s σ H _ I h) fun v s1 ⟨x, H1, I1, r1, q1⟩ => Calls.Constant_str ?_) (nomark _))
  refine wpAny_mono (PySem.wpAny_toks (ho pins { s1 with toks := s1.toks + 1 } σ H1 x (.str z) v _ _ (I1.tok _) r1 ⟨_, rfl⟩ q1)) (fun c s3 q => ?_) fun _ _ z => z.2
  obtain ⟨hk, w, H3, I3, r3, k, e, q3⟩ := q
  subst e
  cases r3
  refine wpAny_truthy_bool ?_
  cases k with
  | true => exact hA.run pins s3 σ H3 D I3 q3
  | false => exact hB pins s3 σ H3 D (Nat.le_trans (Nat.le_add_left 1 _) hk) I3 q3
end
/-- behind a token -/
structure DET (X : Cx) (e : Expr) (t : DTE) : Prop where
  ex : ∃ te, PET X e te ∧ RefE X.K te t
structure DSTs (X : Cx) (ss : List Stmt) (t : DTS) : Prop where
  ex : ∃ ts, PSsT X ss ts ∧ RefS X.K ts t
section
variable {X : Cx} {a b e o : Expr} {pos p apos : Pos}
def dRepl (y z : Str) (to : DTE) : DTE := fun τ M Q => to τ M fun x M1 => match x with
  | .str x => x.length + (x.length + 1) * z.length ≤ 16777216 ∧ Q (.str (Txt.replace x y z)) M1
  | _ => False
theorem det_replC {to : DTE} {y z : Str} {j k : Nat} {c0 c1 : Pos} (ho : DE X o to) (hyz : (y == z) = false := by decide)
    (hst : starEach [.Constant (.str y) j c0, .Constant (.str z) k c1] X.env = [(false, eval (.Constant (.str y) j c0) X.env), (false, eval (.Constant (.str z) k c1) X.env)] := by rfl)
    (hbase : attributeBase o "replace" X.env (eval o X.env) = eval o X.env := by rfl) (hline : (apos.endLine == pos.line) = true := by rfl) :
    DET X (.Call (.Attribute o "replace" apos) [.Constant (.str y) j c0, .Constant (.str z) k c1] [] pos) (dRepl y z to) := by
  obtain ⟨u, pu, ru⟩ := ho.ex
  refine ⟨_, CwR.pet_replC pu hyz hst hbase hline, fun F H σ τ M Qd Q R q k => ?_⟩
  refine ru F H σ τ M _ _ R q fun v F1 H1 x M1 e1 R1 r1 q1 => ?_
  cases x <;> first | exact False.elim q1 | skip
  cases r1
  exact ⟨_, rfl, q1.1, k _ F1 H1 _ M1 e1 R1 (.str _) q1.2⟩
theorem det_call1 {id : String} {g : GC} {x : Str} {te : DTE} (hc : CallD X (.builtin id) g) (hm : X.mg x = none) (ha : DET X e te) (hv : bootBuiltins x = some (.builtin id) := by decide +kernel) (hg : Gl X x := by rfl) (hn : x ≠ "__name__" := by decide) (hdb : (x == ("__debug__" : Str)) = false := by decide)
    (he : starEach [e] X.env = (false, eval e X.env) :: starEach [] X.env := by rfl) (hpl : (backTo pos (starEach [] X.env)).any (·.1) = false := by rfl) : DET X (.Call (.Name x p) [e] [] pos) (dCB g (dCons te dNil)) := by
  obtain ⟨u, pu, ru⟩ := ha.ex
  refine ⟨_, pet_callB1 (call_any _) hg hm hv pu hn hdb he hpl, fun F H σ τ M Qd Q R q k => ?_⟩
  refine ru F H σ τ M _ _ R q fun v F1 H1 x M1 e1 R1 r1 q1 => ?_
  exact hc F1 H1 M1 [v] [x] Qd Q R1.heap (.cons r1 .nil) q1 fun w F2 H2 z M2 e2 R2 r2 q2 => k w F2 H2 z M2 (e1.trans e2) (R1.mono e2.ext R2) r2 q2
theorem det_cmp {op : CmpOp} {g : G2} {ta tb : DTE} (ho : OpD X (compareOp op) g) (ha : DET X a ta) (hb : DE X b tb) (hm : behindInMarks op b = false := by first | exact nomark _ | with_unfolding_all rfl) : DET X (.Compare a [op] [b] pos) (dOp g ta tb) := by
  obtain ⟨u, pu, ru⟩ := ha.ex
  obtain ⟨w, pw, rw'⟩ := hb.ex
  exact ⟨_, pet_cmp (op_any _) pu pw hm, refOp ho ru rw'⟩
theorem dsts_set {i : Nat} {x : Str} {t : DTE} {pos' : Pos} (hN : X.N.Nodup) (he : DET X e t) (hi : X.N[i]? = some x := by rfl) (hx : Loc X.env.scope x := by first | exact .inl rfl | exact .inr rfl) (hs : swapsWith e (some (.Name x pos')) pos.line X.env = pure false := by rfl)
    (hf : X.fn x = true ∨ X.env.scope.names.lookup x = some .local := by first | exact .inl rfl | exact .inr rfl | assumption) : DSTs X [.Assign [.Name x pos'] e pos] (dSeq (dAsg t (dgName i)) dNext) := by
  obtain ⟨u, pu, ru⟩ := he.ex
  refine ⟨_, CwR.psst_one (pst_set hN hi hx pu hs hf), fun F H σ τ M D E R q r => ?_⟩
  exact refAsg ru refGName F H σ τ M { D with nx := dNext D } { E with nx := tNext E } R q ⟨fun F1 H1 σ1 τ1 M1 e1 R1 q1 => r.nx F1 H1 σ1 τ1 M1 e1 R1 q1, r.bk, r.ct, r.rt, r.xr⟩
theorem ds_ifTok {n : Nat} {z : Str} {j : Nat} {c0 pos2 : Pos} {A B : List Stmt} {ta : DTE} {t u : DTS} (hu : X.A.units + n < cLine) (ha : DE X a ta) (hA : DSs X A t) (hB : DSTs X B u) : DS X (.If (.Compare a [.Eq] [.Constant (.str z) j c0] pos) A B pos2) (dIfS (dTest (dOp (gEq n) ta (dC (.str z)))) t u) := by
  obtain ⟨w, pw, rw'⟩ := ha.ex
  obtain ⟨t1, p1, r1⟩ := hA.ex
  obtain ⟨t2, p2, r2⟩ := hB.ex
  refine ⟨_, ps_ifTok (op_any _) pw p1 p2, fun F H σ τ M D E R q r => ?_⟩
  refine refTest (refOp (od_eq hu) rw' (refC (v := .str z) (d := .str z) fun _ => .str z)) F H σ τ M _ _ R q fun b F1 H1 M1 e1 R1 q1 => ?_
  cases b with
  | true => exact iteT (r1 F1 H1 σ τ M1 D E R1 q1 (r.mono e1))
  | false => exact iteF (r2 F1 H1 σ τ M1 D E R1 q1 (r.mono e1))
end
end DL

/-! GD: texts walked, with their places too; range with a step. -/
namespace DL
open PySem PySem.Spec PyProof.Rows L2
variable [Wsh]
/-- a text's signs -/
def signD (x : Str) : List D := x.cps.toList.map fun c => .str ⟨#[c]⟩
theorem signD_get {x : Str} {i : Nat} {d : D} (h : (signD x)[i]? = some d) : ∃ c, x.cps[i]? = some c ∧ d = .str ⟨#[c]⟩ := by
  unfold signD at h
  rw [List.getElem?_map] at h
  cases e : x.cps.toList[i]? with
  | none => rw [e] at h; cases h
  | some c =>
    rw [e] at h
    exact ⟨c, by rw [← Array.getElem?_toList]; exact e, (Option.some.inj h).symm⟩
theorem signD_len {x : Str} : (signD x).length = x.cps.size := by simp [signD]
theorem itd_str {K : PySem.W.Frag} {F : Hp} {x : Str} : ItD K F (Its x) (signD x) where
  go := fun i F2 H2 M2 hi e R => by rw [signD_len] at hi; exact hi
  yld := fun i F2 H2 M2 d v H' hd e R y => by
    obtain ⟨rfl, c, h1, rfl⟩ := y
    obtain ⟨c', h2, rfl⟩ := signD_get hd
    rw [h1] at h2
    cases h2
    exact ⟨F2, Stp.refl _ _ _, R, .str _⟩
  stop := fun F2 H2 M2 e R => by show x.cps.size ≤ _; rw [signD_len]; exact Nat.le_refl _
section
variable {X : Cx} {tg e : Expr} {t : DTE}
def iStrD (t : DTE) : DTI := fun τ M Q => t τ M fun d M1 => match d with
  | .str x => Q (signD x) M1
  | _ => False
theorem di_str (he : DE X e t) : DI X tg e (iStrD t) := by
  obtain ⟨u, pu, ru⟩ := he.ex
  refine ⟨_, pi_str pu, fun F H σ τ M Qd Q R q k => ?_⟩
  refine ru F H σ τ M _ _ R q fun v F1 H1 d M1 e1 R1 r1 q1 => ?_
  cases d <;> first | exact False.elim q1 | skip
  cases r1
  exact ⟨_, rfl, k _ F1 H1 _ M1 e1 R1 itd_str q1⟩
end
/-! ### enumerate(text) -/
def IteS (x : Str) : It := ⟨fun i _ => i < x.cps.size, fun i H v H' => ∃ T c, v = .ref T ∧ x.cps[i]? = some c ∧ H T = none ∧ H' = upd H T (.tup [.int (i : Nat), .str ⟨#[c]⟩]), fun i _ => i = x.cps.size⟩
theorem drawsS {P : Program} {w : World} {A : Around} (hh : A.handled = none) (it : Addr) (x : Str) (t : Tok) : Draws P w A it [it] x.cps.size (fun i v => ∃ c u, x.cps[i]? = some c ∧ v = .str ⟨#[c]⟩ u) (fun i h => h.IsStrIter it (strIterType x) x t i) := by
  unfold strIterType
  split
  · exact Draws.strAscii hh it x t
  · exact Draws.strWide hh it x t
theorem turn_enumS {P : Program} {w : World} {K : PySem.W.Frag} {elts : List Expr} {kk : Nat} {tpos : Pos} (x : Str) (t : Tok) (e it : Addr) :
    Turn P w K (.Tuple elts kk tpos) (IteS x) [e, it] e (fun i h => (∃ old, IsEnum h e it ((i : Nat) : Int) old) ∧ h.IsStrIter it (strIterType x) x t i ∧ e ≠ it) where
  mem := by simp
  obj := fun i h st b hb => by
    obtain ⟨⟨old, he⟩, ⟨o, ho, hc, hd⟩, _⟩ := st
    have w : b = e ∨ b = it := by simpa using hb
    rcases w with rfl | rfl
    · exact ⟨_, he, fun v q => nomatch q⟩
    · exact ⟨o, ho, fun v q => by rw [hd] at q; cases q⟩
  keep := fun i h h' st k => let ⟨⟨old, he⟩, hi, hne⟩ := st; ⟨⟨old, k e (by simp) _ he⟩, (let ⟨o, ho, r⟩ := hi; ⟨o, k it (by simp) o ho, r⟩), hne⟩
  item := by
    intro X hP hw hK hc i pins s σ H E I hf st hg
    subst hP hw hK
    obtain ⟨⟨old, he⟩, hit, hne⟩ := st
    have lt1 : e < s.heap.objs.size := Heap.lt_size he
    have lt2 : it < s.heap.objs.size := by obtain ⟨_, q, _⟩ := hit; exact Heap.lt_size q
    refine wpAny_pyNext_enum_itemD (drawsS (A := X.A.in1) (I.ok.hd hc) it x t) he hit hg hne (by simp [hne]) fun y h' tk hy ho hit' hT hsz hk => ?_
    obtain ⟨c, u, hcx, rfl⟩ := hy
    refine ⟨_, rfl, wpAny_letOwnedTupleGo_enum (s := { s with heap := h', toks := tk + 1 }) ho fun h'' he' sb => ?_⟩
    have hT2 : h''.get? s.heap.objs.size = some { cls := .type "tuple", data := .seq #[.int i tk, .str ⟨#[c]⟩ u] } := (sb.2 _ (Nat.ne_of_gt lt1)).trans hT
    have new : ObjOk X.prog X.w (upd H s.heap.objs.size (.tup [.int (i : Nat), .str ⟨#[c]⟩])) h'' s.heap.objs.size (.tup [.int (i : Nat), .str ⟨#[c]⟩]) :=
      ⟨by show 2 ≤ sizeLine; decide, [.int i tk, .str ⟨#[c]⟩ u], .cons ⟨_, rfl⟩ (.cons ⟨_, rfl⟩ .nil), ⟨_, hT2, rfl, _, rfl⟩⟩
    have I1 : Inv X pins σ (upd H s.heap.objs.size (.tup [.int (i : Nat), .str ⟨#[c]⟩])) { s with heap := h'', toks := tk + 1 } :=
      I.turnedNew (ch := [e, it]) (fun b ob hb q => (sb.2 b (fun z => hb (by simp [z]))).trans (hk b ob (fun z => hb (by simp [z])) (fun z => hb (by simp [z])) q)) hf (Nat.le_refl _) new
    refine ⟨.ref s.heap.objs.size, _, I1, rfl, ⟨_, c, rfl, hcx, I.hok.fresh (Nat.le_refl _), rfl⟩, ⟨⟨.str ⟨#[c]⟩ u, ?_⟩, (let ⟨o, ho, r⟩ := hit'; ⟨o, (sb.2 it (Ne.symm hne)).trans ho, r⟩), hne⟩, fun b hb => ?_⟩
    · have e1 : ((i + 1 : Nat) : Int) = (i : Int) + 1 := by omega
      rw [e1]; exact he'
    · have hb' : b < s.heap.objs.size := by
        have w : b = e ∨ b = it := by simpa using hb
        rcases w with rfl | rfl
        · exact lt1
        · exact lt2
      rw [upd_ne (Nat.ne_of_lt hb')]
      exact (hf b hb).1
  done := by
    intro X hP hw hK hc i pins s σ H E I hf st hg
    subst hP hw hK
    obtain ⟨⟨old, he⟩, hit, hne⟩ := st
    obtain ⟨f0, f1, f2, f3, f4, f5⟩ := hf it (by simp)
    have hg' : i = x.cps.size := hg
    subst hg'
    exact wpAny_pyNext_enum_endD (drawsS (A := X.A.in1) (I.ok.hd hc) it x t) he hit fun h' eb => ⟨rfl, I.turned (t' := s.toks) (fun b o hb q => eb b o hb q) f0 f1 f3 f4 f5⟩
  self := fun A i s Q E st h => let ⟨⟨_, he⟩, _⟩ := st; wpAny_pyIter_enum he h
def iEnumST (ta : TA) : TI := fun σ H R => ta σ H fun vs H1 => ∃ x, vs = [.str x] ∧ R (IteS x) H1
section
variable {X : Cx} {e : Expr} {p pos tpos : Pos} {elts : List Expr} {kk : Nat} {te : DTE}
theorem pi_enumS {ta : TA} (hg : Gl X "enumerate") (hm : X.mg "enumerate" = none) (ha : PA X [e] ta) (hs : starEach [e] X.env = [(false, eval e X.env)]) :
    PI X (.Tuple elts kk tpos) (.Call (.Name "enumerate" p) [e] [] pos) (iEnumST ta) := by
  refine ⟨fun pins s σ H R I h => ?_⟩
  refine Call_ (ld_blt I hg hm boot_enumerate (PyProof.Rows.callWith_type1 (thn (ha.run pos pins s σ H _ I h) fun us s1 ⟨vs, H1, I1, r1, q1⟩ => ?_) hs rfl))
  obtain ⟨x, ex, q⟩ := q1
  subst ex
  cases r1 with
  | cons r rr =>
    cases rr
    obtain ⟨t, rfl⟩ := r
    have fresh : ∀ b, b ∈ [s1.heap.objs.size + 1, s1.heap.objs.size] → FpOk X pins H1 b := fun b hb => by
      have w : b = s1.heap.objs.size + 1 ∨ b = s1.heap.objs.size := by simpa using hb
      have hle : s1.heap.objs.size ≤ b := by
        rcases w with z | z
        · rw [z]; exact Nat.le_add_right _ _
        · rw [z]; exact Nat.le_refl _
      exact I1.fpOk hle (I1.hok.fresh hle)
    refine call_enumerate_str fun h' he hit hsz hk => wpAny_pyIter_enum he ?_
    have I2 : Inv X pins σ H1 { s1 with heap := h' } := I1.kept (t' := s1.toks) hk
    exact ⟨s1.heap.objs.size + 1, [s1.heap.objs.size + 1, s1.heap.objs.size], _, _, H1, rfl, I2, turn_enumS x t (s1.heap.objs.size + 1) s1.heap.objs.size, ⟨⟨.none, he⟩, hit, Nat.succ_ne_self _⟩, fresh, q⟩
theorem itd_enumS {K : PySem.W.Frag} {F : Hp} {x : Str} : ItD K F (IteS x) (enumD (signD x)) where
  go := fun i F2 H2 M2 hi e R => by
    have hi' : i < (signD x).length := by simpa [enumD] using hi
    rw [signD_len] at hi'; exact hi'
  yld := fun i F2 H2 M2 d v H' hd e R y => by
    obtain ⟨T, c, rfl, h1, hT, rfl⟩ := y
    obtain ⟨dx, g1, rfl⟩ := enumD_get hd
    obtain ⟨c', h2, rfl⟩ := signD_get g1
    rw [h1] at h2
    cases h2
    exact pair_yld (F := F2) (Ext.refl _) R hT (.int _) (.str _)
  stop := fun F2 H2 M2 e R => by show _ = x.cps.size; simp [enumD, signD]
def iEnumS (t : DTE) : DTI := fun τ M Q => t τ M fun d M1 => match d with
  | .str x => Q (enumD (signD x)) M1
  | _ => False
theorem di_enumS (hm : X.mg "enumerate" = none) (ha : DE X e te) (hg : Gl X "enumerate" := by rfl) (hs : starEach [e] X.env = (false, eval e X.env) :: starEach [] X.env := by rfl) (hs' : starEach [e] X.env = [(false, eval e X.env)] := by rfl) :
    DI X (.Tuple elts kk tpos) (.Call (.Name "enumerate" p) [e] [] pos) (iEnumS te) := by
  obtain ⟨ua, pa, ra⟩ := ha.ex
  refine ⟨_, pi_enumS hg hm (pa_cons pa pa_nil hs) hs', fun F H σ τ M Qd Q R q k => ?_⟩
  refine ra F H σ τ M _ _ R q fun v F1 H1 d M1 e1 R1 r1 q1 => ?_
  cases d <;> first | exact False.elim q1 | skip
  cases r1
  exact ⟨_, rfl, k _ F1 H1 _ M1 e1 R1 itd_enumS q1⟩
end
/-! ### range(a, b, c) -/
def rangeC (lo c : Int) (n : Nat) : List D := (List.range n).map fun (i : Nat) => .int (lo + (i : Int) * c)
theorem itd_rangeC {K : PySem.W.Frag} {F : Hp} {lo c : Int} {n : Nat} : ItD K F (Itc lo c n) (rangeC lo c n) where
  go := fun i F2 H2 M2 hi e R => by
    show i < n
    simpa [rangeC] using hi
  yld := fun i F2 H2 M2 d x H' hd e R y => by
    obtain ⟨rfl, rfl⟩ := y
    unfold rangeC at hd
    rw [List.getElem?_map] at hd
    cases q : (List.range n)[i]? with
    | none => rw [q] at hd; cases hd
    | some j =>
      rw [q] at hd
      obtain ⟨h1, h2⟩ := List.getElem?_eq_some_iff.mp q
      have hj : j = i := by simpa using h2.symm
      subst hj
      cases (Option.some.inj hd)
      exact ⟨F2, Stp.refl _ _ _, R, .int _⟩
  stop := fun F2 H2 M2 e R => by
    show n ≤ (rangeC lo c n).length
    simp [rangeC]
section
variable {X : Cx} {tg a b c : Expr} {p pos : Pos} {t t' t'' : DTE}
def iRange3 (t t' t'' : DTE) : DTI := fun τ M Q => t τ M fun x M1 => t' τ M1 fun y M2 => t'' τ M2 fun z M3 => match x, y, z with
  | .int i, .int j, .int c => ∃ n, RgC i j c n ∧ Q (rangeC i c n) M3
  | _, _, _ => False
theorem di_range3 (hg : Gl X "range") (hm : X.mg "range" = none) (ha : DE X a t) (hb : DE X b t') (hc : DE X c t'') (hs : starEach [a, b, c] X.env = (false, eval a X.env) :: starEach [b, c] X.env := by rfl) (hs1 : starEach [b, c] X.env = (false, eval b X.env) :: starEach [c] X.env := by rfl)
    (hs2 : starEach [c] X.env = (false, eval c X.env) :: starEach [] X.env := by rfl) (hpl : (backTo pos (starEach [b, c] X.env)).any (·.1) = false := by rfl) : DI X tg (.Call (.Name "range" p) [a, b, c] [] pos) (iRange3 t t' t'') := by
  obtain ⟨u, pu, ru⟩ := ha.ex
  obtain ⟨w, pw, rw'⟩ := hb.ex
  obtain ⟨z, pz, rz⟩ := hc.ex
  refine ⟨_, pi_range3 hg hm (pa_cons pu (pa_cons pw (pa_cons pz pa_nil hs2) hs1) hs) hs hpl, fun F H σ τ M Qd Q R q k => ?_⟩
  refine ru F H σ τ M _ _ R q fun v F1 H1 d M1 e1 R1 r1 q1 => ?_
  refine rw' F1 H1 σ τ M1 _ _ R1 q1 fun v' F2 H2 d' M2 e2 R2 r2 q2 => ?_
  refine rz F2 H2 σ τ M2 _ _ R2 q2 fun v'' F3 H3 d'' M3 e3 R3 r3 q3 => ?_
  cases d <;> cases d' <;> first | exact False.elim q3 | skip
  cases d'' <;> first | exact False.elim q3 | skip
  cases r1
  cases r2
  cases r3
  obtain ⟨n, h1, q3⟩ := q3
  exact ⟨_, _, _, n, rfl, h1, k _ F3 H3 _ M3 ((e1.trans e2).trans e3) R3 itd_rangeC q3⟩
end
/-! ### a <= b of texts; a dict display that may change -/
section
variable {X : Cx}
def gLeU : G2 := fun x y M Q => match x, y with
  | .str a, .str b => Q (.bl (!decide (b.cps.toList < a.cps.toList))) M
  | x, y => gLe x y M Q
theorem od_leU : OpD X (compareOp .LtE) gLeU := fun F H M x y d e Qd Q R rx ry q k => by
  unfold gLeU at q
  split at q
  · cases rx; cases ry
    exact ⟨_, op_le_str, _, _, rfl, rfl, k _ F H _ M (Stp.refl F H M) R (.bl _) q⟩
  · exact od_le F H M x y _ _ Qd Q R rx ry q k
def dDispM (trs : List (DTE × DTE)) : DTE := fun τ M Q => dPairs trs τ M fun ps M1 => match keysOf ps with
  | some kvs => kvs.length ≤ 15 ∧ ∀ p, M1 p = none → Q (.ref p) (M1.upd p (.dct (mergeD [] kvs)))
  | none => False
theorem de_dispM {pos : Pos} {keys : List (Option Expr)} {values : List Expr} {trs : List (DTE × DTE)} (h : DPs X pos keys values trs) (hall : keys.all (·.isSome) = true := by rfl) (hl : keys.length = values.length := by rfl) (h0 : keys ≠ [] := by exact List.cons_ne_nil _ _)
    (h15 : keys.length ≤ 15 := by decide) : DE X (.Dict keys values pos) (dDispM trs) := by
  obtain ⟨us, ps, rs⟩ := h.ex
  refine ⟨_, pe_disp ps hall hl h0 h15, fun F H σ τ M Qd Q R q k p hp => ?_⟩
  obtain ⟨hf, hm⟩ := R.heap.free hp
  refine rs F _ σ τ M _ _ ⟨R.heap.side hm hf _, R.slots⟩ q fun vs ws F1 H1 ds es M1 l1 l2 e1 R1 r1 r2 q1 => ?_
  obtain ⟨h1, m1, f1⟩ := e1.kp p _ upd_same hm
  split at q1
  · rename_i kvs hk
    obtain ⟨ms, e, rr⟩ := keys_rel ds es l1 l2 r1 r2 hk
    refine ⟨h1, ms, e, by rw [rr.length]; exact q1.1, ?_⟩
    have s1 : Stp F H M F1 (upd H1 p (.dK (mergeK [] ms))) M1 := by
      have a : Stp F H M F (upd H p (.dK [])) M := (Stp.refl F H M).side hp _
      exact (a.trans e1).side hp _
    have R2 := R1.heap.side m1 (f1 hf) (.dK (mergeK [] ms))
    have rk : RelKv X.K F1 (mergeK [] ms) (mergeD [] kvs) := rr.merge .nil
    have s2 : Stp F H M F1 (upd H1 p (.dK (mergeK [] ms))) (M1.upd p (.dct (mergeD [] kvs))) := ⟨s1.ext, fun b o eb nb => by
      obtain ⟨g1, g2, g3⟩ := s1.kp b o eb nb
      have hb : b ≠ p := fun z => by rw [z, hp] at eb; cases eb
      exact ⟨g1, by rw [Sto.upd_ne hb]; exact g2, g3⟩, s1.al⟩
    have R3 : Rst0 X.K F1 (upd H1 p (.dK (mergeK [] ms))) (M1.upd p (.dct (mergeD [] kvs))) := ⟨R2.sub, fun b o eb => by
      by_cases hb : b = p
      · subst hb
        rw [Sto.upd_same] at eb
        cases eb
        exact ⟨f1 hf, _, upd_same, rk⟩
      · rw [Sto.upd_ne hb] at eb
        exact R2.sto b o eb⟩
    exact k (.ref p) _ _ (.ref p) _ s2 (R.mono s2.ext R3) (.ref p) (q1.2 p m1)
  · exact q1.elim
end
end DL

/-! GE: a text many times. -/
namespace DL
open PySem PySem.Spec PyProof.Rows L2
section
variable {X : Cx}
theorem op_mul_str : OpR X (binaryOp .Mult) (fun x y H Q => ∃ i j, x = .str i ∧ y = .int j ∧ MulOk i j ∧ Q (.str (Txt.mul i j)) H) := by
  intro pins s σ H x y v u Q I rx ry h
  obtain ⟨i, j, rfl, rfl, hz, q⟩ := h
  obtain ⟨t, rfl⟩ := rx
  obtain ⟨t', rfl⟩ := ry
  exact SB.mul hz (fun t' tk => ⟨.str (Txt.mul i j), H, I.tok _, ⟨_, rfl⟩, q⟩)
variable [Wsh]
def gMulS : G2 := fun x y M Q => match x, y with
  | .str a, .int k => MulOk a k ∧ Q (.str (Txt.mul a k)) M
  | x, y => gMul x y M Q
theorem od_mulS : OpD X (binaryOp .Mult) gMulS := fun F H M x y d e Qd Q R rx ry q k => by
  unfold gMulS at q
  split at q
  · cases rx; cases ry
    exact ⟨_, op_mul_str, _, _, rfl, rfl, q.1, k _ F H _ M (Stp.refl F H M) R (.str _) q.2⟩
  · exact od_mul F H M x y _ _ Qd Q R rx ry q k
theorem mulS_ok {a : Str} {n : Nat} {M : Sto} {Q : DK} (h1 : 2 ≤ n) (h2 : n ≤ 1000) (h3 : 1 ≤ a.length) (h4 : a.length ≤ 1000) (q : Q (.str (Txt.mul a (n : Int))) M) : gMulS (.str a) (.int (n : Int)) M Q := by
  refine ⟨⟨?_, fun _ _ => ?_, fun _ _ => ?_⟩, q⟩
  · have e1 : decide ((n : Int) < -(2 ^ 63 : Int)) = false := decide_eq_false (by omega)
    have e2 : decide ((n : Int) ≥ 2 ^ 63) = false := decide_eq_false (by omega)
    rw [e1, e2]; rfl
  · have hm : a.length * n ≤ 1000 * 1000 := Nat.mul_le_mul h4 h2
    have hz : ((a.length : Int)) * (n : Int) ≤ 1000000 := by
      rw [← Int.natCast_mul]
      generalize a.length * n = z at hm
      omega
    have : (a.length : Int) ≤ (2 ^ 63 - 1) / (n : Int) := Int.le_ediv_of_mul_le (by omega) (by omega)
    omega
  · have hm : a.length * n ≤ 1000 * 1000 := Nat.mul_le_mul h4 h2
    rw [Int.toNat_natCast]
    exact decide_eq_false (by rw [sizeLine_eq]; omega)
end
end DL

/-! GF: errors kept as values: made, looked at. -/
namespace DL
open PySem PySem.Spec PyProof.Rows L2
section
variable {X : Cx} {e : Expr} {t : L2.St → Hp → XK → Prop}
/-- what makes an error, as a value -/
theorem pe_mkv (hk : PMk X e t) : PE X e (fun σ H Q => t σ H fun c d H1 => ∃ C, c = .ref C ∧ ∀ a, H1 a = none → Q (.ref a) (upd H1 a (.ext (ExV C d a)))) := by
  refine ⟨fun pins s σ H Q I h => wpAny_mono (hk pins s σ H _ I h) (fun u s1 hu => ?_) fun _ _ x => x⟩
  obtain ⟨a, oe, vs, sI, H1, cls, d, rfl, J, kp, hne, ha, hz, hd, h1, na, os, ag, r, C, rfl, q⟩ := hu
  have ok : ObjOk X.prog X.w (upd H1 a (.ext (ExV C d a))) s1.heap a (.ext (ExV C d a)) :=
    ⟨⟨oe, vs, ha, hz.1, hz.2, hd⟩, ⟨oe, ha⟩, fun _ _ ⟨o, w, z1, z2, z3, z4⟩ kk => ⟨o, w, kk o z1, z2, z3, z4⟩⟩
  have L := J.laidN (t' := s1.toks) kp hne na ok
  refine ⟨.ref a, upd H1 a (.ext (ExV C d a)), ?_, rfl, q a na⟩
  exact ⟨L.ok, os.trans L.os, ag, L.base, L.loc, L.cell, L.free, L.freeC, L.pin, L.hok, L.len⟩
/-- C(), C an own exception class without own __init__ -/
theorem pmk_own00 {C : Addr} {bmB : List Value} {B newId initId : String} {x : Str} {p pos : Pos} (F : ExcBaseFacts B newId initId bmB) (q : PySem.W.excIn X.K C bmB newId = true) (gC : X.mg x = some (.ref C))
    (kC : PySem.W.keepIn X.K (.ref C) = true) (r : Raises X (.ref C)) (hg : Gl X x) (hdb : (x == ("__debug__" : Str)) = false := by decide) :
    PMk X (.Call (.Name x p) [] [] pos) (fun σ H Q => Q (.ref C) none H) := by
  intro pins s σ H Q I h
  refine wpAny_Call_Name_kw (ld_glob I hg gC ?_ hdb)
  refine PySem.W.callWith_K0 I.kIn kC ?_
  obtain ⟨bm, N, nm, qn, bs, hdct, sn, sub, ab, col, dd, k0, k1, k2, k3, k5, mN, hC, hN, hni, T⟩ := exc_obj I.kIn q
  refine wpAny_call_exc_subT F T hC hN hni (fun h' e hm => ?_) (by rw [sizeLine_eq]; simp)
  exact mk_of I hm r h (I.hok.gone hm.new)
/-- isinstance of such an error and an own class, or a builtin one -/
def rIsV (K : PySem.W.Frag) : List V → Hp → VK → Prop := fun xs H Q => ∃ (a C : Addr) (d : Option Addr) (y : V) (w : Value) (b : Bool), xs = [.ref a, y] ∧ ((∃ c, y = .ref c ∧ w = .ref c) ∨ ∃ n, y = .ty n ∧ w = .type n) ∧ H a = some (.ext (ExV C d a)) ∧
  (d = none ∨ ∃ dd fs, d = some dd ∧ H dd = some (.xd fs)) ∧ IsC K C ∧ PySem.W.kitOne K (.ref C) w = some b ∧ Q (.bl b) H
theorem call_isV : CallR X (.builtin "isinstance") (rIsV X.K) := by
  intro pins s σ H xs us Q I r h
  obtain ⟨a, C, d, y, w, b, rfl, hy, ha, hd, T, hk, q⟩ := h
  cases r with
  | cons rx rr =>
    cases rr with
    | cons rt rr =>
      cases rr
      cases rx
      have et : ∃ u, RelV y u ∧ u = w := by
        rcases hy with ⟨c, rfl, rfl⟩ | ⟨n, rfl, rfl⟩
        · exact ⟨_, rfl, rfl⟩
        · exact ⟨_, rfl, rfl⟩
      obtain ⟨⟨oe, vs, hg, h1, h2, h3⟩, _, _⟩ := I.hok a _ ha
      have J : ∃ od, PySem.W.InstAt s.heap a oe C od := by
        obtain ⟨oc, odd, oda, osl⟩ := oe
        dsimp only at h1 h2 h3
        subst h1 h2 h3
        rcases hd with rfl | ⟨dd, fs, rfl, hdd⟩
        · exact ⟨none, hg, rfl, rfl, trivial⟩
        · obtain ⟨mA, ⟨od, _, _, ho, _⟩, _⟩ := (I.hok dd _ hdd : ObjOk X.prog X.w H s.heap dd (.xd fs))
          exact ⟨some od, hg, rfl, rfl, ho⟩
      obtain ⟨od, J⟩ := J
      rcases hy with ⟨c, rfl, rfl⟩ | ⟨n, rfl, rfl⟩
      · cases rt
        exact PySem.W.kia_one (PySem.W.kitx_exc T.hcl T.hg T.hk T.hs T.ha T.hn T.ht T.hm) I.kIn J hk (fun z => nomatch z) fun tk => ⟨.bl b, H, I.kept (t' := tk) fun _ _ z => z, rfl, q⟩
      · cases rt
        exact PySem.W.kia_one (PySem.W.kitx_exc T.hcl T.hg T.hk T.hs T.ha T.hn T.ht T.hm) I.kIn J hk (fun z => nomatch z) fun tk => ⟨.bl b, H, I.kept (t' := tk) fun _ _ z => z, rfl, q⟩
/-- such an error's field -/
def tVf (n : Str) (te : TE) : TE := fun σ H Q => te σ H fun x H1 => ∃ (a C dd : Addr) (fs : List (Str × V)) (v : V), x = .ref a ∧ H1 a = some (.ext (ExV C (some dd) a)) ∧ H1 dd = some (.xd fs) ∧ XfC X.K C ∧ PySem.W.findIn X.K (.ref C) n = some none ∧ fs.lookup n = some v ∧ Q v H1
theorem pe_vf {e : Expr} {te : TE} {pos : Pos} {n : Str} (he : PE X e te) (hb : attributeBase e n X.env (eval e X.env) = eval e X.env := by rfl) : PE X (.Attribute e n pos) (tVf (X := X) n te) := by
  refine ⟨fun pins s σ H Q I h => attr_of hb (thn (he.run pins s σ H _ I h) fun u s1 hh => ?_)⟩
  obtain ⟨x, H1, I1, rx, a, C, dd, fs, v, rfl, hx, hdd, T, hno, hl, q⟩ := hh
  cases rx
  obtain ⟨⟨oe, vs, hg, h1, h2, h3⟩, _, _⟩ := I1.hok a _ hx
  obtain ⟨mA, hns, hr⟩ := (I1.hok dd _ hdd : ObjOk X.prog X.w H1 s1.heap dd (.xd fs))
  obtain ⟨od, ho, hk⟩ := lookIn_ns hns
  obtain ⟨u, hu, ru⟩ := RelO.some_of (v := v) (o := mA n) (by rw [← hl]; exact hr n)
  have J : PySem.W.InstAt s1.heap a oe C (some od) := ⟨hg, h1, by unfold PySem.W.notCls; rw [h3] <;> rfl, by rw [h2]; exact ho⟩
  exact HandSPX.exc_get I1.kIn J T.ga T.gg T.exC (PySem.W.findObj_own T.hdC hno rfl (by rw [hk, hu])) (handed_of ru) ⟨v, H1, I1.tok _, ru, q⟩
end
/-! ### over trees -/
variable [Wsh]
section
variable {X : Cx} {e : Expr} {pos : Pos}
/-- an error made, as a value -/
def dMkV (t : DTM) : DTE := fun τ M Q => t τ M fun n fs M1 => ∀ a d, Q (.exv a (Wsh.cls n) d fs) M1
theorem de_mkV {t : DTM} (he : DMk X e t) : DE X e (dMkV t) := by
  obtain ⟨u, pu, ru⟩ := he.ex
  refine ⟨_, pe_mkv pu, fun F H σ τ M Qd Q R q k => ?_⟩
  refine ru F H σ τ M _ _ R q fun F1 H1 M1 n d fs e1 R1 rx q1 => ⟨_, rfl, fun a ha => ?_⟩
  obtain ⟨e2, R2⟩ := R1.heap.frozen (o := .ext (ExV (Wsh.cls n) d a)) ha
  refine k (.ref a) _ _ (.exv a (Wsh.cls n) d fs) M1 (e1.trans e2) (R1.mono e2.ext R2) ?_ (q1 a d)
  rcases rx with ⟨rfl, rfl⟩ | ⟨dx, vs, rfl, h1, h2⟩
  · exact .exv0 upd_same
  · exact .exv1 upd_same (e2.ext _ _ h1) (h2.mono e2.ext)
/-- what is known of the classes of errors: is a thing of the class at C of the class w -/
structure IsX (K : PySem.W.Frag) (isx : Addr → Value → Option Bool) : Prop where
  ok : ∀ C w b, isx C w = some b → IsC K C ∧ PySem.W.kitOne K (.ref C) w = some b
def gIsX (isx : Addr → Value → Option Bool) : GC := fun ds M Q => match ds with
  | [.exv _ C _ _, .ref c] => ∃ b, isx C (.ref c) = some b ∧ Q (.bl b) M
  | [.exv _ C _ _, .ty n] => ∃ b, isx C (.type n) = some b ∧ Q (.bl b) M
  | _ => False
theorem cd_isX {isx : Addr → Value → Option Bool} (T : IsX X.K isx) : CallD X (.builtin "isinstance") (gIsX isx) := fun F H M xs ds Qd Q R r q k => by
  have go : ∀ {a C : Addr} {d : Option Addr} {fs : List (Str × D)} {v : V}, RelD X.K F v (.exv a C d fs) → v = .ref a ∧ H a = some (.ext (ExV C d a)) ∧ (d = none ∨ ∃ dd fs, d = some dd ∧ H dd = some (.xd fs)) := fun {a C d fs v} r => by
    cases r with
    | exv0 h => exact ⟨rfl, R.sub _ _ h, .inl rfl⟩
    | exv1 h g _ => exact ⟨rfl, R.sub _ _ h, .inr ⟨_, _, rfl, R.sub _ _ g⟩⟩
  unfold gIsX at q
  split at q
  · obtain ⟨b, hb, q⟩ := q
    obtain ⟨t1, t2⟩ := T.ok _ _ _ hb
    cases r with
    | cons r1 r2 =>
      cases r2 with
      | cons r2 r3 =>
        cases r3
        obtain ⟨rfl, h1, h2⟩ := go r1
        cases r2
        exact ⟨_, call_isV, _, _, _, _, _, b, rfl, .inl ⟨_, rfl, rfl⟩, h1, h2, t1, t2, k _ F H _ M (Stp.refl F H M) R (.bl _) q⟩
  · obtain ⟨b, hb, q⟩ := q
    obtain ⟨t1, t2⟩ := T.ok _ _ _ hb
    cases r with
    | cons r1 r2 =>
      cases r2 with
      | cons r2 r3 =>
        cases r3
        obtain ⟨rfl, h1, h2⟩ := go r1
        cases r2
        exact ⟨_, call_isV, _, _, _, _, _, b, rfl, .inr ⟨_, rfl, rfl⟩, h1, h2, t1, t2, k _ F H _ M (Stp.refl F H M) R (.bl _) q⟩
  · exact q.elim
/-- e.f of such an error; fok: which fields classes let through -/
structure XfX (K : PySem.W.Frag) (fok : Addr → Str → Bool) : Prop where
  ok : ∀ C f, fok C f = true → XfC K C ∧ PySem.W.findIn K (.ref C) f = some none
def dVf (fok : Addr → Str → Bool) (f : Str) (te : DTE) : DTE := fun τ M Q => te τ M fun x M1 => match x with
  | .exv _ C d fs => fok C f = true ∧ ∃ v, fs.lookup f = some v ∧ Q v M1
  | _ => False
theorem de_vf {fok : Addr → Str → Bool} {f : Str} {te : DTE} (T : XfX X.K fok) (he : DE X e te) (hb : attributeBase e f X.env (eval e X.env) = eval e X.env := by rfl) : DE X (.Attribute e f pos) (dVf fok f te) := by
  obtain ⟨u, pu, ru⟩ := he.ex
  refine ⟨_, pe_vf pu hb, fun F H σ τ M Qd Q R q k => ?_⟩
  refine ru F H σ τ M _ _ R q fun v F1 H1 x M1 e1 R1 r1 q1 => ?_
  cases x <;> first | exact q1.elim | skip
  obtain ⟨h1, y, h2, q2⟩ := q1
  obtain ⟨t1, t2⟩ := T.ok _ _ h1
  cases r1 with
  | exv0 => simp at h2
  | exv1 g1 g2 g3 =>
    obtain ⟨v', h4, h5⟩ := g3.lookup h2
    exact ⟨_, _, _, _, v', rfl, R1.heap.sub _ _ g1, R1.heap.sub _ _ g2, t1, t2, h4, k v' F1 H1 y M1 e1 R1 h5 q2⟩
end
end DL

/-! GG: try with several clauses, each with a name. -/
namespace DL
open PySem PySem.Spec PyProof.Rows L2
abbrev Clz := List (Value × Option Nat × (Addr → Value → Option Addr → TS))
/-- slot i, if there is one, set to x -/
def setI {α : Type} (i : Option Nat) (x : α) (σ : List α) : List α := match i with
  | some i => σ.set i x
  | none => σ
def endsG (D : Ends) (i : Option Nat) : Ends := { nx := fun σ' H' => D.nx (setI i none σ') H', rt := D.rt, bk := fun σ' H' => D.bk (setI i none σ') H', ct := fun σ' H' => D.ct (setI i none σ') H' }
/-- what the clauses wish of the body's exception, one behind another -/
def wMA (K : PySem.W.Frag) (Wo : WX) (D : Ends) : Clz → WX
  | [] => Wo
  | (c, i, ts) :: r => fun cl dx σ H => ∃ b, PySem.W.exmOne K cl c = some b ∧ (b = true → ∀ p, H p = none → ts p cl dx (endsG D i) (setI i (some (.ref p)) σ) H) ∧ (b = false → wMA K Wo D r cl dx σ H)
inductive HdA (X : Cx) : List ExceptHandler → Clz → Prop
  | nil : HdA X [] []
  | cons {x n : Str} {c : Value} {i : Nat} {ts : Addr → Value → Option Addr → TS} {st : Stmt} {sts : List Stmt} {np hp : Pos} {hds : List ExceptHandler} {l : Clz} (hN : X.N.Nodup) (hi : X.N[i]? = some n) (hln : X.env.kindOf n = some .local) (hc : Names X x c)
      (hu : ∀ (p : Addr) (oe : Obj) (cl : Value) (dx : Option Addr) (pn : List (Addr × Obj)), Zc cl dx oe → (∃ vs, oe.data = .fields vs) → PSs (X.suite p ((p, oe) :: pn)) (st :: sts) (ts p cl dx)) (r : HdA X hds l) :
      HdA X (.ExceptHandler (some (.Name x np)) (some n) (st :: sts) hp :: hds) ((c, some i, ts) :: l)
  | cons0 {x : Str} {c : Value} {ts : Addr → Value → Option Addr → TS} {st : Stmt} {sts : List Stmt} {np hp : Pos} {hds : List ExceptHandler} {l : Clz} (hc : Names X x c)
      (hu : ∀ (p : Addr) (oe : Obj) (cl : Value) (dx : Option Addr) (pn : List (Addr × Obj)), Zc cl dx oe → (∃ vs, oe.data = .fields vs) → PSs (X.suite p ((p, oe) :: pn)) (st :: sts) (ts p cl dx)) (r : HdA X hds l) :
      HdA X (.ExceptHandler (some (.Name x np)) none (st :: sts) hp :: hds) ((c, none, ts) :: l)
section
variable {X : Cx} {body : List Stmt} {hd0 : ExceptHandler} {hds : List ExceptHandler} {l : Clz} {pos : Pos} {tb : WX → TS} {Wo : WX}
theorem ps_try_ma (hst : X.stack = X.env :: X.outer) (hfm : X.env.frame = some X.env.locals) (tk : Takes X Wo)
    (hb : ∀ (W : WX) (pn : List (Addr × Obj)) (xe : Value → Shared → Prop), Takes (X.tr pn xe) W → PassesOwn (model X.prog X.w) X.A X.env xe → PSs (X.tr pn xe) body (tb W)) (hh : HdA X (hd0 :: hds) l) :
    PS X (.Try body (hd0 :: hds) [] [] pos) (fun D σ H => tb (wMA X.K Wo D l) D σ H) := by
  refine ⟨fun pins s σ H D I0 q0 => ?_⟩
  have okX := I0.ok
  have frm : X.A.frames = some (X.env :: X.outer) := by rw [okX.frames, hst]
  refine wpAny_Try_except ?_
  refine wpAny_mono ((hb (wMA X.K Wo D l) (X.pn ++ pins) (fun e t1 => wpAny (model X.prog X.w) X.A (noteFrame e X.env) (fun _ t2 => wpAny (model X.prog X.w) X.A (setFlight e none) (fun _ t3 => wpAny (model X.prog X.w) X.A (handleBy e X.env (hd0 :: hds)) (SP X pins D) X.xe t3) X.xe t2) X.xe t1)
    (fun u s1 zz => ?_) PassesOwn.looking).run [] s σ H D (I0.toTry _) q0) (fun f s1 ends => ?_) (fun _ _ z => z)
  · obtain ⟨p, B, sI, pn2, σ1, H1, cl, dx, rfl, Jt, keepB, up1, inSky, noH, hos, hag, wish⟩ := zz
    have J0 : Inv X pins σ1 H1 sI := Jt.ofTry okX
    have inSky2 : Sky B (X.env :: X.outer) p (Zc cl dx) X.env.locals s1.heap := by rw [← hst]; exact inSky
    show wpAny (model X.prog X.w) X.A (noteFrame (Value.ref p) X.env) _ _ _
    refine Sky.land Zc.steady frm hfm inSky2 fun g3 land3 up3 => ?_
    have J1 : Inv X pins σ1 H1 { s1 with heap := g3 } := J0.landed keepB land3.1 (up1.trans up3) hos hag
    obtain ⟨o3, w3, there3, z3, dat3⟩ := land3.there
    have noFrame : p ∉ frs (X.env :: X.outer) := fun hm => by
      obtain ⟨_, o', e', hnf⟩ := land3.2.2.1.mem hm
      rw [there3] at e'
      cases e'
      exact hnf _ dat3
    have notLoc : p ≠ X.env.locals := fun z => noFrame (List.mem_filterMap.mpr ⟨X.env, List.mem_cons_self, by rw [hfm, z]⟩)
    have notFs : p ∉ X.fs := fun hm => by
      obtain ⟨en, hen, qe⟩ := List.mem_filterMap.mp hm
      exact noFrame (List.mem_filterMap.mpr ⟨en, List.mem_cons_of_mem _ hen, qe⟩)
    have Su := J1.suite there3 dat3 noH notLoc notFs
    have go : ∀ {hs2 : List ExceptHandler} {l2 : Clz}, HdA X hs2 l2 → wMA X.K Wo D l2 cl dx σ1 H1 → wpAny (model X.prog X.w) X.A (handleBy (Value.ref p) X.env hs2) (SP X pins D) X.xe { s1 with heap := g3 } := by
      intro hs2 l2 hk
      induction hk with
      | nil =>
        intro wsh
        refine wpAny_handleBy_nil ?_
        obtain ⟨_, _, _, oo, ww, T, oT, tt, e1, e2, e3, e4, e5⟩ := id land3
        unfold PySem.passOn
        refine wpAny_bind (wpAny_field e1 e3 e4 ?_)
        rw [if_neg (show ¬ ((Value.ref T == Value.none) = true) by simp)]
        have last : wpAny (model X.prog X.w) X.A (setFlight (Value.ref p) X.env.frame) (fun _ t4 => wpAny (model X.prog X.w) X.A (throw (Value.ref p) : Sem Flow) (SP X pins D) X.xe t4) X.xe { s1 with heap := g3 } := by
          rw [hfm]
          exact HandSPX.setFlight_upZ land3 fun g4 sky4 up4 => wpAny_throw (tk _ _ ⟨p, B, sI, pins, σ1, H1, cl, dx, rfl, J0, keepB, (up1.trans up3).trans up4, .inr (.inr (by rw [hst]; exact sky4)), noH, hos, hag, wsh⟩)
        first
          | exact wpAny_bind (wpAny_pure (wpAny_bind last))
          | exact wpAny_bind last
      | @cons x n c i ts st sts np hp hs3 l3 hN hi hln hc hu r ih =>
        intro wsh
        obtain ⟨b, hit, ifYes, ifNo⟩ := wsh
        refine wpAny_handleBy_cons (codeAny_handlers_test ?_) (fun q => nomatch q)
        have LT : PySem.W.Looks (model X.prog X.w) g3 (typeOf (Value.ref p)) cl := fun A Q E t k q => wpAny_typeOf_ref (k _ _ there3) (by rw [z3.1]; exact q)
        have LM := PySem.W.exm_one (M := model X.prog X.w) J1.kIn LT hit
        have look : ∀ {Q E : Value → Shared → Prop}, Q c { s1 with heap := g3 } → wpAny (model X.prog X.w) (X.A.mark (some (.ref p))) (eval (.Name x np) X.env) Q E { s1 with heap := g3 } := fun {Q E} q => by
          obtain ⟨c1, c2, c3 | ⟨c3, c4, c5⟩⟩ := hc
          · exact ld_glob (X := X.suite p ((p, o3) :: (X.pn ++ pins))) Su c1 c3 q c2
          · exact ld_blt (X := X.suite p ((p, o3) :: (X.pn ++ pins))) Su c1 c3 c4 q c5 c2
        refine look (LM.here ?_)
        cases b with
        | true =>
          refine codeAny_handlers_suite_as (HandSPX.lands_againZ land3 fun g4 land4 up4 => ?_)
          have J2 : Inv X pins σ1 H1 { s1 with heap := g4 } := J0.landed keepB land4.1 ((up1.trans up3).trans up4) hos hag
          obtain ⟨o4, w4, there4, z4, dat4⟩ := land4.there
          have Su2 := J2.suite there4 dat4 noH notLoc notFs
          refine store_ok (X := X.suite p ((p, o4) :: (X.pn ++ pins))) (v := .ref p) Su2 hN hi (.inl hln) rfl (fun t5 S5 => ?_) (.inr hln)
          refine wpAny_mono ((hu p o4 cl dx (X.pn ++ pins) z4 ⟨_, dat4⟩).run [] t5 _ H1 _ S5 (ifYes rfl p noH)) (fun f t6 en => ?_) (fun _ _ z => z.elim)
          have fin : ∀ {σ6 : L2.St} {H6 : Hp} {Q : Shared → Prop}, Inv (X.suite p ((p, o4) :: (X.pn ++ pins))) [] σ6 H6 t6 → (∀ t7, Inv X pins (σ6.set i none) H6 t7 → Q t7) → wpAny (model X.prog X.w) X.A (do bindName X.env n .none; unbindBehindTheSuite X.env n hp) (fun _ t7 => Q t7) X.xe t6 :=
            fun {σ6 H6 Q} S6 hq => gone_ok (S6.unsuite okX) hN hi hln hq
          cases f with
          | next => obtain ⟨_, _, S6, q6⟩ := en; exact fin S6 fun _ J7 => ⟨_, _, J7, q6⟩
          | brk => obtain ⟨_, _, S6, q6⟩ := en; exact fin S6 fun _ J7 => ⟨_, _, J7, q6⟩
          | cont => obtain ⟨_, _, S6, q6⟩ := en; exact fin S6 fun _ J7 => ⟨_, _, J7, q6⟩
          | ret u => obtain ⟨_, _, _, S6, r6, q6⟩ := en; exact fin S6 fun _ J7 => ⟨_, _, _, J7, r6, q6⟩
        | false =>
          show wpAny _ X.A (handleBy (Value.ref p) X.env hs3) _ _ _
          exact ih (ifNo rfl)
      | @cons0 x c ts st sts np hp hs3 l3 hc hu r ih =>
        intro wsh
        obtain ⟨b, hit, ifYes, ifNo⟩ := wsh
        refine wpAny_handleBy_cons (codeAny_handlers_test ?_) (fun q => nomatch q)
        have LT : PySem.W.Looks (model X.prog X.w) g3 (typeOf (Value.ref p)) cl := fun A Q E t k q => wpAny_typeOf_ref (k _ _ there3) (by rw [z3.1]; exact q)
        have LM := PySem.W.exm_one (M := model X.prog X.w) J1.kIn LT hit
        have look : ∀ {Q E : Value → Shared → Prop}, Q c { s1 with heap := g3 } → wpAny (model X.prog X.w) (X.A.mark (some (.ref p))) (eval (.Name x np) X.env) Q E { s1 with heap := g3 } := fun {Q E} q => by
          obtain ⟨c1, c2, c3 | ⟨c3, c4, c5⟩⟩ := hc
          · exact ld_glob (X := X.suite p ((p, o3) :: (X.pn ++ pins))) Su c1 c3 q c2
          · exact ld_blt (X := X.suite p ((p, o3) :: (X.pn ++ pins))) Su c1 c3 c4 q c5 c2
        refine look (LM.here ?_)
        cases b with
        | true =>
          refine codeAny_handlers_suite (HandSPX.lands_againZ land3 fun g4 land4 up4 => ?_)
          have J2 : Inv X pins σ1 H1 { s1 with heap := g4 } := J0.landed keepB land4.1 ((up1.trans up3).trans up4) hos hag
          obtain ⟨o4, w4, there4, z4, dat4⟩ := land4.there
          have Su2 := J2.suite there4 dat4 noH notLoc notFs
          refine wpAny_mono ((hu p o4 cl dx (X.pn ++ pins) z4 ⟨_, dat4⟩).run [] _ _ H1 _ Su2 (ifYes rfl p noH)) (fun f t6 en => ?_) (fun _ _ z => z.elim)
          cases f with
          | next => obtain ⟨_, _, S6, q6⟩ := en; exact ⟨_, _, S6.unsuite okX, q6⟩
          | brk => obtain ⟨_, _, S6, q6⟩ := en; exact ⟨_, _, S6.unsuite okX, q6⟩
          | cont => obtain ⟨_, _, S6, q6⟩ := en; exact ⟨_, _, S6.unsuite okX, q6⟩
          | ret u => obtain ⟨_, _, _, S6, r6, q6⟩ := en; exact ⟨_, _, _, S6.unsuite okX, r6, q6⟩
        | false =>
          show wpAny _ X.A (handleBy (Value.ref p) X.env hs3) _ _ _
          exact ih (ifNo rfl)
    exact go hh wish
  · cases f with
    | next => obtain ⟨_, _, J1, q1⟩ := ends; exact wpAny_execs_nil ⟨_, _, J1.ofTry okX, q1⟩
    | brk => obtain ⟨_, _, J1, q1⟩ := ends; exact ⟨_, _, J1.ofTry okX, q1⟩
    | cont => obtain ⟨_, _, J1, q1⟩ := ends; exact ⟨_, _, J1.ofTry okX, q1⟩
    | ret u => obtain ⟨_, _, _, J1, r1, q1⟩ := ends; exact ⟨_, _, _, J1.ofTry okX, r1, q1⟩
end
end DL

/-! GH: over trees: try with several clauses, each with a name. -/
namespace DL
open PySem PySem.Spec PyProof.Rows L2
abbrev DClz := List (Str × Option Nat × DSu)
/-- the ends of a suite -/
def endsI (E : DEnds) (i : Option Nat) : DEnds := { nx := fun τ M => E.nx (setI i none τ) M, rt := E.rt, bk := fun τ M => E.bk (setI i none τ) M, ct := fun τ M => E.ct (setI i none τ) M }
/-- what an error of the body comes to -/
def xrMA (sub : Str → Str → Option Bool) (E : DEnds) : DClz → Str → List (Str × D) → DSt → Sto → Prop
  | [] => E.xr
  | (c, i, ts) :: r => fun n fs τ M => ∃ b, sub n c = some b ∧ (b = true → ∀ a dx, ts a dx n (endsI E i) (setI i (some (.exc a dx n fs)) τ) M) ∧ (b = false → xrMA sub E r n fs τ M)
/-- try: body, except c as ..: .., one clause behind another -/
def dTryMA (sub : Str → Str → Option Bool) (cl : DClz) (tb : DTS) : DTS := fun E τ M => tb { E with xr := xrMA sub E cl } τ M
variable [W0 : Wsh]
inductive DHd (X : Cx) (sub : Str → Str → Option Bool) : List ExceptHandler → DClz → Prop
  | nil : DHd X sub [] []
  | cons {x n : Str} {i : Nat} {ts : DSu} {st : Stmt} {sts : List Stmt} {np hp : Pos} {hds : List ExceptHandler} {l : DClz} (hN : X.N.Nodup) (hi : X.N[i]? = some n) (hln : X.env.kindOf n = some .local) (hc : Names X x (.ref (Wsh.cls x)))
      (hsub : ∀ m b, sub m x = some b → PySem.W.exmOne X.K (.ref (Wsh.cls m)) (.ref (Wsh.cls x)) = some b)
      (hsu : ∀ (a : Addr) (oe : Obj) (m : Str) (d : Option Addr) (pn : List (Addr × Obj)), sub m x = some true → Zc (.ref (Wsh.cls m)) d oe → (∃ vs, oe.data = .fields vs) → DSs (X.suite a ((a, oe) :: pn)) (st :: sts) (ts a d m))
      (r : DHd X sub hds l) : DHd X sub (.ExceptHandler (some (.Name x np)) (some n) (st :: sts) hp :: hds) ((x, some i, ts) :: l)
  | cons0 {x : Str} {ts : DSu} {st : Stmt} {sts : List Stmt} {np hp : Pos} {hds : List ExceptHandler} {l : DClz} (hc : Names X x (.ref (Wsh.cls x)))
      (hsub : ∀ m b, sub m x = some b → PySem.W.exmOne X.K (.ref (Wsh.cls m)) (.ref (Wsh.cls x)) = some b)
      (hsu : ∀ (a : Addr) (oe : Obj) (m : Str) (d : Option Addr) (pn : List (Addr × Obj)), sub m x = some true → Zc (.ref (Wsh.cls m)) d oe → (∃ vs, oe.data = .fields vs) → DSs (X.suite a ((a, oe) :: pn)) (st :: sts) (ts a d m))
      (r : DHd X sub hds l) : DHd X sub (.ExceptHandler (some (.Name x np)) none (st :: sts) hp :: hds) ((x, none, ts) :: l)
theorem dhd_ex {X : Cx} {sub : Str → Str → Option Bool} {hds : List ExceptHandler} {cl : DClz} (h : DHd X sub hds cl) : ∃ l : Clz, HdA X hds l ∧
    ∀ (E : DEnds) (Ee : Ends) (F H : Hp) (M : Sto), RefD X.K F H M E Ee → ∀ F1 H1 σ1 τ1 M1 m d fs, Stp F H M F1 H1 M1 → Rst X.K F1 H1 σ1 τ1 M1 → RelX X.K F1 d fs → xrMA sub E cl m fs τ1 M1 → wMA X.K Wsh.W Ee l (.ref (Wsh.cls m)) d σ1 H1 := by
  induction h with
  | nil => exact ⟨[], .nil, fun E Ee F H M r F1 H1 σ1 τ1 M1 m d fs e1 R1 rx q => r.xr F1 H1 σ1 τ1 M1 m d fs e1 R1 rx q⟩
  | @cons x n i ts st sts np hp hds cl hN hi hln hc hsub hsu r ih =>
    obtain ⟨l, hl, hq⟩ := ih
    let us : Addr → Value → Option Addr → TS := fun a c d D σ H => ∃ (m : Str) (hs : sub m x = some true), c = .ref (Wsh.cls m) ∧ ∀ (oe : Obj) (pn : List (Addr × Obj)) (hz : Zc (.ref (Wsh.cls m)) d oe) (hd : ∃ vs, oe.data = .fields vs), Classical.choose (hsu a oe m d pn hs hz hd).ex D σ H
    refine ⟨(.ref (Wsh.cls x), some i, us) :: l, .cons hN hi hln hc (fun a oe c d pn hz hd => ⟨fun pins s σ H D I q => ?_⟩) hl, ?_⟩
    · obtain ⟨m, hm, rfl, q⟩ := q
      exact (Classical.choose_spec (hsu a oe m d pn hm hz hd).ex).1.run pins s σ H D I (q oe pn hz hd)
    · rintro E Ee F H M rd F1 H1 σ1 τ1 M1 m d fs e1 R1 rx ⟨b, hb1, hy, hn⟩
      refine ⟨b, hsub m b hb1, fun hb2 a na => ⟨m, hb2 ▸ hb1, rfl, fun oe pn hz hd => ?_⟩, fun hb2 => hq E Ee F H M rd F1 H1 σ1 τ1 M1 m d fs e1 R1 rx (hn hb2)⟩
      have rs := (Classical.choose_spec (hsu a oe m d pn (hb2 ▸ hb1) hz hd).ex).2
      refine rs F1 H1 _ _ M1 _ _ ⟨R1.heap, R1.slots.set i (relD_exc rx)⟩ (hy hb2 a d) ⟨fun F2 H2 σ2 τ2 M2 e2 R2 z => ?_, fun F2 H2 σ2 τ2 M2 e2 R2 z => ?_, fun F2 H2 σ2 τ2 M2 e2 R2 z => ?_, fun v F2 H2 d M2 e2 R2 rv z => ?_, fun _ _ _ _ _ _ _ _ _ _ _ z => z.elim⟩
      · exact rd.nx F2 H2 _ _ M2 (e1.trans e2) ⟨R2.heap, R2.slots.gone i⟩ z
      · exact rd.bk F2 H2 _ _ M2 (e1.trans e2) ⟨R2.heap, R2.slots.gone i⟩ z
      · exact rd.ct F2 H2 _ _ M2 (e1.trans e2) ⟨R2.heap, R2.slots.gone i⟩ z
      · exact rd.rt v F2 H2 d M2 (e1.trans e2) R2 rv z
  | @cons0 x ts st sts np hp hds cl hc hsub hsu r ih =>
    obtain ⟨l, hl, hq⟩ := ih
    let us : Addr → Value → Option Addr → TS := fun a c d D σ H => ∃ (m : Str) (hs : sub m x = some true), c = .ref (Wsh.cls m) ∧ ∀ (oe : Obj) (pn : List (Addr × Obj)) (hz : Zc (.ref (Wsh.cls m)) d oe) (hd : ∃ vs, oe.data = .fields vs), Classical.choose (hsu a oe m d pn hs hz hd).ex D σ H
    refine ⟨(.ref (Wsh.cls x), none, us) :: l, .cons0 hc (fun a oe c d pn hz hd => ⟨fun pins s σ H D I q => ?_⟩) hl, ?_⟩
    · obtain ⟨m, hm, rfl, q⟩ := q
      exact (Classical.choose_spec (hsu a oe m d pn hm hz hd).ex).1.run pins s σ H D I (q oe pn hz hd)
    · rintro E Ee F H M rd F1 H1 σ1 τ1 M1 m d fs e1 R1 rx ⟨b, hb1, hy, hn⟩
      refine ⟨b, hsub m b hb1, fun hb2 a na => ⟨m, hb2 ▸ hb1, rfl, fun oe pn hz hd => ?_⟩, fun hb2 => hq E Ee F H M rd F1 H1 σ1 τ1 M1 m d fs e1 R1 rx (hn hb2)⟩
      have rs := (Classical.choose_spec (hsu a oe m d pn (hb2 ▸ hb1) hz hd).ex).2
      refine rs F1 H1 _ _ M1 _ _ R1 (hy hb2 a d) ⟨fun F2 H2 σ2 τ2 M2 e2 R2 z => ?_, fun F2 H2 σ2 τ2 M2 e2 R2 z => ?_, fun F2 H2 σ2 τ2 M2 e2 R2 z => ?_, fun v F2 H2 d M2 e2 R2 rv z => ?_, fun _ _ _ _ _ _ _ _ _ _ _ z => z.elim⟩
      · exact rd.nx F2 H2 _ _ M2 (e1.trans e2) R2 z
      · exact rd.bk F2 H2 _ _ M2 (e1.trans e2) R2 z
      · exact rd.ct F2 H2 _ _ M2 (e1.trans e2) R2 z
      · exact rd.rt v F2 H2 d M2 (e1.trans e2) R2 rv z
theorem ds_try_ma {X : Cx} {body : List Stmt} {hd0 : ExceptHandler} {hds : List ExceptHandler} {cl : DClz} {pos : Pos} {tb : DTS} {sub : Str → Str → Option Bool} (hs : X.stack = X.env :: X.outer) (hf : X.env.frame = some X.env.locals) (tk : Takes X Wsh.W)
    (hb : ∀ (W1 : Wsh) (pn : List (Addr × Obj)) (xe : Value → Shared → Prop), W1.cls = W0.cls → Takes (X.tr pn xe) W1.W → PassesOwn (model X.prog X.w) X.A X.env xe → @DSs W1 (X.tr pn xe) body tb) (hh : DHd X sub (hd0 :: hds) cl) :
    DS X (.Try body (hd0 :: hds) [] [] pos) (dTryMA sub cl tb) := by
  obtain ⟨l, hl, hq⟩ := dhd_ex hh
  let ub : WX → TS := fun W D σ H => ∀ (pn : List (Addr × Obj)) (xe : Value → Shared → Prop) (t1 : Takes (X.tr pn xe) W) (po : PassesOwn (model X.prog X.w) X.A X.env xe), Classical.choose (@DSs.ex ⟨W0.cls, W⟩ _ _ _ (hb ⟨W0.cls, W⟩ pn xe rfl t1 po)) D σ H
  refine ⟨_, ps_try_ma (tb := ub) hs hf tk (fun W pn xe t1 po => ⟨fun pins s σ H D I q => ?_⟩) hl, fun F H σ τ M E Ee R q r => ?_⟩
  · exact (Classical.choose_spec (@DSs.ex ⟨W0.cls, W⟩ _ _ _ (hb ⟨W0.cls, W⟩ pn xe rfl t1 po))).1.run pins s σ H D I (q pn xe t1 po)
  · intro pn xe t1 po
    have rb := (Classical.choose_spec (@DSs.ex ⟨W0.cls, wMA X.K Wsh.W Ee l⟩ _ _ _ (hb ⟨W0.cls, wMA X.K Wsh.W Ee l⟩ pn xe rfl t1 po))).2
    exact rb F H σ τ M _ Ee R q (@RefD.mk ⟨W0.cls, wMA X.K Wsh.W Ee l⟩ _ _ _ _ _ _ r.nx r.bk r.ct r.rt fun F1 H1 σ1 τ1 M1 m d fs e1 R1 rx z => hq E Ee F H M r F1 H1 σ1 τ1 M1 m d fs e1 R1 rx z)
end DL

/-! GI: errors whose __init__ says super().__init__(f, f2); self.f = f; self.f2 = f2. -/
namespace DL
open PySem PySem.Spec PyProof.Rows L2
open PySem.W PySem.Calls

/-- the body: super().__init__(f, f2); self.f = f; self.f2 = f2 -/
abbrev supBody2 (f f2 : Str) (p0 p1 p2 p3 q3 p4 p5 p6 p7 p8 p9 q6 q7 q8 q9 : Pos) : List Stmt :=
  [.Expr (.Call (.Attribute (.Call (.Name "super" p0) [] [] p1) "__init__" p2) [.Name f p3, .Name f2 q3] [] p4) p5, .Assign [.Attribute (.Name "self" p6) f p7] (.Name f p8) p9, .Assign [.Attribute (.Name "self" q6) f2 q7] (.Name f2 q8) q9]
/-- what the written part says of the class at C and its __init__ -/
structure SupC2 (P : Program) (K : Frag) (C : Addr) (f f2 : Str) (mg : Str → Option Value) : Prop where
  ox : OexC K C
  init : ∃ fI, findIn K (.ref C) "__init__" = some (some (.ref fI)) ∧ typeIn K (.ref fI) = some (.type "function") ∧
    ∃ (oc od : _) (qual : Str) (params : Arguments) (scope : Scope) (dV kV doc pm : Value) (an : Option Addr) (cda cc : Addr) (ct : Value) (osl : Array (Option Value)) (p0 p1 p2 p3 q3 p4 p5 p6 p7 p8 p9 q6 q7 q8 q9 : Pos) (ar : Arg)
      (ccl : Value) (cdd : Option Addr) (vs : Array Value) (ccs : Array (Option Value)) (file : Str) (tf : Tok) (cl : Value) (cld : Option Addr) (csl : Array (Option Value)),
      K.lookup fI = some ⟨oc, od, .func (ksFn "__init__" qual params (supBody2 f f2 p0 p1 p2 p3 q3 p4 p5 p6 p7 p8 p9 q6 q7 q8 q9) scope dV kV doc pm an (.ref cda) ct cc), osl⟩ ∧ codeIn K (.ref cda) qual = true ∧
      (∀ a u u2 : Value, bindArgs (ksFn "__init__" qual params (supBody2 f f2 p0 p1 p2 p3 q3 p4 p5 p6 p7 p8 p9 q6 q7 q8 q9) scope dV kV doc pm an (.ref cda) ct cc) ⟨[a, u, u2], []⟩ = pure [(("self" : Str), a), (f, u), (f2, u2)]) ∧
      (∀ x ∈ scope.names, x.2 ≠ .cell) ∧ scope.isCoroutine = false ∧ scope.isGenerator = false ∧ scope.kind = .function ∧
      scope.names.lookup ("super" : Str) = some .globalImplicit ∧ scope.names.lookup ("__class__" : Str) = some .free ∧ scope.names.lookup ("self" : Str) = some .local ∧ scope.names.lookup f = some .local ∧ scope.names.lookup f2 = some .local ∧
      (params.posonlyargs ++ params.args).head? = some ar ∧ ar.arg = "self" ∧
      K.lookup cda = some ⟨ccl, cdd, .fields vs, ccs⟩ ∧ vs[2]? = some (.str file tf) ∧ ((P.main.file : Str) == file) = true ∧ (P.main.scope.names.lookup ("super" : Str)).isSome = false ∧
      K.lookup cc = some ⟨cl, cld, .cell (some (.ref C)), csl⟩ ∧
      (∃ pl : Env → Sem Bool, ∀ env : Env, eval (.Call (.Attribute (.Call (.Name "super" p0) [] [] p1) "__init__" p2) [.Name f p3, .Name f2 q3] [] p4) env = (do
        let ov ← attributeBase (.Call (.Name "super" p0) [] [] p1) "__init__" env (eval (.Call (.Name "super" p0) [] [] p1) env)
        standAt p2.atName
        let (f', first) ← holding [ov] (getMethod ov "__init__" (pl env))
        callWith p4 f' first (backTo p4 (starEach [.Name f p3, .Name f2 q3] env)) [])) ∧
      (∀ env : Env, swapsWith (.Call (.Attribute (.Call (.Name "super" p0) [] [] p1) "__init__" p2) [.Name f p3, .Name f2 q3] [] p4) none p5.line env = pure false) ∧
      (∀ env : Env, swapsWith (.Name f p8) (some (.Attribute (.Name "self" p6) f p7)) p9.line env = pure false) ∧
      (∀ env : Env, swapsWith (.Name f2 q8) (some (.Attribute (.Name "self" q6) f2 q7)) q9.line env = pure false)
  exi : excInitIn K C [.type "ValueError", .type "Exception", .type "BaseException", .type "object"] "ValueError.__new__" = true
  nof : findIn K (.ref C) f = some none
  nof2 : findIn K (.ref C) f2 = some none
  sup : ks_superIn K C C "__init__" = some (some (.builtin "ValueError.__init__"))
  sub : subIn K (.ref C) (.type "ValueError") = some true
  slf : mroIn K C (.ref C) = some true
  opq : nsIn K cStatics "thirdparty.any" = some none
  mgs : mg "super" = none
  neq : (("self" : Str) == f) = false ∧ (f == ("__debug__" : Str)) = false
  neq2 : (("self" : Str) == f2) = false ∧ (f2 == ("__debug__" : Str)) = false ∧ (f == f2) = false

section
variable {P : Program} {w : World} {A : Around} {K : Frag} {mg mb : Str → Option Value} {hp : Heap} {g : Array GenState} {d : Drawn} {t : Nat} {os : OsState} {C e t0 : Addr} {u u2 : Value} {f f2 : Str} {R : Result → Shared → Prop}
theorem sup_run2 (T : SupC2 P K C f f2 mg) (KX : K.In hp) (lim : hp.NoLimit) (hns : hp.Ns mainGlobals mg) (hnb : hp.Ns builtinsNs mb) (hmb : mb "super" = some (.type "super")) (hroom : A.depth < recursionLimit)
    (he : hp.get? e = some (HandSPX.excO C t0)) (hKe : K.lookup e = none) {fI : Addr} (hfI : findIn K (.ref C) "__init__" = some (some (.ref fI)))
    (hR : ∀ h' t' dx t1, (∀ b o, b ≠ e → hp.get? b = some o → h'.get? b = some o) → hp.objs.size ≤ dx → dx ≠ e → h'.get? e = some { cls := .ref C, dict := some dx, data := .fields #[.ref t1, .none, .none, .none, .bool false, .none] } →
      h'.Ns1 dx (fun y => if y = f2 then some u2 else if y = f then some u else none) → R (.ok (.ret .none)) ⟨h', g, d, t', os⟩) :
    codeAny (model P w) A (.call (.ref fI) ⟨[.ref e, u, u2], []⟩) R ⟨hp, g, d, t, os⟩ := by
  obtain ⟨fI', hfI', tI, oc, od, qual, params, scope, dV, kV, doc, pm, an, cda, cc, ct, osl, p0, p1, p2, p3, q3, p4, p5, p6, p7, p8, p9, q6, q7, q8, q9, ar, ccl, cdd, vs, ccs, file, tf, cl, cld, csl, lk, cdI, bnd, ncell, hco, hgen, hk, sk, ck, slk, fk, fk2, hd, har, lcda, hvs, hfile, htop, lcc, ⟨pl, hcall⟩, hs1, hs2, hs3⟩ := T.init
  rw [hfI] at hfI'
  cases hfI'
  refine ks_codeAny_call_defAt (fd := ksFn "__init__" qual params (supBody2 f f2 p0 p1 p2 p3 q3 p4 p5 p6 p7 p8 p9 q6 q7 q8 q9) scope dV kV doc pm an (.ref cda) ct cc) (body := supBody2 f f2 p0 p1 p2 p3 q3 p4 p5 p6 p7 p8 p9 q6 q7 q8 q9) (binds := [(("self" : Str), .ref e), (f, u), (f2, u2)]) hroom (KX _ _ lk) rfl lim (codeRec_of KX cdI) rfl (BindsTo.of_eq (bnd _ _ _)) ncell ?_ (fun h₁ hns₁ k1 => ?_) hco hgen hk
  · intro y hy
    simp only [List.mem_cons, List.not_mem_nil, or_false] at hy
    rcases hy with rfl | rfl | rfl
    · exact slk
    · exact fk
    · exact fk2
  -- in the frame
  have K1 : K.In h₁ := KX.keeps k1
  have lt1 : ∀ b o, hp.get? b = some o → b ≠ hp.objs.size := fun b o z => Nat.ne_of_lt (Heap.lt_size z)
  obtain ⟨env, henv⟩ : ∃ env, env = callEnv (ksFn "__init__" qual params (supBody2 f f2 p0 p1 p2 p3 q3 p4 p5 p6 p7 p8 p9 q6 q7 q8 q9) scope dV kV doc pm an (.ref cda) ct cc) hp.objs.size fI := ⟨_, rfl⟩
  have e1 : env.scope = scope := by rw [henv]; rfl
  have e2 : env.locals = hp.objs.size := by rw [henv]; rfl
  have e3 : env.globals = mainGlobals := by rw [henv]; rfl
  have e4 : env.builtins = builtinsNs := by rw [henv]; rfl
  have e5 : env.func = some fI := by rw [henv]; rfl
  have e6 : env.code = .ref cda := by rw [henv]; rfl
  have e7 : env.cells = [(("__class__" : Str), cc)] := by rw [henv]; rfl
  have e8 : interactive env = false := by unfold interactive; rw [e1, hk]; rfl
  rw [← henv]
  refine ks_wpAt_execs_cons (ks_wpAt_Expr_any (ks_wpAt_MethodCall (pl := pl env) ?_ (hcall env)) e8 (hs1 env))
  refine ks_wpAt_super_base (by rw [Env.kindOf, e1]; exact sk) (by rw [Env.kindOf, e1]; exact ck) (by decide) e5 (K1 _ _ lk) rfl hd e6 (K1 _ _ lcda) rfl hvs hfile htop ?_
  refine ks_loadName_global (by rw [e1]; exact hk) (by rw [Env.kindOf, e1]; exact sk) (loadGlobal_builtin (by rw [e3]; exact hns.keeps k1) T.mgs (by rw [e4]; exact hnb.keeps k1) hmb ⟨rfl, ?_⟩)
  refine wpAny_loadName_free (by rw [e1]; exact hk) (by rw [Env.kindOf, e1]; exact ck) (by rw [e7]; rfl) ⟨_, K1 _ _ lcc, rfl⟩ ?_
  rw [har]
  refine wpAny_loadName_local (by rw [e1]; exact hk) (by rw [Env.kindOf, e1]; exact slk) (by rw [e2]; exact hns₁) (v := .ref e) ?_ ?_
  · simp [List.lookup, T.neq.1, T.neq2.1]
  obtain ⟨nm, qn, Nc, bs, bm, sn, subs, ab, col, dd, k0, kk1, k2, k3, k5, hC, hbm⟩ := T.ox.cls
  have hC1 := K1 _ _ hC
  have he1 : h₁.get? e = some (HandSPX.excO C t0) := k1 _ _ he
  refine ks_wpAny_isType_cls hC1 rfl ⟨rfl, ?_⟩
  refine ks_wpAny_call_super hC1 rfl he1 rfl (fun c z => by cases z) (looks_mroIn K1 T.slf) (fun h₂ hs2' k2' => ?_)
  -- the ledger
  have ne0 : e ≠ hp.objs.size := lt1 _ _ he
  have X₀ : K.In (hideAll hp [e]) := fun b o z => hideAll_get _ (KX b o z) (fun hb => by
    rw [List.mem_singleton.mp hb] at z
    rw [hKe] at z; cases z)
  have F1 : Fr (hideAll hp [e]) hp.objs.size h₁ (fun x => List.lookup x [(("self" : Str), .ref e), (f, u), (f2, u2)].reverse) := ⟨hns₁, fun b o z => k1 b o (of_hideAll _ z), Nat.le_of_eq (hideAll_size _ _)⟩
  have N1 : News (hideAll hp [e]) hp.objs.size h₁ [(e, excObj C t0 none .none)] := fun p hp' => by
    rw [List.mem_singleton.mp hp']
    exact ⟨he1, ne0, hideAll_none _ (by simp)⟩
  obtain ⟨F2, N2, l2⟩ := ks_newsPush (s := ⟨h₁, g, d, t + 3, os⟩) (o := ks_superObj C e C) F1 N1 rfl hs2' k2'
  have I2 : InstAt h₂ e (excObj C t0 none .none) C none := ⟨k2' _ _ he1, rfl, rfl, trivial⟩
  refine kxs_method (s := ⟨h₂, g, d, t + 3, os⟩) (so := h₁.objs.size) kxs_ValueError F2 X₀ N2 (by simp) I2 T.opq T.sup T.sub (by decide) (fun q h₃ F3 N3 l3 => ?_)
  have hns3 : h₃.Ns hp.objs.size (fun x => List.lookup x [(("self" : Str), .ref e), (f, u), (f2, u2)].reverse) := F3.ns
  have ldf : ∀ {h : Heap} {t' : Nat} {Q : Value → Shared → Prop} {E : Value → Shared → Prop} {p : Pos}, h.Ns hp.objs.size (fun x => List.lookup x [(("self" : Str), .ref e), (f, u), (f2, u2)].reverse) → Q u ⟨h, g, d, t', os⟩ → wpAny (model P w) (A.deeper env) (eval (.Name f p) env) Q E ⟨h, g, d, t', os⟩ := fun {h t' Q E p} hn hq =>
    wpAny_Name (wpAny_loadName_local (by rw [e1]; exact hk) (by rw [Env.kindOf, e1]; exact fk) (by rw [e2]; exact hn) (v := u) (by simp [List.lookup, T.neq2.2.2]) hq) T.neq.2
  have lds : ∀ {h : Heap} {t' : Nat} {Q : Value → Shared → Prop} {E : Value → Shared → Prop} {p : Pos}, h.Ns hp.objs.size (fun x => List.lookup x [(("self" : Str), .ref e), (f, u), (f2, u2)].reverse) → Q (.ref e) ⟨h, g, d, t', os⟩ → wpAny (model P w) (A.deeper env) (eval (.Name "self" p) env) Q E ⟨h, g, d, t', os⟩ := fun {h t' Q E p} hn hq =>
    wpAny_Name (wpAny_loadName_local (by rw [e1]; exact hk) (by rw [Env.kindOf, e1]; exact slk) (by rw [e2]; exact hn) (v := .ref e) (by simp [List.lookup, T.neq.1, T.neq2.1]) hq) (by decide)
  have ldg : ∀ {h : Heap} {t' : Nat} {Q : Value → Shared → Prop} {E : Value → Shared → Prop} {p : Pos}, h.Ns hp.objs.size (fun x => List.lookup x [(("self" : Str), .ref e), (f, u), (f2, u2)].reverse) → Q u2 ⟨h, g, d, t', os⟩ → wpAny (model P w) (A.deeper env) (eval (.Name f2 p) env) Q E ⟨h, g, d, t', os⟩ := fun {h t' Q E p} hn hq =>
    wpAny_Name (wpAny_loadName_local (by rw [e1]; exact hk) (by rw [Env.kindOf, e1]; exact fk2) (by rw [e2]; exact hn) (v := u2) (by simp [List.lookup]) hq) T.neq2.2.1
  refine kxs_callWith1 (i := "ValueError.__init__") (u := q) (x := e) N3 (by simp) (spliced_more (ldf hns3 (spliced_more (ldg hns3 (spliced_none ⟨kxs_at N3 (by simp), ?_⟩)))))
  have ls1 : e < h₁.objs.size := Heap.lt_size he1
  have nq : q ≠ e := Nat.ne_of_gt (Nat.lt_trans ls1 (l3 (h₁.objs.size, ks_superObj C e C) (by simp)))
  refine kxs_call (s := ⟨h₃, g, d, t + 4, os⟩) (t := t0) (dv := none) (c2 := .none) F3 X₀ N3 PySem.F.excBase_ValueError T.exi (by simp) (.tail nq (.tail (Nat.ne_of_gt ls1) (.head (by simp)))) (by rw [sizeLine_eq]; simp) (fun t' h₄ F4 N4 l4 => ?_)
  have K4 : K.In h₄ := X₀.keeps F4.keep
  have he4 : h₄.get? e = some (excObj C t' none .none) := (N4 (e, excObj C t' none .none) (by simp)).1
  have hcl : PySem.W.clsIn K C = some { name := nm, bases := bs, mro := .ref C :: bm, ns := Nc, qualname := qn, hasDict := true, slotNames := sn, subclasses := subs, abstract := ab, collection := col, hasDel := false } := by unfold PySem.W.clsIn; rw [hC] <;> rfl
  refine ks_wpAt_execs_cons (ks_wpAt_Assign_Attr (wpAt_of_wpAny (ldf F4.ns (lds F4.ns ?_))) (hs2 env))
  refine PySem.W.set_plain K4 (ox := { cls := .ref C, dict := none, data := .fields #[.ref t', .none, .none, .none, .bool false, .none] }) (od := none) ⟨he4, rfl, rfl, trivial⟩ T.ox.sa ?_
  refine PySem.HandSPX.exc_osa K4 he4 hcl (show PySem.HandSPX.refsVE (.ref C :: bm) = true from hbm) rfl T.nof (fun h' tk' dx k dn dne hx hn => ?_)
  have K5 : K.In h' := fun b o z => k b o (fun y => by rw [y, hKe] at z; cases z) (K4 b o z)
  have ns5 : h'.Ns hp.objs.size (fun x => List.lookup x [(("self" : Str), .ref e), (f, u), (f2, u2)].reverse) := by
    obtain ⟨oL, es, ep, hL, r⟩ := F4.ns
    exact ⟨oL, es, ep, k _ _ (fun z => ne0 z.symm) hL, r⟩
  obtain ⟨oD, hoD⟩ : ∃ oD, h'.get? dx = some oD := by
    obtain ⟨oD, _, _, z, _⟩ := hn
    exact ⟨oD, z⟩
  refine ks_wpAt_execs_cons (ks_wpAt_Assign_Attr (wpAt_of_wpAny (ldg ns5 (lds ns5 ?_))) (hs3 env))
  refine PySem.W.set_plain K5 (ox := { cls := .ref C, dict := some dx, data := .fields #[.ref t', .none, .none, .none, .bool false, .none] }) (od := some oD) ⟨hx, rfl, rfl, hoD⟩ T.ox.sa ?_
  refine PySem.OEX.osa_old (nl := [f]) K5 hx hn (fun y hy => ?_) (by simp) hcl (show PySem.HandSPX.refsVE (.ref C :: bm) = true from hbm) rfl T.nof2 (fun h'' tk'' kk hn2 => ?_)
  · by_cases c : y = f
    · rw [c]; exact List.mem_cons_self ..
    · rw [if_neg c] at hy; exact absurd rfl hy
  refine wpAt_of_wpAny (wpAny_execs_nil ?_)
  have lt4 : hp.objs.size < h₄.objs.size := F4.ns.lt
  refine hR h'' tk'' dx t' (fun b o hb hbo => kk b o (fun z => ?_) (k b o hb (F4.keep b o (hideAll_get _ hbo (by simpa using hb))))) (Nat.le_trans (Nat.le_of_lt F4.ns.lt) dn) dne (kk _ _ (Ne.symm dne) hx) hn2
  · have y := Heap.lt_size hbo
    rw [z] at y
    exact absurd (Nat.lt_trans y lt4) (Nat.not_lt.mpr dn)
end
section
variable {X : Cx} {x : Str} {p pos : Pos} {ex ex2 : Expr} {ta : TA} {C : Addr} {f f2 : Str}
def tMkS2 (C : Addr) (f f2 : Str) (ta : TA) : L2.St → Hp → XK → Prop := fun σ H Q => ta σ H fun vs H1 => ∃ y y2, vs = [y, y2] ∧ ∀ dx, H1 dx = none → Q (.ref C) (some dx) (upd H1 dx (.xd [(f2, y2), (f, y)]))
theorem pmk_sup2 (T : SupC2 X.prog X.K C f f2 X.mg) (hr : Room 1 X.A) (hg : Gl X x) (hm : X.mg x = some (.ref C)) (ha : PA X [ex, ex2] ta)
    (hdb : (x == ("__debug__" : Str)) = false := by decide) (he : starEach [ex, ex2] X.env = (false, eval ex X.env) :: starEach [ex2] X.env := by rfl) (hpl : (backTo pos (starEach [ex2] X.env)).any (·.1) = false := by rfl) :
    PMk X (.Call (.Name x p) [ex, ex2] [] pos) (tMkS2 C f f2 ta) := by
  intro pins s σ H Q I h
  obtain ⟨nm, qn, Nc, bs, bm, sn, sub, ab, col, dd, k0, k1, k2, k3, k5, hC, hbm⟩ := T.ox.cls
  obtain ⟨fI, iC, tI, _⟩ := T.init
  refine wpAny_Call_Name_kw (ld_glob I hg hm ?_ hdb)
  refine PySem.W.callWith_K (h₀ := X.base) I.ok.mod.kin T.ox.kC (thn (ha.run pos pins s σ H _ I h) fun us s1 ⟨vs, H1, I1, r1, y, y2, ev, q1⟩ => ⟨I1.kIn, ?_⟩) he hpl
  subst ev
  cases r1 with
  | @cons _ u _ us' ry rn =>
  cases rn with
  | @cons _ u2 _ us' ry2 rn =>
  cases rn
  show wpAny _ _ (call (.ref C) [u, u2]) _ _ _
  obtain ⟨hp, g, dr, tk, os⟩ := s1
  have kk : ∀ b o, hp.get? b = some o → ((hp.push (PySem.W.kdv_tup [u, u2])).push (PySem.HandSPX.excO C hp.objs.size)).get? b = some o := fun b o e => Heap.get?_push_of_some _ (Heap.get?_push_of_some _ e)
  have hget : ((hp.push (PySem.W.kdv_tup [u, u2])).push (PySem.HandSPX.excO C hp.objs.size)).get? (hp.objs.size + 1) = some (PySem.HandSPX.excO C hp.objs.size) := by heap_get
  obtain ⟨mb, hnb, hmb⟩ := I1.ok.mod.blt
  have kb : ∀ b o, X.base.get? b = some o → ((hp.push (PySem.W.kdv_tup [u, u2])).push (PySem.HandSPX.excO C hp.objs.size)).get? b = some o := fun b o z => kk b o (I1.bk b o z)
  have hKe : X.K.lookup (hp.objs.size + 1) = none := by
    cases z : X.K.lookup (hp.objs.size + 1) with
    | none => rfl
    | some o => exact absurd (Heap.lt_size (I1.kIn _ _ z)) (Nat.not_lt.mpr (Nat.le_succ _))
  refine wpAny_call (PySem.HandSPX.call_own PySem.F.excBase_ValueError (fun Y => PySem.HandSPX.refsVE_contains Y bm hbm) (I1.kIn _ _ hC) (PySem.W.looks_findIn I1.kIn iC) (fun self => PySem.W.bind_fn I1.kIn self tI) (by rw [sizeLine_eq]; simp)
    (sup_run2 (mb := mb) T (I1.ok.mod.kin.keeps kb) (I1.ok.mod.nolimit.keeps kb) (I1.ok.mod.glob.keeps kb) (hnb.keeps kb) ((hmb _ (by decide +kernel)).trans (by decide +kernel)) (hr.make C [u, u2] []).depth hget hKe iC (fun h' t' dx t1 k dn dne hx hn => ⟨rfl, ?_⟩)))
  have hda : dx ≠ hp.objs.size + 1 := dne
  have hdn : hp.objs.size ≤ dx := by
    refine Nat.le_trans ?_ dn
    exact Nat.le_of_lt (Nat.lt_trans (Nat.lt_succ_self _) (Heap.lt_size hget))
  obtain ⟨G, g1, g2⟩ := restrict h' fun b => decide (b ≠ hp.objs.size + 1)
  have gk : ∀ b, b ≠ hp.objs.size + 1 → G.get? b = h'.get? b := fun b hb => g1 b (decide_eq_true hb)
  have ge : G.get? (hp.objs.size + 1) = none := g2 _ (by simp)
  have nh : ∀ {b : Addr} {o : Obj}, hp.get? b = some o → b ≠ hp.objs.size + 1 := fun {b o} z => Nat.ne_of_lt (Nat.lt_succ_of_lt (Heap.lt_size z))
  have kG : ∀ b o, hp.get? b = some o → G.get? b = some o := fun b o z => by rw [gk b (nh z)]; exact k b o (nh z) (kk b o z)
  have hd1 : H1 dx = none := I1.hok.fresh hdn
  have J : Inv X pins σ (upd H1 dx (.xd [(f2, y2), (f, y)])) ⟨G, g, dr, t', os⟩ := I1.laid (t' := t') (a := dx) (o := .xd [(f2, y2), (f, y)]) (h' := G) kG hdn
    ⟨_, hn.at fun o z => (gk dx hda).trans z, relO_put (fs := [(f, y)]) ry2 (relO_put (fs := []) ry fun g => True.intro)⟩
  have na : (upd H1 dx (.xd [(f2, y2), (f, y)])) (hp.objs.size + 1) = none := by
    rw [upd_ne (Ne.symm hda)]
    exact I1.hok.fresh (Nat.le_succ _)
  exact ⟨hp.objs.size + 1, _, _, ⟨G, g, dr, t', os⟩, _, .ref C, some dx, rfl, J, fun b o z => by
    by_cases hb : b = hp.objs.size + 1
    · rw [hb, ge] at z; cases z
    · rw [← gk b hb]; exact z, ge, hx, ⟨rfl, rfl⟩, rfl, rfl, na, rfl, J.bare, raises_own T.ox.exC T.ox.tyC, q1 dx hd1⟩
end
/-! ### over trees -/
variable [Wsh]
theorem dmk_sup2 {X : Cx} {x f f2 : Str} {p pos : Pos} {e e2 : Expr} {te te2 : DTE} (T : SupC2 X.prog X.K (Wsh.cls x) f f2 X.mg) (hr : Room 1 X.A) (hm : X.mg x = some (.ref (Wsh.cls x))) (ha : DE X e te) (ha2 : DE X e2 te2) (hg : Gl X x := by rfl)
    (hdb : (x == ("__debug__" : Str)) = false := by decide) (he : starEach [e, e2] X.env = (false, eval e X.env) :: starEach [e2] X.env := by rfl) (h2 : starEach [e2] X.env = (false, eval e2 X.env) :: starEach [] X.env := by rfl)
    (hpl : (backTo pos (starEach [e2] X.env)).any (·.1) = false := by rfl) :
    DMk X (.Call (.Name x p) [e, e2] [] pos) (fun τ M Xd => te τ M fun d M1 => te2 τ M1 fun d2 M2 => Xd x [(f2, d2), (f, d)] M2) := by
  obtain ⟨u, pu, ru⟩ := ha.ex
  obtain ⟨u2, pu2, ru2⟩ := ha2.ex
  refine ⟨_, pmk_sup2 T hr hg hm (pa_cons pu (pa_cons pu2 pa_nil h2) he) hdb he hpl, fun F H σ τ M Xd Q R q kx => ?_⟩
  refine ru F H σ τ M _ _ R q fun v F1 H1 d M1 e1 R1 r1 q1 => ?_
  refine ru2 F1 H1 σ τ M1 _ _ R1 q1 fun v2 F2 H2 d2 M2 e2 R2 r2 q2 => ⟨v, v2, rfl, fun dx hdx => ?_⟩
  obtain ⟨e3, R3⟩ := R2.heap.frozen (o := .xd [(f2, v2), (f, v)]) hdx
  exact kx _ _ M2 x (some dx) [(f2, d2), (f, d)] ((e1.trans e2).trans e3) (R2.mono e3.ext R3) (.inr ⟨dx, [(f2, v2), (f, v)], rfl, upd_same, .cons (r2.mono e3.ext) (.cons (r1.mono (e2.trans e3).ext) .nil)⟩) q2
end DL

/-! GJ: {k: v} with one key, a tuple of ints, texts and such. -/
namespace DL
open PySem PySem.Spec PyProof.Rows L2
variable [Wsh]
section
variable {X : Cx} {pos : Pos}
omit [Wsh] in
theorem tobj_new {w : World} (h : Heap) (hb : sysModules < h.objs.size) : TObj w h.objs.size [] (h.push { cls := .type "dict", data := .dict #[] }) :=
  ⟨Nat.zero_le _, beq_eq_false_iff_ne.mpr (Ne.symm (Nat.ne_of_lt hb)), [], .nil, _, #[], 0, Heap.get?_push_size _ rfl, ⟨rfl, rfl, rfl⟩, rfl, rfl, List.nodup_nil⟩
/-- {k: v}; the new dict stands empty while both are made -/
def tDisp1 (X : Cx) (tk tv : TE) : TE := fun σ H Q => ∀ p, H p = none → tk σ (upd H p (.ext (TObj X.w p []))) fun x H1 => tv σ H1 fun y H2 =>
  ∃ F k, HasT X F H2 p [] ∧ KeyV X.K F k x ∧ Q (.ref p) (upd H2 p (.ext (TObj X.w p [(k, x, y)])))
theorem pe_disp1 {k v : Expr} {tk tv : TE} (hu : X.A.units + 9 < cLine) (hk : PE X k tk) (hv : PE X v tv) : PE X (.Dict [some k] [v] pos) (tDisp1 X tk tv) := by
  refine ⟨fun pins s σ H Q I q => ?_⟩
  have hn := I.hok.fresh (Nat.le_refl s.heap.objs.size)
  have I1 := I.laid (a := s.heap.objs.size) (o := .ext (TObj X.w s.heap.objs.size [])) (h' := s.heap.push { cls := .type "dict", data := .dict #[] }) (t' := s.toks) (fun _ _ q => Heap.get?_push_of_some _ q) (Nat.le_refl _) (tobj_ok (tobj_new s.heap I.big))
  rw [arm_eval_Dict, zip_pairTrees [some k] [v] X.env pos rfl rfl, dictDisplay_pairs (pairTrees [some k] [v] X.env pos) (by simp [pairTrees]) (show (1 : Nat) < 17 by decide)]
  refine wpAny_bind (wpAny_standAt (wpAny_bind ?_))
  unfold subDict
  refine wpAny_bind (wpAny_alloc ?_)
  refine wpAny_bind (wpAny_holding ?_)
  rw [if_pos (show (pairTrees [some k] [v] X.env pos).length ≤ 15 from (show (1 : Nat) ≤ 15 by decide))]
  refine wpAny_bind (pairTrees_cons_walk (thn (hk.run pins _ σ _ _ I1 (q _ hn)) fun u s1 ⟨x, H1, I2, rx, q1⟩ => thn (hv.run pins s1 σ H1 _ I2 q1) fun w2 s2 ⟨y, H2, I3, ry, F, kk, hT, hK, q2⟩ => pairTrees_nil_walk ?_))
  refine wpAny_holding (wpAny_bind ?_)
  obtain ⟨z, n, vs, pr, hD⟩ := hT.dict I3
  cases pr
  rw [List.forIn_cons]
  refine wpAny_bind (wpAny_bind (set_val (by omega) (hK.is I3 hT.ext rx) hK.1 hD (fun h' hD' sb => ?_) (Nat.zero_le _)))
  obtain ⟨ob, es, ep, ho, hx, hd, he', _, nd⟩ := hD'
  have nob : TObj X.w s.heap.objs.size [(kk, x, y)] h' := ⟨by rw [sizeLine_eq]; simp, n, _, .cons ⟨rfl, rx, ry⟩ .nil, ob, es, ep, ho, hx, hd, he', nd⟩
  have I4 := I3.write (x := s.heap.objs.size) (e := s.heap.objs.size) (o := .ext (TObj X.w s.heap.objs.size [(kk, x, y)])) (h' := h') (t' := s2.toks + kk.draws) (by rw [hT.at_]; exact True.intro) (.inl rfl) (fun b u hb hu => by rw [sb.2 b hb]; exact hu) ⟨ob, ho⟩ (tobj_ok nob)
  refine wpAny_pure ?_
  dsimp only
  rw [List.forIn_nil]
  exact wpAny_pure (wpAny_pure (wpAny_pure (wpAny_pure ⟨.ref s.heap.objs.size, _, I4, rfl, q2⟩)))
end
end DL

/-! GK: the law called from outside, where it is known that something stands at sys.modules (for the repr of lists and dicts together). Printed from DB. -/
namespace DL
open PySem PySem.Spec PyProof.Rows L2
variable [Wsh]
/-- where the law is called nothing is tracked but the script -/
theorem law_startS {P : Program} {w : World} {K : PySem.W.Frag} {mg mb : Str → Option Value} {k : Nat} {a : Addr} {s : Shared} {vs : List Value} {ns : List Int} {H : Hp} {fa : Addr} {fd : FuncData} {x : Str} {sp : Sp}
    (KX : K.In s.heap) (hns : s.heap.Ns mainGlobals mg) (hb : s.heap.Ns builtinsNs mb) (hbb : ∀ y : Str, y ≠ "__name__" → mb y = bootBuiltins y) (hlim : s.heap.NoLimit) (hsm : ∃ mm, s.heap.Ns sysModules mm) (hgens : s.gens = #[])
    (ha : s.heap.get? a = some { cls := .type "list", data := .seq vs.toArray }) (hr : Room k callerA) (hO : Only H) (hok : HOk P w H s.heap) (hA : ∀ b, H b ≠ none → b = a) (hK : H a ≠ none → K.lookup a = none)
    (G : ∀ base : Heap, K.In base → base.Ns mainGlobals mg → (∃ o, base.get? sysModules = some o) → FnG P w K mg base CX0 k fa fd [x] sp) (hbind : ∀ (s : Shared) (u : Value), BindsTo s fd ⟨[u], []⟩ [(x, u)])
    (hsp : sp [.ref a] H (fun v _ => v = .bl true) fun _ _ _ => False) :
    codeAny (model P w) callerA (.call (.ref fa) ⟨[.ref a], []⟩) (fun r s' => r = .ok (.ret (.bool true)) ∧ OldK s.heap s'.heap ∧ s'.os = s.os ∧ AllBare s'.gens) s := by
  have dictFree : ∀ {b : Addr} {o : Obj} {es : Array DictEntry} {ep : Nat}, s.heap.get? b = some o → o.data = .dict es ep → H b = none := by
    intro b o es ep e d
    apply Classical.byContradiction
    intro n
    have z := hA b n
    subst z
    rw [ha] at e
    cases e
    cases d
  have low : ∀ {b : Addr} {o : Obj}, s.heap.get? b = some o → H b = none → (hidT s.heap H).get? b = some o := fun e n => hidT_get e n
  have ns2 : ∀ {b : Addr} {m : Str → Option Value}, s.heap.Ns b m → (hidT s.heap H).Ns b m := by
    rintro b m ⟨o, es, ep, e, d, r⟩
    exact ⟨o, es, ep, low e (dictFree e d), d, r⟩
  have kin : K.In (hidT s.heap H) := by
    intro b o e
    apply low (KX b o e)
    apply Classical.byContradiction
    intro n
    have z := hA b n
    subst z
    rw [hK n] at e
    cases e
  obtain ⟨mc, l1, l2⟩ := hlim
  have md : Mod K mg (hidT s.heap H) := ⟨kin, ns2 hns, ⟨mb, ns2 hb, hbb⟩, ⟨mc, ns2 l1, l2⟩⟩
  have e0 : Env0 P w K mg (hidT s.heap H) callerA [] s H := by
    refine ⟨rfl, md, ?_, ?_, trivial, ?_, hok, .of_eq hgens⟩
    · intro b o e; exact of_hidT e
    · rw [hidT_size]; exact Nat.le_refl _
    · intro b z; cases z
  have run := (G _ kin (ns2 hns) (by obtain ⟨mm, z⟩ := hsm; obtain ⟨o, es, ep, e, _⟩ := ns2 z; exact ⟨o, e⟩)).goes (args := ⟨[.ref a], []⟩) (us := [.ref a]) rfl hr e0 (vs := [V.ref a]) (hbind s (.ref a)) (Paired.cons (show RelV (V.ref a) (Value.ref a) from rfl) .nil) hsp
  refine codeAny_mono run ?_
  intro r s' h
  match r, h with
  | .error e, h => exact h.elim
  | .ok .next, h => exact h.elim
  | .ok .brk, h => exact h.elim
  | .ok .cont, h => exact h.elim
  | .ok (.ret u), ⟨v, H', os, bare, un, hok', r', q⟩ =>
    subst q
    cases r'
    refine ⟨rfl, OldK.of_keep ?_, os, bare⟩
    intro b o e
    rcases hO b with z | ⟨ob, xs, z⟩
    · exact un.keep b o e z (fun y => nomatch y) (fun y => nomatch y)
    · have z2 := un.frzs b ob _ z
      have y1 : s.heap.get? b = some ob := (hok b _ z).1
      have y2 : s'.heap.get? b = some ob := (hok' b _ z2).1
      rw [e] at y1
      rw [y2, y1]
theorem law_goesS {P : Program} {w : World} {K : PySem.W.Frag} {mg mb : Str → Option Value} {k : Nat} {fa a : Addr} {fd : FuncData} {x : Str} {sp : Sp} {s : Shared} {vs : List Value} {ns : List Int}
    (KX : K.In s.heap) (hns : s.heap.Ns mainGlobals mg) (hb : s.heap.Ns builtinsNs mb) (hbb : ∀ y : Str, y ≠ "__name__" → mb y = bootBuiltins y) (hlim : s.heap.NoLimit) (hsm : ∃ mm, s.heap.Ns sysModules mm) (hgens : s.gens = #[])
    (ha : s.heap.get? a = some { cls := .type "list", data := .seq vs.toArray }) (hi : IntsAre vs ns) (hl : ns.length ≤ sizeLine) (hr : Room k callerA)
    (G : ∀ base : Heap, K.In base → base.Ns mainGlobals mg → (∃ o, base.get? sysModules = some o) → FnG P w K mg base CX0 k fa fd [x] sp) (hbind : ∀ (s : Shared) (u : Value), BindsTo s fd ⟨[u], []⟩ [(x, u)])
    (hsp : ∀ H : Hp, Only H → SqL K H a (ns.map V.int) → sp [.ref a] H (fun v _ => v = .bl true) fun _ _ _ => False) :
    codeAny (model P w) callerA (.call (.ref fa) ⟨[.ref a], []⟩) (fun r s' => r = .ok (.ret (.bool true)) ∧ OldK s.heap s'.heap ∧ s'.os = s.os ∧ AllBare s'.gens) s := by
  have rv := vals_ints hi
  have n1 : vs.length = ns.length := hi.length
  cases hk : K.lookup a with
  | some o =>
    have e := KX a o hk
    rw [ha] at e
    cases e
    have hS : SqL K (fun _ => none) a (ns.map V.int) := by
      refine .inr ⟨_, vs.toArray, _, hk, rfl, rfl, rfl, ?_, ?_⟩
      · rw [List.size_toArray, n1]; exact hl
      · simpa using rv
    refine law_startS (ns := ns) KX hns hb hbb hlim hsm hgens ha hr (H := fun _ => none) (fun _ => .inl rfl) ?_ ?_ ?_ G hbind (hsp _ (fun _ => .inl rfl) hS)
    · intro b u z; cases z
    · intro b z; exact absurd rfl z
    · intro z; exact absurd rfl z
  | none =>
    let HS : Hp := upd (fun _ => none) a (.frz { cls := .type "list", data := .seq vs.toArray } (.lst (ns.map V.int)))
    have at_a : HS a = some (.frz { cls := .type "list", data := .seq vs.toArray } (.lst (ns.map V.int))) := upd_same
    have off : ∀ b, b ≠ a → HS b = none := fun b n => upd_ne n
    have only : Only HS := by
      intro b
      by_cases z : b = a
      · subst z; exact .inr ⟨_, _, at_a⟩
      · exact .inl (off b z)
    refine law_startS (ns := ns) KX hns hb hbb hlim hsm hgens ha hr (H := HS) only ?_ ?_ (fun _ => hk) G hbind (hsp _ only (.inl (.inr ⟨_, at_a⟩)))
    · intro b u z
      by_cases y : b = a
      · subst y
        rw [at_a] at z
        cases z
        exact ⟨ha, by rw [List.length_map]; exact hl, vs, _, rv, ha⟩
      · rw [off b y] at z; cases z
    · intro b z
      apply Classical.byContradiction
      intro y
      exact z (off b y)
/-- the goal behind the head, from the law's promise over trees -/
theorem walkGS {l : PySem.W.OpenLaw} {n k : Nat} {q : Program} {loose : List Str} {XP : (Str → Option Value) → Heap → Prop} {YP : World → Heap → Prop} {d : DefRec} {K : Params → PySem.W.Frag} {dsp : DSp} {x : Str}
    (hn : l.most = some n) (hn2 : n ≤ sizeLine) (hdf : d.params.defaults = []) (hr : Room k callerA) (hi : importsNone q = true)
    (hY : ∀ (w : World) (h : Heap), YP w h → (K w.params).In h)
    (G : ∀ (w : World) (mg : Str → Option Value) (fa : Addr) (h : Heap), (K w.params).In h → h.Ns mainGlobals mg → mg d.name = some (.ref fa) →
      ∃ fd : FuncData, (∀ (s : Shared) (u : Value), BindsTo s fd ⟨[u], []⟩ [(x, u)]) ∧
        ∀ base : Heap, (K w.params).In base → base.Ns mainGlobals mg → (∃ o, base.get? sysModules = some o) → FnG l.prog w (K w.params) mg base CX0 k fa fd [x] (spD (K w.params) dsp))
    (hsp : ∀ ns : List Int, ns.length ≤ n → dsp [.rol (ns.map D.int)] (fun _ => none) (fun d _ => d = .bl true)) :
    PySem.W.WalkO q loose XP YP l.row.toRowW d [] (fun f vs => PySem.call f vs) := by
  apply Att.attach_call hn hdf
  intro w s₀ s₁ mg mb fa o pm cd doc a vs ns Gf Y ho hd hcd hmg hobj hints hlen hg
  have KX := hY w _ Y
  obtain ⟨fd, hb, hF⟩ := G w mg fa _ KX Gf.T.g hmg
  apply law_goesS KX Gf.T.g Gf.T.b Gf.T.builtins Gf.T.nolimit (let ⟨mm, z, _⟩ := (Gf.T.seer hi).mods; ⟨mm, z⟩) hg hobj hints (Nat.le_trans hlen hn2) hr hF hb
  intro H hO hS
  have allInts : ∀ ns : List Int, RelDs (K w.params) H (ns.map V.int) (ns.map D.int) := by
    intro ns
    induction ns with
    | nil => exact .nil
    | cons i r ih => exact .cons (.int i) ih
  refine ⟨H, fun _ => none, [.rol (ns.map D.int)], fun d _ => d = .bl true, ⟨Ext.refl H, fun b u z => nomatch z⟩, .cons (.rol hS (allInts ns)) .nil, hsp ns hlen, ?_⟩
  intro v F' H' d M' _ _ rd e
  subst e
  cases rd
  rfl
end DL

/-! GL: over trees: {k: v} with one key; plain errors. -/
namespace DL
open PySem PySem.Spec PyProof.Rows L2
variable [Wsh]
section
variable {X : Cx} {pos p : Pos}
/-- {k: v}, k a tuple of ints, texts and such -/
def dDisp1 (tk tv : DTE) : DTE := fun τ M Q => tk τ M fun x M1 => tv τ M1 fun y M2 => ∃ k, nkD x = some k ∧ k.depth ≤ 8 ∧ Q (.dc1 x y) M2
theorem de_disp1 {k v : Expr} {tk tv : DTE} (hu : X.A.units + 9 < cLine) (hk : DE X k tk) (hv : DE X v tv) : DE X (.Dict [some k] [v] pos) (dDisp1 tk tv) := by
  obtain ⟨u, pu, ru⟩ := hk.ex
  obtain ⟨w, pw, rw'⟩ := hv.ex
  refine ⟨_, pe_disp1 hu pu pw, fun F H σ τ M Qd Q R q kx p hp => ?_⟩
  obtain ⟨hf, hm⟩ := R.heap.free hp
  refine ru F _ σ τ M _ _ ⟨R.heap.side hm hf _, R.slots⟩ q fun x F1 H1 dx M1 e1 R1 r1 q1 => ?_
  refine rw' F1 H1 σ τ M1 _ _ R1 q1 fun y F2 H2 dy M2 e2 R2 r2 q2 => ?_
  obtain ⟨kk, h1, h2, q2⟩ := q2
  obtain ⟨g1, m1, f1⟩ := (e1.trans e2).kp p _ upd_same hm
  refine ⟨F2, kk, ⟨g1, R2.heap.sub, fun _ z => nomatch z⟩, ⟨h2, dx, h1, r1.mono e2.ext⟩, ?_⟩
  have hf2 : F2 p = none := f1 hf
  have s1 : Stp F H M F2 H2 M2 := ((Stp.refl F H M).side hp _).trans (e1.trans e2)
  have ex : Ext F2 (upd F2 p (.ext (TObj X.w p [(kk, x, y)]))) := Ext.new hf2
  have s2 : Stp F H M (upd F2 p (.ext (TObj X.w p [(kk, x, y)]))) (upd H2 p (.ext (TObj X.w p [(kk, x, y)]))) M2 := by
    refine ⟨s1.ext.trans ex, fun b o q n => ?_, fun b q => ?_⟩
    · have hb : b ≠ p := ne_of_none q hp
      obtain ⟨a1, a2, a3⟩ := s1.kp b o q n
      exact ⟨by rw [upd_ne hb]; exact a1, a2, fun z => by rw [upd_ne hb]; exact a3 z⟩
    · by_cases hb : b = p
      · rw [hb]; exact hp
      · rw [upd_ne hb] at q; exact s1.al b q
  have R3 : Rst0 X.K (upd F2 p (.ext (TObj X.w p [(kk, x, y)]))) (upd H2 p (.ext (TObj X.w p [(kk, x, y)]))) M2 := by
    refine ⟨fun b u q => ?_, fun b u q => ?_⟩
    · by_cases hb : b = p
      · subst hb; rw [upd_same] at q ⊢; exact q
      · rw [upd_ne hb] at q ⊢; exact R2.heap.sub b u q
    · have hb : b ≠ p := Sto.ne q m1
      obtain ⟨h1, ho, h2, h3⟩ := R2.heap.sto b u q
      exact ⟨by rw [upd_ne hb]; exact h1, ho, by rw [upd_ne hb]; exact h2, h3.mono ex⟩
  exact kx (.ref p) _ _ (.dc1 dx dy) M2 s2 (R.mono s2.ext R3) (.dc1 upd_same (r1.mono (e2.ext.trans ex)) (r2.mono ex)) q2
/-- C(), C an own error without an __init__ of its own -/
theorem dmk_own00 {x : Str} (q : PySem.W.excIn X.K (Wsh.cls x) [.type "ValueError", .type "Exception", .type "BaseException", .type "object"] "ValueError.__new__" = true) (gC : X.mg x = some (.ref (Wsh.cls x)))
    (kC : PySem.W.keepIn X.K (.ref (Wsh.cls x)) = true) (r : Raises X (.ref (Wsh.cls x))) (hg : Gl X x := by rfl) (hdb : (x == ("__debug__" : Str)) = false := by decide) :
    DMk X (.Call (.Name x p) [] [] pos) (fun _ M Xd => Xd x [] M) :=
  ⟨_, pmk_own00 PySem.F.excBase_ValueError q gC kC r hg hdb, fun F H σ τ M Xd Q R q kx => kx F H M x none [] (Stp.refl F H M) R (.inl ⟨rfl, rfl⟩) q⟩
end
end DL

/-! GM: a family of own errors, all right below one base class: which is below which. -/
namespace DL
open PySem PySem.Spec PyProof.Rows L2
abbrev veMro : List Value := [.type "ValueError", .type "Exception", .type "BaseException", .type "object"]
/-- what stands behind a class itself in its order of bases -/
def bmOf (cls : Str → Addr) (b n : Str) : List Value := if n = b then veMro else .ref (cls b) :: veMro
/-- what the written part says of the class called n, below the base class called b -/
structure ErC (K : PySem.W.Frag) (cls : Str → Addr) (b n : Str) : Prop where
  lk : ∃ q N bs sn sub ab col dd k0 k1 k2 k3 k5, K.lookup (cls n) = some (excClassObj n q (cls n) N bs (bmOf cls b n) true sn sub ab col dd k0 k1 k2 k3 k5 "ValueError.__new__")
  ga : PySem.W.findIn K (.ref (cls n)) "__getattribute__" = some (some (.builtin "BaseException.__getattribute__"))
  gg : PySem.W.findIn K (.ref (cls n)) "__getattr__" = some none
  cc : PySem.W.findIn K (.ref (cls n)) "__class__" = some (some (.builtin "object.__class__"))
  kp : PySem.W.keepIn K (.ref (cls n)) = true
/-- what hangs at no class -/
structure ErK (K : PySem.W.Frag) : Prop where
  hn : PySem.W.specialIn K (.builtin "object.__class__") "__get__" = some (some (.builtin "getset_descriptor.__get__"))
  ht : PySem.W.takesIn K (.builtin "object.__class__") = some true
/-- is the class m the class n, or below it -/
def subB (b m n : Str) : Bool := decide (m = n) || decide (n = b)
section
variable {K : PySem.W.Frag} {cls : Str → Addr} {b m n : Str}
theorem ErC.cl (h : ErC K cls b n) : ∃ cd : ClassData, PySem.W.clsIn K (cls n) = some cd ∧ cd.name = n ∧ cd.mro = .ref (cls n) :: bmOf cls b n ∧ cd.hasDict = true := by
  obtain ⟨q, N, bs, sn, sub, ab, col, dd, k0, k1, k2, k3, k5, e⟩ := h.lk
  refine ⟨{ name := n, bases := bs, mro := .ref (cls n) :: bmOf cls b n, ns := N, qualname := q, hasDict := true, slotNames := sn, subclasses := sub, abstract := ab, collection := col, hasDel := false }, ?_, rfl, rfl, rfl⟩
  unfold PySem.W.clsIn
  rw [e] <;> rfl
theorem ErC.ty (h : ErC K cls b n) : PySem.W.typeIn K (.ref (cls n)) = some (.type "type") := by
  obtain ⟨q, N, bs, sn, sub, ab, col, dd, k0, k1, k2, k3, k5, e⟩ := h.lk
  show (K.lookup (cls n)).map (·.cls) = _
  rw [e]
  rfl
theorem ErC.inj (h1 : ErC K cls b m) (h2 : ErC K cls b n) (e : cls m = cls n) : m = n := by
  obtain ⟨c1, a1, b1, _⟩ := h1.cl
  obtain ⟨c2, a2, b2, _⟩ := h2.cl
  rw [e, a2] at a1
  cases a1
  rw [← b1, ← b2]
theorem ErC.mro (h1 : ErC K cls b m) (v : Value) : PySem.W.subIn K (.ref (cls m)) v = some ((Value.ref (cls m) :: bmOf cls b m).contains v) := by
  obtain ⟨c1, a1, _, d1, _⟩ := h1.cl
  show PySem.W.mroIn K (cls m) v = _
  unfold PySem.W.mroIn
  rw [a1, Option.bind_some, d1]
  rfl
theorem ErC.subT (h1 : ErC K cls b m) {v : Value} (h : v ∈ veMro) : PySem.W.subIn K (.ref (cls m)) v = some true := by
  rw [h1.mro, List.contains_iff_mem.mpr]
  refine List.mem_cons_of_mem _ ?_
  unfold bmOf
  split
  · exact h
  · exact List.mem_cons_of_mem _ h
theorem ErC.subC (hb : ErC K cls b b) (h1 : ErC K cls b m) (h2 : ErC K cls b n) : PySem.W.subIn K (.ref (cls m)) (.ref (cls n)) = some (subB b m n) := by
  rw [h1.mro]
  congr 1
  rw [Bool.eq_iff_iff, List.contains_iff_mem]
  unfold subB bmOf
  simp only [Bool.or_eq_true, decide_eq_true_eq, List.mem_cons, Value.ref.injEq]
  constructor
  · rintro (h | h)
    · exact .inl (h1.inj h2 h.symm)
    · split at h
      · simp [veMro] at h
      · simp only [List.mem_cons, Value.ref.injEq] at h
        rcases h with h | h
        · exact .inr (h2.inj hb h)
        · simp [veMro] at h
  · rintro (rfl | rfl)
    · exact .inl rfl
    · by_cases e : m = n
      · subst e; exact .inl rfl
      · rw [if_neg e]; exact .inr (List.mem_cons_self ..)
theorem ErC.kitC (hb : ErC K cls b b) (h1 : ErC K cls b m) (h2 : ErC K cls b n) : PySem.W.kitCls K (.ref (cls m)) (.ref (cls n)) = some (subB b m n) := by
  obtain ⟨c2, a2, _⟩ := h2.cl
  unfold PySem.W.kitCls
  dsimp only
  rw [if_pos, ErC.subC hb h1 h2]
  rw [a2, h2.ty]
  rfl
theorem ErC.kit (hb : ErC K cls b b) (h1 : ErC K cls b m) (h2 : ErC K cls b n) : PySem.W.kitOne K (.ref (cls m)) (.ref (cls n)) = some (subB b m n) := by
  unfold PySem.W.kitOne
  split
  · rename_i h
    have e : cls m = cls n := by simpa using h
    rw [h1.inj h2 e]
    simp [subB]
  · exact ErC.kitC hb h1 h2
theorem ErC.exm (hb : ErC K cls b b) (h1 : ErC K cls b m) (h2 : ErC K cls b n) : PySem.W.exmOne K (.ref (cls m)) (.ref (cls n)) = some (subB b m n) := by
  unfold PySem.W.exmOne
  rw [if_pos, ErC.kitC hb h1 h2]
  rw [h2.subT (by simp [veMro])]
  rfl
theorem ErC.kitV (h1 : ErC K cls b m) : PySem.W.kitOne K (.ref (cls m)) (.type "ValueError") = some true := by
  unfold PySem.W.kitOne
  rw [if_neg (by simp)]
  unfold PySem.W.kitCls
  dsimp only
  rw [if_pos (by decide +kernel), h1.subT (by simp [veMro])]
theorem ErC.isc (h : ErC K cls b n) (hk : ErK K) : IsC K (cls n) := by
  obtain ⟨c, a, _⟩ := h.cl
  exact ⟨by rw [a]; rfl, h.ga, h.gg, h.subT (by simp [veMro]), h.cc, hk.hn, hk.ht, h.subT (v := .type "object") (by simp [veMro])⟩
theorem ErC.xf (h : ErC K cls b n) : XfC K (cls n) := by
  obtain ⟨c, a, _, _, d⟩ := h.cl
  exact ⟨h.ga, h.gg, h.subT (by simp [veMro]), by unfold PySem.W.hasDictIn; rw [a]; exact d⟩
theorem ErC.raises {X : Cx} {n : Str} (h : ErC X.K cls b n) : Raises X (.ref (cls n)) := raises_own (h.subT (by simp [veMro])) h.ty
end
/-! ### what is known, as functions -/
open Classical
noncomputable def isxK (K : PySem.W.Frag) (C : Addr) (v : Value) : Option Bool := if IsC K C then PySem.W.kitOne K (.ref C) v else none
noncomputable def fokK (K : PySem.W.Frag) (C : Addr) (f : Str) : Bool := decide (XfC K C ∧ PySem.W.findIn K (.ref C) f = some none)
theorem isX_K (K : PySem.W.Frag) : IsX K (isxK K) := ⟨fun C w b h => by
  unfold isxK at h
  by_cases c : IsC K C
  · rw [if_pos c] at h; exact ⟨c, h⟩
  · rw [if_neg c] at h; cases h⟩
theorem xfX_K (K : PySem.W.Frag) : XfX K (fokK K) := ⟨fun C f h => of_decide_eq_true h⟩
theorem isxK_of {K : PySem.W.Frag} {C : Addr} {v : Value} {b : Bool} (h : IsC K C) (e : PySem.W.kitOne K (.ref C) v = some b) : isxK K C v = some b := by unfold isxK; rw [if_pos h, e]
theorem fokK_of {K : PySem.W.Frag} {C : Addr} {f : Str} (h : XfC K C) (e : PySem.W.findIn K (.ref C) f = some none) : fokK K C f = true := decide_eq_true ⟨h, e⟩
/-- names and addresses, as a function -/
def tabC : List Str → List Addr → Str → Addr
  | n :: ns, a :: as, x => if x = n then a else tabC ns as x
  | _, _, _ => 0
theorem tabC_get : ∀ {ns : List Str} {as : List Addr}, ns.Nodup → ∀ {i : Nat} {n : Str} {a : Addr}, ns[i]? = some n → as[i]? = some a → tabC ns as n = a
  | [], _, _, i, n, a, h, _ => by simp at h
  | _ :: _, [], _, i, n, a, _, h => by simp at h
  | m :: ns, c :: as, nd, 0, n, a, h, h' => by
    simp at h h'
    subst h h'
    simp [tabC]
  | m :: ns, c :: as, nd, i + 1, n, a, h, h' => by
    simp only [List.getElem?_cons_succ] at h h'
    have hn : n ∈ ns := List.mem_of_getElem? h
    have ne : n ≠ m := fun e => (List.nodup_cons.mp nd).1 (e ▸ hn)
    show (if n = m then c else tabC ns as n) = a
    rw [if_neg ne]
    exact tabC_get (List.nodup_cons.mp nd).2 h h'
end DL

/-! GN: from what the written part says to what is known of a family of own errors. -/
namespace DL
open PySem PySem.Spec PyProof.Rows L2
/-- the text of an __init__ that is super().__init__(f); self.f = f -/
structure Txt1 (st : Stmt) (f qual : Str) : Prop where
  txt : ∃ p0 p1 p2 p3 p4 p5 p6 p7 p8 p9, defBody st = supBody f p0 p1 p2 p3 p4 p5 p6 p7 p8 p9 ∧
    (∃ pl : Env → Sem Bool, ∀ env : Env, eval (.Call (.Attribute (.Call (.Name "super" p0) [] [] p1) "__init__" p2) [.Name f p3] [] p4) env = (do
        let ov ← attributeBase (.Call (.Name "super" p0) [] [] p1) "__init__" env (eval (.Call (.Name "super" p0) [] [] p1) env)
        standAt p2.atName
        let (f', first) ← holding [ov] (getMethod ov "__init__" (pl env))
        callWith p4 f' first (backTo p4 (starEach [.Name f p3] env)) [])) ∧
    (∀ env : Env, swapsWith (.Call (.Attribute (.Call (.Name "super" p0) [] [] p1) "__init__" p2) [.Name f p3] [] p4) none p5.line env = pure false) ∧
    (∀ env : Env, swapsWith (.Name f p8) (some (.Attribute (.Name "self" p6) f p7)) p9.line env = pure false)
  bind : ∀ (B : List Stmt) (kVT dcT pmT : Value) (anT : Option Addr) (cdT ctT : Value) (ccT : Addr) (a u : Value), PySem.bindArgs (PySem.W.ksFn "__init__" qual (defArgs st) B (defScope st) .none kVT dcT pmT anT cdT ctT ccT) ⟨[a, u], []⟩ = pure [(("self" : Str), a), (f, u)]
  cell : ∀ x ∈ (defScope st).names, x.2 ≠ .cell
  l1 : (defScope st).names.lookup ("super" : Str) = some .globalImplicit
  l2 : (defScope st).names.lookup ("__class__" : Str) = some .free
  l3 : (defScope st).names.lookup ("self" : Str) = some .local
  l4 : (defScope st).names.lookup f = some .local
  k : (defScope st).isCoroutine = false ∧ (defScope st).isGenerator = false ∧ (defScope st).kind = .function
  ar : ∃ ar : Arg, ((defArgs st).posonlyargs ++ (defArgs st).args).head? = some ar ∧ ar.arg = "self"
  neq : (("self" : Str) == f) = false ∧ (f == ("__debug__" : Str)) = false
structure Txt2 (st : Stmt) (f f2 qual : Str) : Prop where
  txt : ∃ p0 p1 p2 p3 q3 p4 p5 p6 p7 p8 p9 q6 q7 q8 q9, defBody st = supBody2 f f2 p0 p1 p2 p3 q3 p4 p5 p6 p7 p8 p9 q6 q7 q8 q9 ∧
    (∃ pl : Env → Sem Bool, ∀ env : Env, eval (.Call (.Attribute (.Call (.Name "super" p0) [] [] p1) "__init__" p2) [.Name f p3, .Name f2 q3] [] p4) env = (do
        let ov ← attributeBase (.Call (.Name "super" p0) [] [] p1) "__init__" env (eval (.Call (.Name "super" p0) [] [] p1) env)
        standAt p2.atName
        let (f', first) ← holding [ov] (getMethod ov "__init__" (pl env))
        callWith p4 f' first (backTo p4 (starEach [.Name f p3, .Name f2 q3] env)) [])) ∧
    (∀ env : Env, swapsWith (.Call (.Attribute (.Call (.Name "super" p0) [] [] p1) "__init__" p2) [.Name f p3, .Name f2 q3] [] p4) none p5.line env = pure false) ∧
    (∀ env : Env, swapsWith (.Name f p8) (some (.Attribute (.Name "self" p6) f p7)) p9.line env = pure false) ∧
    (∀ env : Env, swapsWith (.Name f2 q8) (some (.Attribute (.Name "self" q6) f2 q7)) q9.line env = pure false)
  bind : ∀ (B : List Stmt) (kVT dcT pmT : Value) (anT : Option Addr) (cdT ctT : Value) (ccT : Addr) (a u u2 : Value), PySem.bindArgs (PySem.W.ksFn "__init__" qual (defArgs st) B (defScope st) .none kVT dcT pmT anT cdT ctT ccT) ⟨[a, u, u2], []⟩ = pure [(("self" : Str), a), (f, u), (f2, u2)]
  cell : ∀ x ∈ (defScope st).names, x.2 ≠ .cell
  l1 : (defScope st).names.lookup ("super" : Str) = some .globalImplicit
  l2 : (defScope st).names.lookup ("__class__" : Str) = some .free
  l3 : (defScope st).names.lookup ("self" : Str) = some .local
  l4 : (defScope st).names.lookup f = some .local
  l5 : (defScope st).names.lookup f2 = some .local
  k : (defScope st).isCoroutine = false ∧ (defScope st).isGenerator = false ∧ (defScope st).kind = .function
  ar : ∃ ar : Arg, ((defArgs st).posonlyargs ++ (defArgs st).args).head? = some ar ∧ ar.arg = "self"
  neq : (("self" : Str) == f) = false ∧ (f == ("__debug__" : Str)) = false
  neq2 : (("self" : Str) == f2) = false ∧ (f2 == ("__debug__" : Str)) = false ∧ (f == f2) = false
def bmK (cb : Addr) (b n : Str) : List Value := if n = b then veMro else .ref cb :: veMro
/-- what the written part says of the class at c, called n, below the class at cb, called b -/
structure ErB (K : PySem.W.Frag) (mg : Str → Option Value) (cb : Addr) (b : Str) (c : Addr) (n : Str) : Prop where
  mg : mg n = some (.ref c)
  lk : ∃ q N bs sn sub ab col dd k0 k1 k2 k3 k5, K.lookup c = some (excClassObj n q c N bs (bmK cb b n) true sn sub ab col dd k0 k1 k2 k3 k5 "ValueError.__new__")
  ga : PySem.W.findIn K (.ref c) "__getattribute__" = some (some (.builtin "BaseException.__getattribute__"))
  gg : PySem.W.findIn K (.ref c) "__getattr__" = some none
  cc : PySem.W.findIn K (.ref c) "__class__" = some (some (.builtin "object.__class__"))
  kp : PySem.W.keepIn K (.ref c) = true
section
variable {K : PySem.W.Frag} {h : Heap} {mg : Str → Option Value} {cls : Str → Addr} {c cb : Addr} {b n : Str}
theorem erB_mk (X : K.In h) (G : h.Ns mainGlobals mg) {cb c : Addr} {b n : Str} {q : Str} {N : Addr} {bs bm : List Value} {sn : List Str} {sub : List Value} {ab : Bool} {col : Option Bool} {dd : Option Addr} {k0 k1 k2 k3 k5 : Option Value}
    (e1 : PySem.W.nsIn K mainGlobals n = some (some (.ref c))) (e2 : K.lookup c = some (excClassObj n q c N bs bm true sn sub ab col dd k0 k1 k2 k3 k5 "ValueError.__new__")) (e3 : bm = bmK cb b n)
    (ga : PySem.W.findIn K (.ref c) "__getattribute__" = some (some (.builtin "BaseException.__getattribute__")))
    (gg : PySem.W.findIn K (.ref c) "__getattr__" = some none)
    (cc : PySem.W.findIn K (.ref c) "__class__" = some (some (.builtin "object.__class__")))
    (kp : PySem.W.keepIn K (.ref c) = true) : ErB K mg cb b c n := by
  subst e3
  exact ⟨PySem.W.mg_of X G e1, ⟨_, _, _, _, _, _, _, _, _, _, _, _, _, e2⟩, ga, gg, cc, kp⟩
theorem ErB.of (hb : cls b = cb) (hn : cls n = c) (E : ErB K mg cb b c n) : ErC K cls b n ∧ mg n = some (.ref (cls n)) := by
  subst hb hn
  exact ⟨⟨E.lk, E.ga, E.gg, E.cc, E.kp⟩, E.mg⟩
theorem ErB.refs (E : ErB K mg cb b c n) : PySem.HandSPX.refsVE (bmK cb b n) = true := by
  unfold bmK
  split
  · rfl
  · rfl
theorem ErB.cls' (E : ErB K mg cb b c n) : ErC K (fun x => if x = n then c else cb) b n := by
  by_cases e : n = b
  · subst e
    refine ⟨?_, ?_, ?_, ?_, ?_⟩
    · simpa only [bmOf, bmK, if_true] using E.lk
    · simpa only [if_true] using E.ga
    · simpa only [if_true] using E.gg
    · simpa only [if_true] using E.cc
    · simpa only [if_true] using E.kp
  · refine ⟨?_, ?_, ?_, ?_, ?_⟩
    · have := E.lk
      simpa only [bmOf, bmK, if_true, if_neg e, if_neg (Ne.symm e)] using this
    · simpa only [if_true] using E.ga
    · simpa only [if_true] using E.gg
    · simpa only [if_true] using E.cc
    · simpa only [if_true] using E.kp
theorem ErB.sub (E : ErB K mg cb b c n) {v : Value} (hv : v ∈ veMro) : PySem.W.subIn K (.ref c) v = some true := by
  have := E.cls'.subT hv
  simpa only [if_true] using this
theorem ErB.ty (E : ErB K mg cb b c n) : PySem.W.typeIn K (.ref c) = some (.type "type") := by
  have := E.cls'.ty
  simpa only [if_true] using this
theorem ErB.slf (E : ErB K mg cb b c n) : PySem.W.mroIn K c (.ref c) = some true := by
  have := E.cls'.mro (.ref c)
  simp only [if_true] at this
  show PySem.W.subIn K (.ref c) (.ref c) = some true
  rw [this]
  simp
/-- what is said of all own errors alike -/
structure ErG (l : PySem.W.OpenLaw) (K : PySem.W.Frag) (mg : Str → Option Value) : Prop where
  eq : (l.prog.main.scope.names.lookup ("super" : Str)).isSome = false
  eop : PySem.W.nsIn K PySem.cStatics "thirdparty.any" = some none
  ems : mg "super" = none
theorem erG_mk {l : PySem.W.OpenLaw} (X : K.In h) (G : h.Ns mainGlobals mg) (e1 : (l.prog.main.scope.names.lookup ("super" : Str)).isSome = false) (e2 : PySem.W.nsIn K PySem.cStatics "thirdparty.any" = some none) (e3 : PySem.W.nsIn K mainGlobals "super" = some none) : ErG l K mg :=
  ⟨e1, e2, PySem.W.mg_none_of X G e3⟩
theorem sup1_mk {l : PySem.W.OpenLaw} {st : Stmt} {f qual : Str} (T : Txt1 st f qual) (E : ErB K mg cb b c n) (L : ErG l K mg) {fT cdT ccT : Addr} {flT : Str} {ocT kVT dcT pmT ctT dclT cclT : Value} {odT anT dddT ccdT : Option Addr} {slT dcsT ccsT : Array (Option Value)} {dvsT : Array Value} {tfT : Tok}
    (esa : PySem.W.findIn K (.ref c) "__setattr__" = some (some (.builtin "object.__setattr__")))
    (ei : PySem.W.findIn K (.ref c) "__init__" = some (some (.ref fT)))
    (eit : PySem.W.typeIn K (.ref fT) = some (.type "function"))
    (el : K.lookup fT = some ⟨ocT, odT, .func (PySem.W.ksFn "__init__" qual (defArgs st) (defBody st) (defScope st) .none kVT dcT pmT anT (.ref cdT) ctT ccT), slT⟩)
    (ec : PySem.W.codeIn K (.ref cdT) qual = true)
    (ed : K.lookup cdT = some ⟨dclT, dddT, .fields dvsT, dcsT⟩)
    (ev : dvsT[2]? = some (.str flT tfT))
    (ep : ((l.prog.main.file : Str) == flT) = true)
    (ecc : K.lookup ccT = some ⟨cclT, ccdT, .cell (some (.ref c)), ccsT⟩)
    (exi : PySem.W.excInitIn K c [.type "ValueError", .type "Exception", .type "BaseException", .type "object"] "ValueError.__new__" = true)
    (enf : PySem.W.findIn K (.ref c) f = some none)
    (esu : PySem.W.ks_superIn K c c "__init__" = some (some (.builtin "ValueError.__init__"))) : SupC l.prog K c f mg := by
  obtain ⟨p0, p1, p2, p3, p4, p5, p6, p7, p8, p9, hb, hpl, hs1, hs2⟩ := T.txt
  obtain ⟨ar, ha1, ha2⟩ := T.ar
  obtain ⟨k1, k2, k3⟩ := T.k
  rw [hb] at el
  obtain ⟨q, N, bs, sn, sub, ab, col, dd, k0, kk1, kk2, kk3, k5, ex⟩ := E.lk
  exact ⟨⟨⟨_, _, _, _, _, _, _, _, _, _, _, _, _, _, _, ex, E.refs⟩, esa, E.sub (by simp [veMro]), E.ty, E.kp⟩, ⟨fT, ei, eit, ocT, odT, _, _, _, .none, kVT, dcT, pmT, anT, cdT, ccT, ctT, slT, p0, p1, p2, p3, p4, p5, p6, p7, p8, p9, ar, dclT, dddT, dvsT, dcsT, flT, tfT, cclT, ccdT, ccsT, el, ec, T.bind _ _ _ _ _ _ _ _, T.cell, k1, k2, k3, T.l1, T.l2, T.l3, T.l4, ha1, ha2, ed, ev, ep, L.eq, ecc, hpl, hs1, hs2⟩, exi, enf, esu, E.sub (by simp [veMro]), E.slf, L.eop, L.ems, T.neq⟩
theorem sup2_mk {l : PySem.W.OpenLaw} {st : Stmt} {f f2 qual : Str} (T : Txt2 st f f2 qual) (E : ErB K mg cb b c n) (L : ErG l K mg) {fT cdT ccT : Addr} {flT : Str} {ocT kVT dcT pmT ctT dclT cclT : Value} {odT anT dddT ccdT : Option Addr} {slT dcsT ccsT : Array (Option Value)} {dvsT : Array Value} {tfT : Tok}
    (esa : PySem.W.findIn K (.ref c) "__setattr__" = some (some (.builtin "object.__setattr__")))
    (ei : PySem.W.findIn K (.ref c) "__init__" = some (some (.ref fT)))
    (eit : PySem.W.typeIn K (.ref fT) = some (.type "function"))
    (el : K.lookup fT = some ⟨ocT, odT, .func (PySem.W.ksFn "__init__" qual (defArgs st) (defBody st) (defScope st) .none kVT dcT pmT anT (.ref cdT) ctT ccT), slT⟩)
    (ec : PySem.W.codeIn K (.ref cdT) qual = true)
    (ed : K.lookup cdT = some ⟨dclT, dddT, .fields dvsT, dcsT⟩)
    (ev : dvsT[2]? = some (.str flT tfT))
    (ep : ((l.prog.main.file : Str) == flT) = true)
    (ecc : K.lookup ccT = some ⟨cclT, ccdT, .cell (some (.ref c)), ccsT⟩)
    (exi : PySem.W.excInitIn K c [.type "ValueError", .type "Exception", .type "BaseException", .type "object"] "ValueError.__new__" = true)
    (enf : PySem.W.findIn K (.ref c) f = some none)
    (enf2 : PySem.W.findIn K (.ref c) f2 = some none)
    (esu : PySem.W.ks_superIn K c c "__init__" = some (some (.builtin "ValueError.__init__"))) : SupC2 l.prog K c f f2 mg := by
  obtain ⟨p0, p1, p2, p3, q3, p4, p5, p6, p7, p8, p9, q6, q7, q8, q9, hb, hpl, hs1, hs2, hs3⟩ := T.txt
  obtain ⟨ar, ha1, ha2⟩ := T.ar
  obtain ⟨k1, k2, k3⟩ := T.k
  rw [hb] at el
  obtain ⟨q, N, bs, sn, sub, ab, col, dd, k0, kk1, kk2, kk3, k5, ex⟩ := E.lk
  exact ⟨⟨⟨_, _, _, _, _, _, _, _, _, _, _, _, _, _, _, ex, E.refs⟩, esa, E.sub (by simp [veMro]), E.ty, E.kp⟩, ⟨fT, ei, eit, ocT, odT, _, _, _, .none, kVT, dcT, pmT, anT, cdT, ccT, ctT, slT, p0, p1, p2, p3, q3, p4, p5, p6, p7, p8, p9, q6, q7, q8, q9, ar, dclT, dddT, dvsT, dcsT, flT, tfT, cclT, ccdT, ccsT, el, ec, T.bind _ _ _ _ _ _ _ _, T.cell, k1, k2, k3, T.l1, T.l2, T.l3, T.l4, T.l5, ha1, ha2, ed, ev, ep, L.eq, ecc, hpl, hs1, hs2, hs3⟩, exi, enf, enf2, esu, E.sub (by simp [veMro]), E.slf, L.eop, L.ems, T.neq, T.neq2⟩
theorem er0_mk (X : K.In h) (G : h.Ns mainGlobals mg) {cb c : Addr} {b n : Str} {q : Str} {N : Addr} {bs bm : List Value} {sn : List Str} {sub : List Value} {ab : Bool} {col : Option Bool} {dd : Option Addr} {k0 k1 k2 k3 k5 : Option Value}
    (e1 : PySem.W.nsIn K mainGlobals n = some (some (.ref c))) (e2 : K.lookup c = some (excClassObj n q c N bs bm true sn sub ab col dd k0 k1 k2 k3 k5 "ValueError.__new__")) (e3 : bm = bmK cb b n)
    (ga : PySem.W.findIn K (.ref c) "__getattribute__" = some (some (.builtin "BaseException.__getattribute__")))
    (gg : PySem.W.findIn K (.ref c) "__getattr__" = some none)
    (cc : PySem.W.findIn K (.ref c) "__class__" = some (some (.builtin "object.__class__")))
    (kp : PySem.W.keepIn K (.ref c) = true) (pl : PySem.W.excIn K c veMro "ValueError.__new__" = true) : ErB K mg cb b c n ∧ PySem.W.excIn K c veMro "ValueError.__new__" = true := ⟨erB_mk X G e1 e2 e3 ga gg cc kp, pl⟩
theorem er1_mk {l : PySem.W.OpenLaw} {st : Stmt} {f qual : Str} (T : Txt1 st f qual) (X : K.In h) (G : h.Ns mainGlobals mg) {cb c : Addr} {b n : Str} {q : Str} {N : Addr} {bs bm : List Value} {sn : List Str} {sub : List Value} {ab : Bool} {col : Option Bool} {dd : Option Addr} {k0 k1 k2 k3 k5 : Option Value}
    (e1 : PySem.W.nsIn K mainGlobals n = some (some (.ref c))) (e2 : K.lookup c = some (excClassObj n q c N bs bm true sn sub ab col dd k0 k1 k2 k3 k5 "ValueError.__new__")) (e3 : bm = bmK cb b n)
    (ga : PySem.W.findIn K (.ref c) "__getattribute__" = some (some (.builtin "BaseException.__getattribute__")))
    (gg : PySem.W.findIn K (.ref c) "__getattr__" = some none)
    (cc : PySem.W.findIn K (.ref c) "__class__" = some (some (.builtin "object.__class__")))
    (kp : PySem.W.keepIn K (.ref c) = true)
    {fT cdT ccT : Addr} {flT : Str} {ocT kVT dcT pmT ctT dclT cclT : Value} {odT anT dddT ccdT : Option Addr} {slT dcsT ccsT : Array (Option Value)} {dvsT : Array Value} {tfT : Tok}
    (esa : PySem.W.findIn K (.ref c) "__setattr__" = some (some (.builtin "object.__setattr__")))
    (ei : PySem.W.findIn K (.ref c) "__init__" = some (some (.ref fT)))
    (eit : PySem.W.typeIn K (.ref fT) = some (.type "function"))
    (el : K.lookup fT = some ⟨ocT, odT, .func (PySem.W.ksFn "__init__" qual (defArgs st) (defBody st) (defScope st) .none kVT dcT pmT anT (.ref cdT) ctT ccT), slT⟩)
    (ec : PySem.W.codeIn K (.ref cdT) qual = true)
    (ed : K.lookup cdT = some ⟨dclT, dddT, .fields dvsT, dcsT⟩)
    (ev : dvsT[2]? = some (.str flT tfT))
    (ep : ((l.prog.main.file : Str) == flT) = true)
    (ecc : K.lookup ccT = some ⟨cclT, ccdT, .cell (some (.ref c)), ccsT⟩)
    (exi : PySem.W.excInitIn K c [.type "ValueError", .type "Exception", .type "BaseException", .type "object"] "ValueError.__new__" = true)
    (enf : PySem.W.findIn K (.ref c) f = some none)
    (esu : PySem.W.ks_superIn K c c "__init__" = some (some (.builtin "ValueError.__init__"))) : ErB K mg cb b c n ∧ (ErG l K mg → SupC l.prog K c f mg) :=
  ⟨erB_mk X G e1 e2 e3 ga gg cc kp, fun L => sup1_mk T (erB_mk X G e1 e2 e3 ga gg cc kp) L esa ei eit el ec ed ev ep ecc exi enf esu⟩
theorem er2_mk {l : PySem.W.OpenLaw} {st : Stmt} {f f2 qual : Str} (T : Txt2 st f f2 qual) (X : K.In h) (G : h.Ns mainGlobals mg) {cb c : Addr} {b n : Str} {q : Str} {N : Addr} {bs bm : List Value} {sn : List Str} {sub : List Value} {ab : Bool} {col : Option Bool} {dd : Option Addr} {k0 k1 k2 k3 k5 : Option Value}
    (e1 : PySem.W.nsIn K mainGlobals n = some (some (.ref c))) (e2 : K.lookup c = some (excClassObj n q c N bs bm true sn sub ab col dd k0 k1 k2 k3 k5 "ValueError.__new__")) (e3 : bm = bmK cb b n)
    (ga : PySem.W.findIn K (.ref c) "__getattribute__" = some (some (.builtin "BaseException.__getattribute__")))
    (gg : PySem.W.findIn K (.ref c) "__getattr__" = some none)
    (cc : PySem.W.findIn K (.ref c) "__class__" = some (some (.builtin "object.__class__")))
    (kp : PySem.W.keepIn K (.ref c) = true)
    {fT cdT ccT : Addr} {flT : Str} {ocT kVT dcT pmT ctT dclT cclT : Value} {odT anT dddT ccdT : Option Addr} {slT dcsT ccsT : Array (Option Value)} {dvsT : Array Value} {tfT : Tok}
    (esa : PySem.W.findIn K (.ref c) "__setattr__" = some (some (.builtin "object.__setattr__")))
    (ei : PySem.W.findIn K (.ref c) "__init__" = some (some (.ref fT)))
    (eit : PySem.W.typeIn K (.ref fT) = some (.type "function"))
    (el : K.lookup fT = some ⟨ocT, odT, .func (PySem.W.ksFn "__init__" qual (defArgs st) (defBody st) (defScope st) .none kVT dcT pmT anT (.ref cdT) ctT ccT), slT⟩)
    (ec : PySem.W.codeIn K (.ref cdT) qual = true)
    (ed : K.lookup cdT = some ⟨dclT, dddT, .fields dvsT, dcsT⟩)
    (ev : dvsT[2]? = some (.str flT tfT))
    (ep : ((l.prog.main.file : Str) == flT) = true)
    (ecc : K.lookup ccT = some ⟨cclT, ccdT, .cell (some (.ref c)), ccsT⟩)
    (exi : PySem.W.excInitIn K c [.type "ValueError", .type "Exception", .type "BaseException", .type "object"] "ValueError.__new__" = true)
    (enf : PySem.W.findIn K (.ref c) f = some none)
    (esu : PySem.W.ks_superIn K c c "__init__" = some (some (.builtin "ValueError.__init__"))) (enf2 : PySem.W.findIn K (.ref c) f2 = some none) : ErB K mg cb b c n ∧ (ErG l K mg → SupC2 l.prog K c f f2 mg) :=
  ⟨erB_mk X G e1 e2 e3 ga gg cc kp, fun L => sup2_mk T (erB_mk X G e1 e2 e3 ga gg cc kp) L esa ei eit el ec ed ev ep ecc exi enf enf2 esu⟩
end
end DL

/-! TH: things (numbers, words, unknowns, new kinds, built ones) as trees, as data, as texts. -/
namespace DL
open PySem PySem.Spec PyProof.Rows L2

inductive Th where
  | num (i : Int) | word (s : Str) | opn (n : Int) | new (n : Int) | blt (h : Str) (xs : List Th)
mutual
def Th.d : Th → D
  | .num i => .int i
  | .word s => .str s
  | .opn n => .tup [.str "?", .int n]
  | .new n => .tup [.str "~", .int n]
  | .blt h xs => .tup (.str h :: Th.ds xs)
def Th.ds : List Th → List D
  | [] => []
  | x :: r => x.d :: Th.ds r
end
mutual
def Th.py : Th → PyData
  | .num i => .int i
  | .word s => .str s
  | .opn n => .tuple [.str "?", .int n]
  | .new n => .tuple [.str "~", .int n]
  | .blt h xs => .tuple (.str h :: Th.pys xs)
def Th.pys : List Th → List PyData
  | [] => []
  | x :: r => x.py :: Th.pys r
end
/-- small letters, at most 20 -/
def nice (s : Str) : Prop := (∀ c ∈ s.cps.toList, 97 ≤ c ∧ c ≤ 122) ∧ s.cps.toList.length ≤ 20
def small (i : Int) : Prop := i.natAbs < 10 ^ 20
mutual
/-- names nice, numbers small, few parts -/
def Th.ok : Th → Prop
  | .num i => small i
  | .word s => nice s
  | .opn n => small n
  | .new n => small n
  | .blt h xs => nice h ∧ xs.length ≤ 1000 ∧ Th.oks xs
def Th.oks : List Th → Prop
  | [] => True
  | x :: r => x.ok ∧ Th.oks r
end
mutual
def Th.dp : Th → Nat
  | .num _ => 0
  | .word _ => 0
  | .opn _ => 1
  | .new _ => 1
  | .blt _ xs => Th.dps xs + 1
def Th.dps : List Th → Nat
  | [] => 0
  | x :: r => max x.dp (Th.dps r)
end
mutual
def Th.sz : Th → Nat
  | .num _ => 1
  | .word _ => 1
  | .opn _ => 3
  | .new _ => 3
  | .blt _ xs => Th.szs xs + 1
def Th.szs : List Th → Nat
  | [] => 0
  | x :: r => x.sz + Th.szs r
end
theorem ds_map : ∀ xs : List Th, Th.ds xs = xs.map Th.d
  | [] => by simp [Th.ds]
  | x :: r => by rw [Th.ds, List.map_cons, ds_map r]
theorem pys_map : ∀ xs : List Th, Th.pys xs = xs.map Th.py
  | [] => by simp [Th.pys]
  | x :: r => by rw [Th.pys, List.map_cons, pys_map r]
theorem oks_iff : ∀ xs : List Th, Th.oks xs ↔ ∀ x ∈ xs, x.ok
  | [] => by simp [Th.oks]
  | x :: r => by rw [Th.oks, oks_iff r]; simp
theorem dps_le {n : Nat} : ∀ xs : List Th, Th.dps xs ≤ n ↔ ∀ x ∈ xs, x.dp ≤ n
  | [] => by simp [Th.dps]
  | x :: r => by rw [Th.dps]; simp [← dps_le r]; omega
mutual
theorem toPy_d : ∀ t : Th, toPy t.d = some t.py
  | .num i => by simp [Th.d, Th.py, toPy]
  | .word s => by simp [Th.d, Th.py, toPy]
  | .opn n => by simp [Th.d, Th.py, toPy, toPys]
  | .new n => by simp [Th.d, Th.py, toPy, toPys]
  | .blt h xs => by simp [Th.d, Th.py, toPy, toPys, toPys_ds xs]
theorem toPys_ds : ∀ ts : List Th, toPys (Th.ds ts) = some (Th.pys ts)
  | [] => by simp [Th.ds, Th.pys, toPys]
  | t :: r => by simp [Th.ds, Th.pys, toPys, toPy_d t, toPys_ds r]
end
theorem nice_ok {s : Str} (h : nice s) : PyData.strOk s = true := by
  unfold PyData.strOk
  rw [← Array.all_toList, List.all_eq_true]
  intro c hc
  have := h.1 c hc
  exact decide_eq_true (by omega)
theorem q_ok : PyData.strOk "?" = true := by decide +kernel
theorem n_ok : PyData.strOk "~" = true := by decide +kernel
mutual
theorem lay_py : ∀ t : Th, t.ok → t.py.canLay0 = true
  | .num i, _ => by simp [Th.py, PyData.canLay0]
  | .word s, h => by simp [Th.py, PyData.canLay0, nice_ok h]
  | .opn n, h => by simp [Th.py, PyData.canLay0, PyData.canLayAll0, q_ok]
  | .new n, h => by simp [Th.py, PyData.canLay0, PyData.canLayAll0, n_ok]
  | .blt s xs, h => by
    obtain ⟨h1, _, h3⟩ := h
    simp [Th.py, PyData.canLay0, PyData.canLayAll0, nice_ok h1, lay_pys xs h3]
theorem lay_pys : ∀ ts : List Th, Th.oks ts → PyData.canLayAll0 (Th.pys ts) = true
  | [], _ => by simp [Th.pys, PyData.canLayAll0]
  | t :: r, h => by simp [Th.pys, PyData.canLayAll0, lay_py t h.1, lay_pys r h.2]
end
theorem small_log {i : Int} (h : small i) : i.natAbs.log2 < 1920 := by
  by_cases e : i.natAbs = 0
  · rw [e]; decide
  · refine (Nat.log2_lt e).mpr (Nat.lt_of_lt_of_le h ?_)
    decide +kernel
mutual
theorem show_py : ∀ t : Th, t.ok → t.py.showable = true
  | .num i, h => by simp only [Th.py, PyData.showable]; exact decide_eq_true (small_log h)
  | .word s, h => by simp [Th.py, PyData.showable]
  | .opn n, h => by simp only [Th.py, PyData.showable, PyData.showableAll, decide_eq_true (small_log h), Bool.and_self]
  | .new n, h => by simp only [Th.py, PyData.showable, PyData.showableAll, decide_eq_true (small_log h), Bool.and_self]
  | .blt s xs, h => by
    obtain ⟨h1, _, h3⟩ := h
    simp only [Th.py, PyData.showable, PyData.showableAll, show_pys xs h3, Bool.and_self]
theorem show_pys : ∀ ts : List Th, Th.oks ts → PyData.showableAll (Th.pys ts) = true
  | [], _ => by simp [Th.pys, PyData.showableAll]
  | t :: r, h => by simp [Th.pys, PyData.showableAll, show_py t h.1, show_pys r h.2]
end
mutual
theorem dict_py : ∀ t : Th, t.py.hasDict = false
  | .num i => by simp [Th.py, PyData.hasDict]
  | .word s => by simp [Th.py, PyData.hasDict]
  | .opn n => by simp [Th.py, PyData.hasDict, PyData.hasDictAll]
  | .new n => by simp [Th.py, PyData.hasDict, PyData.hasDictAll]
  | .blt s xs => by simp [Th.py, PyData.hasDict, PyData.hasDictAll, dict_pys xs]
theorem dict_pys : ∀ ts : List Th, PyData.hasDictAll (Th.pys ts) = false
  | [] => by simp [Th.pys, PyData.hasDictAll]
  | t :: r => by simp [Th.pys, PyData.hasDictAll, dict_py t, dict_pys r]
end
mutual
theorem depth_py : ∀ t : Th, t.py.depth = t.dp
  | .num i => by simp [Th.py, PyData.depth, Th.dp]
  | .word s => by simp [Th.py, PyData.depth, Th.dp]
  | .opn n => by simp [Th.py, PyData.depth, PyData.depthAll, Th.dp]
  | .new n => by simp [Th.py, PyData.depth, PyData.depthAll, Th.dp]
  | .blt s xs => by simp [Th.py, PyData.depth, PyData.depthAll, depth_pys xs, Th.dp]
theorem depth_pys : ∀ ts : List Th, PyData.depthAll (Th.pys ts) = Th.dps ts
  | [] => by simp [Th.pys, PyData.depthAll, Th.dps]
  | t :: r => by simp [Th.pys, PyData.depthAll, Th.dps, depth_py t, depth_pys r]
end
/-! ### equality -/
mutual
theorem eqv_py : ∀ t u : Th, t.ok → u.ok → (PyData.eqv t.py u.py = true ↔ t = u)
  | .num i, .num j, _, _ => by simp [Th.py, PyData.eqv]
  | .word i, .word j, _, _ => by simp [Th.py, PyData.eqv]
  | .opn i, .opn j, _, _ => by simp [Th.py, PyData.eqv, PyData.eqvAll]
  | .new i, .new j, _, _ => by simp [Th.py, PyData.eqv, PyData.eqvAll]
  | .blt h xs, .blt g ys, a, b => by simp [Th.py, PyData.eqv, PyData.eqvAll, eqv_pys xs ys a.2.2 b.2.2]
  | .num _, .word _, _, _ => by simp [Th.py, PyData.eqv]
  | .num _, .opn _, _, _ => by simp [Th.py, PyData.eqv]
  | .num _, .new _, _, _ => by simp [Th.py, PyData.eqv]
  | .num _, .blt _ _, _, _ => by simp [Th.py, PyData.eqv]
  | .word _, .num _, _, _ => by simp [Th.py, PyData.eqv]
  | .word _, .opn _, _, _ => by simp [Th.py, PyData.eqv]
  | .word _, .new _, _, _ => by simp [Th.py, PyData.eqv]
  | .word _, .blt _ _, _, _ => by simp [Th.py, PyData.eqv]
  | .opn _, .num _, _, _ => by simp [Th.py, PyData.eqv]
  | .opn _, .word _, _, _ => by simp [Th.py, PyData.eqv]
  | .opn _, .new _, _, _ => by simp [Th.py, PyData.eqv, PyData.eqvAll]; intro h; exact absurd h (by decide +kernel)
  | .opn _, .blt g _, _, b => by
    simp [Th.py, PyData.eqv, PyData.eqvAll]; intro h; subst h
    exact absurd (b.1.1 63 (by decide +kernel)) (by decide)
  | .new _, .num _, _, _ => by simp [Th.py, PyData.eqv]
  | .new _, .word _, _, _ => by simp [Th.py, PyData.eqv]
  | .new _, .opn _, _, _ => by simp [Th.py, PyData.eqv, PyData.eqvAll]; intro h; exact absurd h (by decide +kernel)
  | .new _, .blt g _, _, b => by
    simp [Th.py, PyData.eqv, PyData.eqvAll]; intro h; subst h
    exact absurd (b.1.1 126 (by decide +kernel)) (by decide)
  | .blt _ _, .num _, _, _ => by simp [Th.py, PyData.eqv]
  | .blt _ _, .word _, _, _ => by simp [Th.py, PyData.eqv]
  | .blt g _, .opn _, a, _ => by
    simp [Th.py, PyData.eqv, PyData.eqvAll]; intro h; subst h
    exact absurd (a.1.1 63 (by decide +kernel)) (by decide)
  | .blt g _, .new _, a, _ => by
    simp [Th.py, PyData.eqv, PyData.eqvAll]; intro h; subst h
    exact absurd (a.1.1 126 (by decide +kernel)) (by decide)
theorem eqv_pys : ∀ ts us : List Th, Th.oks ts → Th.oks us → (PyData.eqvAll (Th.pys ts) (Th.pys us) = true ↔ ts = us)
  | [], [], _, _ => by simp [Th.pys, PyData.eqvAll]
  | [], _ :: _, _, _ => by simp [Th.pys, PyData.eqvAll]
  | _ :: _, [], _, _ => by simp [Th.pys, PyData.eqvAll]
  | t :: r, u :: s, a, b => by simp [Th.pys, PyData.eqvAll, eqv_py t u a.1 b.1, eqv_pys r s a.2 b.2]
end
end DL

/-! TI: what a thing's text is; unlike things have unlike texts; its length. -/
namespace DL
open PySem PySem.Spec PyProof.Rows L2
open TL (tl)
open PySem.Builtin.Str PySem.Builtin
/-- a number's signs -/
def numT (i : Int) : List Nat := tl (Str.ofString (toString i))
theorem int_lt_or (i : Int) : i < 0 ∨ 0 ≤ i := by omega
theorem numT_dig (i : Int) : ∀ c ∈ numT i, c = 45 ∨ (48 ≤ c ∧ c ≤ 57) := fun c hc => by
  apply Classical.byContradiction
  intro h
  refine int_text_free' c ⟨?_, ?_⟩ i hc
  · intro e; exact h (.inl e)
  · omega
theorem tl_neg (n : Nat) : numT (-((n : Int) + 1)) = 45 :: TL.numL (n + 1) := by
  have e : toString (-((n : Int) + 1)) = "-" ++ toString (((n + 1 : Nat) : Int)) := by
    rw [Int.toString_eq_repr, Int.toString_eq_repr, Int.repr_eq_if, Int.repr_eq_if]
    rw [if_neg (by omega), if_pos (by omega)]
    congr 2
  unfold numT
  rw [e, TL.tl_ofString, String.toList_append, List.map_append, ← TL.tl_num, TL.tl_ofString]
  rfl
theorem tl_pos (n : Nat) : numT (n : Int) = TL.numL n := TL.tl_num n
theorem numT_inj {i j : Int} (h : numT i = numT j) : i = j := by
  rcases int_lt_or i with hi | hi <;> rcases int_lt_or j with hj | hj
  · obtain ⟨n, rfl⟩ : ∃ n : Nat, i = -((n : Int) + 1) := ⟨(-i - 1).toNat, by omega⟩
    obtain ⟨m, rfl⟩ : ∃ n : Nat, j = -((n : Int) + 1) := ⟨(-j - 1).toNat, by omega⟩
    rw [tl_neg, tl_neg] at h
    have := TL.numL_inj (List.cons.inj h).2
    omega
  · obtain ⟨n, rfl⟩ : ∃ n : Nat, i = -((n : Int) + 1) := ⟨(-i - 1).toNat, by omega⟩
    obtain ⟨m, rfl⟩ : ∃ n : Nat, j = (n : Int) := ⟨j.toNat, by omega⟩
    rw [tl_neg, tl_pos] at h
    exact absurd (h ▸ List.mem_cons_self) (TL.numL_free (by decide))
  · obtain ⟨n, rfl⟩ : ∃ n : Nat, j = -((n : Int) + 1) := ⟨(-j - 1).toNat, by omega⟩
    obtain ⟨m, rfl⟩ : ∃ n : Nat, i = (n : Int) := ⟨i.toNat, by omega⟩
    rw [tl_neg, tl_pos] at h
    exact absurd (h.symm ▸ List.mem_cons_self) (TL.numL_free (by decide))
  · obtain ⟨n, rfl⟩ : ∃ n : Nat, i = (n : Int) := ⟨i.toNat, by omega⟩
    obtain ⟨m, rfl⟩ : ∃ n : Nat, j = (n : Int) := ⟨j.toNat, by omega⟩
    rw [tl_pos, tl_pos] at h
    rw [TL.numL_inj h]
theorem numT_ne (i : Int) : numT i ≠ [] := by
  rcases int_lt_or i with hi | hi
  · obtain ⟨n, rfl⟩ : ∃ n : Nat, i = -((n : Int) + 1) := ⟨(-i - 1).toNat, by omega⟩
    rw [tl_neg]; simp
  · obtain ⟨n, rfl⟩ : ∃ n : Nat, i = (n : Int) := ⟨i.toNat, by omega⟩
    rw [tl_pos]; exact TL.numL_ne n
theorem numT_len {i : Int} (h : small i) : (numT i).length ≤ 21 := by
  unfold small at h
  rcases int_lt_or i with hi | hi
  · obtain ⟨n, rfl⟩ : ∃ n : Nat, i = -((n : Int) + 1) := ⟨(-i - 1).toNat, by omega⟩
    rw [tl_neg, List.length_cons]
    have := TL.numL_len (n := n + 1) (k := 20) (by decide) (by omega)
    omega
  · obtain ⟨n, rfl⟩ : ∃ n : Nat, i = (n : Int) := ⟨i.toNat, by omega⟩
    rw [tl_pos]
    have := TL.numL_len (n := n) (k := 20) (by decide) (by omega)
    omega
/-! ### texts in quotes -/
theorem reprChar_plain : ∀ c < 127, 63 ≤ c → c ≠ 92 → reprChar 39 c = [c] := by decide +kernel
theorem reprText_nice {s : Str} (h : ∀ c ∈ tl s, c = 63 ∨ c = 126 ∨ (97 ≤ c ∧ c ≤ 122)) : tl (reprText s) = 39 :: (tl s ++ [39]) := by
  have hq : reprQuote s = 39 := by
    unfold reprQuote
    have : s.cps.contains 39 = false := by
      rw [← Array.contains_toList]
      cases e : s.cps.toList.contains 39 with
      | false => rfl
      | true => have := h 39 (by simpa using e); omega
    rw [this]; rfl
  have go : ∀ (l : List Nat) (acc : Array Nat), (∀ c ∈ l, c = 63 ∨ c = 126 ∨ (97 ≤ c ∧ c ≤ 122)) → (l.foldl (fun out c => out ++ (reprChar 39 c).toArray) acc).toList = acc.toList ++ l := by
    intro l
    induction l with
    | nil => intro acc _; simp
    | cons c r ih =>
      intro acc hl
      rw [List.foldl_cons, ih _ fun x hx => hl x (by simp [hx])]
      have hc := hl c (by simp)
      rw [reprChar_plain c (by omega) (by omega) (by omega)]
      simp
  unfold reprText
  show ((s.cps.foldl (fun out c => out ++ (reprChar (reprQuote s) c).toArray) #[reprQuote s]).push (reprQuote s)).toList = _
  rw [hq, Array.toList_push, ← Array.foldl_toList, go _ _ h]
  simp [tl]
theorem nice_cs {s : Str} (h : nice s) : ∀ c ∈ tl s, c = 63 ∨ c = 126 ∨ (97 ≤ c ∧ c ≤ 122) := fun c hc => .inr (.inr (h.1 c hc))
theorem q_cs : ∀ c ∈ tl (("?" : String) : Str), c = 63 ∨ c = 126 ∨ (97 ≤ c ∧ c ≤ 122) := by decide +kernel
theorem n_cs : ∀ c ∈ tl (("~" : String) : Str), c = 63 ∨ c = 126 ∨ (97 ≤ c ∧ c ≤ 122) := by decide +kernel
def qt (s : Str) : List Nat := 39 :: (tl s ++ [39])
/-- a tuple's text -/
theorem tl_tuple (ts : List Str) : tl (tupleText ts) = 40 :: (TL.joinL [44, 32] (ts.map tl) ++ (if ts.length == 1 then [44, 41] else [41])) := by
  unfold tupleText
  rw [TL.tl_append, TL.tl_append, TL.tl_join]
  have e1 : tl (("(" : String) : Str) = [40] := by decide +kernel
  have e2 : tl ((", " : String) : Str) = [44, 32] := by decide +kernel
  rw [e1, e2]
  have e3 : tl ((if ts.length == 1 then ",)" else ")" : String) : Str) = (if ts.length == 1 then [44, 41] else [41]) := by
    split
    · decide +kernel
    · decide +kernel
  rw [e3]; rfl
/-- a thing's text -/
def tx (t : Th) : List Nat := tl t.py.shown
theorem shownAll_pys : ∀ xs : List Th, (PyData.shownAll (Th.pys xs)).map tl = xs.map tx
  | [] => by simp [Th.pys, PyData.shownAll]
  | x :: r => by simp [Th.pys, PyData.shownAll, shownAll_pys r, tx]
/-- head and parts -/
def tailT : List Th → List Nat
  | [] => [44, 41]
  | x :: r => 44 :: 32 :: (TL.joinL [44, 32] ((x :: r).map tx) ++ [41])
def nodeT (h : Str) (xs : List Th) : List Nat := 40 :: (qt h ++ tailT xs)
theorem tx_num (i : Int) : tx (.num i) = numT i := by simp only [tx, Th.py, PyData.shown]; rfl
theorem tx_word {s : Str} (h : nice s) : tx (.word s) = qt s := by simp only [tx, Th.py, PyData.shown]; exact reprText_nice (nice_cs h)
theorem node_py {h : Str} (hs : ∀ c ∈ tl h, c = 63 ∨ c = 126 ∨ (97 ≤ c ∧ c ≤ 122)) (xs : List Th) : tl (PyData.tuple (.str h :: Th.pys xs)).shown = nodeT h xs := by
  simp only [PyData.shown, PyData.shownAll]
  rw [tl_tuple, List.map_cons, shownAll_pys, reprText_nice hs]
  unfold nodeT tailT
  cases xs with
  | nil => simp [Th.pys, PyData.shownAll, TL.joinL, qt]
  | cons x r =>
    have : ((reprText h :: PyData.shownAll (Th.pys (x :: r))).length == 1) = false := by simp [Th.pys, PyData.shownAll]
    rw [this]
    simp [TL.joinL, qt]
theorem tx_opn (n : Int) : tx (.opn n) = nodeT "?" [.num n] := by
  have := node_py q_cs [.num n]
  simpa [Th.pys, Th.py, tx] using this
theorem tx_new (n : Int) : tx (.new n) = nodeT "~" [.num n] := by
  have := node_py n_cs [.num n]
  simpa [Th.pys, Th.py, tx] using this
theorem tx_blt {h : Str} (hn : nice h) (xs : List Th) : tx (.blt h xs) = nodeT h xs := by
  have := node_py (nice_cs hn) xs
  simpa [Th.py, tx] using this
/-! ### unlike things, unlike texts -/
def stop (l : List Nat) : Prop := ∀ c ∈ l.head?, c = 44 ∨ c = 41
theorem cut_at {P : Nat → Prop} : ∀ {a b r s : List Nat}, (∀ c ∈ a, P c) → (∀ c ∈ b, P c) → (∀ c ∈ r.head?, ¬ P c) → (∀ c ∈ s.head?, ¬ P c) → a ++ r = b ++ s → a = b ∧ r = s
  | [], [], r, s, _, _, _, _, h => ⟨rfl, h⟩
  | [], y :: b, r, s, _, hb, hr, _, h => by
    subst h
    exact absurd (hb y (by simp)) (hr y (by simp))
  | x :: a, [], r, s, ha, _, _, hs, h => by
    have h' : s = x :: (a ++ r) := h.symm
    subst h'
    exact absurd (ha x (by simp)) (hs x (by simp))
  | x :: a, y :: b, r, s, ha, hb, hr, hs, h => by
    have h' : x :: (a ++ r) = y :: (b ++ s) := h
    injection h' with h1 h2
    obtain ⟨e1, e2⟩ := cut_at (fun c hc => ha c (by simp [hc])) (fun c hc => hb c (by simp [hc])) hr hs h2
    exact ⟨by rw [h1, e1], e2⟩
theorem qt_cut {g h : Str} (a : ∀ c ∈ tl g, c = 63 ∨ c = 126 ∨ (97 ≤ c ∧ c ≤ 122)) (b : ∀ c ∈ tl h, c = 63 ∨ c = 126 ∨ (97 ≤ c ∧ c ≤ 122)) {r s : List Nat} (e : qt g ++ r = qt h ++ s) : g = h ∧ r = s := by
  have e' : tl g ++ 39 :: r = tl h ++ 39 :: s := by simpa [qt] using e
  obtain ⟨h1, h2⟩ := cut_at (P := fun c => c ≠ 39) (fun c hc => by have := a c hc; omega) (fun c hc => by have := b c hc; omega) (by simp) (by simp) e'
  exact ⟨TL.ext_tl h1, (List.cons.inj h2).2⟩
theorem numT_head (i : Int) : ∃ c l, numT i = c :: l ∧ (c = 45 ∨ (48 ≤ c ∧ c ≤ 57)) := by
  cases e : numT i with
  | nil => exact absurd e (numT_ne i)
  | cons c l => exact ⟨c, l, rfl, numT_dig i c (by rw [e]; simp)⟩
theorem num_cut {i j : Int} {r s : List Nat} (hr : stop r) (hs : stop s) (e : numT i ++ r = numT j ++ s) : i = j ∧ r = s := by
  obtain ⟨h1, h2⟩ := cut_at (P := fun c => c = 45 ∨ (48 ≤ c ∧ c ≤ 57)) (numT_dig i) (numT_dig j) (fun c hc => by have := hr c hc; omega) (fun c hc => by have := hs c hc; omega) e
  exact ⟨numT_inj h1, h2⟩
/-- what stands for a thing: its head's text, its parts -/
def nodeOf : Th → Option (Str × List Th)
  | .opn n => some ("?", [.num n])
  | .new n => some ("~", [.num n])
  | .blt h xs => some (h, xs)
  | _ => none
theorem q_ne_n : (("?" : String) : Str) ≠ (("~" : String) : Str) := by decide +kernel
theorem nice_q : ¬ nice (("?" : String) : Str) := fun h => by have := h.1 63 (by decide +kernel); omega
theorem nice_n : ¬ nice (("~" : String) : Str) := fun h => by have := h.1 126 (by decide +kernel); omega
theorem node_inj {t u : Th} (a : t.ok) (b : u.ok) {x : Str × List Th} (h1 : nodeOf t = some x) (h2 : nodeOf u = some x) : t = u := by
  cases t <;> cases u <;> simp only [nodeOf, Option.some.injEq, reduceCtorEq] at h1 h2 <;> subst h1 <;> simp only [Prod.mk.injEq] at h2
  · obtain ⟨_, h⟩ := h2; simp at h; rw [h]
  · exact absurd h2.1.symm q_ne_n
  · rw [h2.1] at b; exact absurd b.1 nice_q
  · exact absurd h2.1 q_ne_n
  · obtain ⟨_, h⟩ := h2; simp at h; rw [h]
  · rw [h2.1] at b; exact absurd b.1 nice_n
  · rw [← h2.1] at a; exact absurd a.1 nice_q
  · rw [← h2.1] at a; exact absurd a.1 nice_n
  · rw [h2.1, h2.2]
theorem tx_node {t : Th} (a : t.ok) {x : Str × List Th} (h : nodeOf t = some x) : tx t = nodeT x.1 x.2 ∧ (∀ c ∈ tl x.1, c = 63 ∨ c = 126 ∨ (97 ≤ c ∧ c ≤ 122)) ∧ (∀ y ∈ x.2, y.ok) := by
  cases t <;> simp only [nodeOf, Option.some.injEq, reduceCtorEq] at h <;> subst h
  · exact ⟨tx_opn _, q_cs, fun y hy => by rw [List.mem_singleton.mp hy]; exact a⟩
  · exact ⟨tx_new _, n_cs, fun y hy => by rw [List.mem_singleton.mp hy]; exact a⟩
  · exact ⟨tx_blt a.1 _, nice_cs a.1, (oks_iff _).mp a.2.2⟩
theorem parts_sz {t : Th} {x : Str × List Th} (h : nodeOf t = some x) : Th.szs x.2 < t.sz := by
  cases t <;> simp only [nodeOf, Option.some.injEq, reduceCtorEq] at h <;> subst h <;> simp [Th.szs, Th.sz]
theorem sz_pos : ∀ t : Th, 0 < t.sz
  | .num _ => by simp [Th.sz]
  | .word _ => by simp [Th.sz]
  | .opn _ => by simp [Th.sz]
  | .new _ => by simp [Th.sz]
  | .blt _ _ => by simp [Th.sz]
theorem join_cut {N : Nat} (ih : ∀ t u r s, t.sz < N → t.ok → u.ok → stop r → stop s → tx t ++ r = tx u ++ s → t = u ∧ r = s) :
    ∀ (xs ys : List Th) {r s : List Nat}, Th.szs xs < N → (∀ x ∈ xs, x.ok) → (∀ y ∈ ys, y.ok) → xs ≠ [] → ys ≠ [] → TL.joinL [44, 32] (xs.map tx) ++ 41 :: r = TL.joinL [44, 32] (ys.map tx) ++ 41 :: s → xs = ys ∧ r = s
  | [], _, _, _, _, _, _, h, _, _ => absurd rfl h
  | _ :: _, [], _, _, _, _, _, _, h, _ => absurd rfl h
  | [x], [y], r, s, hz, hx, hy, _, _, e => by
    have e' : tx x ++ 41 :: r = tx y ++ 41 :: s := e
    obtain ⟨h1, h2⟩ := ih x y _ _ (by simp [Th.szs] at hz; exact hz) (hx x (by simp)) (hy y (by simp)) (by simp [stop]) (by simp [stop]) e'
    exact ⟨by rw [h1], (List.cons.inj h2).2⟩
  | [x], y :: y2 :: ys, r, s, hz, hx, hy, _, _, e => by
    have e' : tx x ++ 41 :: r = tx y ++ (44 :: 32 :: (TL.joinL [44, 32] ((y2 :: ys).map tx) ++ 41 :: s)) := by
      rw [show tx x ++ 41 :: r = TL.joinL [44, 32] ([x].map tx) ++ 41 :: r from rfl, e]; simp [TL.joinL]
    obtain ⟨_, h2⟩ := ih x y _ _ (by simp [Th.szs] at hz; exact hz) (hx x (by simp)) (hy y (by simp)) (by simp [stop]) (by simp [stop]) e'
    simp at h2
  | x :: x2 :: xs, [y], r, s, hz, hx, hy, _, _, e => by
    have e' : tx x ++ (44 :: 32 :: (TL.joinL [44, 32] ((x2 :: xs).map tx) ++ 41 :: r)) = tx y ++ 41 :: s := by
      rw [show tx y ++ 41 :: s = TL.joinL [44, 32] ([y].map tx) ++ 41 :: s from rfl, ← e]; simp [TL.joinL]
    obtain ⟨_, h2⟩ := ih x y _ _ (by simp [Th.szs] at hz; omega) (hx x (by simp)) (hy y (by simp)) (by simp [stop]) (by simp [stop]) e'
    simp at h2
  | x :: x2 :: xs, y :: y2 :: ys, r, s, hz, hx, hy, _, _, e => by
    have e' : tx x ++ (44 :: 32 :: (TL.joinL [44, 32] ((x2 :: xs).map tx) ++ 41 :: r)) = tx y ++ (44 :: 32 :: (TL.joinL [44, 32] ((y2 :: ys).map tx) ++ 41 :: s)) := by
      simpa [TL.joinL] using e
    obtain ⟨h1, h2⟩ := ih x y _ _ (by simp [Th.szs] at hz; omega) (hx x (by simp)) (hy y (by simp)) (by simp [stop]) (by simp [stop]) e'
    injection h2 with _ h2
    injection h2 with _ h2
    obtain ⟨h3, h4⟩ := join_cut ih (x2 :: xs) (y2 :: ys) (by rw [Th.szs] at hz; omega) (fun z hz => hx z (by simp [hz])) (fun z hz => hy z (by simp [hz])) (by simp) (by simp) h2
    exact ⟨by rw [h1, h3], h4⟩
theorem tx_cut : ∀ (N : Nat) (t u : Th) (r s : List Nat), t.sz < N → t.ok → u.ok → stop r → stop s → tx t ++ r = tx u ++ s → t = u ∧ r = s
  | 0, t, _, _, _, h, _, _, _, _, _ => absurd h (Nat.not_lt_zero _)
  | N + 1, t, u, r, s, hz, a, b, hr, hs, e => by
    have ih := tx_cut N
    cases ht : nodeOf t with
    | none =>
      cases hu : nodeOf u with
      | none =>
        cases t <;> simp only [nodeOf, reduceCtorEq] at ht <;> cases u <;> simp only [nodeOf, reduceCtorEq] at hu
        · rw [tx_num, tx_num] at e
          obtain ⟨h1, h2⟩ := num_cut hr hs e
          exact ⟨by rw [h1], h2⟩
        · rw [tx_num, tx_word b] at e
          obtain ⟨c, l, h1, h2⟩ := numT_head _
          rw [h1] at e
          injection e with e1 _
          omega
        · rw [tx_num, tx_word a] at e
          obtain ⟨c, l, h1, h2⟩ := numT_head _
          rw [h1] at e
          injection e with e1 _
          omega
        · rw [tx_word a, tx_word b] at e
          obtain ⟨h1, h2⟩ := qt_cut (nice_cs a) (nice_cs b) e
          exact ⟨by rw [h1], h2⟩
      | some y =>
        obtain ⟨h1, _, _⟩ := tx_node b hu
        rw [h1] at e
        cases t <;> simp only [nodeOf, reduceCtorEq] at ht
        · rw [tx_num] at e
          obtain ⟨c, l, h1, h2⟩ := numT_head _
          rw [h1] at e
          injection e with e1 _
          omega
        · rw [tx_word a] at e
          injection e with e1 _
          omega
    | some x =>
      obtain ⟨h1, h2, h3⟩ := tx_node a ht
      rw [h1] at e
      cases hu : nodeOf u with
      | none =>
        cases u <;> simp only [nodeOf, reduceCtorEq] at hu
        · rw [tx_num] at e
          obtain ⟨c, l, h1, h2⟩ := numT_head _
          rw [h1] at e
          injection e with e1 _
          omega
        · rw [tx_word b] at e
          injection e with e1 _
          omega
      | some y =>
        obtain ⟨g1, g2, g3⟩ := tx_node b hu
        rw [g1] at e
        obtain ⟨hx, xs⟩ := x
        obtain ⟨hy, ys⟩ := y
        dsimp only at e h2 g2 h3 g3
        have e0 : qt hx ++ (tailT xs ++ r) = qt hy ++ (tailT ys ++ s) := by
          unfold nodeT at e
          rw [List.cons_append, List.cons_append, List.append_assoc, List.append_assoc] at e
          exact (List.cons.inj e).2
        obtain ⟨eh, er⟩ := qt_cut h2 g2 e0
        have hlt := parts_sz ht
        cases xs with
        | nil =>
          cases ys with
          | nil =>
            refine ⟨node_inj a b ht (by rw [hu, eh]), ?_⟩
            simpa [tailT] using er
          | cons y2 ys => simp [tailT] at er
        | cons x2 xs =>
          cases ys with
          | nil => simp [tailT] at er
          | cons y2 ys =>
            have er' : TL.joinL [44, 32] ((x2 :: xs).map tx) ++ 41 :: r = TL.joinL [44, 32] ((y2 :: ys).map tx) ++ 41 :: s := by
              simpa [tailT] using er
            obtain ⟨k1, k2⟩ := join_cut (N := N) ih (x2 :: xs) (y2 :: ys) (by simp only at hlt; omega) h3 g3 (by simp) (by simp) er'
            exact ⟨node_inj a b ht (by rw [hu, eh, k1]), k2⟩
theorem shown_inj {t u : Th} (a : t.ok) (b : u.ok) (h : t.py.shown = u.py.shown) : t = u := by
  have e : tx t ++ [] = tx u ++ [] := by unfold tx; rw [h]
  exact (tx_cut (t.sz + 1) t u [] [] (Nat.lt_succ_self _) a b (by simp [stop]) (by simp [stop]) e).1
/-! ### lengths -/
theorem join_len : ∀ ts : List (List Nat), (TL.joinL [44, 32] ts).length ≤ (ts.map fun t => t.length + 2).sum
  | [] => by simp [TL.joinL]
  | [p] => by simp [TL.joinL]
  | p :: q :: r => by
    have := join_len (q :: r)
    simp [TL.joinL] at this ⊢
    omega
mutual
theorem tx_len : ∀ t : Th, t.ok → (tx t).length + 2 ≤ 40 * t.sz
  | .num i, h => by rw [tx_num, Th.sz]; have := numT_len h; omega
  | .word s, h => by rw [tx_word h, Th.sz]; have h2 : (tl s).length ≤ 20 := h.2; simp [qt] at h2 ⊢; omega
  | .opn n, h => by
    rw [tx_opn, Th.sz]
    have := numT_len (i := n) h
    have e : (tl (("?" : String) : Str)).length = 1 := by decide +kernel
    simp [nodeT, tailT, TL.joinL, tx_num, qt] at e ⊢
    omega
  | .new n, h => by
    rw [tx_new, Th.sz]
    have := numT_len (i := n) h
    have e : (tl (("~" : String) : Str)).length = 1 := by decide +kernel
    simp [nodeT, tailT, TL.joinL, tx_num, qt] at e ⊢
    omega
  | .blt g xs, h => by
    rw [tx_blt h.1, Th.sz]
    have h1 : (tl g).length ≤ 20 := h.1.2
    have h2 := txs_len xs h.2.2
    cases xs with
    | nil => simp [nodeT, tailT, qt]; simp at h1; omega
    | cons x r =>
      have h3 := join_len ((x :: r).map tx)
      simp [nodeT, tailT, qt] at h1 h3 h2 ⊢
      omega
theorem txs_len : ∀ ts : List Th, Th.oks ts → ((ts.map tx).map fun t => t.length + 2).sum ≤ 40 * Th.szs ts
  | [], _ => by simp
  | t :: r, h => by
    have h1 := tx_len t h.1
    have h2 := txs_len r h.2
    simp only [List.map_cons, List.sum_cons, Th.szs]
    omega
end
end DL

/-! DZ: reckoning with readings: what simp unfolds; loops and comprehensions by what holds at each turn. -/
namespace DL
open PySem PySem.Spec PyProof.Rows L2
theorem dstart_1 {n : Nat} {a : D} : dstart (n + 1) [a] = some a :: List.replicate n none := by simp [dstart]
theorem dstart_2 {n : Nat} {a b : D} : dstart (n + 2) [a, b] = some a :: some b :: List.replicate n none := by simp [dstart]
theorem dstart_3 {n : Nat} {a b c : D} : dstart (n + 3) [a, b, c] = some a :: some b :: some c :: List.replicate n none := by simp [dstart]
theorem dstart_4 {n : Nat} {a b c d : D} : dstart (n + 4) [a, b, c, d] = some a :: some b :: some c :: some d :: List.replicate n none := by simp [dstart]
theorem dstart_5 {n : Nat} {a b c d e : D} : dstart (n + 5) [a, b, c, d, e] = some a :: some b :: some c :: some d :: some e :: List.replicate n none := by simp [dstart]
@[simp] theorem kit_nt : kitB "NoneType" "tuple" = some false := by decide +kernel
@[simp] theorem kit_bt : kitB "bool" "tuple" = some false := by decide +kernel
@[simp] theorem kit_it : kitB "int" "tuple" = some false := by decide +kernel
@[simp] theorem kit_st : kitB "str" "tuple" = some false := by decide +kernel
@[simp] theorem kit_tt : kitB "tuple" "tuple" = some true := by decide +kernel
@[simp] theorem kit_lt : kitB "list" "tuple" = some false := by decide +kernel
@[simp] theorem kit_dt : kitB "dict" "tuple" = some false := by decide +kernel
@[simp] theorem kit_ss : kitB "str" "str" = some true := by decide +kernel
@[simp] theorem kit_is : kitB "int" "str" = some false := by decide +kernel
@[simp] theorem kit_ts : kitB "tuple" "str" = some false := by decide +kernel
@[simp] theorem kit_dd : kitB "dict" "dict" = some true := by decide +kernel
@[simp] theorem kit_nd : kitB "NoneType" "dict" = some false := by decide +kernel
/-- what a def's body must end with -/
abbrev ends (Q : DK) : DEnds := { nx := fun _ M' => ∃ M2, M2.le M' ∧ Q .non M2, rt := fun d M' => ∃ M2, M2.le M' ∧ Q d M2 }
theorem done {Q : DK} {d : D} {M : Sto} (q : Q d M) : ∃ M2, M2.le M ∧ Q d M2 := ⟨M, M.le_refl, q⟩
@[simp] theorem len_lst {xs : List D} {M : Sto} {Q : DK} : gLen [.lst xs] M Q = Q (.int xs.length) M := rfl
@[simp] theorem len_tup {xs : List D} {M : Sto} {Q : DK} : gLen [.tup xs] M Q = Q (.int xs.length) M := rfl
@[simp] theorem tup_lst {xs : List D} {M : Sto} {Q : DK} : gTupOf [.lst xs] M Q = Q (.tup xs) M := rfl
@[simp] theorem tup_tup {xs : List D} {M : Sto} {Q : DK} : gTupOf [.tup xs] M Q = Q (.tup xs) M := rfl
@[simp] theorem list_lst {xs : List D} {M : Sto} {Q : DK} : gListOf [.lst xs] M Q = Q (.lst xs) M := rfl
@[simp] theorem list_tup {xs : List D} {M : Sto} {Q : DK} : gListOf [.tup xs] M Q = Q (.lst xs) M := rfl
/-- a comprehension: what holds at each turn -/
theorem comp_inv {g : DTG} {tt : DTT} {te : DTE} {τ : DSt} {Q : List D → Sto → Prop} (I : List D → List D → Sto → Prop)
    (step : ∀ d ds acc M (K : List D → Sto → Prop), I (d :: ds) acc M → (∀ acc' M', I ds acc' M' → K acc' M') →
      g d τ M fun τ2 M2 => tt τ2 M2 fun b M3 => if b = true then te τ2 M3 fun y M4 => acc.length < sizeLine ∧ K (acc ++ [y]) M4 else K acc M3)
    (fin : ∀ acc M, I [] acc M → Q acc M) : ∀ ds acc M, I ds acc M → compD g tt te τ Q ds acc M
  | [], acc, M, h => fin acc M h
  | d :: ds, acc, M, h => step d ds acc M _ h fun acc' M' h' => comp_inv I step fin ds acc' M' h'
/-- .. of a def or the like, item by item, nothing changes -/
theorem comp_map {i : Nat} {te : DTE} {τ : DSt} {M : Sto} {α : Type} (e : α → D) (f : α → D) : ∀ (xs : List α) (acc : List D) (Q : List D → Sto → Prop), (∀ x ∈ xs, ∀ K : DK, K (f x) M → te (τ.set i (some (e x))) M K) → acc.length + xs.length ≤ sizeLine →
    Q (acc ++ xs.map f) M → compD (dgName i) dYes te τ Q (xs.map e) acc M
  | [], acc, Q, _, _, q => by simpa [compD] using q
  | x :: xs, acc, Q, h, hz, q => by
    rw [List.map_cons]
    unfold compD
    simp only [dgName, dYes, if_true]
    refine h x (by simp) _ ⟨by rw [List.length_cons] at hz; omega, ?_⟩
    refine comp_map e f xs (acc ++ [f x]) Q (fun y hy => h y (by simp [hy])) ?_ ?_
    · simp at hz ⊢; omega
    · simpa using q
/-- a for: what holds at each turn -/
theorem loop_inv {g : DTG} {tb : DTS} {E : DEnds} (I : List D → DSt → Sto → Prop)
    (step : ∀ d ds τ M (K : DSt → Sto → Prop), I (d :: ds) τ M → (∀ τ' M', I ds τ' M' → K τ' M') → g d τ M fun τ1 M1 => tb { E with nx := K, ct := K, bk := E.nx } τ1 M1)
    (fin : ∀ τ M, I [] τ M → E.nx τ M) : ∀ ds τ M, I ds τ M → loopD g tb E ds τ M
  | [], τ, M, h => fin τ M h
  | d :: ds, τ, M, h => step d ds τ M _ h fun τ' M' h' => loop_inv I step fin ds τ' M' h'
end DL

/-! printed by gen.py -/
namespace DL
open PySem PySem.Spec PyProof.Rows L2
theorem hu_le {k n : Nat} {A : Around} (r : Room k A) (h : n < 16 * k + 200) : A.units + n < cLine := by
  have := r.un
  omega
def top (i : Nat) : Stmt := PySem.Challenge.pw_nearestkinds_k00_errors_keep_what_is_pas.main.body.getD i (.Pass ⟨0, 0, 0, 0⟩)
structure Top (mg : Str → Option Value) : Prop where
  b_abs : mg "abs" = none
  b_any : mg "any" = none
  b_enumerate : mg "enumerate" = none
  b_int : mg "int" = none
  b_isinstance : mg "isinstance" = none
  b_len : mg "len" = none
  b_range : mg "range" = none
  b_repr : mg "repr" = none

abbrev errNames : List Str := ["KindError", "BadBook", "BadTable", "BadProgram", "BadText", "TooMany", "NeedsItself", "Unclear", "Unmet", "NoName", "Kept", "NoSorts", "NoUse", "NoFacts", "NoRow", "NoLot", "NoWish", "NoTree", "NoFamily", "NoMany", "NoTerm", "NoStanding", "NoLine", "NoText", "NothingDone", "NotClear", "NotRooted", "OtherPlaces", "TooGreat"]
abbrev plainNames : List Str := ["KindError", "NoSorts", "NoUse", "NoFacts", "NoRow", "NoLot", "NoWish", "NoTree", "NoFamily", "NoMany", "NoTerm", "NoStanding", "NoLine", "NoText", "NothingDone", "NotClear", "NotRooted", "OtherPlaces", "TooGreat"]
abbrev oneNames : List (Str × Str) := [("BadBook", "part"), ("BadTable", "part"), ("BadProgram", "part"), ("BadText", "place"), ("TooMany", "most"), ("NoName", "name"), ("Kept", "name")]
abbrev twoNames : List Str := ["NeedsItself", "Unclear", "Unmet"]
theorem in_KindError : ("KindError" : Str) ∈ errNames := by decide +kernel
theorem in_BadBook : ("BadBook" : Str) ∈ errNames := by decide +kernel
theorem in_BadTable : ("BadTable" : Str) ∈ errNames := by decide +kernel
theorem in_BadProgram : ("BadProgram" : Str) ∈ errNames := by decide +kernel
theorem in_BadText : ("BadText" : Str) ∈ errNames := by decide +kernel
theorem in_TooMany : ("TooMany" : Str) ∈ errNames := by decide +kernel
theorem in_NeedsItself : ("NeedsItself" : Str) ∈ errNames := by decide +kernel
theorem in_Unclear : ("Unclear" : Str) ∈ errNames := by decide +kernel
theorem in_Unmet : ("Unmet" : Str) ∈ errNames := by decide +kernel
theorem in_NoName : ("NoName" : Str) ∈ errNames := by decide +kernel
theorem in_Kept : ("Kept" : Str) ∈ errNames := by decide +kernel
theorem in_NoSorts : ("NoSorts" : Str) ∈ errNames := by decide +kernel
theorem in_NoUse : ("NoUse" : Str) ∈ errNames := by decide +kernel
theorem in_NoFacts : ("NoFacts" : Str) ∈ errNames := by decide +kernel
theorem in_NoRow : ("NoRow" : Str) ∈ errNames := by decide +kernel
theorem in_NoLot : ("NoLot" : Str) ∈ errNames := by decide +kernel
theorem in_NoWish : ("NoWish" : Str) ∈ errNames := by decide +kernel
theorem in_NoTree : ("NoTree" : Str) ∈ errNames := by decide +kernel
theorem in_NoFamily : ("NoFamily" : Str) ∈ errNames := by decide +kernel
theorem in_NoMany : ("NoMany" : Str) ∈ errNames := by decide +kernel
theorem in_NoTerm : ("NoTerm" : Str) ∈ errNames := by decide +kernel
theorem in_NoStanding : ("NoStanding" : Str) ∈ errNames := by decide +kernel
theorem in_NoLine : ("NoLine" : Str) ∈ errNames := by decide +kernel
theorem in_NoText : ("NoText" : Str) ∈ errNames := by decide +kernel
theorem in_NothingDone : ("NothingDone" : Str) ∈ errNames := by decide +kernel
theorem in_NotClear : ("NotClear" : Str) ∈ errNames := by decide +kernel
theorem in_NotRooted : ("NotRooted" : Str) ∈ errNames := by decide +kernel
theorem in_OtherPlaces : ("OtherPlaces" : Str) ∈ errNames := by decide +kernel
theorem in_TooGreat : ("TooGreat" : Str) ∈ errNames := by decide +kernel
theorem ip_KindError : ("KindError" : Str) ∈ plainNames := by decide +kernel
theorem ip_NoSorts : ("NoSorts" : Str) ∈ plainNames := by decide +kernel
theorem ip_NoUse : ("NoUse" : Str) ∈ plainNames := by decide +kernel
theorem ip_NoFacts : ("NoFacts" : Str) ∈ plainNames := by decide +kernel
theorem ip_NoRow : ("NoRow" : Str) ∈ plainNames := by decide +kernel
theorem ip_NoLot : ("NoLot" : Str) ∈ plainNames := by decide +kernel
theorem ip_NoWish : ("NoWish" : Str) ∈ plainNames := by decide +kernel
theorem ip_NoTree : ("NoTree" : Str) ∈ plainNames := by decide +kernel
theorem ip_NoFamily : ("NoFamily" : Str) ∈ plainNames := by decide +kernel
theorem ip_NoMany : ("NoMany" : Str) ∈ plainNames := by decide +kernel
theorem ip_NoTerm : ("NoTerm" : Str) ∈ plainNames := by decide +kernel
theorem ip_NoStanding : ("NoStanding" : Str) ∈ plainNames := by decide +kernel
theorem ip_NoLine : ("NoLine" : Str) ∈ plainNames := by decide +kernel
theorem ip_NoText : ("NoText" : Str) ∈ plainNames := by decide +kernel
theorem ip_NothingDone : ("NothingDone" : Str) ∈ plainNames := by decide +kernel
theorem ip_NotClear : ("NotClear" : Str) ∈ plainNames := by decide +kernel
theorem ip_NotRooted : ("NotRooted" : Str) ∈ plainNames := by decide +kernel
theorem ip_OtherPlaces : ("OtherPlaces" : Str) ∈ plainNames := by decide +kernel
theorem ip_TooGreat : ("TooGreat" : Str) ∈ plainNames := by decide +kernel
theorem i1_BadBook : (("BadBook", "part") : Str × Str) ∈ oneNames := by decide +kernel
theorem i1_BadTable : (("BadTable", "part") : Str × Str) ∈ oneNames := by decide +kernel
theorem i1_BadProgram : (("BadProgram", "part") : Str × Str) ∈ oneNames := by decide +kernel
theorem i1_BadText : (("BadText", "place") : Str × Str) ∈ oneNames := by decide +kernel
theorem i1_TooMany : (("TooMany", "most") : Str × Str) ∈ oneNames := by decide +kernel
theorem i1_NoName : (("NoName", "name") : Str × Str) ∈ oneNames := by decide +kernel
theorem i1_Kept : (("Kept", "name") : Str × Str) ∈ oneNames := by decide +kernel
theorem i2_NeedsItself : ("NeedsItself" : Str) ∈ twoNames := by decide +kernel
theorem i2_Unclear : ("Unclear" : Str) ∈ twoNames := by decide +kernel
theorem i2_Unmet : ("Unmet" : Str) ∈ twoNames := by decide +kernel
structure TopE (P : Program) (K : PySem.W.Frag) (mg : Str → Option Value) (cls : Str → Addr) : Prop where
  er : ∀ n ∈ errNames, ErC K cls "KindError" n ∧ mg n = some (.ref (cls n))
  pl : ∀ n ∈ plainNames, PySem.W.excIn K (cls n) veMro "ValueError.__new__" = true
  s1 : ∀ p ∈ oneNames, SupC P K (cls p.1) p.2 mg
  s2 : ∀ n ∈ twoNames, SupC2 P K (cls n) "family" "use" mg
  mV : mg "ValueError" = none
  ek : ErK K
theorem TopE.no {P : Program} {K : PySem.W.Frag} {mg : Str → Option Value} {cls : Str → Addr} (J : TopE P K mg cls) (p : Str × Str) (h : p ∈ oneNames) : PySem.W.findIn K (.ref (cls p.1)) p.2 = some none := (J.s1 p h).nof
theorem TopE.no0 {P : Program} {K : PySem.W.Frag} {mg : Str → Option Value} {cls : Str → Addr} (J : TopE P K mg cls) (n : Str) (h : n ∈ twoNames) : PySem.W.findIn K (.ref (cls n)) "family" = some none := (J.s2 n h).nof
theorem TopE.no1 {P : Program} {K : PySem.W.Frag} {mg : Str → Option Value} {cls : Str → Addr} (J : TopE P K mg cls) (n : Str) (h : n ∈ twoNames) : PySem.W.findIn K (.ref (cls n)) "use" = some none := (J.s2 n h).nof2
def subE (m c : Str) : Option Bool := if m ∈ errNames ∧ c ∈ errNames then some (subB "KindError" m c) else none
theorem subE_eq {m c : Str} (h : subE m c = some true) (hc : c ≠ "KindError") : c = m := by
  unfold subE at h
  split at h
  · simp only [Option.some.injEq, subB, Bool.or_eq_true, decide_eq_true_eq] at h
    exact h.elim (fun e => e.symm) fun e => absurd e hc
  · cases h
theorem subE_exm {P : Program} {K : PySem.W.Frag} {mg : Str → Option Value} {cls : Str → Addr} (J : TopE P K mg cls) {m c : Str} {b : Bool} (h : subE m c = some b) : PySem.W.exmOne K (.ref (cls m)) (.ref (cls c)) = some b := by
  unfold subE at h
  split at h
  · rename_i z
    rw [← h]
    exact ErC.exm (J.er _ in_KindError).1 (J.er _ z.1).1 (J.er _ z.2).1
  · cases h
def dMk0 (x : Str) : DTM := fun _ M Xd => Xd x [] M
def dMkS2 (x f f2 : Str) (te te2 : DTE) : DTM := fun τ M Xd => te τ M fun d M1 => te2 τ M1 fun d2 M2 => Xd x [(f2, d2), (f, d)] M2

section
variable [Wsh] {P : Program} {w : World} {K : PySem.W.Frag} {mg : Str → Option Value} {base : Heap}
abbrev s_law_hand : Stmt := top 31
abbrev N_law_hand : List Str := ["script", "cells", "cell"]
theorem sc_law_hand : FnScope N_law_hand ["script"] (defScope s_law_hand) := ⟨rfl, rfl, rfl, by decide +kernel, rfl, by decide +kernel, by decide +kernel⟩
def t_law_hand_1 : DTS := (dRet (dLstM (dCons (dVar 1) (dCons (dC (.int 0)) (dCons (dC (.int 0)) (dCons (dOp gAdd (dC (.int 97)) (dOp gMul (dC (.int 5)) (dCB gLen (dCons (dVar 1) dNil)))) (dCons (dC (.int 0)) dNil)))))))
def t_law_hand : DTS := (dSeq (dAsg (dLc (iSeq (dSl (dVar 0) dNoPart (dPart (dC (.int 63))))) (dgName 2) dYes (dCB gAbs (dCons (dCB gInt (dCons (dVar 2) dNil)) dNil)) [2]) (dgName 1))
  (t_law_hand_1))
theorem b_law_hand {k : Nat} {f : Addr} {cdv : Value} {A : Around} {outer : List Env} {s : Shared} {H : Hp} {E : XK} (T : Top mg) (hk : 5 ≤ k) 
    (hg : (A.deeper (envOfC "_law_hand" (defScope s_law_hand) s.heap.objs.size f cdv)).guards = some []) (hr : Room k (A.deeper (envOfC "_law_hand" (defScope s_law_hand) s.heap.objs.size f cdv))) :
    (DSs (cxOf CX0 P w K mg base N_law_hand "_law_hand" (defScope s_law_hand) f cdv A outer s H E).nox (defBody s_law_hand) (t_law_hand)) := by
  have h1 : (cxOf CX0 P w K mg base N_law_hand "_law_hand" (defScope s_law_hand) f cdv A outer s H E).nox.A.units + 1 < cLine := hu_le hr (by omega)
  have hE : (cxOf CX0 P w K mg base N_law_hand "_law_hand" (defScope s_law_hand) f cdv A outer s H E).nox.A.units + 250 < cLine := hu_le hr (by omega)
  have hI : (cxOf CX0 P w K mg base N_law_hand "_law_hand" (defScope s_law_hand) f cdv A outer s H E).nox.A.units + (250 + 2) < cLine := hu_le hr (by omega)
  exact (dss_cons (ds_setLc (own := [("cell", 2)]) rfl sc_law_hand.nd (di_seq (de_sl (dv 0) do_none (do_some de_int))) (blkOk_by (N := N_law_hand) (sc := defScope s_law_hand) (by decide +kernel)) (dgc_name sc_law_hand.nd) (fun _ _ _ _ _ => dts_nil) (fun _ _ _ _ _ => (de_callB cd_abs T.b_abs (da_cons (de_callTy cd_int T.b_int (da_cons (dv 2) da_nil)) da_nil))) (sw_true rfl rfl rfl (by decide +kernel)))
    (dss_one (ds_ret (de_lstM (da_cons (dv 1) (da_cons de_int (da_cons de_int (da_cons (de_op od_add de_int (de_op od_mul de_int (de_callB cd_len T.b_len (da_cons (dv 1) da_nil)))) (da_cons de_int da_nil)))))))))
abbrev s_law_draw : Stmt := top 32
abbrev N_law_draw : List Str := ["hand", "many", "cell", "figure", "number"]
theorem sc_law_draw : FnScope N_law_draw ["hand", "many"] (defScope s_law_draw) := ⟨rfl, rfl, rfl, by decide +kernel, rfl, by decide +kernel, by decide +kernel⟩
def t_law_draw_1 : DTS := (dRet (dOp gMod (dCB gInt (dCons (dOp gFdiv (dVar 4) (dC (.int 32))) dNil)) (dVar 1)))
def t_law_draw_2 : DTS := (dSeq (dAsg (dOp gMod (dCB gInt (dCons (dOp gMul (dVar 4) (dOp gAdd (dOp gFdiv (dVar 4) (dC (.int 2671))) (dC (.int 69621)))) dNil)) (dC (.int 2147483647))) (dgName 4))
  (t_law_draw_1))
def t_law_draw_3 : DTS := (dSeq (dAsg (dOp gMod (dCB gInt (dCons (dOp gMul (dVar 4) (dOp gAdd (dOp gFdiv (dVar 4) (dC (.int 1223))) (dC (.int 52027)))) dNil)) (dC (.int 2147483629))) (dgName 4))
  (t_law_draw_2))
def t_law_draw_4 : DTS := (dSeq (dAsg (dOp gMod (dCB gInt (dCons (dOp gMul (dCB gInt (dCons (dOp gAdd (dOp gIx (dVar 0) (dC (.int 3))) (dOp gMul (dC (.int 6151)) (dOp gIx (dVar 0) (dC (.int 4))))) dNil)) (dC (.int 40692))) dNil)) (dC (.int 2147483399))) (dgName 4))
  (t_law_draw_3))
def t_law_draw_5 : DTS := (dSeq (dPutL (dVar 0) (dC (.int 4)) (dOp gAdd (dOp gIx (dVar 0) (dC (.int 4))) (dC (.int 1))))
  (t_law_draw_4))
def t_law_draw_6 : DTS := (dSeq (dIfS (dTest (dOp gGt (dOp gIx (dVar 0) (dC (.int 2))) (dC (.int 0)))) (dSeq (dAsg (dOp gMod (dCB gInt (dCons (dOp gIx (dVar 0) (dC (.int 2))) dNil)) (dVar 1)) (dgName 3))
  (dSeq (dPutL (dVar 0) (dC (.int 2)) (dOp gFdiv (dOp gIx (dVar 0) (dC (.int 2))) (dVar 1)))
  (dRet (dVar 3)))) dNext)
  (t_law_draw_5))
def t_law_draw : DTS := (dSeq (dIfS (dAnd (dTest (dOp (gEq 250) (dOp gIx (dVar 0) (dC (.int 2))) (dC (.int 0)))) (dTest (dOp gLt (dOp gIx (dVar 0) (dC (.int 1))) (dCB gLen (dCons (dOp gIx (dVar 0) (dC (.int 0))) dNil))))) (dSeq (dAsg (dOp gIx (dOp gIx (dVar 0) (dC (.int 0))) (dOp gIx (dVar 0) (dC (.int 1)))) (dgName 2))
  (dSeq (dPutL (dVar 0) (dC (.int 1)) (dOp gAdd (dOp gIx (dVar 0) (dC (.int 1))) (dC (.int 1))))
  (dSeq (dPutL (dVar 0) (dC (.int 3)) (dOp gMod (dCB gInt (dCons (dOp gAdd (dOp gAdd (dOp gMul (dOp gIx (dVar 0) (dC (.int 3))) (dC (.int 48271))) (dVar 2)) (dC (.int 31))) dNil)) (dC (.int 2147483647))))
  (dIfS (dTest (dOp gGe (dVar 2) (dOp gPow (dC (.int 10)) (dC (.int 18))))) (dPutL (dVar 0) (dC (.int 2)) (dVar 2)) dNext)))) dNext)
  (t_law_draw_6))
theorem b_law_draw {k : Nat} {f : Addr} {cdv : Value} {A : Around} {outer : List Env} {s : Shared} {H : Hp} {E : XK} (T : Top mg) (hk : 5 ≤ k) 
    (hg : (A.deeper (envOfC "_law_draw" (defScope s_law_draw) s.heap.objs.size f cdv)).guards = some []) (hr : Room k (A.deeper (envOfC "_law_draw" (defScope s_law_draw) s.heap.objs.size f cdv))) :
    (DSs (cxOf CX0 P w K mg base N_law_draw "_law_draw" (defScope s_law_draw) f cdv A outer s H E).nox (defBody s_law_draw) (t_law_draw)) := by
  have h1 : (cxOf CX0 P w K mg base N_law_draw "_law_draw" (defScope s_law_draw) f cdv A outer s H E).nox.A.units + 1 < cLine := hu_le hr (by omega)
  have hE : (cxOf CX0 P w K mg base N_law_draw "_law_draw" (defScope s_law_draw) f cdv A outer s H E).nox.A.units + 250 < cLine := hu_le hr (by omega)
  have hI : (cxOf CX0 P w K mg base N_law_draw "_law_draw" (defScope s_law_draw) f cdv A outer s H E).nox.A.units + (250 + 2) < cLine := hu_le hr (by omega)
  exact (dss_cons (ds_if (DW.dt (dw_and (dt_cmp (od_eq hE) (de_ix (dv 0) de_int) de_int) (dw_and1 (dt_cmp od_lt (de_ix (dv 0) de_int) (de_callB cd_len T.b_len (da_cons (de_ix (dv 0) de_int) da_nil)))))) (dss_cons (ds_set sc_law_draw.nd (de_ix (de_ix (dv 0) de_int) (de_ix (dv 0) de_int)))
    (dss_cons (ds_putL (dv 0) de_int (de_op od_add (de_ix (dv 0) de_int) de_int))
    (dss_cons (ds_putL (dv 0) de_int (de_op od_mod (de_callTy cd_int T.b_int (da_cons (de_op od_add (de_op od_add (de_op od_mul (de_ix (dv 0) de_int) de_int) (dv 2)) de_int) da_nil)) de_int))
    (dss_one (ds_if (dt_cmp od_ge (dv 2) (de_op od_pow de_int de_int)) (dss_one (ds_putL (dv 0) de_int (dv 2))) dss_nil))))) dss_nil)
    (dss_cons (ds_if (dt_cmp od_gt (de_ix (dv 0) de_int) de_int) (dss_cons (ds_set sc_law_draw.nd (de_op od_mod (de_callTy cd_int T.b_int (da_cons (de_ix (dv 0) de_int) da_nil)) (dv 1)))
    (dss_cons (ds_putL (dv 0) de_int (de_op od_fdiv (de_ix (dv 0) de_int) (dv 1)))
    (dss_one (ds_ret (dv 3))))) dss_nil)
    (dss_cons (ds_putL (dv 0) de_int (de_op od_add (de_ix (dv 0) de_int) de_int))
    (dss_cons (ds_set sc_law_draw.nd (de_op od_mod (de_callTy cd_int T.b_int (da_cons (de_op od_mul (de_callTy cd_int T.b_int (da_cons (de_op od_add (de_ix (dv 0) de_int) (de_op od_mul de_int (de_ix (dv 0) de_int))) da_nil)) de_int) da_nil)) de_int))
    (dss_cons (ds_set sc_law_draw.nd (de_op od_mod (de_callTy cd_int T.b_int (da_cons (de_op od_mul (dv 4) (de_op od_add (de_op od_fdiv (dv 4) de_int) de_int)) da_nil)) de_int))
    (dss_cons (ds_set sc_law_draw.nd (de_op od_mod (de_callTy cd_int T.b_int (da_cons (de_op od_mul (dv 4) (de_op od_add (de_op od_fdiv (dv 4) de_int) de_int)) da_nil)) de_int))
    (dss_one (ds_ret (de_op od_mod (de_callTy cd_int T.b_int (da_cons (de_op od_fdiv (dv 4) de_int) da_nil)) (dv 1))))))))))
abbrev s_law_some : Stmt := top 33
abbrev N_law_some : List Str := ["hand", "things"]
theorem sc_law_some : FnScope N_law_some ["hand", "things"] (defScope s_law_some) := ⟨rfl, rfl, rfl, by decide +kernel, rfl, by decide +kernel, by decide +kernel⟩
def t_law_some (c_law_draw : DSp) : DTS := (dRet (dOp gIx (dVar 1) (dCall c_law_draw (dCons (dVar 0) (dCons (dCB gLen (dCons (dVar 1) dNil)) dNil)))))
theorem b_law_some {k : Nat} {f : Addr} {cdv : Value} {A : Around} {outer : List Env} {s : Shared} {H : Hp} {E : XK} {c_law_draw : DSp} (T : Top mg) (hk : 5 ≤ k) (g_law_draw : DFn P w K mg base k "_law_draw" ["hand", "many"] c_law_draw)
    (hg : (A.deeper (envOfC "_law_some" (defScope s_law_some) s.heap.objs.size f cdv)).guards = some []) (hr : Room k (A.deeper (envOfC "_law_some" (defScope s_law_some) s.heap.objs.size f cdv))) :
    (DSs (cxOf CX0 P w K mg base N_law_some "_law_some" (defScope s_law_some) f cdv A outer s H E).nox (defBody s_law_some) (t_law_some c_law_draw)) := by
  have h1 : (cxOf CX0 P w K mg base N_law_some "_law_some" (defScope s_law_some) f cdv A outer s H E).nox.A.units + 1 < cLine := hu_le hr (by omega)
  have hE : (cxOf CX0 P w K mg base N_law_some "_law_some" (defScope s_law_some) f cdv A outer s H E).nox.A.units + 250 < cLine := hu_le hr (by omega)
  have hI : (cxOf CX0 P w K mg base N_law_some "_law_some" (defScope s_law_some) f cdv A outer s H E).nox.A.units + (250 + 2) < cLine := hu_le hr (by omega)
  exact (dss_one (ds_ret (de_ix (dv 1) (de_call g_law_draw hg hr (da_cons (dv 0) (da_cons (de_callB cd_len T.b_len (da_cons (dv 1) da_nil)) da_nil))))))
abbrev s_law_thing : Stmt := top 34
abbrev N_law_thing : List Str := ["hand", "some", "thing", "turn"]
theorem sc_law_thing : FnScope N_law_thing ["hand"] (defScope s_law_thing) := ⟨rfl, rfl, rfl, by decide +kernel, rfl, by decide +kernel, by decide +kernel⟩
def t_law_thing_1 (c_law_some : DSp) (c_law_draw : DSp) : DTS := (dAsg (dOp gIx (dLst (dCons (dTup (dCons (dVar 2) dNil)) (dCons (dLst (dCons (dVar 2) dNil)) (dCons (dTup (dCons (dVar 3) (dCons (dVar 2) dNil))) (dCons (dDisp [((dVar 3), (dVar 2))]) dNil))))) (dCall c_law_draw (dCons (dVar 0) (dCons (dC (.int 4)) dNil)))) (dgName 2))
def t_law_thing_2 (c_law_some : DSp) (c_law_draw : DSp) : DTS := (dRet (dVar 2))
def t_law_thing_3 (c_law_some : DSp) (c_law_draw : DSp) : DTS := (dSeq (dFor (iRange1 (dCall c_law_some (dCons (dVar 0) (dCons (dLst (dCons (dC (.int 0)) (dCons (dC (.int 0)) (dCons (dC (.int 1)) (dCons (dC (.int 2)) (dCons (dC (.int 5)) (dCons (dC (.int 36)) dNil))))))) dNil)))) (dgName 3) (t_law_thing_1 c_law_some c_law_draw))
  (t_law_thing_2 c_law_some c_law_draw))
def t_law_thing_4 (c_law_some : DSp) (c_law_draw : DSp) : DTS := (dSeq (dAsg (dCall c_law_some (dCons (dVar 0) (dCons (dOp gAdd (dVar 1) (dLst (dCons (dDisp [((dC (.str "a")), (dC (.int 1)))]) (dCons (dDisp1 (dTup (dCons (dC (.int 0)) (dCons (dC (.int 1)) dNil))) (dLst (dCons (dC (.int 2)) dNil))) (dCons (dCall c_law_draw (dCons (dVar 0) (dCons (dOp gPow (dC (.int 10)) (dC (.int 9))) dNil))) (dCons (dTup (dCons (dTup (dCons (dC (.str "int")) dNil)) (dCons (dC (.int 3)) dNil))) dNil)))))) dNil))) (dgName 2))
  (t_law_thing_3 c_law_some c_law_draw))
def t_law_thing (c_law_some : DSp) (c_law_draw : DSp) : DTS := (dSeq (dAsg (dLst (dCons (dC .non) (dCons (dC (.bl true)) (dCons (dC (.bl false)) (dCons (dC (.int 0)) (dCons (dC (.int 1)) (dCons (dNeg (dC (.int 1))) (dCons (dOp gSub (dOp gPow (dC (.int 10)) (dC (.int 20))) (dC (.int 1))) (dCons (dC (.str "")) (dCons (dC (.str "many")) (dCons (dC (.str "lists")) (dCons (dTup dNil) (dCons (dLst dNil) (dCons dDict (dCons (dTup (dCons (dC (.int 0)) (dCons (dC (.int 1)) dNil))) (dCons (dLst (dCons (dTup dNil) dNil)) (dCons (dTup (dCons (dC (.str "?")) (dCons (dC (.int 0)) dNil))) (dCons (dTup (dCons (dC (.str "~")) (dCons (dC (.int 1)) dNil))) dNil)))))))))))))))))) (dgName 1))
  (t_law_thing_4 c_law_some c_law_draw))
theorem b_law_thing {k : Nat} {f : Addr} {cdv : Value} {A : Around} {outer : List Env} {s : Shared} {H : Hp} {E : XK} {c_law_some : DSp} {c_law_draw : DSp} (T : Top mg) (hk : 5 ≤ k) (g_law_some : DFn P w K mg base k "_law_some" ["hand", "things"] c_law_some) (g_law_draw : DFn P w K mg base k "_law_draw" ["hand", "many"] c_law_draw)
    (hg : (A.deeper (envOfC "_law_thing" (defScope s_law_thing) s.heap.objs.size f cdv)).guards = some []) (hr : Room k (A.deeper (envOfC "_law_thing" (defScope s_law_thing) s.heap.objs.size f cdv))) :
    (DSs (cxOf CX0 P w K mg base N_law_thing "_law_thing" (defScope s_law_thing) f cdv A outer s H E).nox (defBody s_law_thing) (t_law_thing c_law_some c_law_draw)) := by
  have h1 : (cxOf CX0 P w K mg base N_law_thing "_law_thing" (defScope s_law_thing) f cdv A outer s H E).nox.A.units + 1 < cLine := hu_le hr (by omega)
  have hE : (cxOf CX0 P w K mg base N_law_thing "_law_thing" (defScope s_law_thing) f cdv A outer s H E).nox.A.units + 250 < cLine := hu_le hr (by omega)
  have hI : (cxOf CX0 P w K mg base N_law_thing "_law_thing" (defScope s_law_thing) f cdv A outer s H E).nox.A.units + (250 + 2) < cLine := hu_le hr (by omega)
  exact (dss_cons (ds_set sc_law_thing.nd (de_lst (da_cons de_non (da_cons de_bl (da_cons de_bl (da_cons de_int (da_cons de_int (da_cons (de_neg de_int) (da_cons (de_op od_sub (de_op od_pow de_int de_int) de_int) (da_cons de_str (da_cons de_str (da_cons de_str (da_cons (de_tup da_nil) (da_cons (de_lst da_nil) (da_cons de_dict (da_cons (de_tup (da_cons de_int (da_cons de_int da_nil))) (da_cons (de_lst (da_cons (de_tup da_nil) da_nil)) (da_cons (de_tup (da_cons de_str (da_cons de_int da_nil))) (da_cons (de_tup (da_cons de_str (da_cons de_int da_nil))) da_nil)))))))))))))))))))
    (dss_cons (ds_set sc_law_thing.nd (de_call g_law_some hg hr (da_cons (dv 0) (da_cons (de_op od_add (dv 1) (de_lst (da_cons (de_disp (dps_cons de_str de_int dps_nil)) (da_cons (de_disp1 (hu_le hr (by omega)) (de_tup (da_cons de_int (da_cons de_int da_nil))) (de_lst (da_cons de_int da_nil))) (da_cons (de_call g_law_draw hg hr (da_cons (dv 0) (da_cons (de_op od_pow de_int de_int) da_nil))) (da_cons (de_tup (da_cons (de_tup (da_cons de_str da_nil)) (da_cons de_int da_nil))) da_nil)))))) da_nil))))
    (dss_cons (ds_for PassesOwn.never rfl (di_range1 (by rfl) T.b_range (de_call g_law_some hg hr (da_cons (dv 0) (da_cons (de_lst (da_cons de_int (da_cons de_int (da_cons de_int (da_cons de_int (da_cons de_int (da_cons de_int da_nil))))))) da_nil)))) (dg_name sc_law_thing.nd) (dss_one (ds_set sc_law_thing.nd (de_ix (de_lst (da_cons (de_tup (da_cons (dv 2) da_nil)) (da_cons (de_lst (da_cons (dv 2) da_nil)) (da_cons (de_tup (da_cons (dv 3) (da_cons (dv 2) da_nil))) (da_cons (de_disp (dps_cons (dv 3) (dv 2) dps_nil)) da_nil))))) (de_call g_law_draw hg hr (da_cons (dv 0) (da_cons de_int da_nil)))))))
    (dss_one (ds_ret (dv 2))))))
abbrev s_law_made : Stmt := top 35
abbrev N_law_made : List Str := ["one", "two", "found"]
theorem sc_law_made : FnScope N_law_made ["one", "two"] (defScope s_law_made) := ⟨rfl, rfl, rfl, by decide +kernel, rfl, by decide +kernel, by decide +kernel⟩
def t_law_made_1 (cls : Str → Addr) (K : PySem.W.Frag) : DTS := (dRet (dOp gAdd (dVar 2) (dLst (dCons (dMkV (dMk0 "NothingDone")) (dCons (dMkV (dMk0 "NotClear")) (dCons (dMkV (dMk0 "NotRooted")) (dCons (dMkV (dMk0 "OtherPlaces")) (dCons (dMkV (dMk0 "TooGreat")) dNil))))))))
def t_law_made_2 (cls : Str → Addr) (K : PySem.W.Frag) : DTS := (dSeq (dAsg (dOp gAdd (dVar 2) (dLst (dCons (dMkV (dMk0 "NoLot")) (dCons (dMkV (dMk0 "NoWish")) (dCons (dMkV (dMk0 "NoTree")) (dCons (dMkV (dMk0 "NoFamily")) (dCons (dMkV (dMk0 "NoMany")) (dCons (dMkV (dMk0 "NoTerm")) (dCons (dMkV (dMk0 "NoStanding")) (dCons (dMkV (dMk0 "NoLine")) (dCons (dMkV (dMk0 "NoText")) dNil))))))))))) (dgName 2))
  (t_law_made_1 cls K))
def t_law_made_3 (cls : Str → Addr) (K : PySem.W.Frag) : DTS := (dSeq (dAsg (dOp gAdd (dVar 2) (dLst (dCons (dMkV (dMkS2 "NeedsItself" "family" "use" (dVar 0) (dVar 1))) (dCons (dMkV (dMkS2 "Unclear" "family" "use" (dVar 0) (dVar 1))) (dCons (dMkV (dMkS2 "Unmet" "family" "use" (dVar 0) (dVar 1))) (dCons (dMkV (dMk0 "NoSorts")) (dCons (dMkV (dMk0 "NoUse")) (dCons (dMkV (dMk0 "NoFacts")) (dCons (dMkV (dMk0 "NoRow")) dNil))))))))) (dgName 2))
  (t_law_made_2 cls K))
def t_law_made (cls : Str → Addr) (K : PySem.W.Frag) : DTS := (dSeq (dAsg (dLst (dCons (dMkV (dMkS "BadBook" "part" (dVar 0))) (dCons (dMkV (dMkS "BadTable" "part" (dVar 0))) (dCons (dMkV (dMkS "BadProgram" "part" (dVar 0))) (dCons (dMkV (dMkS "BadText" "place" (dVar 0))) (dCons (dMkV (dMkS "TooMany" "most" (dVar 0))) (dCons (dMkV (dMkS "NoName" "name" (dVar 0))) (dCons (dMkV (dMkS "Kept" "name" (dVar 0))) dNil)))))))) (dgName 2))
  (t_law_made_3 cls K))
omit [Wsh] in
theorem b_law_made {k : Nat} {f : Addr} {cdv : Value} {A : Around} {outer : List Env} {s : Shared} {H : Hp} {E : XK} {cls : Str → Addr} (T : Top mg) (hk : 5 ≤ k) (J : TopE P K mg cls) 
    (hg : (A.deeper (envOfC "_law_made" (defScope s_law_made) s.heap.objs.size f cdv)).guards = some []) (hr : Room k (A.deeper (envOfC "_law_made" (defScope s_law_made) s.heap.objs.size f cdv))) :
    (letI : Wsh := ⟨cls, fun _ _ _ _ => False⟩; DSs (cxOf CX0 P w K mg base N_law_made "_law_made" (defScope s_law_made) f cdv A outer s H E).nox (defBody s_law_made) (t_law_made cls K)) := by
  letI : Wsh := ⟨cls, fun _ _ _ _ => False⟩
  have h1 : (cxOf CX0 P w K mg base N_law_made "_law_made" (defScope s_law_made) f cdv A outer s H E).nox.A.units + 1 < cLine := hu_le hr (by omega)
  have hE : (cxOf CX0 P w K mg base N_law_made "_law_made" (defScope s_law_made) f cdv A outer s H E).nox.A.units + 250 < cLine := hu_le hr (by omega)
  have hI : (cxOf CX0 P w K mg base N_law_made "_law_made" (defScope s_law_made) f cdv A outer s H E).nox.A.units + (250 + 2) < cLine := hu_le hr (by omega)
  exact (dss_cons (ds_set sc_law_made.nd (de_lst (da_cons (de_mkV (dmk_sup (J.s1 _ i1_BadBook) (hr.mono (by omega)) (J.er _ in_BadBook).2 (dv 0))) (da_cons (de_mkV (dmk_sup (J.s1 _ i1_BadTable) (hr.mono (by omega)) (J.er _ in_BadTable).2 (dv 0))) (da_cons (de_mkV (dmk_sup (J.s1 _ i1_BadProgram) (hr.mono (by omega)) (J.er _ in_BadProgram).2 (dv 0))) (da_cons (de_mkV (dmk_sup (J.s1 _ i1_BadText) (hr.mono (by omega)) (J.er _ in_BadText).2 (dv 0))) (da_cons (de_mkV (dmk_sup (J.s1 _ i1_TooMany) (hr.mono (by omega)) (J.er _ in_TooMany).2 (dv 0))) (da_cons (de_mkV (dmk_sup (J.s1 _ i1_NoName) (hr.mono (by omega)) (J.er _ in_NoName).2 (dv 0))) (da_cons (de_mkV (dmk_sup (J.s1 _ i1_Kept) (hr.mono (by omega)) (J.er _ in_Kept).2 (dv 0))) da_nil)))))))))
    (dss_cons (ds_set sc_law_made.nd (de_op od_add (dv 2) (de_lst (da_cons (de_mkV (dmk_sup2 (J.s2 _ i2_NeedsItself) (hr.mono (by omega)) (J.er _ in_NeedsItself).2 (dv 0) (dv 1))) (da_cons (de_mkV (dmk_sup2 (J.s2 _ i2_Unclear) (hr.mono (by omega)) (J.er _ in_Unclear).2 (dv 0) (dv 1))) (da_cons (de_mkV (dmk_sup2 (J.s2 _ i2_Unmet) (hr.mono (by omega)) (J.er _ in_Unmet).2 (dv 0) (dv 1))) (da_cons (de_mkV (dmk_own00 (J.pl _ ip_NoSorts) (J.er _ in_NoSorts).2 (J.er _ in_NoSorts).1.kp (J.er _ in_NoSorts).1.raises)) (da_cons (de_mkV (dmk_own00 (J.pl _ ip_NoUse) (J.er _ in_NoUse).2 (J.er _ in_NoUse).1.kp (J.er _ in_NoUse).1.raises)) (da_cons (de_mkV (dmk_own00 (J.pl _ ip_NoFacts) (J.er _ in_NoFacts).2 (J.er _ in_NoFacts).1.kp (J.er _ in_NoFacts).1.raises)) (da_cons (de_mkV (dmk_own00 (J.pl _ ip_NoRow) (J.er _ in_NoRow).2 (J.er _ in_NoRow).1.kp (J.er _ in_NoRow).1.raises)) da_nil))))))))))
    (dss_cons (ds_set sc_law_made.nd (de_op od_add (dv 2) (de_lst (da_cons (de_mkV (dmk_own00 (J.pl _ ip_NoLot) (J.er _ in_NoLot).2 (J.er _ in_NoLot).1.kp (J.er _ in_NoLot).1.raises)) (da_cons (de_mkV (dmk_own00 (J.pl _ ip_NoWish) (J.er _ in_NoWish).2 (J.er _ in_NoWish).1.kp (J.er _ in_NoWish).1.raises)) (da_cons (de_mkV (dmk_own00 (J.pl _ ip_NoTree) (J.er _ in_NoTree).2 (J.er _ in_NoTree).1.kp (J.er _ in_NoTree).1.raises)) (da_cons (de_mkV (dmk_own00 (J.pl _ ip_NoFamily) (J.er _ in_NoFamily).2 (J.er _ in_NoFamily).1.kp (J.er _ in_NoFamily).1.raises)) (da_cons (de_mkV (dmk_own00 (J.pl _ ip_NoMany) (J.er _ in_NoMany).2 (J.er _ in_NoMany).1.kp (J.er _ in_NoMany).1.raises)) (da_cons (de_mkV (dmk_own00 (J.pl _ ip_NoTerm) (J.er _ in_NoTerm).2 (J.er _ in_NoTerm).1.kp (J.er _ in_NoTerm).1.raises)) (da_cons (de_mkV (dmk_own00 (J.pl _ ip_NoStanding) (J.er _ in_NoStanding).2 (J.er _ in_NoStanding).1.kp (J.er _ in_NoStanding).1.raises)) (da_cons (de_mkV (dmk_own00 (J.pl _ ip_NoLine) (J.er _ in_NoLine).2 (J.er _ in_NoLine).1.kp (J.er _ in_NoLine).1.raises)) (da_cons (de_mkV (dmk_own00 (J.pl _ ip_NoText) (J.er _ in_NoText).2 (J.er _ in_NoText).1.kp (J.er _ in_NoText).1.raises)) da_nil))))))))))))
    (dss_one (ds_ret (de_op od_add (dv 2) (de_lst (da_cons (de_mkV (dmk_own00 (J.pl _ ip_NothingDone) (J.er _ in_NothingDone).2 (J.er _ in_NothingDone).1.kp (J.er _ in_NothingDone).1.raises)) (da_cons (de_mkV (dmk_own00 (J.pl _ ip_NotClear) (J.er _ in_NotClear).2 (J.er _ in_NotClear).1.kp (J.er _ in_NotClear).1.raises)) (da_cons (de_mkV (dmk_own00 (J.pl _ ip_NotRooted) (J.er _ in_NotRooted).2 (J.er _ in_NotRooted).1.kp (J.er _ in_NotRooted).1.raises)) (da_cons (de_mkV (dmk_own00 (J.pl _ ip_OtherPlaces) (J.er _ in_OtherPlaces).2 (J.er _ in_OtherPlaces).1.kp (J.er _ in_OtherPlaces).1.raises)) (da_cons (de_mkV (dmk_own00 (J.pl _ ip_TooGreat) (J.er _ in_TooGreat).2 (J.er _ in_TooGreat).1.kp (J.er _ in_TooGreat).1.raises)) da_nil))))))))))))
abbrev s_law_kinds : Stmt := top 36
abbrev N_law_kinds : List Str := ["one", "found"]
theorem sc_law_kinds : FnScope N_law_kinds ["one"] (defScope s_law_kinds) := ⟨rfl, rfl, rfl, by decide +kernel, rfl, by decide +kernel, by decide +kernel⟩
def t_law_kinds_1 (cls : Str → Addr) (K : PySem.W.Frag) : DTS := (dRet (dOp gAdd (dVar 1) (dLst (dCons (dCB (gIsX (isxK K)) (dCons (dVar 0) (dCons (dC (.ref (cls "TooGreat"))) dNil))) dNil))))
def t_law_kinds_2 (cls : Str → Addr) (K : PySem.W.Frag) : DTS := (dSeq (dAsg (dOp gAdd (dVar 1) (dLst (dCons (dCB (gIsX (isxK K)) (dCons (dVar 0) (dCons (dC (.ref (cls "NotClear"))) dNil))) (dCons (dCB (gIsX (isxK K)) (dCons (dVar 0) (dCons (dC (.ref (cls "NotRooted"))) dNil))) (dCons (dCB (gIsX (isxK K)) (dCons (dVar 0) (dCons (dC (.ref (cls "OtherPlaces"))) dNil))) dNil))))) (dgName 1))
  (t_law_kinds_1 cls K))
def t_law_kinds_3 (cls : Str → Addr) (K : PySem.W.Frag) : DTS := (dSeq (dAsg (dOp gAdd (dVar 1) (dLst (dCons (dCB (gIsX (isxK K)) (dCons (dVar 0) (dCons (dC (.ref (cls "NoLine"))) dNil))) (dCons (dCB (gIsX (isxK K)) (dCons (dVar 0) (dCons (dC (.ref (cls "NoText"))) dNil))) (dCons (dCB (gIsX (isxK K)) (dCons (dVar 0) (dCons (dC (.ref (cls "NothingDone"))) dNil))) dNil))))) (dgName 1))
  (t_law_kinds_2 cls K))
def t_law_kinds_4 (cls : Str → Addr) (K : PySem.W.Frag) : DTS := (dSeq (dAsg (dOp gAdd (dVar 1) (dLst (dCons (dCB (gIsX (isxK K)) (dCons (dVar 0) (dCons (dC (.ref (cls "NoMany"))) dNil))) (dCons (dCB (gIsX (isxK K)) (dCons (dVar 0) (dCons (dC (.ref (cls "NoTerm"))) dNil))) (dCons (dCB (gIsX (isxK K)) (dCons (dVar 0) (dCons (dC (.ref (cls "NoStanding"))) dNil))) dNil))))) (dgName 1))
  (t_law_kinds_3 cls K))
def t_law_kinds_5 (cls : Str → Addr) (K : PySem.W.Frag) : DTS := (dSeq (dAsg (dOp gAdd (dVar 1) (dLst (dCons (dCB (gIsX (isxK K)) (dCons (dVar 0) (dCons (dC (.ref (cls "NoWish"))) dNil))) (dCons (dCB (gIsX (isxK K)) (dCons (dVar 0) (dCons (dC (.ref (cls "NoTree"))) dNil))) (dCons (dCB (gIsX (isxK K)) (dCons (dVar 0) (dCons (dC (.ref (cls "NoFamily"))) dNil))) dNil))))) (dgName 1))
  (t_law_kinds_4 cls K))
def t_law_kinds_6 (cls : Str → Addr) (K : PySem.W.Frag) : DTS := (dSeq (dAsg (dOp gAdd (dVar 1) (dLst (dCons (dCB (gIsX (isxK K)) (dCons (dVar 0) (dCons (dC (.ref (cls "NoFacts"))) dNil))) (dCons (dCB (gIsX (isxK K)) (dCons (dVar 0) (dCons (dC (.ref (cls "NoRow"))) dNil))) (dCons (dCB (gIsX (isxK K)) (dCons (dVar 0) (dCons (dC (.ref (cls "NoLot"))) dNil))) dNil))))) (dgName 1))
  (t_law_kinds_5 cls K))
def t_law_kinds_7 (cls : Str → Addr) (K : PySem.W.Frag) : DTS := (dSeq (dAsg (dOp gAdd (dVar 1) (dLst (dCons (dCB (gIsX (isxK K)) (dCons (dVar 0) (dCons (dC (.ref (cls "Unmet"))) dNil))) (dCons (dCB (gIsX (isxK K)) (dCons (dVar 0) (dCons (dC (.ref (cls "NoSorts"))) dNil))) (dCons (dCB (gIsX (isxK K)) (dCons (dVar 0) (dCons (dC (.ref (cls "NoUse"))) dNil))) dNil))))) (dgName 1))
  (t_law_kinds_6 cls K))
def t_law_kinds_8 (cls : Str → Addr) (K : PySem.W.Frag) : DTS := (dSeq (dAsg (dOp gAdd (dVar 1) (dLst (dCons (dCB (gIsX (isxK K)) (dCons (dVar 0) (dCons (dC (.ref (cls "Kept"))) dNil))) (dCons (dCB (gIsX (isxK K)) (dCons (dVar 0) (dCons (dC (.ref (cls "NeedsItself"))) dNil))) (dCons (dCB (gIsX (isxK K)) (dCons (dVar 0) (dCons (dC (.ref (cls "Unclear"))) dNil))) dNil))))) (dgName 1))
  (t_law_kinds_7 cls K))
def t_law_kinds_9 (cls : Str → Addr) (K : PySem.W.Frag) : DTS := (dSeq (dAsg (dOp gAdd (dVar 1) (dLst (dCons (dCB (gIsX (isxK K)) (dCons (dVar 0) (dCons (dC (.ref (cls "BadText"))) dNil))) (dCons (dCB (gIsX (isxK K)) (dCons (dVar 0) (dCons (dC (.ref (cls "TooMany"))) dNil))) (dCons (dCB (gIsX (isxK K)) (dCons (dVar 0) (dCons (dC (.ref (cls "NoName"))) dNil))) dNil))))) (dgName 1))
  (t_law_kinds_8 cls K))
def t_law_kinds (cls : Str → Addr) (K : PySem.W.Frag) : DTS := (dSeq (dAsg (dLst (dCons (dCB (gIsX (isxK K)) (dCons (dVar 0) (dCons (dC (.ref (cls "BadBook"))) dNil))) (dCons (dCB (gIsX (isxK K)) (dCons (dVar 0) (dCons (dC (.ref (cls "BadTable"))) dNil))) (dCons (dCB (gIsX (isxK K)) (dCons (dVar 0) (dCons (dC (.ref (cls "BadProgram"))) dNil))) dNil)))) (dgName 1))
  (t_law_kinds_9 cls K))
omit [Wsh] in
theorem b_law_kinds {k : Nat} {f : Addr} {cdv : Value} {A : Around} {outer : List Env} {s : Shared} {H : Hp} {E : XK} {cls : Str → Addr} (T : Top mg) (hk : 5 ≤ k) (J : TopE P K mg cls) 
    (hg : (A.deeper (envOfC "_law_kinds" (defScope s_law_kinds) s.heap.objs.size f cdv)).guards = some []) (hr : Room k (A.deeper (envOfC "_law_kinds" (defScope s_law_kinds) s.heap.objs.size f cdv))) :
    (letI : Wsh := ⟨cls, fun _ _ _ _ => False⟩; DSs (cxOf CX0 P w K mg base N_law_kinds "_law_kinds" (defScope s_law_kinds) f cdv A outer s H E).nox (defBody s_law_kinds) (t_law_kinds cls K)) := by
  letI : Wsh := ⟨cls, fun _ _ _ _ => False⟩
  have h1 : (cxOf CX0 P w K mg base N_law_kinds "_law_kinds" (defScope s_law_kinds) f cdv A outer s H E).nox.A.units + 1 < cLine := hu_le hr (by omega)
  have hE : (cxOf CX0 P w K mg base N_law_kinds "_law_kinds" (defScope s_law_kinds) f cdv A outer s H E).nox.A.units + 250 < cLine := hu_le hr (by omega)
  have hI : (cxOf CX0 P w K mg base N_law_kinds "_law_kinds" (defScope s_law_kinds) f cdv A outer s H E).nox.A.units + (250 + 2) < cLine := hu_le hr (by omega)
  exact (dss_cons (ds_set sc_law_kinds.nd (de_lst (da_cons (de_callB (cd_isX (isX_K _)) T.b_isinstance (da_cons (dv 0) (da_cons (de_gref rfl (J.er _ in_BadBook).2) da_nil))) (da_cons (de_callB (cd_isX (isX_K _)) T.b_isinstance (da_cons (dv 0) (da_cons (de_gref rfl (J.er _ in_BadTable).2) da_nil))) (da_cons (de_callB (cd_isX (isX_K _)) T.b_isinstance (da_cons (dv 0) (da_cons (de_gref rfl (J.er _ in_BadProgram).2) da_nil))) da_nil)))))
    (dss_cons (ds_set sc_law_kinds.nd (de_op od_add (dv 1) (de_lst (da_cons (de_callB (cd_isX (isX_K _)) T.b_isinstance (da_cons (dv 0) (da_cons (de_gref rfl (J.er _ in_BadText).2) da_nil))) (da_cons (de_callB (cd_isX (isX_K _)) T.b_isinstance (da_cons (dv 0) (da_cons (de_gref rfl (J.er _ in_TooMany).2) da_nil))) (da_cons (de_callB (cd_isX (isX_K _)) T.b_isinstance (da_cons (dv 0) (da_cons (de_gref rfl (J.er _ in_NoName).2) da_nil))) da_nil))))))
    (dss_cons (ds_set sc_law_kinds.nd (de_op od_add (dv 1) (de_lst (da_cons (de_callB (cd_isX (isX_K _)) T.b_isinstance (da_cons (dv 0) (da_cons (de_gref rfl (J.er _ in_Kept).2) da_nil))) (da_cons (de_callB (cd_isX (isX_K _)) T.b_isinstance (da_cons (dv 0) (da_cons (de_gref rfl (J.er _ in_NeedsItself).2) da_nil))) (da_cons (de_callB (cd_isX (isX_K _)) T.b_isinstance (da_cons (dv 0) (da_cons (de_gref rfl (J.er _ in_Unclear).2) da_nil))) da_nil))))))
    (dss_cons (ds_set sc_law_kinds.nd (de_op od_add (dv 1) (de_lst (da_cons (de_callB (cd_isX (isX_K _)) T.b_isinstance (da_cons (dv 0) (da_cons (de_gref rfl (J.er _ in_Unmet).2) da_nil))) (da_cons (de_callB (cd_isX (isX_K _)) T.b_isinstance (da_cons (dv 0) (da_cons (de_gref rfl (J.er _ in_NoSorts).2) da_nil))) (da_cons (de_callB (cd_isX (isX_K _)) T.b_isinstance (da_cons (dv 0) (da_cons (de_gref rfl (J.er _ in_NoUse).2) da_nil))) da_nil))))))
    (dss_cons (ds_set sc_law_kinds.nd (de_op od_add (dv 1) (de_lst (da_cons (de_callB (cd_isX (isX_K _)) T.b_isinstance (da_cons (dv 0) (da_cons (de_gref rfl (J.er _ in_NoFacts).2) da_nil))) (da_cons (de_callB (cd_isX (isX_K _)) T.b_isinstance (da_cons (dv 0) (da_cons (de_gref rfl (J.er _ in_NoRow).2) da_nil))) (da_cons (de_callB (cd_isX (isX_K _)) T.b_isinstance (da_cons (dv 0) (da_cons (de_gref rfl (J.er _ in_NoLot).2) da_nil))) da_nil))))))
    (dss_cons (ds_set sc_law_kinds.nd (de_op od_add (dv 1) (de_lst (da_cons (de_callB (cd_isX (isX_K _)) T.b_isinstance (da_cons (dv 0) (da_cons (de_gref rfl (J.er _ in_NoWish).2) da_nil))) (da_cons (de_callB (cd_isX (isX_K _)) T.b_isinstance (da_cons (dv 0) (da_cons (de_gref rfl (J.er _ in_NoTree).2) da_nil))) (da_cons (de_callB (cd_isX (isX_K _)) T.b_isinstance (da_cons (dv 0) (da_cons (de_gref rfl (J.er _ in_NoFamily).2) da_nil))) da_nil))))))
    (dss_cons (ds_set sc_law_kinds.nd (de_op od_add (dv 1) (de_lst (da_cons (de_callB (cd_isX (isX_K _)) T.b_isinstance (da_cons (dv 0) (da_cons (de_gref rfl (J.er _ in_NoMany).2) da_nil))) (da_cons (de_callB (cd_isX (isX_K _)) T.b_isinstance (da_cons (dv 0) (da_cons (de_gref rfl (J.er _ in_NoTerm).2) da_nil))) (da_cons (de_callB (cd_isX (isX_K _)) T.b_isinstance (da_cons (dv 0) (da_cons (de_gref rfl (J.er _ in_NoStanding).2) da_nil))) da_nil))))))
    (dss_cons (ds_set sc_law_kinds.nd (de_op od_add (dv 1) (de_lst (da_cons (de_callB (cd_isX (isX_K _)) T.b_isinstance (da_cons (dv 0) (da_cons (de_gref rfl (J.er _ in_NoLine).2) da_nil))) (da_cons (de_callB (cd_isX (isX_K _)) T.b_isinstance (da_cons (dv 0) (da_cons (de_gref rfl (J.er _ in_NoText).2) da_nil))) (da_cons (de_callB (cd_isX (isX_K _)) T.b_isinstance (da_cons (dv 0) (da_cons (de_gref rfl (J.er _ in_NothingDone).2) da_nil))) da_nil))))))
    (dss_cons (ds_set sc_law_kinds.nd (de_op od_add (dv 1) (de_lst (da_cons (de_callB (cd_isX (isX_K _)) T.b_isinstance (da_cons (dv 0) (da_cons (de_gref rfl (J.er _ in_NotClear).2) da_nil))) (da_cons (de_callB (cd_isX (isX_K _)) T.b_isinstance (da_cons (dv 0) (da_cons (de_gref rfl (J.er _ in_NotRooted).2) da_nil))) (da_cons (de_callB (cd_isX (isX_K _)) T.b_isinstance (da_cons (dv 0) (da_cons (de_gref rfl (J.er _ in_OtherPlaces).2) da_nil))) da_nil))))))
    (dss_one (ds_ret (de_op od_add (dv 1) (de_lst (da_cons (de_callB (cd_isX (isX_K _)) T.b_isinstance (da_cons (dv 0) (da_cons (de_gref rfl (J.er _ in_TooGreat).2) da_nil))) da_nil))))))))))))))
abbrev s_law_fields : Stmt := top 37
abbrev N_law_fields : List Str := ["errors", "found"]
theorem sc_law_fields : FnScope N_law_fields ["errors"] (defScope s_law_fields) := ⟨rfl, rfl, rfl, by decide +kernel, rfl, by decide +kernel, by decide +kernel⟩
def t_law_fields_1 (cls : Str → Addr) (K : PySem.W.Frag) : DTS := (dRet (dOp gAdd (dVar 1) (dLst (dCons (dVf (fokK K) "family" (dOp gIx (dVar 0) (dC (.int 9)))) (dCons (dVf (fokK K) "use" (dOp gIx (dVar 0) (dC (.int 9)))) dNil)))))
def t_law_fields_2 (cls : Str → Addr) (K : PySem.W.Frag) : DTS := (dSeq (dAsg (dOp gAdd (dVar 1) (dLst (dCons (dVf (fokK K) "name" (dOp gIx (dVar 0) (dC (.int 6)))) (dCons (dVf (fokK K) "family" (dOp gIx (dVar 0) (dC (.int 7)))) (dCons (dVf (fokK K) "use" (dOp gIx (dVar 0) (dC (.int 7)))) (dCons (dVf (fokK K) "family" (dOp gIx (dVar 0) (dC (.int 8)))) (dCons (dVf (fokK K) "use" (dOp gIx (dVar 0) (dC (.int 8)))) dNil))))))) (dgName 1))
  (t_law_fields_1 cls K))
def t_law_fields (cls : Str → Addr) (K : PySem.W.Frag) : DTS := (dSeq (dAsg (dLst (dCons (dVf (fokK K) "part" (dOp gIx (dVar 0) (dC (.int 0)))) (dCons (dVf (fokK K) "part" (dOp gIx (dVar 0) (dC (.int 1)))) (dCons (dVf (fokK K) "part" (dOp gIx (dVar 0) (dC (.int 2)))) (dCons (dVf (fokK K) "place" (dOp gIx (dVar 0) (dC (.int 3)))) (dCons (dVf (fokK K) "most" (dOp gIx (dVar 0) (dC (.int 4)))) (dCons (dVf (fokK K) "name" (dOp gIx (dVar 0) (dC (.int 5)))) dNil))))))) (dgName 1))
  (t_law_fields_2 cls K))
omit [Wsh] in
theorem b_law_fields {k : Nat} {f : Addr} {cdv : Value} {A : Around} {outer : List Env} {s : Shared} {H : Hp} {E : XK} {cls : Str → Addr} (T : Top mg) (hk : 5 ≤ k) (J : TopE P K mg cls) 
    (hg : (A.deeper (envOfC "_law_fields" (defScope s_law_fields) s.heap.objs.size f cdv)).guards = some []) (hr : Room k (A.deeper (envOfC "_law_fields" (defScope s_law_fields) s.heap.objs.size f cdv))) :
    (letI : Wsh := ⟨cls, fun _ _ _ _ => False⟩; DSs (cxOf CX0 P w K mg base N_law_fields "_law_fields" (defScope s_law_fields) f cdv A outer s H E).nox (defBody s_law_fields) (t_law_fields cls K)) := by
  letI : Wsh := ⟨cls, fun _ _ _ _ => False⟩
  have h1 : (cxOf CX0 P w K mg base N_law_fields "_law_fields" (defScope s_law_fields) f cdv A outer s H E).nox.A.units + 1 < cLine := hu_le hr (by omega)
  have hE : (cxOf CX0 P w K mg base N_law_fields "_law_fields" (defScope s_law_fields) f cdv A outer s H E).nox.A.units + 250 < cLine := hu_le hr (by omega)
  have hI : (cxOf CX0 P w K mg base N_law_fields "_law_fields" (defScope s_law_fields) f cdv A outer s H E).nox.A.units + (250 + 2) < cLine := hu_le hr (by omega)
  exact (dss_cons (ds_set sc_law_fields.nd (de_lst (da_cons (de_vf (xfX_K _) (de_ix (dv 0) de_int)) (da_cons (de_vf (xfX_K _) (de_ix (dv 0) de_int)) (da_cons (de_vf (xfX_K _) (de_ix (dv 0) de_int)) (da_cons (de_vf (xfX_K _) (de_ix (dv 0) de_int)) (da_cons (de_vf (xfX_K _) (de_ix (dv 0) de_int)) (da_cons (de_vf (xfX_K _) (de_ix (dv 0) de_int)) da_nil))))))))
    (dss_cons (ds_set sc_law_fields.nd (de_op od_add (dv 1) (de_lst (da_cons (de_vf (xfX_K _) (de_ix (dv 0) de_int)) (da_cons (de_vf (xfX_K _) (de_ix (dv 0) de_int)) (da_cons (de_vf (xfX_K _) (de_ix (dv 0) de_int)) (da_cons (de_vf (xfX_K _) (de_ix (dv 0) de_int)) (da_cons (de_vf (xfX_K _) (de_ix (dv 0) de_int)) da_nil))))))))
    (dss_one (ds_ret (de_op od_add (dv 1) (de_lst (da_cons (de_vf (xfX_K _) (de_ix (dv 0) de_int)) (da_cons (de_vf (xfX_K _) (de_ix (dv 0) de_int)) da_nil))))))))
abbrev s_law_raise : Stmt := top 38
abbrev N_law_raise : List Str := ["which", "one", "two"]
theorem sc_law_raise : FnScope N_law_raise ["which", "one", "two"] (defScope s_law_raise) := ⟨rfl, rfl, rfl, by decide +kernel, rfl, by decide +kernel, by decide +kernel⟩
def t_law_raise_1 (cls : Str → Addr) (K : PySem.W.Frag) : DTS := (dRaise (dMkS2 "Unmet" "family" "use" (dVar 1) (dVar 2)))
def t_law_raise_2 (cls : Str → Addr) (K : PySem.W.Frag) : DTS := (dSeq (dIfS (dTest (dOp (gEq 250) (dVar 0) (dC (.int 8)))) (dRaise (dMkS2 "Unclear" "family" "use" (dVar 1) (dVar 2))) dNext)
  (t_law_raise_1 cls K))
def t_law_raise_3 (cls : Str → Addr) (K : PySem.W.Frag) : DTS := (dSeq (dIfS (dTest (dOp (gEq 250) (dVar 0) (dC (.int 7)))) (dRaise (dMkS2 "NeedsItself" "family" "use" (dVar 1) (dVar 2))) dNext)
  (t_law_raise_2 cls K))
def t_law_raise_4 (cls : Str → Addr) (K : PySem.W.Frag) : DTS := (dSeq (dIfS (dTest (dOp (gEq 250) (dVar 0) (dC (.int 6)))) (dRaise (dMkS "Kept" "name" (dVar 1))) dNext)
  (t_law_raise_3 cls K))
def t_law_raise_5 (cls : Str → Addr) (K : PySem.W.Frag) : DTS := (dSeq (dIfS (dTest (dOp (gEq 250) (dVar 0) (dC (.int 5)))) (dRaise (dMkS "NoName" "name" (dVar 1))) dNext)
  (t_law_raise_4 cls K))
def t_law_raise_6 (cls : Str → Addr) (K : PySem.W.Frag) : DTS := (dSeq (dIfS (dTest (dOp (gEq 250) (dVar 0) (dC (.int 4)))) (dRaise (dMkS "TooMany" "most" (dVar 1))) dNext)
  (t_law_raise_5 cls K))
def t_law_raise_7 (cls : Str → Addr) (K : PySem.W.Frag) : DTS := (dSeq (dIfS (dTest (dOp (gEq 250) (dVar 0) (dC (.int 3)))) (dRaise (dMkS "BadText" "place" (dVar 1))) dNext)
  (t_law_raise_6 cls K))
def t_law_raise_8 (cls : Str → Addr) (K : PySem.W.Frag) : DTS := (dSeq (dIfS (dTest (dOp (gEq 250) (dVar 0) (dC (.int 2)))) (dRaise (dMkS "BadProgram" "part" (dVar 1))) dNext)
  (t_law_raise_7 cls K))
def t_law_raise_9 (cls : Str → Addr) (K : PySem.W.Frag) : DTS := (dSeq (dIfS (dTest (dOp (gEq 250) (dVar 0) (dC (.int 1)))) (dRaise (dMkS "BadTable" "part" (dVar 1))) dNext)
  (t_law_raise_8 cls K))
def t_law_raise (cls : Str → Addr) (K : PySem.W.Frag) : DTS := (dSeq (dIfS (dTest (dOp (gEq 250) (dVar 0) (dC (.int 0)))) (dRaise (dMkS "BadBook" "part" (dVar 1))) dNext)
  (t_law_raise_9 cls K))
omit [Wsh] in
theorem b_law_raise {k : Nat} {f : Addr} {cdv : Value} {A : Around} {outer : List Env} {s : Shared} {H : Hp} {E : XK} {cls : Str → Addr} (T : Top mg) (hk : 5 ≤ k) (J : TopE P K mg cls) 
    (hg : (A.deeper (envOfC "_law_raise" (defScope s_law_raise) s.heap.objs.size f cdv)).guards = some []) (hr : Room k (A.deeper (envOfC "_law_raise" (defScope s_law_raise) s.heap.objs.size f cdv))) :
    (letI : Wsh := ⟨cls, fun c d _ H' => E c d H'⟩; DSs (cxOf (L2.CX P w) P w K mg base N_law_raise "_law_raise" (defScope s_law_raise) f cdv A outer s H E) (defBody s_law_raise) (t_law_raise cls K)) := by
  letI : Wsh := ⟨cls, fun c d _ H' => E c d H'⟩
  have h1 : (cxOf (L2.CX P w) P w K mg base N_law_raise "_law_raise" (defScope s_law_raise) f cdv A outer s H E).A.units + 1 < cLine := hu_le hr (by omega)
  have hE : (cxOf (L2.CX P w) P w K mg base N_law_raise "_law_raise" (defScope s_law_raise) f cdv A outer s H E).A.units + 250 < cLine := hu_le hr (by omega)
  have hI : (cxOf (L2.CX P w) P w K mg base N_law_raise "_law_raise" (defScope s_law_raise) f cdv A outer s H E).A.units + (250 + 2) < cLine := hu_le hr (by omega)
  exact (dss_cons (ds_if (dt_cmp (od_eq hE) (dv 0) de_int) (dss_one (ds_raise rfl (takes_of rfl rfl rfl rfl) (dmk_sup (J.s1 _ i1_BadBook) (hr.mono (by omega)) (J.er _ in_BadBook).2 (dv 1)))) dss_nil)
    (dss_cons (ds_if (dt_cmp (od_eq hE) (dv 0) de_int) (dss_one (ds_raise rfl (takes_of rfl rfl rfl rfl) (dmk_sup (J.s1 _ i1_BadTable) (hr.mono (by omega)) (J.er _ in_BadTable).2 (dv 1)))) dss_nil)
    (dss_cons (ds_if (dt_cmp (od_eq hE) (dv 0) de_int) (dss_one (ds_raise rfl (takes_of rfl rfl rfl rfl) (dmk_sup (J.s1 _ i1_BadProgram) (hr.mono (by omega)) (J.er _ in_BadProgram).2 (dv 1)))) dss_nil)
    (dss_cons (ds_if (dt_cmp (od_eq hE) (dv 0) de_int) (dss_one (ds_raise rfl (takes_of rfl rfl rfl rfl) (dmk_sup (J.s1 _ i1_BadText) (hr.mono (by omega)) (J.er _ in_BadText).2 (dv 1)))) dss_nil)
    (dss_cons (ds_if (dt_cmp (od_eq hE) (dv 0) de_int) (dss_one (ds_raise rfl (takes_of rfl rfl rfl rfl) (dmk_sup (J.s1 _ i1_TooMany) (hr.mono (by omega)) (J.er _ in_TooMany).2 (dv 1)))) dss_nil)
    (dss_cons (ds_if (dt_cmp (od_eq hE) (dv 0) de_int) (dss_one (ds_raise rfl (takes_of rfl rfl rfl rfl) (dmk_sup (J.s1 _ i1_NoName) (hr.mono (by omega)) (J.er _ in_NoName).2 (dv 1)))) dss_nil)
    (dss_cons (ds_if (dt_cmp (od_eq hE) (dv 0) de_int) (dss_one (ds_raise rfl (takes_of rfl rfl rfl rfl) (dmk_sup (J.s1 _ i1_Kept) (hr.mono (by omega)) (J.er _ in_Kept).2 (dv 1)))) dss_nil)
    (dss_cons (ds_if (dt_cmp (od_eq hE) (dv 0) de_int) (dss_one (ds_raise rfl (takes_of rfl rfl rfl rfl) (dmk_sup2 (J.s2 _ i2_NeedsItself) (hr.mono (by omega)) (J.er _ in_NeedsItself).2 (dv 1) (dv 2)))) dss_nil)
    (dss_cons (ds_if (dt_cmp (od_eq hE) (dv 0) de_int) (dss_one (ds_raise rfl (takes_of rfl rfl rfl rfl) (dmk_sup2 (J.s2 _ i2_Unclear) (hr.mono (by omega)) (J.er _ in_Unclear).2 (dv 1) (dv 2)))) dss_nil)
    (dss_one (ds_raise rfl (takes_of rfl rfl rfl rfl) (dmk_sup2 (J.s2 _ i2_Unmet) (hr.mono (by omega)) (J.er _ in_Unmet).2 (dv 1) (dv 2)))))))))))))
abbrev s_law_caught : Stmt := top 39
abbrev N_law_caught : List Str := ["which", "one", "two", "found", "error"]
theorem sc_law_caught : FnScope N_law_caught ["which", "one", "two"] (defScope s_law_caught) := ⟨rfl, rfl, rfl, by decide +kernel, rfl, by decide +kernel, by decide +kernel⟩
def t_law_caught_1 (cls : Str → Addr) (K : PySem.W.Frag) (c_law_raise : DSpX) : DTS := (dRet (dVar 3))
def t_law_caught_2 (cls : Str → Addr) (K : PySem.W.Frag) (c_law_raise : DSpX) : DTS := (dSeq (dTryMA subE (("BadBook", (some 4), fun a dx m => (dAsg (dTup (dCons (dC (.int 0)) (dCons (dLst (dCons (dXf a dx "part" (dVar 4)) dNil)) dNil))) (dgName 3))) :: (("BadTable", (some 4), fun a dx m => (dAsg (dTup (dCons (dC (.int 1)) (dCons (dLst (dCons (dXf a dx "part" (dVar 4)) dNil)) dNil))) (dgName 3))) :: (("BadProgram", (some 4), fun a dx m => (dAsg (dTup (dCons (dC (.int 2)) (dCons (dLst (dCons (dXf a dx "part" (dVar 4)) dNil)) dNil))) (dgName 3))) :: (("BadText", (some 4), fun a dx m => (dAsg (dTup (dCons (dC (.int 3)) (dCons (dLst (dCons (dXf a dx "place" (dVar 4)) dNil)) dNil))) (dgName 3))) :: (("TooMany", (some 4), fun a dx m => (dAsg (dTup (dCons (dC (.int 4)) (dCons (dLst (dCons (dXf a dx "most" (dVar 4)) dNil)) dNil))) (dgName 3))) :: (("NoName", (some 4), fun a dx m => (dAsg (dTup (dCons (dC (.int 5)) (dCons (dLst (dCons (dXf a dx "name" (dVar 4)) dNil)) dNil))) (dgName 3))) :: (("Kept", (some 4), fun a dx m => (dAsg (dTup (dCons (dC (.int 6)) (dCons (dLst (dCons (dXf a dx "name" (dVar 4)) dNil)) dNil))) (dgName 3))) :: (("NeedsItself", (some 4), fun a dx m => (dAsg (dTup (dCons (dC (.int 7)) (dCons (dLst (dCons (dXf a dx "family" (dVar 4)) (dCons (dXf a dx "use" (dVar 4)) dNil))) dNil))) (dgName 3))) :: (("Unclear", (some 4), fun a dx m => (dAsg (dTup (dCons (dC (.int 8)) (dCons (dLst (dCons (dXf a dx "family" (dVar 4)) (dCons (dXf a dx "use" (dVar 4)) dNil))) dNil))) (dgName 3))) :: (("Unmet", (some 4), fun a dx m => (dAsg (dTup (dCons (dC (.int 9)) (dCons (dLst (dCons (dXf a dx "family" (dVar 4)) (dCons (dXf a dx "use" (dVar 4)) dNil))) dNil))) (dgName 3))) :: [])))))))))) (dDropX (dCallX c_law_raise (dCons (dVar 0) (dCons (dVar 1) (dCons (dVar 2) dNil))))))
  (t_law_caught_1 cls K c_law_raise))
def t_law_caught (cls : Str → Addr) (K : PySem.W.Frag) (c_law_raise : DSpX) : DTS := (dSeq (dAsg (dTup (dCons (dC (.int 10)) (dCons (dLst dNil) dNil))) (dgName 3))
  (t_law_caught_2 cls K c_law_raise))
omit [Wsh] in
theorem b_law_caught {k : Nat} {f : Addr} {cdv : Value} {A : Around} {outer : List Env} {s : Shared} {H : Hp} {E : XK} {c_law_raise : DSpX} {cls : Str → Addr} (T : Top mg) (hk : 5 ≤ k) (J : TopE P K mg cls) (g_law_raise : DFnX P w K mg base cls k "_law_raise" ["which", "one", "two"] c_law_raise)
    (hg : (A.deeper (envOfC "_law_caught" (defScope s_law_caught) s.heap.objs.size f cdv)).guards = some []) (hr : Room k (A.deeper (envOfC "_law_caught" (defScope s_law_caught) s.heap.objs.size f cdv))) :
    (letI : Wsh := ⟨cls, fun _ _ _ _ => False⟩; DSs (cxOf CX0 P w K mg base N_law_caught "_law_caught" (defScope s_law_caught) f cdv A outer s H E).nox (defBody s_law_caught) (t_law_caught cls K c_law_raise)) := by
  letI : Wsh := ⟨cls, fun _ _ _ _ => False⟩
  have h1 : (cxOf CX0 P w K mg base N_law_caught "_law_caught" (defScope s_law_caught) f cdv A outer s H E).nox.A.units + 1 < cLine := hu_le hr (by omega)
  have hE : (cxOf CX0 P w K mg base N_law_caught "_law_caught" (defScope s_law_caught) f cdv A outer s H E).nox.A.units + 250 < cLine := hu_le hr (by omega)
  have hI : (cxOf CX0 P w K mg base N_law_caught "_law_caught" (defScope s_law_caught) f cdv A outer s H E).nox.A.units + (250 + 2) < cLine := hu_le hr (by omega)
  exact (dss_cons (ds_set sc_law_caught.nd (de_tup (da_cons de_int (da_cons (de_lst da_nil) da_nil))))
    (dss_cons (ds_try_ma rfl rfl takes_none5 (fun W1 pn xe hW tk po => by
    obtain ⟨c1, w1⟩ := W1
    obtain rfl : c1 = cls := hW
    letI : Wsh := ⟨c1, w1⟩
    exact dss_one (ds_exprX (dex_call g_law_raise tk hg hr (da_cons (dv 0) (da_cons (dv 1) (da_cons (dv 2) da_nil))))))
      (.cons sc_law_caught.nd rfl rfl ⟨rfl, by decide, .inl (J.er _ in_BadBook).2⟩ (fun m b h => subE_exm J h) (fun a oe m d pn hs hz hf => (by obtain rfl := subE_eq hs (by decide +kernel); exact (dss_one (ds_set sc_law_caught.nd (de_tup (da_cons de_int (da_cons (de_lst (da_cons (de_xf (J.er _ in_BadBook).1.xf (J.no _ i1_BadBook) hz hf (dv 4)) da_nil)) da_nil)))))))
      (.cons sc_law_caught.nd rfl rfl ⟨rfl, by decide, .inl (J.er _ in_BadTable).2⟩ (fun m b h => subE_exm J h) (fun a oe m d pn hs hz hf => (by obtain rfl := subE_eq hs (by decide +kernel); exact (dss_one (ds_set sc_law_caught.nd (de_tup (da_cons de_int (da_cons (de_lst (da_cons (de_xf (J.er _ in_BadTable).1.xf (J.no _ i1_BadTable) hz hf (dv 4)) da_nil)) da_nil)))))))
      (.cons sc_law_caught.nd rfl rfl ⟨rfl, by decide, .inl (J.er _ in_BadProgram).2⟩ (fun m b h => subE_exm J h) (fun a oe m d pn hs hz hf => (by obtain rfl := subE_eq hs (by decide +kernel); exact (dss_one (ds_set sc_law_caught.nd (de_tup (da_cons de_int (da_cons (de_lst (da_cons (de_xf (J.er _ in_BadProgram).1.xf (J.no _ i1_BadProgram) hz hf (dv 4)) da_nil)) da_nil)))))))
      (.cons sc_law_caught.nd rfl rfl ⟨rfl, by decide, .inl (J.er _ in_BadText).2⟩ (fun m b h => subE_exm J h) (fun a oe m d pn hs hz hf => (by obtain rfl := subE_eq hs (by decide +kernel); exact (dss_one (ds_set sc_law_caught.nd (de_tup (da_cons de_int (da_cons (de_lst (da_cons (de_xf (J.er _ in_BadText).1.xf (J.no _ i1_BadText) hz hf (dv 4)) da_nil)) da_nil)))))))
      (.cons sc_law_caught.nd rfl rfl ⟨rfl, by decide, .inl (J.er _ in_TooMany).2⟩ (fun m b h => subE_exm J h) (fun a oe m d pn hs hz hf => (by obtain rfl := subE_eq hs (by decide +kernel); exact (dss_one (ds_set sc_law_caught.nd (de_tup (da_cons de_int (da_cons (de_lst (da_cons (de_xf (J.er _ in_TooMany).1.xf (J.no _ i1_TooMany) hz hf (dv 4)) da_nil)) da_nil)))))))
      (.cons sc_law_caught.nd rfl rfl ⟨rfl, by decide, .inl (J.er _ in_NoName).2⟩ (fun m b h => subE_exm J h) (fun a oe m d pn hs hz hf => (by obtain rfl := subE_eq hs (by decide +kernel); exact (dss_one (ds_set sc_law_caught.nd (de_tup (da_cons de_int (da_cons (de_lst (da_cons (de_xf (J.er _ in_NoName).1.xf (J.no _ i1_NoName) hz hf (dv 4)) da_nil)) da_nil)))))))
      (.cons sc_law_caught.nd rfl rfl ⟨rfl, by decide, .inl (J.er _ in_Kept).2⟩ (fun m b h => subE_exm J h) (fun a oe m d pn hs hz hf => (by obtain rfl := subE_eq hs (by decide +kernel); exact (dss_one (ds_set sc_law_caught.nd (de_tup (da_cons de_int (da_cons (de_lst (da_cons (de_xf (J.er _ in_Kept).1.xf (J.no _ i1_Kept) hz hf (dv 4)) da_nil)) da_nil)))))))
      (.cons sc_law_caught.nd rfl rfl ⟨rfl, by decide, .inl (J.er _ in_NeedsItself).2⟩ (fun m b h => subE_exm J h) (fun a oe m d pn hs hz hf => (by obtain rfl := subE_eq hs (by decide +kernel); exact (dss_one (ds_set sc_law_caught.nd (de_tup (da_cons de_int (da_cons (de_lst (da_cons (de_xf (J.er _ in_NeedsItself).1.xf (J.no0 _ i2_NeedsItself) hz hf (dv 4)) (da_cons (de_xf (J.er _ in_NeedsItself).1.xf (J.no1 _ i2_NeedsItself) hz hf (dv 4)) da_nil))) da_nil)))))))
      (.cons sc_law_caught.nd rfl rfl ⟨rfl, by decide, .inl (J.er _ in_Unclear).2⟩ (fun m b h => subE_exm J h) (fun a oe m d pn hs hz hf => (by obtain rfl := subE_eq hs (by decide +kernel); exact (dss_one (ds_set sc_law_caught.nd (de_tup (da_cons de_int (da_cons (de_lst (da_cons (de_xf (J.er _ in_Unclear).1.xf (J.no0 _ i2_Unclear) hz hf (dv 4)) (da_cons (de_xf (J.er _ in_Unclear).1.xf (J.no1 _ i2_Unclear) hz hf (dv 4)) da_nil))) da_nil)))))))
      (.cons sc_law_caught.nd rfl rfl ⟨rfl, by decide, .inl (J.er _ in_Unmet).2⟩ (fun m b h => subE_exm J h) (fun a oe m d pn hs hz hf => (by obtain rfl := subE_eq hs (by decide +kernel); exact (dss_one (ds_set sc_law_caught.nd (de_tup (da_cons de_int (da_cons (de_lst (da_cons (de_xf (J.er _ in_Unmet).1.xf (J.no0 _ i2_Unmet) hz hf (dv 4)) (da_cons (de_xf (J.er _ in_Unmet).1.xf (J.no1 _ i2_Unmet) hz hf (dv 4)) da_nil))) da_nil)))))))
      .nil)))))))))))
    (dss_one (ds_ret (dv 3)))))
abbrev s_law_is_based : Stmt := top 40
abbrev N_law_is_based : List Str := ["which", "one", "two"]
theorem sc_law_is_based : FnScope N_law_is_based ["which", "one", "two"] (defScope s_law_is_based) := ⟨rfl, rfl, rfl, by decide +kernel, rfl, by decide +kernel, by decide +kernel⟩
def t_law_is_based_1 (cls : Str → Addr) (K : PySem.W.Frag) (c_law_raise : DSpX) : DTS := (dRet (dC (.bl false)))
def t_law_is_based (cls : Str → Addr) (K : PySem.W.Frag) (c_law_raise : DSpX) : DTS := (dSeq (dTryMA subE (("KindError", none, fun a dx m => (dRet (dC (.bl true)))) :: []) (dDropX (dCallX c_law_raise (dCons (dVar 0) (dCons (dVar 1) (dCons (dVar 2) dNil))))))
  (t_law_is_based_1 cls K c_law_raise))
omit [Wsh] in
theorem b_law_is_based {k : Nat} {f : Addr} {cdv : Value} {A : Around} {outer : List Env} {s : Shared} {H : Hp} {E : XK} {c_law_raise : DSpX} {cls : Str → Addr} (T : Top mg) (hk : 5 ≤ k) (J : TopE P K mg cls) (g_law_raise : DFnX P w K mg base cls k "_law_raise" ["which", "one", "two"] c_law_raise)
    (hg : (A.deeper (envOfC "_law_is_based" (defScope s_law_is_based) s.heap.objs.size f cdv)).guards = some []) (hr : Room k (A.deeper (envOfC "_law_is_based" (defScope s_law_is_based) s.heap.objs.size f cdv))) :
    (letI : Wsh := ⟨cls, fun _ _ _ _ => False⟩; DSs (cxOf CX0 P w K mg base N_law_is_based "_law_is_based" (defScope s_law_is_based) f cdv A outer s H E).nox (defBody s_law_is_based) (t_law_is_based cls K c_law_raise)) := by
  letI : Wsh := ⟨cls, fun _ _ _ _ => False⟩
  have h1 : (cxOf CX0 P w K mg base N_law_is_based "_law_is_based" (defScope s_law_is_based) f cdv A outer s H E).nox.A.units + 1 < cLine := hu_le hr (by omega)
  have hE : (cxOf CX0 P w K mg base N_law_is_based "_law_is_based" (defScope s_law_is_based) f cdv A outer s H E).nox.A.units + 250 < cLine := hu_le hr (by omega)
  have hI : (cxOf CX0 P w K mg base N_law_is_based "_law_is_based" (defScope s_law_is_based) f cdv A outer s H E).nox.A.units + (250 + 2) < cLine := hu_le hr (by omega)
  exact (dss_cons (ds_try_ma rfl rfl takes_none5 (fun W1 pn xe hW tk po => by
    obtain ⟨c1, w1⟩ := W1
    obtain rfl : c1 = cls := hW
    letI : Wsh := ⟨c1, w1⟩
    exact dss_one (ds_exprX (dex_call g_law_raise tk hg hr (da_cons (dv 0) (da_cons (dv 1) (da_cons (dv 2) da_nil))))))
      (.cons0 ⟨rfl, by decide, .inl (J.er _ in_KindError).2⟩ (fun m b h => subE_exm J h) (fun a oe m d pn hs hz hf => (dss_one (ds_ret de_bl)))
      .nil))
    (dss_one (ds_ret de_bl)))
abbrev s_law : Stmt := top 41
abbrev N_law : List Str := ["script", "hand", "turn", "one", "two", "errors", "both", "place", "error", "kinds", "which", "due", "base", "at", "flag"]
theorem sc_law : FnScope N_law ["script"] (defScope s_law) := ⟨rfl, rfl, rfl, by decide +kernel, rfl, by decide +kernel, by decide +kernel⟩
def t_law_1 (cls : Str → Addr) (K : PySem.W.Frag) (c_law_hand : DSp) (c_law_thing : DSp) (c_law_made : DSp) (c_law_kinds : DSp) (c_law_fields : DSp) (c_law_is_based : DSp) (c_law_caught : DSp) : DTS := (dSeq (dIfS (dOr (dNot (dTest (dCB (gIsX (isxK K)) (dCons (dVar 8) (dCons (dC (.ref (cls "KindError"))) dNil))))) (dNot (dTest (dCB (gIsX (isxK K)) (dCons (dVar 8) (dCons (dC (.ty "ValueError")) dNil)))))) (dRet (dC (.bl false))) dNext)
  (dSeq (dAsg (dCall c_law_kinds (dCons (dVar 8) dNil)) (dgName 9))
  (dIfS (dOr (dTest (dOp (gNe 250) (dLc (iEnumD (dVar 9)) (dgTup 2 (dgCons (dgName 13) (dgCons (dgName 14) dgNil))) (dTest (dVar 14)) (dVar 13) [13, 14]) (dLst (dCons (dVar 7) dNil)))) (dTest (dOp (gNe 250) (dCB gLen (dCons (dVar 9) dNil)) (dCB gLen (dCons (dVar 5) dNil))))) (dRet (dC (.bl false))) dNext)))
def t_law_2 (cls : Str → Addr) (K : PySem.W.Frag) (c_law_hand : DSp) (c_law_thing : DSp) (c_law_made : DSp) (c_law_kinds : DSp) (c_law_fields : DSp) (c_law_is_based : DSp) (c_law_caught : DSp) : DTS := (dSeq (dAsg (dIf (dTest (dOp gLt (dVar 10) (dC (.int 7)))) (dLst (dCons (dVar 3) dNil)) (dVar 6)) (dgName 11))
  (dIfS (dOr (dTest (dOp (gNe 250) (dCB (gReprA 250) (dCons (dCall c_law_caught (dCons (dVar 10) (dCons (dVar 3) (dCons (dVar 4) dNil)))) dNil)) (dCB (gReprA 250) (dCons (dTup (dCons (dVar 10) (dCons (dVar 11) dNil))) dNil)))) (dNot (dTest (dCall c_law_is_based (dCons (dVar 10) (dCons (dVar 3) (dCons (dVar 4) dNil))))))) (dRet (dC (.bl false))) dNext))
def t_law_3 (cls : Str → Addr) (K : PySem.W.Frag) (c_law_hand : DSp) (c_law_thing : DSp) (c_law_made : DSp) (c_law_kinds : DSp) (c_law_fields : DSp) (c_law_is_based : DSp) (c_law_caught : DSp) : DTS := (dSeq (dPar 3 4 (dCall c_law_thing (dCons (dVar 1) dNil)) (dCall c_law_thing (dCons (dVar 1) dNil)))
  (dSeq (dPar 5 6 (dCall c_law_made (dCons (dVar 3) (dCons (dVar 4) dNil))) (dLst (dCons (dVar 3) (dCons (dVar 4) dNil))))
  (dSeq (dFor (iEnumD (dVar 5)) (dgTup 2 (dgCons (dgName 7) (dgCons (dgName 8) dgNil))) (t_law_1 cls K c_law_hand c_law_thing c_law_made c_law_kinds c_law_fields c_law_is_based c_law_caught))
  (dSeq (dIfS (dTest (dOp (gNe 250) (dCB (gReprA 250) (dCons (dCall c_law_fields (dCons (dVar 5) dNil)) dNil)) (dCB (gReprA 250) (dCons (dOp gAdd (dOp gMul (dLst (dCons (dVar 3) dNil)) (dC (.int 7))) (dOp gMul (dVar 6) (dC (.int 3)))) dNil)))) (dRet (dC (.bl false))) dNext)
  (dFor (iRange1 (dC (.int 10))) (dgName 10) (t_law_2 cls K c_law_hand c_law_thing c_law_made c_law_kinds c_law_fields c_law_is_based c_law_caught))))))
def t_law_4 (cls : Str → Addr) (K : PySem.W.Frag) (c_law_hand : DSp) (c_law_thing : DSp) (c_law_made : DSp) (c_law_kinds : DSp) (c_law_fields : DSp) (c_law_is_based : DSp) (c_law_caught : DSp) : DTS := (dRet (dAndV (dCB (gIsX (isxK K)) (dCons (dVar 12) (dCons (dC (.ty "ValueError")) dNil))) (dNotV (dCB gAny (dCons (dCall c_law_kinds (dCons (dVar 12) dNil)) dNil)))))
def t_law_5 (cls : Str → Addr) (K : PySem.W.Frag) (c_law_hand : DSp) (c_law_thing : DSp) (c_law_made : DSp) (c_law_kinds : DSp) (c_law_fields : DSp) (c_law_is_based : DSp) (c_law_caught : DSp) : DTS := (dSeq (dAsg (dMkV (dMk0 "KindError")) (dgName 12))
  (t_law_4 cls K c_law_hand c_law_thing c_law_made c_law_kinds c_law_fields c_law_is_based c_law_caught))
def t_law_6 (cls : Str → Addr) (K : PySem.W.Frag) (c_law_hand : DSp) (c_law_thing : DSp) (c_law_made : DSp) (c_law_kinds : DSp) (c_law_fields : DSp) (c_law_is_based : DSp) (c_law_caught : DSp) : DTS := (dSeq (dFor (iRange1 (dC (.int 3))) (dgName 2) (t_law_3 cls K c_law_hand c_law_thing c_law_made c_law_kinds c_law_fields c_law_is_based c_law_caught))
  (t_law_5 cls K c_law_hand c_law_thing c_law_made c_law_kinds c_law_fields c_law_is_based c_law_caught))
def t_law (cls : Str → Addr) (K : PySem.W.Frag) (c_law_hand : DSp) (c_law_thing : DSp) (c_law_made : DSp) (c_law_kinds : DSp) (c_law_fields : DSp) (c_law_is_based : DSp) (c_law_caught : DSp) : DTS := (dSeq (dAsg (dCall c_law_hand (dCons (dVar 0) dNil)) (dgName 1))
  (t_law_6 cls K c_law_hand c_law_thing c_law_made c_law_kinds c_law_fields c_law_is_based c_law_caught))
omit [Wsh] in
theorem b_law {k : Nat} {f : Addr} {cdv : Value} {A : Around} {outer : List Env} {s : Shared} {H : Hp} {E : XK} {c_law_hand : DSp} {c_law_thing : DSp} {c_law_made : DSp} {c_law_kinds : DSp} {c_law_fields : DSp} {c_law_is_based : DSp} {c_law_caught : DSp} {cls : Str → Addr} (T : Top mg) (hk : 5 ≤ k) (J : TopE P K mg cls) (hsys : ∃ o, base.get? sysModules = some o) (g_law_hand : DFn P w K mg base k "_law_hand" ["script"] c_law_hand) (g_law_thing : DFn P w K mg base k "_law_thing" ["hand"] c_law_thing) (g_law_made : DFn P w K mg base k "_law_made" ["one", "two"] c_law_made) (g_law_kinds : DFn P w K mg base k "_law_kinds" ["one"] c_law_kinds) (g_law_fields : DFn P w K mg base k "_law_fields" ["errors"] c_law_fields) (g_law_is_based : DFn P w K mg base k "_law_is_based" ["which", "one", "two"] c_law_is_based) (g_law_caught : DFn P w K mg base k "_law_caught" ["which", "one", "two"] c_law_caught)
    (hg : (A.deeper (envOfC "law" (defScope s_law) s.heap.objs.size f cdv)).guards = some []) (hr : Room k (A.deeper (envOfC "law" (defScope s_law) s.heap.objs.size f cdv))) :
    (letI : Wsh := ⟨cls, fun _ _ _ _ => False⟩; DSs (cxOf CX0 P w K mg base N_law "law" (defScope s_law) f cdv A outer s H E).nox (defBody s_law) (t_law cls K c_law_hand c_law_thing c_law_made c_law_kinds c_law_fields c_law_is_based c_law_caught)) := by
  letI : Wsh := ⟨cls, fun _ _ _ _ => False⟩
  have h1 : (cxOf CX0 P w K mg base N_law "law" (defScope s_law) f cdv A outer s H E).nox.A.units + 1 < cLine := hu_le hr (by omega)
  have hE : (cxOf CX0 P w K mg base N_law "law" (defScope s_law) f cdv A outer s H E).nox.A.units + 250 < cLine := hu_le hr (by omega)
  have hI : (cxOf CX0 P w K mg base N_law "law" (defScope s_law) f cdv A outer s H E).nox.A.units + (250 + 2) < cLine := hu_le hr (by omega)
  exact (dss_cons (ds_set sc_law.nd (de_call g_law_hand hg hr (da_cons (dv 0) da_nil)))
    (dss_cons (ds_for PassesOwn.never rfl (di_range1 (by rfl) T.b_range de_int) (dg_name sc_law.nd) (dss_cons (ds_par rfl sc_law.nd (de_call g_law_thing hg hr (da_cons (dv 1) da_nil)) (de_call g_law_thing hg hr (da_cons (dv 1) da_nil)))
    (dss_cons (ds_par rfl sc_law.nd (de_call g_law_made hg hr (da_cons (dv 3) (da_cons (dv 4) da_nil))) (de_lst (da_cons (dv 3) (da_cons (dv 4) da_nil))))
    (dss_cons (ds_for PassesOwn.never rfl (di_enum T.b_enumerate (dv 5)) (dg_tup rfl (dgs_cons (dg_name sc_law.nd) (dgs_cons (dg_name sc_law.nd) dgs_nil))) (dss_cons (ds_if (DW.dt (dw_or (dt_not (dt_val (de_callB (cd_isX (isX_K _)) T.b_isinstance (da_cons (dv 8) (da_cons (de_gref rfl (J.er _ in_KindError).2) da_nil))))) (dw_or1 (dt_not (dt_val (de_callB (cd_isX (isX_K _)) T.b_isinstance (da_cons (dv 8) (da_cons (de_ty rfl J.mV (by decide +kernel)) da_nil)))))))) (dss_one (ds_ret de_bl)) dss_nil)
    (dss_cons (ds_set sc_law.nd (de_call g_law_kinds hg hr (da_cons (dv 8) da_nil)))
    (dss_one (ds_if (DW.dt (dw_or (dt_cmp (od_ne hE) (de_lc (own := [("at", 13), ("flag", 14)]) rfl sc_law.nd (di_enum T.b_enumerate (dv 9)) (blkOk_by (N := N_law) (sc := defScope s_law) (by decide +kernel)) (dgc_tup rfl (dgcs_cons (dgc_name sc_law.nd) (dgcs_cons (dgc_name sc_law.nd) dgcs_nil))) (fun _ _ _ _ _ => (dts_one (dt_val (dv 14)))) (fun _ _ _ _ _ => (dv 13))) (de_lst (da_cons (dv 7) da_nil))) (dw_or1 (dt_cmp (od_ne hE) (de_callB cd_len T.b_len (da_cons (dv 9) da_nil)) (de_callB cd_len T.b_len (da_cons (dv 5) da_nil)))))) (dss_one (ds_ret de_bl)) dss_nil)))))
    (dss_cons (ds_if (dt_cmp (od_ne hE) (de_callB (cd_reprA hsys hg hI) T.b_repr (da_cons (de_call g_law_fields hg hr (da_cons (dv 5) da_nil)) da_nil)) (de_callB (cd_reprA hsys hg hI) T.b_repr (da_cons (de_op od_add (de_op od_mul (de_lst (da_cons (dv 3) da_nil)) de_int) (de_op od_mul (dv 6) de_int)) da_nil))) (dss_one (ds_ret de_bl)) dss_nil)
    (dss_one (ds_for PassesOwn.never rfl (di_range1 (by rfl) T.b_range de_int) (dg_name sc_law.nd) (dss_cons (ds_set sc_law.nd (de_if (dt_cmp od_lt (dv 10) de_int) (de_lst (da_cons (dv 3) da_nil)) (dv 6)))
    (dss_one (ds_if (DW.dt (dw_or (dt_cmp (od_ne hE) (de_callB (cd_reprA hsys hg hI) T.b_repr (da_cons (de_call g_law_caught hg hr (da_cons (dv 10) (da_cons (dv 3) (da_cons (dv 4) da_nil)))) da_nil)) (de_callB (cd_reprA hsys hg hI) T.b_repr (da_cons (de_tup (da_cons (dv 10) (da_cons (dv 11) da_nil))) da_nil))) (dw_or1 (dt_not (dt_val (de_call g_law_is_based hg hr (da_cons (dv 10) (da_cons (dv 3) (da_cons (dv 4) da_nil))))))))) (dss_one (ds_ret de_bl)) dss_nil))))))))))
    (dss_cons (ds_set sc_law.nd (de_mkV (dmk_own00 (J.pl _ ip_KindError) (J.er _ in_KindError).2 (J.er _ in_KindError).1.kp (J.er _ in_KindError).1.raises)))
    (dss_one (ds_ret (de_and (de_callB (cd_isX (isX_K _)) T.b_isinstance (da_cons (dv 12) (da_cons (de_ty rfl J.mV (by decide +kernel)) da_nil))) (de_one (de_not (de_callB (cd_any rfl) T.b_any (da_cons (de_call g_law_kinds hg hr (da_cons (dv 12) da_nil)) da_nil))))))))))
end
end DL

/-! R0: small readings. -/
namespace DL
open PySem PySem.Spec PyProof.Rows L2
@[simp] theorem gCut_tup {xs : List D} {lo hi : Option Int} {M : Sto} {Q : DK} : gCut (.tup xs) lo hi M Q = Q (.tup (cutL xs lo hi)) M := rfl
@[simp] theorem cut_tail {α : Type} {x : α} {xs : List α} : cutL (x :: xs) (some 1) none = xs := by
  have e : HT.sIx (x :: xs).length 0 (some 1) = 1 := by simp [HT.sIx]
  unfold cutL
  rw [e, HT.sIx_none]
  simp
@[simp] theorem cut_head {α : Type} {x : α} {xs : List α} : cutL (x :: xs) none (some 1) = [x] := by
  have e : HT.sIx (x :: xs).length (x :: xs).length (some 1) = 1 := by simp [HT.sIx]
  unfold cutL
  rw [e, HT.sIx_none]
  simp
@[simp] theorem ix_tup0 {a : D} {r : List D} {M : Sto} {Q : DK} : gIx (.tup (a :: r)) (.int 0) M Q = Q a M := by simp [gIx, seqOf, atI, ixN]
@[simp] theorem ix_tup1 {a b : D} {r : List D} {M : Sto} {Q : DK} : gIx (.tup (a :: b :: r)) (.int 1) M Q = Q b M := by
  have e : (1 : Int) < (r.length : Int) + 1 + 1 := by omega
  simp [gIx, seqOf, atI, ixN, e]
@[simp] theorem eq_str {n : Nat} {a b : Str} {M : Sto} {Q : DK} : gEq n (.str a) (.str b) M Q = Q (.bl (decide (a = b))) M := rfl
@[simp] theorem eq_int {n : Nat} {a b : Int} {M : Sto} {Q : DK} : gEq n (.int a) (.int b) M Q = Q (.bl (decide (a = b))) M := rfl
@[simp] theorem ne_str {n : Nat} {a b : Str} {M : Sto} {Q : DK} : gNe n (.str a) (.str b) M Q = Q (.bl (!decide (a = b))) M := rfl
@[simp] theorem ne_int {n : Nat} {a b : Int} {M : Sto} {Q : DK} : gNe n (.int a) (.int b) M Q = Q (.bl (!decide (a = b))) M := rfl
@[simp] theorem seq_tup {xs : List D} {M : Sto} : seqOf (.tup xs) M = some xs := rfl
@[simp] theorem seq_lst {xs : List D} {M : Sto} : seqOf (.lst xs) M = some xs := rfl
@[simp] theorem lst_lst {xs : List D} {M : Sto} : lstOf (.lst xs) M = some xs := rfl
@[simp] theorem dct_dct {xs : List (Key × D)} {M : Sto} : dctOf (.dct xs) M = some xs := rfl
theorem dct_ref {a : Addr} {kvs : List (Key × D)} {M : Sto} (h : M a = some (.dct kvs)) : dctOf (.ref a) M = some kvs := by simp [dctOf, h]
theorem lst_ref {a : Addr} {xs : List D} {M : Sto} (h : M a = some (.lst xs)) : lstOf (.ref a) M = some xs := by simp [lstOf, h]
theorem add_tup {a b : List D} {M : Sto} {Q : DK} (h : a.length + b.length ≤ sizeLine) (q : Q (.tup (a ++ b)) M) : gAdd (.tup a) (.tup b) M Q := ⟨h, q⟩
@[simp] theorem add_int {i j : Int} {M : Sto} {Q : DK} : gAdd (.int i) (.int j) M Q = Q (.int (i + j)) M := rfl
theorem sl_le {n : Nat} (h : n ≤ 1000000) : n ≤ sizeLine := by rw [sizeLine_eq]; omega
theorem gLen_seq {things : D} {xs : List D} {M : Sto} {Q : DK} (hs : seqOf things M = some xs) (q : Q (.int xs.length) M) : gLen [things] M Q := by
  unfold gLen
  split
  · rename_i h; simp at h; subst h; cases hs
  · rename_i h; simp at h; subst h; rw [hs]; exact q
  · rename_i h; exact absurd rfl (h _)
theorem gIx_seq {things : D} {xs : List D} {M : Sto} {Q : DK} {i : Int} {x : D} (hs : seqOf things M = some xs) (h0 : 0 ≤ i) (hx : xs[i.toNat]? = some x) (q : Q x M) : gIx things (.int i) M Q := by
  have hl := (List.getElem?_eq_some_iff.mp hx).1
  have ha : atI xs i = some x := by
    have : i < (xs.length : Int) := by omega
    simp only [atI, ixN, h0, this, if_true, Option.bind_some]; exact hx
  cases things <;> first | (simp [seqOf, lstOf] at hs; done) | (simp only [gIx, hs, ha]; exact q)
theorem add_strs {a b : Str} {M : Sto} {Q : DK} (h : a.length + b.length ≤ 1000000) (q : Q (.str (a ++ b)) M) : gAdd (.str a) (.str b) M Q := ⟨sl_le h, q⟩
theorem add_lst {a b : List D} {M : Sto} {Q : DK} (h : a.length + b.length ≤ 1000000) (q : Q (.lst (a ++ b)) M) : gAdd (.lst a) (.lst b) M Q := ⟨sl_le h, q⟩
end DL

/-! R1: readings that give one value and change nothing, put together as terms (so that the kernel has no great terms to compare). -/
namespace DL
open PySem PySem.Spec PyProof.Rows L2
theorem dSeqE {t u : DTS} {D : DEnds} {τ : DSt} {M : Sto} : dSeq t u D τ M = t { D with nx := u D } τ M := rfl
theorem dNextE {D : DEnds} {τ : DSt} {M : Sto} : dNext D τ M = D.nx τ M := id rfl
/-- te gives d, whatever goes on, and the store is what it was -/
def Ev (te : DTE) (τ : DSt) (M : Sto) (d : D) : Prop := ∀ Q : DK, Q d M → te τ M Q
def EvA (ta : DTA) (τ : DSt) (M : Sto) (ds : List D) : Prop := ∀ Q : List D → Sto → Prop, Q ds M → ta τ M Q
section
variable {te tf : DTE} {ta : DTA} {τ : DSt} {M : Sto} {d e : D} {ds : List D} {i : Nat} {D0 : DEnds} {t u : DTS}
theorem Ev.c : Ev (dC d) τ M d := fun _ q => q
theorem Ev.v (h : τ[i]? = some (some d)) : Ev (dVar i) τ M d := fun Q q => by simp only [dVar, h]; exact q
theorem EvA.nil : EvA dNil τ M [] := fun _ q => q
theorem EvA.cons (h : Ev te τ M d) (k : EvA ta τ M ds) : EvA (dCons te ta) τ M (d :: ds) := fun Q q => h _ (k _ q)
theorem Ev.lst (h : EvA ta τ M ds) (l : ds.length ≤ 1000000) : Ev (dLst ta) τ M (.lst ds) := fun Q q => h _ ⟨sl_le l, q⟩
theorem Ev.tup (h : EvA ta τ M ds) (l : ds.length ≤ 1000000) : Ev (dTup ta) τ M (.tup ds) := fun Q q => h _ ⟨sl_le l, q⟩
theorem Ev.neg {i : Int} (h : Ev te τ M (.int i)) : Ev (dNeg te) τ M (.int (-i)) := fun Q q => h _ q
theorem Ev.pow {a b : Int} (h : Ev te τ M (.int a)) (k : Ev tf τ M (.int b)) (c : CPow a b) : Ev (dOp gPow te tf) τ M (.int (a ^ b.toNat)) := fun Q q => h _ (k _ ⟨c, q⟩)
theorem Ev.sub {a b : Int} (h : Ev te τ M (.int a)) (k : Ev tf τ M (.int b)) : Ev (dOp gSub te tf) τ M (.int (a - b)) := fun Q q => h _ (k _ q)
theorem Ev.addL {a b : List D} (h : Ev te τ M (.lst a)) (k : Ev tf τ M (.lst b)) (l : a.length + b.length ≤ 1000000) : Ev (dOp gAdd te tf) τ M (.lst (a ++ b)) := fun Q q => h _ (k _ ⟨sl_le l, q⟩)
theorem Ev.dict0 : Ev dDict τ M (.dct []) := fun _ q => q
theorem Ev.disp1 {k : Key} (h : Ev te τ M d) (g : Ev tf τ M e) (hk : dKey d = some k) : Ev (dDisp [(te, tf)]) τ M (.dct [(k, e)]) := fun Q q => by
  refine h _ (g _ ?_)
  show (match keysOf [(d, e)] with | some kvs => kvs.length ≤ 15 ∧ Q (.dct (mergeD [] kvs)) M | none => False)
  have e1 : keysOf [(d, e)] = some [(k, e)] := by simp only [keysOf, hk]
  rw [e1]
  exact ⟨by simp, q⟩
theorem Ev.dc1 {k : NestedKey} (h : Ev te τ M d) (g : Ev tf τ M e) (hk : nkD d = some k) (hd : k.depth ≤ 8) : Ev (dDisp1 te tf) τ M (.dc1 d e) := fun Q q => h _ (g _ ⟨k, hk, hd, q⟩)
theorem asg_ev (h : Ev te τ M d) (q : D0.nx (τ.set i (some d)) M) : dAsg te (dgName i) D0 τ M := h _ q
theorem ret_ev (h : Ev te τ M d) (q : D0.rt d M) : dRet te D0 τ M := h _ q
theorem seq_i (h : t { D0 with nx := u D0 } τ M) : dSeq t u D0 τ M := h
variable {QA : List D → Sto → Prop} {Q : DK} {sp : DSp} {g2 : G2} {gc : GC} {tt tv : DTT} {QT : Bool → Sto → Prop}
theorem call_i (h : ta τ M fun ds M1 => sp ds M1 fun d M2 => D0.nx (τ.set i (some d)) M2) : dAsg (dCall sp ta) (dgName i) D0 τ M := h
theorem cons_ev (h : Ev te τ M d) (q : ta τ M fun xs M2 => QA (d :: xs) M2) : dCons te ta τ M QA := h _ q
theorem nil_i (q : QA [] M) : dNil τ M QA := q
theorem cons_op (h : Ev te τ M d) (q : tf τ M fun y M2 => g2 d y M2 fun z M3 => ta τ M3 fun xs M4 => QA (z :: xs) M4) : dCons (dOp g2 te tf) ta τ M QA := h _ q
theorem cons_call {tb : DTA} (q : tb τ M fun ds M1 => sp ds M1 fun x M2 => ta τ M2 fun xs M3 => QA (x :: xs) M3) : dCons (dCall sp tb) ta τ M QA := q
theorem lst_i (q : ta τ M fun xs M1 => xs.length ≤ sizeLine ∧ Q (.lst xs) M1) : dLst ta τ M Q := q
theorem range_call {g : DTG} {tb : DTS} (q : ta τ M fun ds M1 => sp ds M1 fun d M2 => match d with
  | .int j => (-(2 ^ 62) ≤ j ∧ j < 2 ^ 62) ∧ loopD g tb D0 (rangeD 0 j.toNat) τ M2
  | _ => False) : dFor (iRange1 (dCall sp ta)) g tb D0 τ M := q
theorem ix_call (h : Ev te τ M d) (q : ta τ M fun ds M1 => sp ds M1 fun y M2 => gIx d y M2 fun z M3 => D0.nx (τ.set i (some z)) M3) : dAsg (dOp gIx te (dCall sp ta)) (dgName i) D0 τ M := h _ q
theorem ifs_ev {b : Bool} (h : ∀ QT : Bool → Sto → Prop, QT b M → tt τ M QT) (q : (if b = true then t D0 τ M else u D0 τ M)) : dIfS tt t u D0 τ M := h _ q
theorem rangeD_mem {lo : Int} {n : Nat} {x : D} (h : x ∈ rangeD lo n) : ∃ j : Nat, j < n ∧ x = .int (lo + j) := by
  unfold rangeD at h
  obtain ⟨j, hj, e⟩ := List.mem_map.mp h
  exact ⟨j, List.mem_range.mp hj, e.symm⟩
theorem rangeD_length {lo : Int} {n : Nat} : (rangeD lo n).length = n := by unfold rangeD; simp
end
end DL

/-! H1: the hand. -/
namespace DL
open PySem PySem.Spec PyProof.Rows L2
open Classical
/-- the hand -/
def handL (cells : List Int) (i left mix t : Int) : List D := [.lst (cells.map D.int), .int i, .int left, .int mix, .int t]
def HandOk (o : MO) : Prop := ∃ cells i left mix t, o = .lst (handL cells i left mix t) ∧ 0 ≤ i
def spDraw : DSp := fun args M Q => ∃ (h : Addr) (many : Int) (o : MO), args = [.ref h, .int many] ∧ M h = some o ∧ HandOk o ∧ 1 ≤ many ∧ many < 1073741824 ∧
  ∀ r o', 0 ≤ r → r < many → HandOk o' → Q (.int r) (M.upd h o')
theorem ix_hand0 {h : Addr} {M : Sto} {a b c d e : D} {Q : DK} (hM : M h = some (.lst [a, b, c, d, e])) : gIx (.ref h) (.int 0) M Q = Q a M := by simp [gIx, seqOf, lstOf, hM, atI, ixN]
theorem ix_hand1 {h : Addr} {M : Sto} {a b c d e : D} {Q : DK} (hM : M h = some (.lst [a, b, c, d, e])) : gIx (.ref h) (.int 1) M Q = Q b M := by simp [gIx, seqOf, lstOf, hM, atI, ixN]
theorem ix_hand2 {h : Addr} {M : Sto} {a b c d e : D} {Q : DK} (hM : M h = some (.lst [a, b, c, d, e])) : gIx (.ref h) (.int 2) M Q = Q c M := by simp [gIx, seqOf, lstOf, hM, atI, ixN]
theorem ix_hand3 {h : Addr} {M : Sto} {a b c d e : D} {Q : DK} (hM : M h = some (.lst [a, b, c, d, e])) : gIx (.ref h) (.int 3) M Q = Q d M := by simp [gIx, seqOf, lstOf, hM, atI, ixN]
theorem ix_hand4 {h : Addr} {M : Sto} {a b c d e : D} {Q : DK} (hM : M h = some (.lst [a, b, c, d, e])) : gIx (.ref h) (.int 4) M Q = Q e M := by simp [gIx, seqOf, lstOf, hM, atI, ixN]
theorem gMod_ok {i j : Int} {M : Sto} {Q : DK} (h : 0 < j) (q : Q (.int (i % j)) M) : gMod (.int i) (.int j) M Q := ⟨h, q⟩
theorem mul_ok {i j : Int} {M : Sto} {Q : DK} (h : -(2 ^ 64) < j ∧ j < 2 ^ 64) (q : Q (.int (i * j)) M) : gMul (.int i) (.int j) M Q := ⟨.inr h, q⟩
theorem mul_ok' {i j : Int} {M : Sto} {Q : DK} (h : -(2 ^ 64) < i ∧ i < 2 ^ 64) (q : Q (.int (i * j)) M) : gMul (.int i) (.int j) M Q := ⟨.inl h, q⟩
theorem ixh1 {a b c d e : D} : ixN [a, b, c, d, e].length 1 = some 1 := by simp [ixN]
theorem ixh2 {a b c d e : D} : ixN [a, b, c, d, e].length 2 = some 2 := by simp [ixN]
theorem ixh3 {a b c d e : D} : ixN [a, b, c, d, e].length 3 = some 3 := by simp [ixN]
theorem ixh4 {a b c d e : D} : ixN [a, b, c, d, e].length 4 = some 4 := by simp [ixN]
theorem hand_ok {cells : List Int} {i left mix t : Int} (h : 0 ≤ i) : HandOk (.lst (handL cells i left mix t)) := ⟨cells, i, left, mix, t, rfl, h⟩
theorem draw_5 {h : Addr} {many : Int} {a b : Option D} {M : Sto} {Q : DK} {cells : List Int} {i left mix t : Int} (hM : M h = some (.lst (handL cells i left mix t))) (hi : 0 ≤ i) (m1 : 1 ≤ many)
    (q : ∀ r o', 0 ≤ r → r < many → HandOk o' → Q (.int r) (M.upd h o')) : t_law_draw_5 (ends Q) [some (.ref h), some (.int many), a, b, none] M := by
  unfold handL at hM
  have hM2 : (M.upd h (.lst [.lst (cells.map D.int), .int i, .int left, .int mix, .int (t + 1)])) h = some (.lst [.lst (cells.map D.int), .int i, .int left, .int mix, .int (t + 1)]) := Sto.upd_same
  simp only [t_law_draw_5, t_law_draw_4, dSeq, dPutL, dOp, dVar, dC, List.getElem?_cons_zero, ix_hand4 hM, add_int]
  simp only [hM, ixh4]
  simp only [List.set, dAsg, dOp, dCB, dCons, dNil, dVar, dC, List.getElem?_cons_zero, ix_hand3 hM2, ix_hand4 hM2]
  refine mul_ok' (by decide) ?_
  simp only [add_int, gInt]
  refine mul_ok (by decide) (gMod_ok (by decide) ?_)
  have b1 := Int.emod_nonneg ((mix + 6151 * (t + 1)) * 40692) (show (2147483399 : Int) ≠ 0 by decide)
  have b2 := Int.emod_lt_of_pos ((mix + 6151 * (t + 1)) * 40692) (show (0 : Int) < 2147483399 by decide)
  generalize ((mix + 6151 * (t + 1)) * 40692) % 2147483399 = n1 at b1 b2
  simp only [t_law_draw_3, dgName, List.set, dSeq, dAsg, dOp, dCB, dCons, dNil, dVar, dC, List.getElem?_cons_zero, List.getElem?_cons_succ, gFdiv]
  refine ⟨⟨by decide, by decide⟩, ?_⟩
  simp only [add_int]
  refine mul_ok' ⟨by omega, by omega⟩ ?_
  simp only [gInt]
  refine gMod_ok (by decide) ?_
  generalize n1 * (n1 / 1223 + 52027) = w1
  have b3 := Int.emod_nonneg w1 (show (2147483629 : Int) ≠ 0 by decide)
  have b4 := Int.emod_lt_of_pos w1 (show (0 : Int) < 2147483629 by decide)
  generalize w1 % 2147483629 = n2 at b3 b4
  simp only [t_law_draw_2, dgName, List.set, dSeq, dAsg, dOp, dCB, dCons, dNil, dVar, dC, List.getElem?_cons_zero, List.getElem?_cons_succ, gFdiv]
  refine ⟨⟨by decide, by decide⟩, ?_⟩
  simp only [add_int]
  refine mul_ok' ⟨by omega, by omega⟩ ?_
  simp only [gInt]
  refine gMod_ok (by decide) ?_
  generalize n2 * (n2 / 2671 + 69621) = w2
  generalize w2 % 2147483647 = n3
  simp only [t_law_draw_1, dgName, List.set, dRet, dOp, dCB, dCons, dNil, dVar, dC, List.getElem?_cons_zero, List.getElem?_cons_succ, gFdiv]
  refine ⟨⟨by decide, by decide⟩, ?_⟩
  simp only [gInt]
  refine gMod_ok (by omega) ?_
  exact done (q _ _ (Int.emod_nonneg _ (by omega)) (Int.emod_lt_of_pos _ (by omega)) (hand_ok hi))
theorem draw_6 {h : Addr} {many : Int} {a b : Option D} {M : Sto} {Q : DK} {cells : List Int} {i left mix t : Int} (hM : M h = some (.lst (handL cells i left mix t))) (hi : 0 ≤ i) (m1 : 1 ≤ many) (m2 : many < 1073741824)
    (q : ∀ r o', 0 ≤ r → r < many → HandOk o' → Q (.int r) (M.upd h o')) : t_law_draw_6 (ends Q) [some (.ref h), some (.int many), a, b, none] M := by
  have hM0 := hM
  unfold handL at hM
  simp only [t_law_draw_6, dSeq, dIfS, dTest, dOp, dVar, dC, List.getElem?_cons_zero, ix_hand2 hM, gGt]
  by_cases c : left > 0
  · rw [if_pos (by simpa using c)]
    simp only [dSeq, dAsg, dOp, dCB, dCons, dNil, dVar, dC, List.getElem?_cons_zero, List.getElem?_cons_succ, ix_hand2 hM, gInt]
    refine gMod_ok (by omega) ?_
    simp only [dgName, List.set, dSeq, dPutL, dOp, dVar, dC, List.getElem?_cons_zero, List.getElem?_cons_succ, ix_hand2 hM, gFdiv]
    refine ⟨⟨by omega, m2⟩, ?_⟩
    simp only [hM, ixh2, List.set, dRet, dVar, List.getElem?_cons_zero, List.getElem?_cons_succ]
    exact done (q _ _ (Int.emod_nonneg _ (by omega)) (Int.emod_lt_of_pos _ (by omega)) (hand_ok hi))
  · rw [if_neg (by simpa using c)]
    exact draw_5 hM0 hi m1 q
theorem ok_law_draw : ∀ args M Q, spDraw args M Q → t_law_draw (ends Q) (dstart N_law_draw.length args) M := by
  rintro args M Q ⟨h, many, o, rfl, hM, ⟨cells, i, left, mix, t, rfl, hi⟩, m1, m2, q⟩
  have hM0 := hM
  unfold handL at hM
  show t_law_draw (ends Q) [some (.ref h), some (.int many), none, none, none] M
  simp only [t_law_draw, dSeq, dIfS, dAnd, dTest, dOp, dCB, dCons, dNil, dVar, dC, List.getElem?_cons_zero, ix_hand2 hM, ix_hand1 hM, ix_hand0 hM, eq_int]
  by_cases c : left = 0
  · rw [if_pos (by simpa using c)]
    simp only [gLen, seq_lst, gLt]
    by_cases c2 : i < ((cells.map D.int).length : Int)
    · rw [if_pos (by simpa using c2)]
      have hc : i.toNat < cells.length := by rw [List.length_map] at c2; omega
      have hat : atI (cells.map D.int) i = some (.int (cells[i.toNat])) := by
        rw [List.length_map] at c2
        simp [atI, ixN, hi, c2, hc]
      simp only [dSeq, dAsg, dOp, dVar, dC, List.getElem?_cons_zero, ix_hand0 hM, ix_hand1 hM]
      have e0 : ∀ Qk : DK, gIx (.lst (cells.map D.int)) (.int i) M Qk = Qk (.int (cells[i.toNat])) M := fun Qk => by simp only [gIx, seq_lst, hat]
      rw [e0]
      generalize cells[i.toNat] = cell
      simp only [dgName, List.set, dSeq, dPutL, dOp, dVar, dC, List.getElem?_cons_zero, ix_hand1 hM, add_int]
      simp only [hM, ixh1]
      have hM2 : (M.upd h (.lst [.lst (cells.map D.int), .int (i + 1), .int left, .int mix, .int t])) h = some (.lst [.lst (cells.map D.int), .int (i + 1), .int left, .int mix, .int t]) := Sto.upd_same
      simp only [List.set, dSeq, dPutL, dIfS, dTest, dCB, dCons, dNil, dOp, dVar, dC, List.getElem?_cons_zero, List.getElem?_cons_succ, ix_hand3 hM2]
      refine mul_ok (by decide) ?_
      simp only [add_int, gInt]
      refine gMod_ok (by decide) ?_
      simp only [hM2, ixh3, List.set, Sto.upd_upd]
      generalize (mix * 48271 + cell + 31) % 2147483647 = mix2
      have hM3 : (M.upd h (.lst [.lst (cells.map D.int), .int (i + 1), .int left, .int mix2, .int t])) h = some (.lst [.lst (cells.map D.int), .int (i + 1), .int left, .int mix2, .int t]) := Sto.upd_same
      refine ⟨⟨by decide, by decide, by decide⟩, ?_⟩
      simp only [gGe]
      have fin : ∀ l : Int, t_law_draw_6 (ends Q) [some (.ref h), some (.int many), some (.int cell), none, none] (M.upd h (.lst (handL cells (i + 1) l mix2 t))) := fun l =>
        draw_6 Sto.upd_same (by omega) m1 m2 fun r o' r1 r2 ho => by rw [Sto.upd_upd]; exact q r o' r1 r2 ho
      split
      · simp only [hM3, ixh2, List.set, Sto.upd_upd]
        exact fin _
      · exact fin left
    · rw [if_neg (by simpa using c2)]
      exact draw_6 hM0 hi m1 m2 q
  · rw [if_neg (by simpa using c)]
    simp only [Bool.false_eq_true, if_false]
    exact draw_6 hM0 hi m1 m2 q
end DL

/-! H2: the hand is made; some of things. -/
namespace DL
open PySem PySem.Spec PyProof.Rows L2
open Classical
theorem cut_map {α β : Type} (f : α → β) (xs : List α) (lo hi : Option Int) : cutL (xs.map f) lo hi = (cutL xs lo hi).map f := by
  unfold cutL
  rw [List.length_map, ← List.map_drop, ← List.map_take]
theorem cut_len {α : Type} (xs : List α) (lo hi : Option Int) : (cutL xs lo hi).length ≤ xs.length := by
  unfold cutL
  simp
  omega
def spHand : DSp := fun args M Q => ∃ ns : List Int, ns.length ≤ 63 ∧ args = [.rol (ns.map D.int)] ∧ ∀ p o, M p = none → HandOk o → Q (.ref p) (M.upd p o)
theorem ok_law_hand : ∀ args M Q, spHand args M Q → t_law_hand (ends Q) (dstart N_law_hand.length args) M := by
  rintro args M Q ⟨ns, hl, rfl, q⟩
  show t_law_hand (ends Q) [some (.rol (ns.map D.int)), none, none] M
  simp [t_law_hand, gCut, cut_map]
  have hc := cut_len ns none (some 63)
  refine comp_map D.int (fun x => D.int (if x < 0 then -x else x)) (cutL ns none (some 63)) [] _ (fun x hx K hK => ?_) (by simp [sizeLine_eq]; omega) ?_
  · simp
    exact hK
  · simp [t_law_hand_1]
    refine mul_ok' (by decide) ?_
    simp
    refine ⟨by simp [sizeLine_eq], fun p hp => done (q p _ hp ⟨(cutL ns none (some 63)).map fun x => if x < 0 then -x else x, 0, 0, 97 + 5 * ((cutL ns none (some 63)).length : Int), 0, ?_, by decide⟩)⟩
    simp [handL]
/-- some one of things that stay -/
def spSome : DSp := fun args M Q => ∃ (h : Addr) (things : D) (xs : List D) (o : MO), args = [.ref h, things] ∧ M h = some o ∧ HandOk o ∧ (∀ M, seqOf things M = some xs) ∧ xs ≠ [] ∧ xs.length < 1073741824 ∧
  ∀ x o', x ∈ xs → HandOk o' → Q x (M.upd h o')
theorem ok_law_some : ∀ args M Q, spSome args M Q → t_law_some spDraw (ends Q) (dstart N_law_some.length args) M := by
  rintro args M Q ⟨h, things, xs, o, rfl, hM, ho, hs, hne, hl, q⟩
  show t_law_some spDraw (ends Q) [some (.ref h), some things] M
  simp [t_law_some]
  refine gLen_seq (hs M) ?_
  have hpos : 0 < xs.length := List.length_pos_iff.mpr hne
  refine ⟨h, xs.length, o, rfl, hM, ho, by omega, by omega, fun r o' r1 r2 ho' => ?_⟩
  have hr : r.toNat < xs.length := by omega
  refine gIx_seq (hs _) r1 (List.getElem?_eq_getElem hr) ?_
  exact done (q _ o' (List.getElem_mem hr) ho')
end DL

/-! H3: things of any kind. -/
namespace DL
open PySem PySem.Spec PyProof.Rows L2
/-- a thing of data, wrapped at most so often -/
def Gd (k : Nat) (d : D) : Prop := ∃ p, toPy d = some p ∧ p.showable = true ∧ p.leavesShort 22 = true ∧ p.depth ≤ k + 4 ∧ p.bulk ≤ 2 * k + 20
theorem int_short {i : Int} (h : i.natAbs < 10 ^ 20) : i.natAbs.log2 < 1920 ∧ (PyData.int i).shown.length ≤ 22 := by
  refine ⟨?_, ?_⟩
  · by_cases z : i.natAbs = 0
    · rw [z]; decide
    · exact (Nat.log2_lt z).mpr (Nat.lt_of_lt_of_le h (by decide +kernel))
  · have := int_text_length_le10 (k := 20) (by decide) h
    simp only [PyData.shown]
    show (Str.ofString (toString i)).length ≤ 22
    rw [PySem.ofString_length]
    omega
theorem Gd.bl (b : Bool) : Gd 0 (.bl b) := ⟨.bool b, rfl, by simp [PyData.showable], by simp [PyData.leavesShort], by simp [PyData.depth], by simp [PyData.bulk]⟩
theorem Gd.int {i : Int} (h : i.natAbs < 10 ^ 20) : Gd 0 (.int i) := by
  obtain ⟨h1, h2⟩ := int_short h
  exact ⟨.int i, rfl, by simp [PyData.showable, h1], by simp [PyData.leavesShort, h2], by simp [PyData.depth], by simp [PyData.bulk]⟩
theorem Gd.mono {j k : Nat} {d : D} (h : Gd j d) (l : j ≤ k) : Gd k d := by
  obtain ⟨p, h1, h2, h3, h4, h5⟩ := h
  exact ⟨p, h1, h2, h3, by omega, by omega⟩
theorem Gd.wrapT {k : Nat} {d : D} (h : Gd k d) : Gd (k + 1) (.tup [d]) := by
  obtain ⟨p, h1, h2, h3, h4, h5⟩ := h
  exact ⟨.tuple [p], by simp [toPy, toPys, h1], by simp [PyData.showable, PyData.showableAll, h2], by simp [PyData.leavesShort, PyData.leavesShortAll, h3], by simp [PyData.depth, PyData.depthAll]; omega, by simp [PyData.bulk, PyData.bulkAll]; omega⟩
theorem Gd.wrapL {k : Nat} {d : D} (h : Gd k d) : Gd (k + 1) (.lst [d]) := by
  obtain ⟨p, h1, h2, h3, h4, h5⟩ := h
  exact ⟨.list [p], by simp [toPy, toPys, h1], by simp [PyData.showable, PyData.showableAll, h2], by simp [PyData.leavesShort, PyData.leavesShortAll, h3], by simp [PyData.depth, PyData.depthAll]; omega, by simp [PyData.bulk, PyData.bulkAll]; omega⟩
theorem Gd.wrapP {k : Nat} {d : D} {i : Int} (h : Gd k d) (hi : i.natAbs < 10 ^ 20) : Gd (k + 1) (.tup [.int i, d]) := by
  obtain ⟨p, h1, h2, h3, h4, h5⟩ := h
  obtain ⟨i1, i2⟩ := int_short hi
  exact ⟨.tuple [.int i, p], by simp [toPy, toPys, h1], by simp [PyData.showable, PyData.showableAll, h2, i1], by simp [PyData.leavesShort, PyData.leavesShortAll, h3, i2], by simp [PyData.depth, PyData.depthAll]; omega, by simp [PyData.bulk, PyData.bulkAll]; omega⟩
theorem Gd.wrapD {k : Nat} {d : D} {i : Int} (h : Gd k d) (hi : i.natAbs < 10 ^ 20) : Gd (k + 1) (.dct [(.inl i, d)]) := by
  obtain ⟨p, h1, h2, h3, h4, h5⟩ := h
  obtain ⟨i1, i2⟩ := int_short hi
  exact ⟨.dict [(.int i, p)], by simp [toPy, toPyKv, h1], by simp [PyData.showable, PyData.showableKv, h2, i1], by simp [PyData.leavesShort, PyData.leavesShortKv, h3, i2], by simp [PyData.depth, PyData.depthKv]; omega, by simp [PyData.bulk, PyData.bulkKv]; omega⟩
def baseL (r : Int) : List D := [.non, .bl true, .bl false, .int 0, .int 1, .int (-1), .int (10 ^ (20 : Int).toNat - 1), .str "", .str "many", .str "lists", .tup [], .lst [], .dct [], .tup [.int 0, .int 1], .lst [.tup []], .tup [.str "?", .int 0], .tup [.str "~", .int 1]] ++
  [.dct [(.inr "a", .int 1)], .dc1 (.tup [.int 0, .int 1]) (.lst [.int 2]), .int r, .tup [.tup [.str "int"], .int 3]]
theorem base_Gd {r : Int} (h0 : 0 ≤ r) (h1 : r < 10 ^ (9 : Int).toNat) : ∀ x ∈ baseL r, Gd 0 x := by
  have hr : (10 : Int) ^ (9 : Int).toNat = 1000000000 := by decide
  unfold baseL
  simp only [List.cons_append, List.nil_append, List.forall_mem_cons]
  refine ⟨⟨.none, by simp [toPy], ?_⟩, .bl _, .bl _, .int (by decide), .int (by decide), .int (by decide), .int (by decide +kernel), ⟨.str "", by simp [toPy], ?_⟩, ⟨.str "many", by simp [toPy], ?_⟩, ⟨.str "lists", by simp [toPy], ?_⟩, ⟨.tuple [], by simp [toPy, toPys], ?_⟩,
    ⟨.list [], by simp [toPy, toPys], ?_⟩, ⟨.dict [], by simp [toPy, toPyKv], ?_⟩, ⟨.tuple [.int 0, .int 1], by simp [toPy, toPys], ?_⟩, ⟨.list [.tuple []], by simp [toPy, toPys], ?_⟩, ⟨.tuple [.str "?", .int 0], by simp [toPy, toPys], ?_⟩, ⟨.tuple [.str "~", .int 1], by simp [toPy, toPys], ?_⟩,
    ⟨.dict [(.str "a", .int 1)], by simp [toPy, toPyKv], ?_⟩, ⟨.dict [(.tuple [.int 0, .int 1], .list [.int 2])], by simp [toPy, toPys], ?_⟩, .int (by omega), ⟨.tuple [.tuple [.str "int"], .int 3], by simp [toPy, toPys], ?_⟩, by simp⟩
  all_goals exact ⟨by decide +kernel, by decide +kernel, by decide +kernel, by decide +kernel⟩
/-- a thing is made: the hand goes on -/
def spThing : DSp := fun args M Q => ∃ (h : Addr) (o : MO), args = [.ref h] ∧ M h = some o ∧ HandOk o ∧ ∀ d o', Gd 36 d → HandOk o' → Q d (M.upd h o')
theorem ok_law_thing : ∀ args M Q, spThing args M Q → t_law_thing spSome spDraw (ends Q) (dstart N_law_thing.length args) M := by
  rintro args M Q ⟨h, o, rfl, hM, ho, q⟩
  show t_law_thing spSome spDraw (ends Q) [some (.ref h), none, none, none] M
  unfold t_law_thing
  refine seq_i (asg_ev (Ev.lst (.cons .c (.cons .c (.cons .c (.cons .c (.cons .c (.cons (.neg .c) (.cons (.sub (.pow .c .c ⟨by decide, by decide, by decide⟩) .c) (.cons .c (.cons .c (.cons .c (.cons (.tup .nil (by decide)) (.cons (.lst .nil (by decide)) (.cons .dict0
    (.cons (.tup (.cons .c (.cons .c .nil)) (by simp)) (.cons (.lst (.cons (.tup .nil (by decide)) .nil) (by simp)) (.cons (.tup (.cons .c (.cons .c .nil)) (by simp)) (.cons (.tup (.cons .c (.cons .c .nil)) (by simp)) .nil))))))))))))))))) (by simp)) ?_)
  show t_law_thing_4 spSome spDraw (ends Q) [some (.ref h), some (.lst [.non, .bl true, .bl false, .int 0, .int 1, .int (-1), .int (10 ^ (20 : Int).toNat - 1), .str "", .str "many", .str "lists", .tup [], .lst [], .dct [], .tup [.int 0, .int 1], .lst [.tup []], .tup [.str "?", .int 0], .tup [.str "~", .int 1]]), none, none] M
  unfold t_law_thing_4
  refine seq_i (call_i (cons_ev (.v rfl) (cons_op (.v rfl) (lst_i (cons_ev (.disp1 .c .c rfl) (cons_ev (.dc1 (.tup (.cons .c (.cons .c .nil)) (by simp)) (.lst (.cons .c .nil) (by simp)) rfl (by decide +kernel)) (cons_call (cons_ev (.v rfl) (cons_ev (.pow .c .c ⟨by decide, by decide, by decide⟩) (nil_i ?_))))))))))
  refine ⟨h, _, o, rfl, hM, ho, by decide, by decide, fun r o' r0 r1 ho' => ?_⟩
  refine cons_ev (.tup (.cons (.tup (.cons .c .nil) (by simp)) (.cons .c .nil)) (by simp)) ⟨sl_le (by simp), add_lst (by simp) ?_⟩
  refine ⟨h, _, baseL r, o', rfl, Sto.upd_same, ho', fun _ => rfl, by simp [baseL], by simp [baseL], fun d o2 hd ho2 => ?_⟩
  rw [Sto.upd_upd]
  have g0 := base_Gd r0 r1 d hd
  generalize [D.non, .bl true, .bl false, .int 0, .int 1, .int (-1), .int (10 ^ (20 : Int).toNat - 1), .str "", .str "many", .str "lists", .tup [], .lst [], .dct [], .tup [.int 0, .int 1], .lst [.tup []], .tup [.str "?", .int 0], .tup [.str "~", .int 1]] = L0
  show t_law_thing_3 spSome spDraw (ends Q) [some (.ref h), some (.lst L0), some d, none] (M.upd h o2)
  unfold t_law_thing_3
  refine seq_i (range_call (cons_ev (.v rfl) (cons_ev (.lst (.cons .c (.cons .c (.cons .c (.cons .c (.cons .c (.cons .c .nil)))))) (by simp)) (nil_i ?_))))
  refine ⟨h, _, _, o2, rfl, Sto.upd_same, ho2, fun _ => rfl, by simp, by simp, fun n o3 hn ho3 => ?_⟩
  rw [Sto.upd_upd]
  obtain ⟨j, rfl, hj⟩ : ∃ j : Nat, n = .int j ∧ j ≤ 36 := by
    simp only [List.mem_cons, List.not_mem_nil, or_false] at hn
    rcases hn with rfl | rfl | rfl | rfl | rfl | rfl
    · exact ⟨0, rfl, by decide⟩
    · exact ⟨0, rfl, by decide⟩
    · exact ⟨1, rfl, by decide⟩
    · exact ⟨2, rfl, by decide⟩
    · exact ⟨5, rfl, by decide⟩
    · exact ⟨36, rfl, by decide⟩
  refine ⟨⟨by omega, by omega⟩, ?_⟩
  refine loop_inv (fun ds τ M' => ∃ (d a3 : _) (o' : MO) (k : Nat), τ = [some (.ref h), some (.lst L0), some d, a3] ∧ M' = M.upd h o' ∧ HandOk o' ∧ Gd k d ∧ k + ds.length ≤ 36 ∧ ∀ x ∈ ds, ∃ i : Nat, x = .int i ∧ i < 36) ?_ ?_ _ _ _
    ⟨d, none, o3, 0, rfl, rfl, ho3, g0, by rw [rangeD_length]; omega, fun x hx => by
      obtain ⟨i, hi, e⟩ := rangeD_mem hx
      exact ⟨i, by rw [e, Int.zero_add], by omega⟩⟩
  · rintro x ds τ M' K ⟨d, a3, o', k, rfl, rfl, ho', g, hk, hx⟩ hK
    obtain ⟨i, rfl, hi⟩ := hx x (by simp)
    show t_law_thing_1 spSome spDraw _ [some (.ref h), some (.lst L0), some d, some (.int i)] (M.upd h o')
    unfold t_law_thing_1
    refine ix_call (Ev.lst (.cons (.tup (.cons (.v rfl) .nil) (by simp)) (.cons (.lst (.cons (.v rfl) .nil) (by simp)) (.cons (.tup (.cons (.v rfl) (.cons (.v rfl) .nil)) (by simp)) (.cons (.disp1 (.v rfl) (.v rfl) rfl) .nil)))) (by simp)) (cons_ev (.v rfl) (cons_ev .c (nil_i ?_)))
    refine ⟨h, 4, o', rfl, Sto.upd_same, ho', by decide, by decide, fun r o4 r0 r4 ho4 => ?_⟩
    rw [Sto.upd_upd]
    have hl : k + 1 + ds.length ≤ 36 := by rw [List.length_cons] at hk; omega
    have hx' : ∀ x ∈ ds, ∃ i : Nat, x = .int i ∧ i < 36 := fun y hy => hx y (by simp [hy])
    obtain ⟨z, hz, gz⟩ : ∃ z, [D.tup [d], .lst [d], .tup [.int i, d], .dct [(.inl (i : Int), d)]][r.toNat]? = some z ∧ Gd (k + 1) z := by
      have hr : r.toNat < 4 := by omega
      generalize r.toNat = m at hr
      match m, hr with
      | 0, _ => exact ⟨_, rfl, g.wrapT⟩
      | 1, _ => exact ⟨_, rfl, g.wrapL⟩
      | 2, _ => exact ⟨_, rfl, g.wrapP (by omega)⟩
      | 3, _ => exact ⟨_, rfl, g.wrapD (by omega)⟩
    refine gIx_seq rfl r0 hz ?_
    exact hK _ _ ⟨z, some (.int i), o4, k + 1, rfl, rfl, ho4, gz, hl, hx'⟩
  · rintro τ M' ⟨d, a3, o', k, rfl, rfl, ho', g, hk, _⟩
    show t_law_thing_2 spSome spDraw (ends Q) [some (.ref h), some (.lst L0), some d, a3] (M.upd h o')
    unfold t_law_thing_2
    exact ret_ev (.v rfl) (done (q d o' (g.mono (by omega)) ho'))
end DL

/-! H4: errors made, their classes, their fields. (printed in part) -/
namespace DL
open PySem PySem.Spec PyProof.Rows L2
/-- te gives something of which P holds, and the store is what it was -/
def EvM (te : DTE) (τ : DSt) (M : Sto) (P : D → Prop) : Prop := ∀ Q : DK, (∀ d, P d → Q d M) → te τ M Q
def EvMA (ta : DTA) (τ : DSt) (M : Sto) (P : List D → Prop) : Prop := ∀ Q : List D → Sto → Prop, (∀ ds, P ds → Q ds M) → ta τ M Q
/-- errors of these classes with these fields, one after the other -/
def Mades (cls : Str → Addr) : List (Str × List (Str × D)) → List D → Prop
  | [], [] => True
  | p :: ps, e :: es => (∃ a dx, e = .exv a (cls p.1) dx p.2) ∧ Mades cls ps es
  | _, _ => False
theorem Mades.length {cls : Str → Addr} : ∀ {ps : List (Str × List (Str × D))} {es : List D}, Mades cls ps es → es.length = ps.length
  | [], [], _ => rfl
  | _ :: _, _ :: _, h => by rw [List.length_cons, List.length_cons, Mades.length h.2]
  | [], _ :: _, h => h.elim
  | _ :: _, [], h => h.elim
theorem Mades.append {cls : Str → Addr} : ∀ {ps qs : List (Str × List (Str × D))} {es fs : List D}, Mades cls ps es → Mades cls qs fs → Mades cls (ps ++ qs) (es ++ fs)
  | [], _, [], _, _, k => k
  | _ :: _, _, _ :: _, _, h, k => ⟨h.1, Mades.append h.2 k⟩
  | [], _, _ :: _, _, h, _ => h.elim
  | _ :: _, _, [], _, h, _ => h.elim
theorem Mades.get {cls : Str → Addr} : ∀ {ps : List (Str × List (Str × D))} {es : List D}, Mades cls ps es → ∀ {i : Nat} {n : Str} {fs : List (Str × D)}, ps[i]? = some (n, fs) → ∃ a dx, es[i]? = some (.exv a (cls n) dx fs)
  | [], [], _, i, n, fs, h => by simp at h
  | p :: ps, e :: es, h, 0, n, fs, e0 => by
    simp at e0
    subst e0
    obtain ⟨a, dx, rfl⟩ := h.1
    exact ⟨a, dx, rfl⟩
  | p :: ps, e :: es, h, i + 1, n, fs, e0 => by
    obtain ⟨a, dx, z⟩ := Mades.get h.2 (i := i) (by simpa using e0)
    exact ⟨a, dx, by simpa using z⟩
  | [], _ :: _, h, _, _, _, _ => h.elim
  | _ :: _, [], h, _, _, _, _ => h.elim
section
variable [Wsh] {τ : DSt} {M : Sto} {te tf : DTE} {ta : DTA} {d e : D} {n f f2 : Str} {i : Nat} {D0 : DEnds} {ps qs : List (Str × List (Str × D))} {fs : List (Str × D)}
theorem EvM.mk0 : EvM (dMkV (dMk0 n)) τ M fun x => ∃ a dx, x = .exv a (Wsh.cls n) dx [] := fun Q q a dx => q _ ⟨a, dx, rfl⟩
theorem EvM.mk1 (h : Ev te τ M d) : EvM (dMkV (dMkS n f te)) τ M fun x => ∃ a dx, x = .exv a (Wsh.cls n) dx [(f, d)] := fun Q q => h _ fun a dx => q _ ⟨a, dx, rfl⟩
theorem EvM.mk2 (h : Ev te τ M d) (k : Ev tf τ M e) : EvM (dMkV (dMkS2 n f f2 te tf)) τ M fun x => ∃ a dx, x = .exv a (Wsh.cls n) dx [(f2, e), (f, d)] := fun Q q => h _ (k _ fun a dx => q _ ⟨a, dx, rfl⟩)
theorem EvMA.nil {cls : Str → Addr} : EvMA dNil τ M (Mades cls []) := fun Q q => q [] trivial
theorem EvMA.cons {cls : Str → Addr} (h : EvM te τ M fun x => ∃ a dx, x = .exv a (cls n) dx fs) (k : EvMA ta τ M (Mades cls ps)) : EvMA (dCons te ta) τ M (Mades cls ((n, fs) :: ps)) := fun Q q => h _ fun x hx => k _ fun xs hxs => q _ ⟨hx, hxs⟩
theorem asg_made {cls : Str → Addr} (h : EvMA ta τ M (Mades cls ps)) (l : ps.length ≤ 1000000) (q : ∀ es, Mades cls ps es → D0.nx (τ.set i (some (.lst es))) M) : dAsg (dLst ta) (dgName i) D0 τ M := h _ fun es he => ⟨sl_le (by rw [he.length]; exact l), q es he⟩
theorem asg_more {cls : Str → Addr} {xs : List D} (hx : Ev te τ M (.lst xs)) (g : Mades cls qs xs) (h : EvMA ta τ M (Mades cls ps)) (l : qs.length + ps.length ≤ 1000000) (q : ∀ es, Mades cls (qs ++ ps) es → D0.nx (τ.set i (some (.lst es))) M) :
    dAsg (dOp gAdd te (dLst ta)) (dgName i) D0 τ M := hx _ (h _ fun es he => ⟨sl_le (by rw [he.length]; omega), add_lst (by rw [he.length, g.length]; exact l) (q _ (g.append he))⟩)
theorem ret_more {cls : Str → Addr} {xs : List D} (hx : Ev te τ M (.lst xs)) (g : Mades cls qs xs) (h : EvMA ta τ M (Mades cls ps)) (l : qs.length + ps.length ≤ 1000000) (q : ∀ es, Mades cls (qs ++ ps) es → D0.rt (.lst es) M) :
    dRet (dOp gAdd te (dLst ta)) D0 τ M := hx _ (h _ fun es he => ⟨sl_le (by rw [he.length]; omega), add_lst (by rw [he.length, g.length]; exact l) (q _ (g.append he))⟩)
end
abbrev kindNames : List Str := ["BadBook", "BadTable", "BadProgram", "BadText", "TooMany", "NoName", "Kept", "NeedsItself", "Unclear", "Unmet", "NoSorts", "NoUse", "NoFacts", "NoRow", "NoLot", "NoWish", "NoTree", "NoFamily", "NoMany", "NoTerm", "NoStanding", "NoLine", "NoText", "NothingDone", "NotClear", "NotRooted", "OtherPlaces", "TooGreat"]
def madeL (one two : D) : List (Str × List (Str × D)) := [("BadBook", [("part", one)]), ("BadTable", [("part", one)]), ("BadProgram", [("part", one)]), ("BadText", [("place", one)]), ("TooMany", [("most", one)]), ("NoName", [("name", one)]), ("Kept", [("name", one)]), ("NeedsItself", [("use", two), ("family", one)]), ("Unclear", [("use", two), ("family", one)]), ("Unmet", [("use", two), ("family", one)]), ("NoSorts", []), ("NoUse", []), ("NoFacts", []), ("NoRow", []), ("NoLot", []), ("NoWish", []), ("NoTree", []), ("NoFamily", []), ("NoMany", []), ("NoTerm", []), ("NoStanding", []), ("NoLine", []), ("NoText", []), ("NothingDone", []), ("NotClear", []), ("NotRooted", []), ("OtherPlaces", []), ("TooGreat", [])]
def spMade (cls : Str → Addr) : DSp := fun args M Q => ∃ one two, args = [one, two] ∧ ∀ es, Mades cls (madeL one two) es → Q (.lst es) M
theorem ok_law_made [Wsh] {K : PySem.W.Frag} : ∀ args M Q, spMade Wsh.cls args M Q → t_law_made Wsh.cls K (ends Q) (dstart N_law_made.length args) M := by
  rintro args M Q ⟨one, two, rfl, q⟩
  show t_law_made Wsh.cls K (ends Q) [some one, some two, none] M
  unfold t_law_made
  refine seq_i (asg_made (.cons (.mk1 (.v rfl)) (.cons (.mk1 (.v rfl)) (.cons (.mk1 (.v rfl)) (.cons (.mk1 (.v rfl)) (.cons (.mk1 (.v rfl)) (.cons (.mk1 (.v rfl)) (.cons (.mk1 (.v rfl)) .nil))))))) (by simp) fun e1 h1 => ?_)
  show t_law_made_3 Wsh.cls K (ends Q) [some one, some two, some (.lst e1)] M
  unfold t_law_made_3
  refine seq_i (asg_more (.v rfl) h1 (.cons (.mk2 (.v rfl) (.v rfl)) (.cons (.mk2 (.v rfl) (.v rfl)) (.cons (.mk2 (.v rfl) (.v rfl)) (.cons .mk0 (.cons .mk0 (.cons .mk0 (.cons .mk0 .nil))))))) (by simp) fun e2 h2 => ?_)
  show t_law_made_2 Wsh.cls K (ends Q) [some one, some two, some (.lst e2)] M
  unfold t_law_made_2
  refine seq_i (asg_more (.v rfl) h2 (.cons .mk0 (.cons .mk0 (.cons .mk0 (.cons .mk0 (.cons .mk0 (.cons .mk0 (.cons .mk0 (.cons .mk0 (.cons .mk0 .nil))))))))) (by simp) fun e3 h3 => ?_)
  show t_law_made_1 Wsh.cls K (ends Q) [some one, some two, some (.lst e3)] M
  unfold t_law_made_1
  exact ret_more (.v rfl) h3 (.cons .mk0 (.cons .mk0 (.cons .mk0 (.cons .mk0 (.cons .mk0 .nil))))) (by simp) fun e4 h4 => done (q e4 h4)
section
variable {P : Program} {K : PySem.W.Frag} {mg : Str → Option Value} {cls : Str → Addr}
theorem TopE.isx (J : TopE P K mg cls) {m n : Str} (hm : m ∈ errNames) (hn : n ∈ errNames) : isxK K (cls m) (.ref (cls n)) = some (subB "KindError" m n) :=
  isxK_of ((J.er m hm).1.isc J.ek) (ErC.kit (J.er _ in_KindError).1 (J.er m hm).1 (J.er n hn).1)
theorem TopE.isv (J : TopE P K mg cls) {m : Str} (hm : m ∈ errNames) : isxK K (cls m) (.type "ValueError") = some true := isxK_of ((J.er m hm).1.isc J.ek) (J.er m hm).1.kitV
theorem Ev.isx (J : TopE P K mg cls) {te : DTE} {τ : DSt} {M : Sto} {a : Addr} {dx : Option Addr} {fs : List (Str × D)} {m n : Str} (hm : m ∈ errNames) (hn : n ∈ errNames) (h : Ev te τ M (.exv a (cls m) dx fs)) :
    Ev (dCB (gIsX (isxK K)) (dCons te (dCons (dC (.ref (cls n))) dNil))) τ M (.bl (subB "KindError" m n)) := fun Q q => h _ ⟨_, J.isx hm hn, q⟩
theorem Ev.isv (J : TopE P K mg cls) {te : DTE} {τ : DSt} {M : Sto} {a : Addr} {dx : Option Addr} {fs : List (Str × D)} {m : Str} (hm : m ∈ errNames) (h : Ev te τ M (.exv a (cls m) dx fs)) :
    Ev (dCB (gIsX (isxK K)) (dCons te (dCons (dC (.ty "ValueError")) dNil))) τ M (.bl true) := fun Q q => h _ ⟨_, J.isv hm, q⟩
def flagsL (m : Str) : List D := kindNames.map fun n => .bl (subB "KindError" m n)
def spKinds (cls : Str → Addr) : DSp := fun args M Q => ∃ a m dx fs, m ∈ errNames ∧ args = [.exv a (cls m) dx fs] ∧ Q (.lst (flagsL m)) M
theorem ok_law_kinds (J : TopE P K mg cls) : ∀ args M Q, spKinds cls args M Q → t_law_kinds cls K (ends Q) (dstart N_law_kinds.length args) M := by
  rintro args M Q ⟨a, m, dx, fs, hm, rfl, q⟩
  show t_law_kinds cls K (ends Q) [some (.exv a (cls m) dx fs), none] M
  unfold t_law_kinds
  refine seq_i (asg_ev (Ev.lst (.cons (.isx J hm in_BadBook (.v rfl)) (.cons (.isx J hm in_BadTable (.v rfl)) (.cons (.isx J hm in_BadProgram (.v rfl)) .nil))) (by simp)) ?_)
  show t_law_kinds_9 cls K (ends Q) [some (.exv a (cls m) dx fs), some (.lst ([.bl (subB "KindError" m "BadBook"), .bl (subB "KindError" m "BadTable"), .bl (subB "KindError" m "BadProgram")]))] M
  unfold t_law_kinds_9
  refine seq_i (asg_ev (Ev.addL (.v rfl) (Ev.lst (.cons (.isx J hm in_BadText (.v rfl)) (.cons (.isx J hm in_TooMany (.v rfl)) (.cons (.isx J hm in_NoName (.v rfl)) .nil))) (by simp)) (by simp)) ?_)
  show t_law_kinds_8 cls K (ends Q) [some (.exv a (cls m) dx fs), some (.lst ([.bl (subB "KindError" m "BadBook"), .bl (subB "KindError" m "BadTable"), .bl (subB "KindError" m "BadProgram"), .bl (subB "KindError" m "BadText"), .bl (subB "KindError" m "TooMany"), .bl (subB "KindError" m "NoName")]))] M
  unfold t_law_kinds_8
  refine seq_i (asg_ev (Ev.addL (.v rfl) (Ev.lst (.cons (.isx J hm in_Kept (.v rfl)) (.cons (.isx J hm in_NeedsItself (.v rfl)) (.cons (.isx J hm in_Unclear (.v rfl)) .nil))) (by simp)) (by simp)) ?_)
  show t_law_kinds_7 cls K (ends Q) [some (.exv a (cls m) dx fs), some (.lst ([.bl (subB "KindError" m "BadBook"), .bl (subB "KindError" m "BadTable"), .bl (subB "KindError" m "BadProgram"), .bl (subB "KindError" m "BadText"), .bl (subB "KindError" m "TooMany"), .bl (subB "KindError" m "NoName"), .bl (subB "KindError" m "Kept"), .bl (subB "KindError" m "NeedsItself"), .bl (subB "KindError" m "Unclear")]))] M
  unfold t_law_kinds_7
  refine seq_i (asg_ev (Ev.addL (.v rfl) (Ev.lst (.cons (.isx J hm in_Unmet (.v rfl)) (.cons (.isx J hm in_NoSorts (.v rfl)) (.cons (.isx J hm in_NoUse (.v rfl)) .nil))) (by simp)) (by simp)) ?_)
  show t_law_kinds_6 cls K (ends Q) [some (.exv a (cls m) dx fs), some (.lst ([.bl (subB "KindError" m "BadBook"), .bl (subB "KindError" m "BadTable"), .bl (subB "KindError" m "BadProgram"), .bl (subB "KindError" m "BadText"), .bl (subB "KindError" m "TooMany"), .bl (subB "KindError" m "NoName"), .bl (subB "KindError" m "Kept"), .bl (subB "KindError" m "NeedsItself"), .bl (subB "KindError" m "Unclear"), .bl (subB "KindError" m "Unmet"), .bl (subB "KindError" m "NoSorts"), .bl (subB "KindError" m "NoUse")]))] M
  unfold t_law_kinds_6
  refine seq_i (asg_ev (Ev.addL (.v rfl) (Ev.lst (.cons (.isx J hm in_NoFacts (.v rfl)) (.cons (.isx J hm in_NoRow (.v rfl)) (.cons (.isx J hm in_NoLot (.v rfl)) .nil))) (by simp)) (by simp)) ?_)
  show t_law_kinds_5 cls K (ends Q) [some (.exv a (cls m) dx fs), some (.lst ([.bl (subB "KindError" m "BadBook"), .bl (subB "KindError" m "BadTable"), .bl (subB "KindError" m "BadProgram"), .bl (subB "KindError" m "BadText"), .bl (subB "KindError" m "TooMany"), .bl (subB "KindError" m "NoName"), .bl (subB "KindError" m "Kept"), .bl (subB "KindError" m "NeedsItself"), .bl (subB "KindError" m "Unclear"), .bl (subB "KindError" m "Unmet"), .bl (subB "KindError" m "NoSorts"), .bl (subB "KindError" m "NoUse"), .bl (subB "KindError" m "NoFacts"), .bl (subB "KindError" m "NoRow"), .bl (subB "KindError" m "NoLot")]))] M
  unfold t_law_kinds_5
  refine seq_i (asg_ev (Ev.addL (.v rfl) (Ev.lst (.cons (.isx J hm in_NoWish (.v rfl)) (.cons (.isx J hm in_NoTree (.v rfl)) (.cons (.isx J hm in_NoFamily (.v rfl)) .nil))) (by simp)) (by simp)) ?_)
  show t_law_kinds_4 cls K (ends Q) [some (.exv a (cls m) dx fs), some (.lst ([.bl (subB "KindError" m "BadBook"), .bl (subB "KindError" m "BadTable"), .bl (subB "KindError" m "BadProgram"), .bl (subB "KindError" m "BadText"), .bl (subB "KindError" m "TooMany"), .bl (subB "KindError" m "NoName"), .bl (subB "KindError" m "Kept"), .bl (subB "KindError" m "NeedsItself"), .bl (subB "KindError" m "Unclear"), .bl (subB "KindError" m "Unmet"), .bl (subB "KindError" m "NoSorts"), .bl (subB "KindError" m "NoUse"), .bl (subB "KindError" m "NoFacts"), .bl (subB "KindError" m "NoRow"), .bl (subB "KindError" m "NoLot"), .bl (subB "KindError" m "NoWish"), .bl (subB "KindError" m "NoTree"), .bl (subB "KindError" m "NoFamily")]))] M
  unfold t_law_kinds_4
  refine seq_i (asg_ev (Ev.addL (.v rfl) (Ev.lst (.cons (.isx J hm in_NoMany (.v rfl)) (.cons (.isx J hm in_NoTerm (.v rfl)) (.cons (.isx J hm in_NoStanding (.v rfl)) .nil))) (by simp)) (by simp)) ?_)
  show t_law_kinds_3 cls K (ends Q) [some (.exv a (cls m) dx fs), some (.lst ([.bl (subB "KindError" m "BadBook"), .bl (subB "KindError" m "BadTable"), .bl (subB "KindError" m "BadProgram"), .bl (subB "KindError" m "BadText"), .bl (subB "KindError" m "TooMany"), .bl (subB "KindError" m "NoName"), .bl (subB "KindError" m "Kept"), .bl (subB "KindError" m "NeedsItself"), .bl (subB "KindError" m "Unclear"), .bl (subB "KindError" m "Unmet"), .bl (subB "KindError" m "NoSorts"), .bl (subB "KindError" m "NoUse"), .bl (subB "KindError" m "NoFacts"), .bl (subB "KindError" m "NoRow"), .bl (subB "KindError" m "NoLot"), .bl (subB "KindError" m "NoWish"), .bl (subB "KindError" m "NoTree"), .bl (subB "KindError" m "NoFamily"), .bl (subB "KindError" m "NoMany"), .bl (subB "KindError" m "NoTerm"), .bl (subB "KindError" m "NoStanding")]))] M
  unfold t_law_kinds_3
  refine seq_i (asg_ev (Ev.addL (.v rfl) (Ev.lst (.cons (.isx J hm in_NoLine (.v rfl)) (.cons (.isx J hm in_NoText (.v rfl)) (.cons (.isx J hm in_NothingDone (.v rfl)) .nil))) (by simp)) (by simp)) ?_)
  show t_law_kinds_2 cls K (ends Q) [some (.exv a (cls m) dx fs), some (.lst ([.bl (subB "KindError" m "BadBook"), .bl (subB "KindError" m "BadTable"), .bl (subB "KindError" m "BadProgram"), .bl (subB "KindError" m "BadText"), .bl (subB "KindError" m "TooMany"), .bl (subB "KindError" m "NoName"), .bl (subB "KindError" m "Kept"), .bl (subB "KindError" m "NeedsItself"), .bl (subB "KindError" m "Unclear"), .bl (subB "KindError" m "Unmet"), .bl (subB "KindError" m "NoSorts"), .bl (subB "KindError" m "NoUse"), .bl (subB "KindError" m "NoFacts"), .bl (subB "KindError" m "NoRow"), .bl (subB "KindError" m "NoLot"), .bl (subB "KindError" m "NoWish"), .bl (subB "KindError" m "NoTree"), .bl (subB "KindError" m "NoFamily"), .bl (subB "KindError" m "NoMany"), .bl (subB "KindError" m "NoTerm"), .bl (subB "KindError" m "NoStanding"), .bl (subB "KindError" m "NoLine"), .bl (subB "KindError" m "NoText"), .bl (subB "KindError" m "NothingDone")]))] M
  unfold t_law_kinds_2
  refine seq_i (asg_ev (Ev.addL (.v rfl) (Ev.lst (.cons (.isx J hm in_NotClear (.v rfl)) (.cons (.isx J hm in_NotRooted (.v rfl)) (.cons (.isx J hm in_OtherPlaces (.v rfl)) .nil))) (by simp)) (by simp)) ?_)
  show t_law_kinds_1 cls K (ends Q) [some (.exv a (cls m) dx fs), some (.lst ([.bl (subB "KindError" m "BadBook"), .bl (subB "KindError" m "BadTable"), .bl (subB "KindError" m "BadProgram"), .bl (subB "KindError" m "BadText"), .bl (subB "KindError" m "TooMany"), .bl (subB "KindError" m "NoName"), .bl (subB "KindError" m "Kept"), .bl (subB "KindError" m "NeedsItself"), .bl (subB "KindError" m "Unclear"), .bl (subB "KindError" m "Unmet"), .bl (subB "KindError" m "NoSorts"), .bl (subB "KindError" m "NoUse"), .bl (subB "KindError" m "NoFacts"), .bl (subB "KindError" m "NoRow"), .bl (subB "KindError" m "NoLot"), .bl (subB "KindError" m "NoWish"), .bl (subB "KindError" m "NoTree"), .bl (subB "KindError" m "NoFamily"), .bl (subB "KindError" m "NoMany"), .bl (subB "KindError" m "NoTerm"), .bl (subB "KindError" m "NoStanding"), .bl (subB "KindError" m "NoLine"), .bl (subB "KindError" m "NoText"), .bl (subB "KindError" m "NothingDone"), .bl (subB "KindError" m "NotClear"), .bl (subB "KindError" m "NotRooted"), .bl (subB "KindError" m "OtherPlaces")]))] M
  unfold t_law_kinds_1
  exact ret_ev (Ev.addL (.v rfl) (Ev.lst (.cons (.isx J hm in_TooGreat (.v rfl)) .nil) (by simp)) (by simp)) (DL.done q)
theorem TopE.fok1 (J : TopE P K mg cls) {p : Str × Str} (hp : p ∈ oneNames) (hn : p.1 ∈ errNames) : fokK K (cls p.1) p.2 = true := fokK_of (J.er _ hn).1.xf (J.no p hp)
theorem TopE.fok2 (J : TopE P K mg cls) {n : Str} (hp : n ∈ twoNames) (hn : n ∈ errNames) : fokK K (cls n) "family" = true := fokK_of (J.er _ hn).1.xf (J.no0 n hp)
theorem TopE.fok3 (J : TopE P K mg cls) {n : Str} (hp : n ∈ twoNames) (hn : n ∈ errNames) : fokK K (cls n) "use" = true := fokK_of (J.er _ hn).1.xf (J.no1 n hp)
theorem Ev.vf {es : List D} {ps : List (Str × List (Str × D))} {τ : DSt} {M : Sto} {i : Nat} {n f : Str} {fs : List (Str × D)} {v : D} {te : DTE} {j : Int} (g : Mades cls ps es) (h : Ev te τ M (.lst es)) (hi : ps[i]? = some (n, fs)) (hv : fs.lookup f = some v) (hf : fokK K (cls n) f = true) (hj : j = (i : Int) := by rfl) :
    Ev (dVf (fokK K) f (dOp gIx te (dC (.int j)))) τ M v := fun Q q => by
  obtain ⟨a, dx, he⟩ := g.get hi
  subst hj
  refine h _ ?_
  refine Ev.c _ ?_
  refine gIx_seq (xs := es) rfl (Int.natCast_nonneg i) (x := .exv a (cls n) dx fs) ?_ ?_
  · simpa using he
  · exact ⟨hf, v, hv, q⟩
def fieldsL (one two : D) : List D := [one, one, one, one, one, one, one, one, two, one, two, one, two]
def spFields (cls : Str → Addr) : DSp := fun args M Q => ∃ one two es, Mades cls (madeL one two) es ∧ args = [.lst es] ∧ Q (.lst (fieldsL one two)) M
theorem ok_law_fields (J : TopE P K mg cls) : ∀ args M Q, spFields cls args M Q → t_law_fields cls K (ends Q) (dstart N_law_fields.length args) M := by
  rintro args M Q ⟨one, two, es, g, rfl, q⟩
  show t_law_fields cls K (ends Q) [some (.lst es), none] M
  unfold t_law_fields
  refine seq_i (asg_ev (Ev.lst (.cons (.vf (i := 0) g (.v rfl) rfl (by first | rfl | simp [List.lookup]) (J.fok1 i1_BadBook in_BadBook)) (.cons (.vf (i := 1) g (.v rfl) rfl (by first | rfl | simp [List.lookup]) (J.fok1 i1_BadTable in_BadTable)) (.cons (.vf (i := 2) g (.v rfl) rfl (by first | rfl | simp [List.lookup]) (J.fok1 i1_BadProgram in_BadProgram)) (.cons (.vf (i := 3) g (.v rfl) rfl (by first | rfl | simp [List.lookup]) (J.fok1 i1_BadText in_BadText)) (.cons (.vf (i := 4) g (.v rfl) rfl (by first | rfl | simp [List.lookup]) (J.fok1 i1_TooMany in_TooMany)) (.cons (.vf (i := 5) g (.v rfl) rfl (by first | rfl | simp [List.lookup]) (J.fok1 i1_NoName in_NoName)) .nil)))))) (by simp)) ?_)
  show t_law_fields_2 cls K (ends Q) [some (.lst es), some (.lst [one, one, one, one, one, one])] M
  unfold t_law_fields_2
  refine seq_i (asg_ev (Ev.addL (.v rfl) (Ev.lst (.cons (.vf (i := 6) g (.v rfl) rfl (by first | rfl | simp [List.lookup]) (J.fok1 i1_Kept in_Kept)) (.cons (.vf (i := 7) g (.v rfl) rfl (by first | rfl | simp [List.lookup]) (J.fok2 i2_NeedsItself in_NeedsItself)) (.cons (.vf (i := 7) g (.v rfl) rfl (by first | rfl | simp [List.lookup]) (J.fok3 i2_NeedsItself in_NeedsItself)) (.cons (.vf (i := 8) g (.v rfl) rfl (by first | rfl | simp [List.lookup]) (J.fok2 i2_Unclear in_Unclear)) (.cons (.vf (i := 8) g (.v rfl) rfl (by first | rfl | simp [List.lookup]) (J.fok3 i2_Unclear in_Unclear)) .nil))))) (by simp)) (by simp)) ?_)
  show t_law_fields_1 cls K (ends Q) [some (.lst es), some (.lst [one, one, one, one, one, one, one, one, two, one, two])] M
  unfold t_law_fields_1
  exact ret_ev (Ev.addL (.v rfl) (Ev.lst (.cons (.vf (i := 9) g (.v rfl) rfl (by first | rfl | simp [List.lookup]) (J.fok2 i2_Unmet in_Unmet)) (.cons (.vf (i := 9) g (.v rfl) rfl (by first | rfl | simp [List.lookup]) (J.fok3 i2_Unmet in_Unmet)) .nil)) (by simp)) (by simp)) (DL.done q)
end
end DL

/-! H5: errors raised and caught. (printed in part) -/
namespace DL
open PySem PySem.Spec PyProof.Rows L2
/-- the error of number w, raised -/
def spRaise : DSpX := fun args M Q Xd => ∃ (w : Nat) (one two : D) (n : Str) (fs : List (Str × D)), w < 10 ∧ args = [.int (w : Int), one, two] ∧ (madeL one two)[w]? = some (n, fs) ∧ Xd n fs M
section
variable [Wsh] {τ : DSt} {M : Sto} {te tf : DTE} {ta : DTA} {d e : D} {n f f2 : Str} {i : Nat} {D0 : DEnds} {fs : List (Str × D)} {tm : DTM} {w j : Int} {u : DTS}
/-- tm makes just this error -/
def EvR (tm : DTM) (τ : DSt) (M : Sto) (n : Str) (fs : List (Str × D)) : Prop := ∀ Xd : DXK, Xd n fs M → tm τ M Xd
theorem EvR.mk1 (h : Ev te τ M d) : EvR (dMkS n f te) τ M n [(f, d)] := fun Q q => h _ q
theorem EvR.mk2 (h : Ev te τ M d) (k : Ev tf τ M e) : EvR (dMkS2 n f f2 te tf) τ M n [(f2, e), (f, d)] := fun Q q => h _ (k _ q)
theorem raise_if (h : Ev te τ M (.int w)) (hr : w = j → EvR tm τ M n fs) (q1 : w = j → D0.xr n fs τ M) (q2 : w ≠ j → u D0 τ M) : dSeq (dIfS (dTest (dOp (gEq 250) te (dC (.int j)))) (dRaise tm) dNext) u D0 τ M := by
  refine h _ ?_
  show (if decide (w = j) = true then tm τ M fun n fs M1 => D0.xr n fs τ M1 else u D0 τ M)
  by_cases c : w = j
  · rw [if_pos (decide_eq_true c)]
    exact hr c _ (q1 c)
  · rw [if_neg (by simpa using c)]
    exact q2 c
end
theorem ok_law_raise [Wsh] {cls : Str → Addr} {K : PySem.W.Frag} : ∀ args M Q Xd, spRaise args M Q Xd → t_law_raise cls K (endsX Q Xd) (dstart N_law_raise.length args) M := by
  rintro args M Q Xd ⟨w, one, two, n, fs, hw, rfl, hn, q⟩
  show t_law_raise cls K (endsX Q Xd) [some (.int (w : Int)), some one, some two] M
  have fin : ∃ M2, Sto.le M2 M ∧ Xd n fs M2 := ⟨M, M.le_refl, q⟩
  unfold t_law_raise
  refine raise_if (.v rfl) (fun e => by
    obtain rfl : w = 0 := by omega
    cases hn
    exact EvR.mk1 (.v rfl)) (fun e => fin) fun e0 => ?_
  unfold t_law_raise_9
  refine raise_if (.v rfl) (fun e => by
    obtain rfl : w = 1 := by omega
    cases hn
    exact EvR.mk1 (.v rfl)) (fun e => fin) fun e1 => ?_
  unfold t_law_raise_8
  refine raise_if (.v rfl) (fun e => by
    obtain rfl : w = 2 := by omega
    cases hn
    exact EvR.mk1 (.v rfl)) (fun e => fin) fun e2 => ?_
  unfold t_law_raise_7
  refine raise_if (.v rfl) (fun e => by
    obtain rfl : w = 3 := by omega
    cases hn
    exact EvR.mk1 (.v rfl)) (fun e => fin) fun e3 => ?_
  unfold t_law_raise_6
  refine raise_if (.v rfl) (fun e => by
    obtain rfl : w = 4 := by omega
    cases hn
    exact EvR.mk1 (.v rfl)) (fun e => fin) fun e4 => ?_
  unfold t_law_raise_5
  refine raise_if (.v rfl) (fun e => by
    obtain rfl : w = 5 := by omega
    cases hn
    exact EvR.mk1 (.v rfl)) (fun e => fin) fun e5 => ?_
  unfold t_law_raise_4
  refine raise_if (.v rfl) (fun e => by
    obtain rfl : w = 6 := by omega
    cases hn
    exact EvR.mk1 (.v rfl)) (fun e => fin) fun e6 => ?_
  unfold t_law_raise_3
  refine raise_if (.v rfl) (fun e => by
    obtain rfl : w = 7 := by omega
    cases hn
    exact EvR.mk2 (.v rfl) (.v rfl)) (fun e => fin) fun e7 => ?_
  unfold t_law_raise_2
  refine raise_if (.v rfl) (fun e => by
    obtain rfl : w = 8 := by omega
    cases hn
    exact EvR.mk2 (.v rfl) (.v rfl)) (fun e => fin) fun e8 => ?_
  unfold t_law_raise_1
  obtain rfl : w = 9 := by omega
  cases hn
  exact EvR.mk2 (.v rfl) (.v rfl) _ fin
section
variable [Wsh] {τ : DSt} {M : Sto} {n c : Str} {i : Option Nat} {E : DEnds} {fs : List (Str × D)} {r : DClz} {ts : DSu}
theorem xr_no (h : subE n c = some false) (q : xrMA subE E r n fs τ M) : xrMA subE E ((c, i, ts) :: r) n fs τ M := ⟨false, h, (fun z => nomatch z), fun _ => q⟩
theorem xr_yes (h : subE n c = some true) (q : ∀ a dx, ts a dx n (endsI E i) (setI i (some (.exc a dx n fs)) τ) M) : xrMA subE E ((c, i, ts) :: r) n fs τ M := ⟨true, h, (fun _ => q), (fun z => nomatch z)⟩
theorem dropx_call {ta : DTA} {sp : DSpX} (h : ta τ M fun ds M1 => sp ds M1 (fun _ M2 => E.nx τ M2) fun n fs M2 => E.xr n fs τ M2) : dDropX (dCallX sp ta) E τ M := h
theorem Ev.xf {a : Addr} {dx : Option Addr} {f : Str} {te : DTE} {v : D} (h : Ev te τ M (.exc a dx n fs)) (hv : fs.lookup f = some v) : Ev (dXf a dx f te) τ M v := fun Q q => h _ ⟨rfl, rfl, v, hv, q⟩
end
def dueL (w : Nat) (one two : D) : List D := if w < 7 then [one] else [one, two]
def spCaught : DSp := fun args M Q => ∃ (w : Nat) (one two : D), w < 10 ∧ args = [.int (w : Int), one, two] ∧ Q (.tup [.int (w : Int), .lst (dueL w one two)]) M
theorem ok_law_caught [Wsh] {cls : Str → Addr} {K : PySem.W.Frag} : ∀ args M Q, spCaught args M Q → t_law_caught cls K spRaise (ends Q) (dstart N_law_caught.length args) M := by
  rintro args M Q ⟨w, one, two, hw, rfl, q⟩
  show t_law_caught cls K spRaise (ends Q) [some (.int (w : Int)), some one, some two, none, none] M
  unfold t_law_caught
  refine seq_i (asg_ev (Ev.tup (.cons .c (.cons (.lst .nil (by simp)) .nil)) (by simp)) ?_)
  show t_law_caught_2 cls K spRaise (ends Q) [some (.int (w : Int)), some one, some two, some (.tup [.int 10, .lst []]), none] M
  unfold t_law_caught_2
  refine seq_i ?_
  unfold dTryMA
  refine dropx_call ?_
  refine cons_ev (.v rfl) (cons_ev (.v rfl) (cons_ev (.v rfl) (nil_i ?_)))
  match w, hw, q with
  | 0, _, q =>
    refine ⟨0, one, two, _, _, by decide, rfl, rfl, ?_⟩
    show xrMA subE { nx := t_law_caught_1 cls K spRaise (ends Q), rt := (ends Q).rt } _ _ _ _ _
    refine xr_yes (n := "BadBook") (c := "BadBook") (by decide +kernel) fun a dx => ?_
    refine asg_ev (Ev.tup (.cons .c (.cons (.lst (.cons (.xf (.v rfl) (by first | rfl | simp [List.lookup])) .nil) (by simp)) .nil)) (by simp)) ?_
    show t_law_caught_1 cls K spRaise (ends Q) [some (.int (0 : Int)), some one, some two, some (.tup [.int 0, .lst [one]]), none] M
    unfold t_law_caught_1
    exact ret_ev (.v rfl) (done q)
  | 1, _, q =>
    refine ⟨1, one, two, _, _, by decide, rfl, rfl, ?_⟩
    show xrMA subE { nx := t_law_caught_1 cls K spRaise (ends Q), rt := (ends Q).rt } _ _ _ _ _
    refine xr_no (n := "BadTable") (c := "BadBook") (by decide +kernel) ?_
    refine xr_yes (n := "BadTable") (c := "BadTable") (by decide +kernel) fun a dx => ?_
    refine asg_ev (Ev.tup (.cons .c (.cons (.lst (.cons (.xf (.v rfl) (by first | rfl | simp [List.lookup])) .nil) (by simp)) .nil)) (by simp)) ?_
    show t_law_caught_1 cls K spRaise (ends Q) [some (.int (1 : Int)), some one, some two, some (.tup [.int 1, .lst [one]]), none] M
    unfold t_law_caught_1
    exact ret_ev (.v rfl) (done q)
  | 2, _, q =>
    refine ⟨2, one, two, _, _, by decide, rfl, rfl, ?_⟩
    show xrMA subE { nx := t_law_caught_1 cls K spRaise (ends Q), rt := (ends Q).rt } _ _ _ _ _
    refine xr_no (n := "BadProgram") (c := "BadBook") (by decide +kernel) ?_
    refine xr_no (n := "BadProgram") (c := "BadTable") (by decide +kernel) ?_
    refine xr_yes (n := "BadProgram") (c := "BadProgram") (by decide +kernel) fun a dx => ?_
    refine asg_ev (Ev.tup (.cons .c (.cons (.lst (.cons (.xf (.v rfl) (by first | rfl | simp [List.lookup])) .nil) (by simp)) .nil)) (by simp)) ?_
    show t_law_caught_1 cls K spRaise (ends Q) [some (.int (2 : Int)), some one, some two, some (.tup [.int 2, .lst [one]]), none] M
    unfold t_law_caught_1
    exact ret_ev (.v rfl) (done q)
  | 3, _, q =>
    refine ⟨3, one, two, _, _, by decide, rfl, rfl, ?_⟩
    show xrMA subE { nx := t_law_caught_1 cls K spRaise (ends Q), rt := (ends Q).rt } _ _ _ _ _
    refine xr_no (n := "BadText") (c := "BadBook") (by decide +kernel) ?_
    refine xr_no (n := "BadText") (c := "BadTable") (by decide +kernel) ?_
    refine xr_no (n := "BadText") (c := "BadProgram") (by decide +kernel) ?_
    refine xr_yes (n := "BadText") (c := "BadText") (by decide +kernel) fun a dx => ?_
    refine asg_ev (Ev.tup (.cons .c (.cons (.lst (.cons (.xf (.v rfl) (by first | rfl | simp [List.lookup])) .nil) (by simp)) .nil)) (by simp)) ?_
    show t_law_caught_1 cls K spRaise (ends Q) [some (.int (3 : Int)), some one, some two, some (.tup [.int 3, .lst [one]]), none] M
    unfold t_law_caught_1
    exact ret_ev (.v rfl) (done q)
  | 4, _, q =>
    refine ⟨4, one, two, _, _, by decide, rfl, rfl, ?_⟩
    show xrMA subE { nx := t_law_caught_1 cls K spRaise (ends Q), rt := (ends Q).rt } _ _ _ _ _
    refine xr_no (n := "TooMany") (c := "BadBook") (by decide +kernel) ?_
    refine xr_no (n := "TooMany") (c := "BadTable") (by decide +kernel) ?_
    refine xr_no (n := "TooMany") (c := "BadProgram") (by decide +kernel) ?_
    refine xr_no (n := "TooMany") (c := "BadText") (by decide +kernel) ?_
    refine xr_yes (n := "TooMany") (c := "TooMany") (by decide +kernel) fun a dx => ?_
    refine asg_ev (Ev.tup (.cons .c (.cons (.lst (.cons (.xf (.v rfl) (by first | rfl | simp [List.lookup])) .nil) (by simp)) .nil)) (by simp)) ?_
    show t_law_caught_1 cls K spRaise (ends Q) [some (.int (4 : Int)), some one, some two, some (.tup [.int 4, .lst [one]]), none] M
    unfold t_law_caught_1
    exact ret_ev (.v rfl) (done q)
  | 5, _, q =>
    refine ⟨5, one, two, _, _, by decide, rfl, rfl, ?_⟩
    show xrMA subE { nx := t_law_caught_1 cls K spRaise (ends Q), rt := (ends Q).rt } _ _ _ _ _
    refine xr_no (n := "NoName") (c := "BadBook") (by decide +kernel) ?_
    refine xr_no (n := "NoName") (c := "BadTable") (by decide +kernel) ?_
    refine xr_no (n := "NoName") (c := "BadProgram") (by decide +kernel) ?_
    refine xr_no (n := "NoName") (c := "BadText") (by decide +kernel) ?_
    refine xr_no (n := "NoName") (c := "TooMany") (by decide +kernel) ?_
    refine xr_yes (n := "NoName") (c := "NoName") (by decide +kernel) fun a dx => ?_
    refine asg_ev (Ev.tup (.cons .c (.cons (.lst (.cons (.xf (.v rfl) (by first | rfl | simp [List.lookup])) .nil) (by simp)) .nil)) (by simp)) ?_
    show t_law_caught_1 cls K spRaise (ends Q) [some (.int (5 : Int)), some one, some two, some (.tup [.int 5, .lst [one]]), none] M
    unfold t_law_caught_1
    exact ret_ev (.v rfl) (done q)
  | 6, _, q =>
    refine ⟨6, one, two, _, _, by decide, rfl, rfl, ?_⟩
    show xrMA subE { nx := t_law_caught_1 cls K spRaise (ends Q), rt := (ends Q).rt } _ _ _ _ _
    refine xr_no (n := "Kept") (c := "BadBook") (by decide +kernel) ?_
    refine xr_no (n := "Kept") (c := "BadTable") (by decide +kernel) ?_
    refine xr_no (n := "Kept") (c := "BadProgram") (by decide +kernel) ?_
    refine xr_no (n := "Kept") (c := "BadText") (by decide +kernel) ?_
    refine xr_no (n := "Kept") (c := "TooMany") (by decide +kernel) ?_
    refine xr_no (n := "Kept") (c := "NoName") (by decide +kernel) ?_
    refine xr_yes (n := "Kept") (c := "Kept") (by decide +kernel) fun a dx => ?_
    refine asg_ev (Ev.tup (.cons .c (.cons (.lst (.cons (.xf (.v rfl) (by first | rfl | simp [List.lookup])) .nil) (by simp)) .nil)) (by simp)) ?_
    show t_law_caught_1 cls K spRaise (ends Q) [some (.int (6 : Int)), some one, some two, some (.tup [.int 6, .lst [one]]), none] M
    unfold t_law_caught_1
    exact ret_ev (.v rfl) (done q)
  | 7, _, q =>
    refine ⟨7, one, two, _, _, by decide, rfl, rfl, ?_⟩
    show xrMA subE { nx := t_law_caught_1 cls K spRaise (ends Q), rt := (ends Q).rt } _ _ _ _ _
    refine xr_no (n := "NeedsItself") (c := "BadBook") (by decide +kernel) ?_
    refine xr_no (n := "NeedsItself") (c := "BadTable") (by decide +kernel) ?_
    refine xr_no (n := "NeedsItself") (c := "BadProgram") (by decide +kernel) ?_
    refine xr_no (n := "NeedsItself") (c := "BadText") (by decide +kernel) ?_
    refine xr_no (n := "NeedsItself") (c := "TooMany") (by decide +kernel) ?_
    refine xr_no (n := "NeedsItself") (c := "NoName") (by decide +kernel) ?_
    refine xr_no (n := "NeedsItself") (c := "Kept") (by decide +kernel) ?_
    refine xr_yes (n := "NeedsItself") (c := "NeedsItself") (by decide +kernel) fun a dx => ?_
    refine asg_ev (Ev.tup (.cons .c (.cons (.lst (.cons (.xf (.v rfl) (by first | rfl | simp [List.lookup])) (.cons (.xf (.v rfl) (by first | rfl | simp [List.lookup])) .nil)) (by simp)) .nil)) (by simp)) ?_
    show t_law_caught_1 cls K spRaise (ends Q) [some (.int (7 : Int)), some one, some two, some (.tup [.int 7, .lst [one, two]]), none] M
    unfold t_law_caught_1
    exact ret_ev (.v rfl) (done q)
  | 8, _, q =>
    refine ⟨8, one, two, _, _, by decide, rfl, rfl, ?_⟩
    show xrMA subE { nx := t_law_caught_1 cls K spRaise (ends Q), rt := (ends Q).rt } _ _ _ _ _
    refine xr_no (n := "Unclear") (c := "BadBook") (by decide +kernel) ?_
    refine xr_no (n := "Unclear") (c := "BadTable") (by decide +kernel) ?_
    refine xr_no (n := "Unclear") (c := "BadProgram") (by decide +kernel) ?_
    refine xr_no (n := "Unclear") (c := "BadText") (by decide +kernel) ?_
    refine xr_no (n := "Unclear") (c := "TooMany") (by decide +kernel) ?_
    refine xr_no (n := "Unclear") (c := "NoName") (by decide +kernel) ?_
    refine xr_no (n := "Unclear") (c := "Kept") (by decide +kernel) ?_
    refine xr_no (n := "Unclear") (c := "NeedsItself") (by decide +kernel) ?_
    refine xr_yes (n := "Unclear") (c := "Unclear") (by decide +kernel) fun a dx => ?_
    refine asg_ev (Ev.tup (.cons .c (.cons (.lst (.cons (.xf (.v rfl) (by first | rfl | simp [List.lookup])) (.cons (.xf (.v rfl) (by first | rfl | simp [List.lookup])) .nil)) (by simp)) .nil)) (by simp)) ?_
    show t_law_caught_1 cls K spRaise (ends Q) [some (.int (8 : Int)), some one, some two, some (.tup [.int 8, .lst [one, two]]), none] M
    unfold t_law_caught_1
    exact ret_ev (.v rfl) (done q)
  | 9, _, q =>
    refine ⟨9, one, two, _, _, by decide, rfl, rfl, ?_⟩
    show xrMA subE { nx := t_law_caught_1 cls K spRaise (ends Q), rt := (ends Q).rt } _ _ _ _ _
    refine xr_no (n := "Unmet") (c := "BadBook") (by decide +kernel) ?_
    refine xr_no (n := "Unmet") (c := "BadTable") (by decide +kernel) ?_
    refine xr_no (n := "Unmet") (c := "BadProgram") (by decide +kernel) ?_
    refine xr_no (n := "Unmet") (c := "BadText") (by decide +kernel) ?_
    refine xr_no (n := "Unmet") (c := "TooMany") (by decide +kernel) ?_
    refine xr_no (n := "Unmet") (c := "NoName") (by decide +kernel) ?_
    refine xr_no (n := "Unmet") (c := "Kept") (by decide +kernel) ?_
    refine xr_no (n := "Unmet") (c := "NeedsItself") (by decide +kernel) ?_
    refine xr_no (n := "Unmet") (c := "Unclear") (by decide +kernel) ?_
    refine xr_yes (n := "Unmet") (c := "Unmet") (by decide +kernel) fun a dx => ?_
    refine asg_ev (Ev.tup (.cons .c (.cons (.lst (.cons (.xf (.v rfl) (by first | rfl | simp [List.lookup])) (.cons (.xf (.v rfl) (by first | rfl | simp [List.lookup])) .nil)) (by simp)) .nil)) (by simp)) ?_
    show t_law_caught_1 cls K spRaise (ends Q) [some (.int (9 : Int)), some one, some two, some (.tup [.int 9, .lst [one, two]]), none] M
    unfold t_law_caught_1
    exact ret_ev (.v rfl) (done q)
theorem subE_base {n : Str} (h : n ∈ errNames) : subE n "KindError" = some true := by
  unfold subE
  rw [if_pos ⟨h, in_KindError⟩]
  simp [subB]
def spBased : DSp := fun args M Q => ∃ (w : Nat) (one two : D), w < 10 ∧ args = [.int (w : Int), one, two] ∧ Q (.bl true) M
theorem made_err {one two : D} {w : Nat} (hw : w < 10) : ∃ n fs, (madeL one two)[w]? = some (n, fs) ∧ n ∈ errNames := by
  match w, hw with
  | 0, _ => exact ⟨_, _, rfl, in_BadBook⟩
  | 1, _ => exact ⟨_, _, rfl, in_BadTable⟩
  | 2, _ => exact ⟨_, _, rfl, in_BadProgram⟩
  | 3, _ => exact ⟨_, _, rfl, in_BadText⟩
  | 4, _ => exact ⟨_, _, rfl, in_TooMany⟩
  | 5, _ => exact ⟨_, _, rfl, in_NoName⟩
  | 6, _ => exact ⟨_, _, rfl, in_Kept⟩
  | 7, _ => exact ⟨_, _, rfl, in_NeedsItself⟩
  | 8, _ => exact ⟨_, _, rfl, in_Unclear⟩
  | 9, _ => exact ⟨_, _, rfl, in_Unmet⟩
theorem ok_law_is_based [Wsh] {cls : Str → Addr} {K : PySem.W.Frag} : ∀ args M Q, spBased args M Q → t_law_is_based cls K spRaise (ends Q) (dstart N_law_is_based.length args) M := by
  rintro args M Q ⟨w, one, two, hw, rfl, q⟩
  show t_law_is_based cls K spRaise (ends Q) [some (.int (w : Int)), some one, some two] M
  obtain ⟨n, fs, h1, h2⟩ := made_err (one := one) (two := two) hw
  unfold t_law_is_based
  refine seq_i ?_
  unfold dTryMA
  refine dropx_call ?_
  refine cons_ev (.v rfl) (cons_ev (.v rfl) (cons_ev (.v rfl) (nil_i ⟨w, one, two, n, fs, hw, rfl, h1, ?_⟩)))
  show xrMA subE { nx := t_law_is_based_1 cls K spRaise (ends Q), rt := (ends Q).rt } _ _ _ _ _
  refine xr_yes (c := "KindError") (subE_base h2) fun a dx => ?_
  exact ret_ev .c (done q)
end DL

/-! H6: more readings that give one value; what is shown; flags and places. -/
namespace DL
open PySem PySem.Spec PyProof.Rows L2
def EvT (tt : DTT) (τ : DSt) (M : Sto) (b : Bool) : Prop := ∀ QT : Bool → Sto → Prop, QT b M → tt τ M QT
/-- d can be shown as s -/
def Sh (d : D) (s : Str) : Prop := ∃ p, toPy d = some p ∧ p.showable = true ∧ p.depth ≤ 250 ∧ p.shown.length ≤ sizeLine ∧ s = p.shown
section
variable {te tf : DTE} {ta : DTA} {τ : DSt} {M : Sto} {d e : D} {ds : List D} {i : Nat} {D0 : DEnds} {t u : DTS} {tt tv : DTT} {s : Str}
theorem EvT.test {b : Bool} (h : Ev te τ M (.bl b)) : EvT (dTest te) τ M b := fun Q q => h _ q
theorem EvT.not {b : Bool} (h : EvT tt τ M b) : EvT (dNot tt) τ M (!b) := fun Q q => h _ q
theorem EvT.orF (h : EvT tt τ M false) (k : EvT tv τ M false) : EvT (dOr tt tv) τ M false := fun Q q => h _ (k _ q)
theorem ifs_F (h : EvT tt τ M false) (q : u D0 τ M) : dIfS tt t u D0 τ M := h _ q
theorem Ev.ite {b : Bool} {c : D} (h : EvT tt τ M b) (k1 : b = true → Ev te τ M c) (k2 : b = false → Ev tf τ M c) : Ev (dIf tt te tf) τ M c := fun Q q => h _ (by
  cases b
  · exact k2 rfl _ q
  · exact k1 rfl _ q)
theorem Ev.lt {a b : Int} (h : Ev te τ M (.int a)) (k : Ev tf τ M (.int b)) : Ev (dOp gLt te tf) τ M (.bl (decide (a < b))) := fun Q q => h _ (k _ q)
theorem Ev.mulL {a : List D} {k : Int} (h : Ev te τ M (.lst a)) (g : Ev tf τ M (.int k)) (h1 : -(2 ^ 63) ≤ k) (h2 : k < 2 ^ 63) (l : a.length * k.toNat ≤ 1000000) : Ev (dOp gMul te tf) τ M (.lst (List.replicate k.toNat a).flatten) := fun Q q => h _ (g _ ⟨⟨h1, h2, sl_le l⟩, q⟩)
theorem Ev.neS (h : Ev te τ M (.str s)) (k : Ev tf τ M (.str s)) : Ev (dOp (gNe 250) te tf) τ M (.bl false) := fun Q q => h _ (k _ (by
  show Q (.bl (!decide (s = s))) M
  simpa using q))
theorem Ev.neI {a : Int} (h : Ev te τ M (.int a)) (k : Ev tf τ M (.int a)) : Ev (dOp (gNe 250) te tf) τ M (.bl false) := fun Q q => h _ (k _ (by
  show Q (.bl (!decide (a = a))) M
  simpa using q))
theorem Ev.neL {a : Int} (h : Ev te τ M (.lst [.int a])) (k : Ev tf τ M (.lst [.int a])) : Ev (dOp (gNe 250) te tf) τ M (.bl false) := fun Q q => h _ (k _ (by
  show eqData 250 (.lst [.int a]) (.lst [.int a]) fun b => Q (.bl (!b)) M
  refine ⟨.list [.int a], .list [.int a], by simp [toPy, toPys], by simp [toPy, toPys], ?_, ?_, ?_, ?_⟩
  · simp [PyData.canLay0, PyData.canLayAll0]
  · simp [PyData.canLay0, PyData.canLayAll0]
  · simp [PyData.depth, PyData.depthAll]
  · have e : PyData.eqv (.list [.int a]) (.list [.int a]) = true := by simp [PyData.eqv, PyData.eqvAll]
    rw [e]; exact q))
theorem Ev.len (h : Ev te τ M (.lst ds)) : Ev (dCB gLen (dCons te dNil)) τ M (.int ds.length) := fun Q q => h _ q
theorem Ev.repr (h : Ev te τ M d) (hs : Sh d s) : Ev (dCB (gReprA 250) (dCons te dNil)) τ M (.str s) := fun Q q => h _ (by
  obtain ⟨p, h1, h2, h3, h4, rfl⟩ := hs
  exact ⟨p, h1, h2, h3, h4, q⟩)
end
/-! ### what is shown -/
theorem gds {xs : List D} {n : Nat} (h : ∀ x ∈ xs, Gd 36 x) (l : xs.length ≤ n) : ∃ ps, toPys xs = some ps ∧ PyData.showableAll ps = true ∧ PyData.leavesShortAll 22 ps = true ∧ PyData.depthAll ps ≤ 40 ∧ PyData.bulkAll ps ≤ 93 * n := by
  induction xs generalizing n with
  | nil => exact ⟨[], rfl, by simp [PyData.showableAll], by simp [PyData.leavesShortAll], by simp [PyData.depthAll], by simp [PyData.bulkAll]⟩
  | cons x xs ih =>
    obtain ⟨m, rfl⟩ : ∃ m, n = m + 1 := ⟨n - 1, by rw [List.length_cons] at l; omega⟩
    obtain ⟨ps, a1, a2, a3, a4, a5⟩ := ih (fun y hy => h y (by simp [hy])) (n := m) (by rw [List.length_cons] at l; omega)
    obtain ⟨p, b1, b2, b3, b4, b5⟩ := h x (by simp)
    exact ⟨p :: ps, by simp [toPys, a1, b1], by simp [PyData.showableAll, a2, b2], by simp [PyData.leavesShortAll, a3, b3], by simp [PyData.depthAll]; omega, by simp [PyData.bulkAll]; omega⟩
theorem sh_lst {xs : List D} (h : ∀ x ∈ xs, Gd 36 x) (l : xs.length ≤ 20) : ∃ s, Sh (.lst xs) s := by
  obtain ⟨ps, a1, a2, a3, a4, a5⟩ := gds h l
  refine ⟨_, .list ps, by simp [toPy, a1], by simp [PyData.showable, a2], by simp [PyData.depth]; omega, ?_, rfl⟩
  have := PyData.shown_le_bulk 22 (by decide) (.list ps) (by simp [PyData.leavesShort, a3])
  simp only [PyData.bulk] at this
  exact sl_le (by omega)
theorem sh_pair {xs : List D} {w : Nat} (h : ∀ x ∈ xs, Gd 36 x) (l : xs.length ≤ 20) (hw : w < 10) : ∃ s, Sh (.tup [.int (w : Int), .lst xs]) s := by
  obtain ⟨ps, a1, a2, a3, a4, a5⟩ := gds h l
  obtain ⟨i1, i2⟩ := int_short (i := (w : Int)) (by omega)
  refine ⟨_, .tuple [.int (w : Int), .list ps], by simp [toPy, toPys, a1], by simp only [PyData.showable, PyData.showableAll, a2, i1, decide_true, Bool.and_self], by simp [PyData.depth, PyData.depthAll]; omega, ?_, rfl⟩
  have := PyData.shown_le_bulk 22 (by decide) (.tuple [.int (w : Int), .list ps]) (by simp [PyData.leavesShort, PyData.leavesShortAll, a3, i2])
  simp only [PyData.bulk, PyData.bulkAll] at this
  exact sl_le (by omega)
/-! ### flags and places -/
def idxN : Nat → List Bool → List Nat
  | _, [] => []
  | j, b :: r => if b = true then j :: idxN (j + 1) r else idxN (j + 1) r
theorem idxN_len : ∀ (bs : List Bool) (j : Nat), (idxN j bs).length ≤ bs.length
  | [], _ => by simp [idxN]
  | b :: r, j => by
    have := idxN_len r (j + 1)
    unfold idxN
    split <;> simp <;> omega
theorem comp_flags {τ : DSt} {M : Sto} {Q : List D → Sto → Prop} {a0 a1 a2 a3 a4 a5 a6 a7 a8 a9 a10 a11 a12 : Option D} (hτ : τ = [a0, a1, a2, a3, a4, a5, a6, a7, a8, a9, a10, a11, a12, none, none]) : ∀ (bs : List Bool) (j : Nat) (acc : List D), acc.length + bs.length ≤ 1000 → Q (acc ++ (idxN j bs).map fun (n : Nat) => D.int (n : Int)) M →
    compD (dgTup 2 (dgCons (dgName 13) (dgCons (dgName 14) dgNil))) (dTest (dVar 14)) (dVar 13) τ Q (((bs.map D.bl).zipIdx j).map fun p => .tup [.int (p.2 : Nat), p.1]) acc M
  | [], j, acc, _, q => by simpa [compD, idxN] using q
  | b :: r, j, acc, l, q => by
    subst hτ
    rw [List.map_cons, List.zipIdx_cons, List.map_cons]
    unfold compD
    refine ⟨rfl, ?_⟩
    show (if b = true then (acc.length < sizeLine ∧ compD _ _ _ _ Q _ (acc ++ [D.int (j : Nat)]) M) else compD _ _ _ _ Q _ acc M)
    cases b
    · rw [if_neg (by simp)]
      exact comp_flags rfl r (j + 1) acc (by simp at l; omega) (by simpa [idxN] using q)
    · rw [if_pos rfl]
      refine ⟨?_, comp_flags rfl r (j + 1) _ (by simp at l ⊢; omega) (by simpa [idxN] using q)⟩
      rw [sizeLine_eq]; omega
theorem Ev.flags {te : DTE} {M : Sto} {bs : List Bool} {a0 a1 a2 a3 a4 a5 a6 a7 a8 a9 a10 a11 a12 a13 a14 : Option D} (h : Ev te [a0, a1, a2, a3, a4, a5, a6, a7, a8, a9, a10, a11, a12, a13, a14] M (.lst (bs.map D.bl))) (l : bs.length ≤ 1000) :
    Ev (dLc (iEnumD te) (dgTup 2 (dgCons (dgName 13) (dgCons (dgName 14) dgNil))) (dTest (dVar 14)) (dVar 13) [13, 14]) [a0, a1, a2, a3, a4, a5, a6, a7, a8, a9, a10, a11, a12, a13, a14] M (.lst ((idxN 0 bs).map fun (n : Nat) => D.int (n : Int))) := fun Q q =>
  h _ (comp_flags rfl bs 0 [] (by simpa using l) (by simpa using q))
theorem flagsL_map (m : Str) : flagsL m = (kindNames.map fun n => subB "KindError" m n).map D.bl := by unfold flagsL; rw [List.map_map]; rfl
theorem flags_at : ∀ p : Nat, p < 28 → ∀ m, kindNames[p]? = some m → idxN 0 (kindNames.map fun n => subB "KindError" m n) = [p] ∧ m ∈ errNames := by
  have go : ∀ p : Fin 28, ∀ m, kindNames[p.val]? = some m → idxN 0 (kindNames.map fun n => subB "KindError" m n) = [p.val] ∧ m ∈ errNames := by
    intro p m hm
    have e : (kindNames[p.val]?.map fun m => decide (idxN 0 (kindNames.map fun n => subB "KindError" m n) = [p.val] ∧ m ∈ errNames)) = some true := by
      clear hm m
      revert p
      decide +kernel
    rw [hm] at e
    simpa using e
  intro p hp m hm
  exact go ⟨p, hp⟩ m hm
theorem flags_base : (kindNames.map fun n => subB "KindError" "KindError" n).any id = false := by decide +kernel
theorem kind_made {one two : D} {p : Nat} {n : Str} {fs : List (Str × D)} (h : (madeL one two)[p]? = some (n, fs)) : kindNames[p]? = some n ∧ p < 28 := by
  have e : kindNames = (madeL one two).map (·.1) := rfl
  have hl := (List.getElem?_eq_some_iff.mp h).1
  refine ⟨?_, hl⟩
  rw [e, List.getElem?_map, h]
  rfl
end DL

/-! H7: the law. -/
namespace DL
open PySem PySem.Spec PyProof.Rows L2
section
variable [Wsh] {P : Program} {K : PySem.W.Frag} {mg : Str → Option Value} {τ : DSt} {M : Sto} {te tf tg : DTE} {D0 : DEnds} {one two : D} {es : List D}
theorem Ev.kinds {a : Addr} {m : Str} {dx : Option Addr} {fs : List (Str × D)} (hm : m ∈ errNames) (h : Ev te τ M (.exv a (Wsh.cls m) dx fs)) : Ev (dCall (spKinds Wsh.cls) (dCons te dNil)) τ M (.lst (flagsL m)) := fun Q q => h _ ⟨a, m, dx, fs, hm, rfl, q⟩
theorem Ev.fields (g : Mades Wsh.cls (madeL one two) es) (h : Ev te τ M (.lst es)) : Ev (dCall (spFields Wsh.cls) (dCons te dNil)) τ M (.lst (fieldsL one two)) := fun Q q => h _ ⟨one, two, es, g, rfl, q⟩
theorem Ev.caught {w : Nat} (hw : w < 10) (h : Ev te τ M (.int (w : Int))) (k : Ev tf τ M one) (l : Ev tg τ M two) : Ev (dCall spCaught (dCons te (dCons tf (dCons tg dNil)))) τ M (.tup [.int (w : Int), .lst (dueL w one two)]) := fun Q q =>
  h _ (k _ (l _ ⟨w, one, two, hw, rfl, q⟩))
theorem Ev.based {w : Nat} (hw : w < 10) (h : Ev te τ M (.int (w : Int))) (k : Ev tf τ M one) (l : Ev tg τ M two) : Ev (dCall spBased (dCons te (dCons tf (dCons tg dNil)))) τ M (.bl true) := fun Q q =>
  h _ (k _ (l _ ⟨w, one, two, hw, rfl, q⟩))
theorem seq_if {tt : DTT} {t u : DTS} (h : EvT tt τ M false) (q : u D0 τ M) : dSeq (dIfS tt t dNext) u D0 τ M := h _ q
theorem seq_asg {i : Nat} {d : D} {u : DTS} (h : Ev te τ M d) (q : u D0 (τ.set i (some d)) M) : dSeq (dAsg te (dgName i)) u D0 τ M := h _ q
theorem if_n {tt : DTT} {t : DTS} (h : EvT tt τ M false) (q : D0.nx τ M) : dIfS tt t dNext D0 τ M := h _ q
theorem par_call {i j : Nat} {ta tb : DTA} {sp sp2 : DSp} {u : DTS} (h : ta τ M fun ds M1 => sp ds M1 fun v M2 => tb τ M2 fun es M3 => sp2 es M3 fun w M4 => u D0 ((τ.set i (some v)).set j (some w)) M4) : dSeq (dPar i j (dCall sp ta) (dCall sp2 tb)) u D0 τ M := h
theorem par_made {i j : Nat} {ta : DTA} {sp : DSp} {u : DTS} (h : ta τ M fun ds M1 => sp ds M1 fun v M2 => te τ M2 fun w M4 => u D0 ((τ.set i (some v)).set j (some w)) M4) : dSeq (dPar i j (dCall sp ta) te) u D0 τ M := h
theorem seq_forE {g : DTG} {tb u : DTS} {xs : List D} (h : Ev te τ M (.lst xs)) (q : loopD g tb { D0 with nx := u D0 } (enumD xs) τ M) : dSeq (dFor (iEnumD te) g tb) u D0 τ M := h _ q
theorem for_range {g : DTG} {tb : DTS} {j : Int} (hj : -(2 ^ 62) ≤ j ∧ j < 2 ^ 62) (q : loopD g tb D0 (rangeD 0 j.toNat) τ M) : dFor (iRange1 (dC (.int j))) g tb D0 τ M := ⟨hj, q⟩
theorem seq_forR {g : DTG} {tb u : DTS} {j : Int} (hj : -(2 ^ 62) ≤ j ∧ j < 2 ^ 62) (q : loopD g tb { D0 with nx := u D0 } (rangeD 0 j.toNat) τ M) : dSeq (dFor (iRange1 (dC (.int j))) g tb) u D0 τ M := ⟨hj, q⟩
theorem seq_call {i : Nat} {ta : DTA} {sp : DSp} {u : DTS} (h : ta τ M fun ds M1 => sp ds M1 fun d M2 => u D0 (τ.set i (some d)) M2) : dSeq (dAsg (dCall sp ta) (dgName i)) u D0 τ M := h
theorem and_v {Q : DK} (h : Ev te τ M (.bl true)) (q : tf τ M Q) : dAndV te tf τ M Q := h _ q
theorem not_any {Q : DK} {xs : List D} (h : Ev te τ M (.lst xs)) (q : match blsOf xs with | some bs => Q (.bl (!bs.any id)) M | none => False) : dNotV (dCB gAny (dCons te dNil)) τ M Q := h _ (by
  show (match blsOf xs with | some bs => _ | none => False)
  split at q
  · exact q
  · exact q.elim)
theorem enum_made {cls : Str → Addr} (g : Mades cls (madeL one two) es) {x : D} (h : x ∈ enumD es) : ∃ (i : Nat) (a : Addr) (m : Str) (dx : Option Addr) (fs : List (Str × D)), x = .tup [.int (i : Int), .exv a (cls m) dx fs] ∧ kindNames[i]? = some m ∧ i < 28 := by
  obtain ⟨i, hi⟩ := List.getElem?_of_mem h
  obtain ⟨y, hy, rfl⟩ := enumD_get hi
  have hl := (List.getElem?_eq_some_iff.mp hy).1
  rw [g.length] at hl
  obtain ⟨n, fs, hp⟩ : ∃ n fs, (madeL one two)[i]? = some (n, fs) := ⟨_, _, List.getElem?_eq_getElem hl⟩
  obtain ⟨a, dx, he⟩ := g.get hp
  rw [hy] at he
  cases he
  obtain ⟨k1, k2⟩ := kind_made hp
  exact ⟨i, a, n, dx, fs, rfl, k1, k2⟩
theorem gd_fields (h1 : Gd 36 one) (h2 : Gd 36 two) : ∀ x ∈ fieldsL one two, Gd 36 x := by
  intro x hx
  unfold fieldsL at hx
  simp only [List.mem_cons, List.not_mem_nil, or_false] at hx
  rcases hx with rfl | rfl | rfl | rfl | rfl | rfl | rfl | rfl | rfl | rfl | rfl | rfl | rfl <;> assumption
theorem Ev.again (h3 : τ[3]? = some (some one)) (h6 : τ[6]? = some (some (.lst [one, two]))) : Ev (dOp gAdd (dOp gMul (dLst (dCons (dVar 3) dNil)) (dC (.int 7))) (dOp gMul (dVar 6) (dC (.int 3)))) τ M (.lst (fieldsL one two)) :=
  Ev.addL (a := (List.replicate (7 : Int).toNat [one]).flatten) (b := (List.replicate (3 : Int).toNat [one, two]).flatten) (Ev.mulL (k := 7) (a := [one]) (.lst (.cons (.v h3) .nil) (by simp)) .c (by decide) (by decide) (by simp)) (Ev.mulL (k := 3) (a := [one, two]) (.v h6) .c (by decide) (by decide) (by simp)) (by simp)
theorem gd_due {w : Nat} (h1 : Gd 36 one) (h2 : Gd 36 two) : (∀ x ∈ dueL w one two, Gd 36 x) ∧ (dueL w one two).length ≤ 20 := by
  unfold dueL
  split
  · exact ⟨fun x hx => by rw [List.mem_singleton.mp hx]; exact h1, by simp⟩
  · exact ⟨fun x hx => by
      simp only [List.mem_cons, List.not_mem_nil, or_false] at hx
      rcases hx with rfl | rfl <;> assumption, by simp⟩
abbrev LawT (t : (Str → Addr) → PySem.W.Frag → DSp → DSp → DSp → DSp → DSp → DSp → DSp → DTS) (K : PySem.W.Frag) : DTS := t Wsh.cls K spHand spThing (spMade Wsh.cls) (spKinds Wsh.cls) (spFields Wsh.cls) spBased spCaught
theorem law_1 (J : TopE P K mg Wsh.cls) {i : Nat} {a : Addr} {m : Str} {dx : Option Addr} {fs : List (Str × D)} (hm : kindNames[i]? = some m) (hi : i < 28) (hes : es.length = 28) {a0 a1 a2 a3 a4 a6 a9 a10 a11 a12 a13 a14 : Option D}
    (q : ∀ b9, D0.nx [a0, a1, a2, a3, a4, some (.lst es), a6, some (.int (i : Int)), some (.exv a (Wsh.cls m) dx fs), b9, a10, a11, a12, a13, a14] M) :
    LawT t_law_1 K D0 [a0, a1, a2, a3, a4, some (.lst es), a6, some (.int (i : Int)), some (.exv a (Wsh.cls m) dx fs), a9, a10, a11, a12, a13, a14] M := by
  obtain ⟨f1, f2⟩ := flags_at i hi m hm
  have s1 : subB "KindError" m "KindError" = true := by simp [subB]
  unfold LawT t_law_1
  refine seq_if (.orF (.not (b := true) (.test (s1 ▸ .isx J f2 in_KindError (.v rfl)))) (.not (b := true) (.test (.isv J f2 (.v rfl))))) ?_
  refine seq_asg (.kinds f2 (.v rfl)) ?_
  refine if_n (.orF (.test (.neL (a := i) ?_ (.lst (.cons (.v rfl) .nil) (by simp)))) (.test (.neI (a := 28) ?_ ?_))) ?_
  · have z := Ev.flags (te := dVar 9) (M := M) (bs := kindNames.map fun n => subB "KindError" m n) (a0 := a0) (a1 := a1) (a2 := a2) (a3 := a3) (a4 := a4) (a5 := some (.lst es)) (a6 := a6) (a7 := some (.int (i : Int))) (a8 := some (.exv a (Wsh.cls m) dx fs)) (a9 := some (.lst (flagsL m))) (a10 := a10) (a11 := a11) (a12 := a12) (a13 := a13) (a14 := a14) (by
      rw [← flagsL_map]; exact .v rfl) (by simp)
    rw [f1] at z
    exact z
  · have e : (flagsL m).length = 28 := by unfold flagsL; rw [List.length_map]; rfl
    have z := Ev.len (ds := flagsL m) (te := dVar 9) (τ := [a0, a1, a2, a3, a4, some (.lst es), a6, some (.int (i : Int)), some (.exv a (Wsh.cls m) dx fs), some (.lst (flagsL m)), a10, a11, a12, a13, a14]) (M := M) (.v rfl)
    rw [e] at z
    exact z
  · have z := Ev.len (ds := es) (te := dVar 5) (τ := [a0, a1, a2, a3, a4, some (.lst es), a6, some (.int (i : Int)), some (.exv a (Wsh.cls m) dx fs), some (.lst (flagsL m)), a10, a11, a12, a13, a14]) (M := M) (.v rfl)
    rw [hes] at z
    exact z
  · exact q _
theorem law_2 {w : Nat} (hw : w < 10) (h1 : Gd 36 one) (h2 : Gd 36 two) {a0 a1 a2 a5 a7 a8 a9 a11 a12 a13 a14 : Option D}
    (q : ∀ b11, D0.nx [a0, a1, a2, some one, some two, a5, some (.lst [one, two]), a7, a8, a9, some (.int (w : Int)), b11, a12, a13, a14] M) :
    LawT t_law_2 K D0 [a0, a1, a2, some one, some two, a5, some (.lst [one, two]), a7, a8, a9, some (.int (w : Int)), a11, a12, a13, a14] M := by
  unfold LawT t_law_2
  refine seq_asg (d := .lst (dueL w one two)) (.ite (b := decide ((w : Int) < 7)) (.test (.lt (.v rfl) .c)) (fun e => ?_) (fun e => ?_)) ?_
  · have e1 : w < 7 := by have := of_decide_eq_true e; omega
    have e2 : dueL w one two = [one] := by unfold dueL; rw [if_pos e1]
    rw [e2]
    exact .lst (.cons (.v rfl) .nil) (by simp)
  · have e1 : ¬ w < 7 := by have := of_decide_eq_false e; omega
    have e2 : dueL w one two = [one, two] := by unfold dueL; rw [if_neg e1]
    rw [e2]
    exact .v rfl
  · obtain ⟨g1, g2⟩ := gd_due (w := w) h1 h2
    obtain ⟨s, hs⟩ := sh_pair g1 g2 hw
    refine if_n (.orF (.test (.neS (.repr (.caught hw (.v rfl) (.v rfl) (.v rfl)) hs) (.repr (.tup (.cons (.v rfl) (.cons (.v rfl) .nil)) (by simp)) hs))) (.not (b := true) (.test (.based hw (.v rfl) (.v rfl) (.v rfl))))) (q (some (.lst (dueL w one two))))
theorem turn (J : TopE P K mg Wsh.cls) {p : Addr} {N : Sto} {o : MO} {Qr : DK} (ho : HandOk o) {a0 a2 a3 a4 a5 a6 a7 a8 a9 a10 a11 a12 a13 a14 : Option D} {nx : DSt → Sto → Prop} {E : DEnds} (hE : E.nx = nx)
    (q : ∀ o' b3 b4 b5 b6 b7 b8 b9 b10 b11, HandOk o' → nx [a0, some (.ref p), a2, b3, b4, b5, b6, b7, b8, b9, b10, b11, a12, a13, a14] (N.upd p o')) :
    LawT t_law_3 K E [a0, some (.ref p), a2, a3, a4, a5, a6, a7, a8, a9, a10, a11, a12, a13, a14] (N.upd p o) := by
  subst hE
  unfold LawT t_law_3
  -- one, two
  refine par_call (cons_ev (.v rfl) (nil_i ⟨p, o, rfl, Sto.upd_same, ho, fun one o1 g1 ho1 => ?_⟩))
  rw [Sto.upd_upd]
  refine cons_ev (.v rfl) (nil_i ⟨p, o1, rfl, Sto.upd_same, ho1, fun two o2 g2 ho2 => ?_⟩)
  rw [Sto.upd_upd]
  refine par_made (cons_ev (.v rfl) (cons_ev (.v rfl) (nil_i ⟨one, two, rfl, fun es he => ?_⟩)))
  refine Ev.lst (.cons (.v rfl) (.cons (.v rfl) .nil)) (by simp) _ ?_
  have hlen : es.length = 28 := he.length
  refine seq_forE (xs := es) (.v rfl) ?_
  refine loop_inv (fun ds τ M' => (∀ x ∈ ds, x ∈ enumD es) ∧ M' = N.upd p o2 ∧ ∃ b7 b8 b9, τ = [a0, some (.ref p), a2, some one, some two, some (.lst es), some (.lst [one, two]), b7, b8, b9, a10, a11, a12, a13, a14]) ?_ ?_ _ _ _ ⟨fun x hx => hx, rfl, _, _, _, rfl⟩
  · rintro x ds τ M' K' ⟨hx, rfl, b7, b8, b9, rfl⟩ hK
    obtain ⟨i, a, m, dx, fs, rfl, hm, hi⟩ := enum_made he (hx x (by simp))
    refine ⟨rfl, ?_⟩
    exact law_1 J hm hi hlen fun b9' => hK _ _ ⟨fun y hy => hx y (by simp [hy]), rfl, _, _, _, rfl⟩
  · rintro τ M' ⟨_, rfl, b7, b8, b9, rfl⟩
    obtain ⟨s, hs⟩ := sh_lst (gd_fields g1 g2) (by simp [fieldsL])
    dsimp only
    refine seq_if (.test (.neS (.repr ?_ hs) (.repr ?_ hs))) ?_
    · exact .fields he (.v rfl)
    · exact .again rfl rfl
    refine for_range ⟨by decide, by decide⟩ ?_
    refine loop_inv (fun ds τ M' => (∀ x ∈ ds, ∃ w : Nat, x = .int (w : Int) ∧ w < 10) ∧ M' = N.upd p o2 ∧ ∃ b10 b11, τ = [a0, some (.ref p), a2, some one, some two, some (.lst es), some (.lst [one, two]), b7, b8, b9, b10, b11, a12, a13, a14]) ?_ ?_ _ _ _ ⟨fun x hx => ?_, rfl, _, _, rfl⟩
    · rintro x ds τ M' K' ⟨hx, rfl, b10, b11, rfl⟩ hK
      obtain ⟨w, rfl, hw⟩ := hx x (by simp)
      exact law_2 (K := K) hw g1 g2 fun b11' => hK _ _ ⟨fun y hy => hx y (by simp [hy]), rfl, _, _, rfl⟩
    · rintro τ M' ⟨_, rfl, b10, b11, rfl⟩
      exact q o2 _ _ _ _ _ _ _ _ _ ho2
    · obtain ⟨j, hj, e⟩ := rangeD_mem hx
      exact ⟨j, by rw [e, Int.zero_add], hj⟩
end
def spLaw : DSp := fun args M Q => ∃ ns : List Int, ns.length ≤ 63 ∧ args = [.rol (ns.map D.int)] ∧ M = (fun _ => none) ∧ ∀ M', Q (.bl true) M'
theorem bls_map : ∀ bs : List Bool, blsOf (bs.map D.bl) = some bs
  | [] => rfl
  | b :: r => by
    show (blsOf (r.map D.bl)).map (b :: ·) = _
    rw [bls_map r]; rfl
theorem ok_law [Wsh] {P : Program} {K : PySem.W.Frag} {mg : Str → Option Value} (J : TopE P K mg Wsh.cls) : ∀ args M Q, spLaw args M Q → LawT t_law K (ends Q) (dstart N_law.length args) M := by
  rintro args M Q ⟨ns, hl, rfl, rfl, q⟩
  show LawT t_law K (ends Q) [some (.rol (ns.map D.int)), none, none, none, none, none, none, none, none, none, none, none, none, none, none] _
  unfold LawT t_law
  refine seq_call (cons_ev (.v rfl) (nil_i ⟨ns, hl, rfl, fun p o hp ho => ?_⟩))
  show LawT t_law_6 K (ends Q) [some (.rol (ns.map D.int)), some (.ref p), none, none, none, none, none, none, none, none, none, none, none, none, none] _
  unfold LawT t_law_6
  refine seq_forR ⟨by decide, by decide⟩ ?_
  refine loop_inv (fun ds τ M' => (∃ a2 a3 a4 a5 a6 a7 a8 a9 a10 a11 a12 a13 a14, τ = [some (.rol (ns.map D.int)), some (.ref p), a2, a3, a4, a5, a6, a7, a8, a9, a10, a11, a12, a13, a14]) ∧ ∃ (o : MO), HandOk o ∧ M' = Sto.upd (fun _ => none) p o) ?_ ?_ _ _ _ ⟨⟨_, _, _, _, _, _, _, _, _, _, _, _, _, rfl⟩, o, ho, rfl⟩
  · rintro d ds τ M' K' ⟨⟨a2, a3, a4, a5, a6, a7, a8, a9, a10, a11, a12, a13, a14, rfl⟩, o, ho, rfl⟩ hK
    exact turn (Qr := Q) J ho rfl fun o' b3 b4 b5 b6 b7 b8 b9 b10 b11 ho' => hK _ _ ⟨⟨_, _, _, _, _, _, _, _, _, _, _, _, _, rfl⟩, o', ho', rfl⟩
  · rintro τ M' ⟨⟨a2, a3, a4, a5, a6, a7, a8, a9, a10, a11, a12, a13, a14, rfl⟩, o, ho, rfl⟩
    show LawT t_law_5 K (ends Q) [some (.rol (ns.map D.int)), some (.ref p), a2, a3, a4, a5, a6, a7, a8, a9, a10, a11, a12, a13, a14] _
    unfold LawT t_law_5
    refine seq_i ?_
    refine EvM.mk0 _ fun x hx => ?_
    obtain ⟨a, dx, rfl⟩ := hx
    show LawT t_law_4 K (ends Q) [some (.rol (ns.map D.int)), some (.ref p), a2, a3, a4, a5, a6, a7, a8, a9, a10, a11, some (.exv a (Wsh.cls "KindError") dx []), a13, a14] _
    unfold LawT t_law_4
    refine ret_ev (d := .bl true) (fun Q q => ?_) (done (q _))
    refine and_v (.isv J in_KindError (.v rfl)) ?_
    show dNotV (dCB gAny (dCons (dCall (spKinds Wsh.cls) (dCons (dVar 12) dNil)) dNil)) _ _ Q
    refine not_any (.kinds in_KindError (.v rfl)) ?_
    rw [flagsL_map, bls_map]
    show Q (.bl (!(kindNames.map fun n => subB "KindError" "KindError" n).any id)) _
    rw [flags_base]
    exact q
end DL

/-! printed by asm5.py: the defs' promises, one after the other; the errors' classes -/
namespace DL
open PySem PySem.Spec PyProof.Rows L2
theorem fnG_ok [Wsh] {P : Program} {w : World} {K : PySem.W.Frag} {mg : Str → Option Value} {base : Heap} {x qual : Str} {st : Stmt} {f : Addr} {fd : FuncData} {N ps : List Str} {k : Nat} {dsp : DSp} (F : Fun K x qual st f fd) (S : FnScope N ps (defScope st)) (len : ∀ ds M Q, dsp ds M Q → ds.length = ps.length)
    (hbody : ∀ (cdv : Value) (A : Around) (outer : List Env) (s : Shared) (H : Hp) (E : XK), (A.deeper (envOfC qual (defScope st) s.heap.objs.size f cdv)).guards = some [] → Room k (A.deeper (envOfC qual (defScope st) s.heap.objs.size f cdv)) →
      ∃ t, DSs (cxOf CX0 P w K mg base N qual (defScope st) f cdv A outer s H E).nox (defBody st) t ∧ ∀ ds M Q, dsp ds M Q → t (ends Q) (dstart N.length ds) M) :
    FnG P w K mg base CX0 (k + 1) f fd ps (spD K dsp) := by
  refine funG F S (fun h => ?_) (fun cdv A outer s H vs Q E hgd hr h => ?_)
  · obtain ⟨F0, M, ds, Qd, _, r, q, _⟩ := h
    rw [r.length]; exact len _ _ _ q
  · obtain ⟨F0, M, ds, Qd, R, r, q, kk⟩ := h
    obtain ⟨t, ht, hq⟩ := hbody cdv A outer s H E hgd hr
    obtain ⟨ts, pt, rt⟩ := ht.ex
    refine ⟨ts, pt.nox, rt F0 H _ _ M _ _ ⟨R, rel_start r⟩ (hq ds M Qd q) ⟨fun F' H' σ' τ' M' e' R' z => ?_, fun F' H' σ' τ' M' e' R' z => z.elim, fun F' H' σ' τ' M' e' R' z => z.elim, fun v F' H' d M' e' R' rd z => ?_, fun F' H' σ' τ' M' C d fs e' R' rx z => z.elim⟩⟩
    · obtain ⟨M2, l, z⟩ := z
      exact kk .non F' H' .non M2 (e'.less l) (R'.heap.less l) .non z
    · obtain ⟨M2, l, z⟩ := z
      exact kk v F' H' d M2 (e'.less l) (R'.less l) rd z
theorem fnG_any [Wsh] {P : Program} {w : World} {K : PySem.W.Frag} {mg : Str → Option Value} {base : Heap} {f : Addr} {fd : FuncData} {ps : List Str} {k n : Nat} {sp : Nat → DSp} (h : ∀ d, d ≤ n → FnG P w K mg base CX0 k f fd ps (spD K (sp (d + 1)))) :
    FnG P w K mg base CX0 k f fd ps (spD K fun args M Q => ∃ d, d ≤ n ∧ sp (d + 1) args M Q) := by
  constructor
  · rintro vs H Q E ⟨F, M, ds, Qd, R, r, ⟨d, hd, q⟩, kk⟩
    exact (h d hd).many (H := H) (Q := Q) (E := E) ⟨F, M, ds, Qd, R, r, q, kk⟩
  · intro A outer s H args us vs Q E g r e b v hsp
    obtain ⟨F, M, ds, Qd, R, r', ⟨d, hd, q⟩, kk⟩ := hsp
    exact (h d hd).goes g r e b v ⟨F, M, ds, Qd, R, r', q, kk⟩
theorem dfn_of [Wsh] {P : Program} {w : World} {K : PySem.W.Frag} {mg : Str → Option Value} {base : Heap} {x qual : Str} {st : Stmt} {f : Addr} {fd : FuncData} {ps : List Str} {k : Nat} {dsp : DSp} (F : Fun K x qual st f fd) (hm : mg x = some (.ref f)) (hb : Binds K fd ps []) (G : FnG P w K mg base CX0 k f fd ps (spD K dsp)) : DFn P w K mg base k x ps dsp := ⟨⟨f, fd, G, hm, F.kp, hb⟩⟩
theorem len_law_hand : ∀ ds M Q, spHand ds M Q → ds.length = (["script"] : List Str).length := by
  intro ds M Q h
  (repeat (obtain ⟨x, h⟩ := h; try (subst x; rfl)))
theorem len_law_draw : ∀ ds M Q, spDraw ds M Q → ds.length = (["hand", "many"] : List Str).length := by
  intro ds M Q h
  (repeat (obtain ⟨x, h⟩ := h; try (subst x; rfl)))
theorem len_law_some : ∀ ds M Q, spSome ds M Q → ds.length = (["hand", "things"] : List Str).length := by
  intro ds M Q h
  (repeat (obtain ⟨x, h⟩ := h; try (subst x; rfl)))
theorem len_law_thing : ∀ ds M Q, spThing ds M Q → ds.length = (["hand"] : List Str).length := by
  intro ds M Q h
  (repeat (obtain ⟨x, h⟩ := h; try (subst x; rfl)))
theorem len_law_made {cls : Str → Addr} : ∀ ds M Q, spMade cls ds M Q → ds.length = (["one", "two"] : List Str).length := by
  intro ds M Q h
  (repeat (obtain ⟨x, h⟩ := h; try (subst x; rfl)))
theorem len_law_kinds {cls : Str → Addr} : ∀ ds M Q, spKinds cls ds M Q → ds.length = (["one"] : List Str).length := by
  rintro ds M Q ⟨a, m, dx, fs, hm, rfl, q⟩; rfl
theorem len_law_fields {cls : Str → Addr} : ∀ ds M Q, spFields cls ds M Q → ds.length = (["errors"] : List Str).length := by
  rintro ds M Q ⟨one, two, es, g, rfl, q⟩; rfl
theorem len_law_raise : ∀ ds M Q Xd, spRaise ds M Q Xd → ds.length = (["which", "one", "two"] : List Str).length := by
  rintro ds M Q Xd ⟨w, one, two, n, fs, hw, rfl, hn, q⟩; rfl
theorem len_law_caught : ∀ ds M Q, spCaught ds M Q → ds.length = (["which", "one", "two"] : List Str).length := by
  rintro ds M Q ⟨w, one, two, hw, rfl, q⟩; rfl
theorem len_law_is_based : ∀ ds M Q, spBased ds M Q → ds.length = (["which", "one", "two"] : List Str).length := by
  rintro ds M Q ⟨w, one, two, hw, rfl, q⟩; rfl
theorem len_law : ∀ ds M Q, spLaw ds M Q → ds.length = (["script"] : List Str).length := by
  intro ds M Q h
  (repeat (obtain ⟨x, h⟩ := h; try (subst x; rfl)))
theorem law_goes_on {P : Program} {w : World} {K : PySem.W.Frag} {mg : Str → Option Value} {base : Heap} {cls : Str → Addr} (T : Top mg) (J : TopE P K mg cls) (hsys : ∃ o, base.get? sysModules = some o)
    {f1 f2 f3 f4 f5 f6 f7 f8 f9 f10 f11 : Addr} {fd1 fd2 fd3 fd4 fd5 fd6 fd7 fd8 fd9 fd10 fd11 : FuncData}
    (F1 : Fun K "_law_hand" "_law_hand" s_law_hand f1 fd1) (m1 : mg "_law_hand" = some (.ref f1)) (b1 : Binds K fd1 ["script"] [])
    (F2 : Fun K "_law_draw" "_law_draw" s_law_draw f2 fd2) (m2 : mg "_law_draw" = some (.ref f2)) (b2 : Binds K fd2 ["hand", "many"] [])
    (F3 : Fun K "_law_some" "_law_some" s_law_some f3 fd3) (m3 : mg "_law_some" = some (.ref f3)) (b3 : Binds K fd3 ["hand", "things"] [])
    (F4 : Fun K "_law_thing" "_law_thing" s_law_thing f4 fd4) (m4 : mg "_law_thing" = some (.ref f4)) (b4 : Binds K fd4 ["hand"] [])
    (F5 : Fun K "_law_made" "_law_made" s_law_made f5 fd5) (m5 : mg "_law_made" = some (.ref f5)) (b5 : Binds K fd5 ["one", "two"] [])
    (F6 : Fun K "_law_kinds" "_law_kinds" s_law_kinds f6 fd6) (m6 : mg "_law_kinds" = some (.ref f6)) (b6 : Binds K fd6 ["one"] [])
    (F7 : Fun K "_law_fields" "_law_fields" s_law_fields f7 fd7) (m7 : mg "_law_fields" = some (.ref f7)) (b7 : Binds K fd7 ["errors"] [])
    (F8 : Fun K "_law_raise" "_law_raise" s_law_raise f8 fd8) (m8 : mg "_law_raise" = some (.ref f8)) (b8 : Binds K fd8 ["which", "one", "two"] [])
    (F9 : Fun K "_law_caught" "_law_caught" s_law_caught f9 fd9) (m9 : mg "_law_caught" = some (.ref f9)) (b9 : Binds K fd9 ["which", "one", "two"] [])
    (F10 : Fun K "_law_is_based" "_law_is_based" s_law_is_based f10 fd10) (m10 : mg "_law_is_based" = some (.ref f10)) (b10 : Binds K fd10 ["which", "one", "two"] [])
    (F11 : Fun K "law" "law" s_law f11 fd11) (m11 : mg "law" = some (.ref f11)) (b11 : Binds K fd11 ["script"] [])
    : FnG P w K mg base CX0 11 f11 fd11 ["script"] (spD K spLaw) := by
  letI : Wsh := ⟨cls, fun _ _ _ _ => False⟩
  have g_law_hand : FnG P w K mg base CX0 (7 + 1) f1 fd1 ["script"] (spD K (spHand)) := fnG_ok (k := 7) F1 sc_law_hand len_law_hand fun cdv A outer s H E hg hr => ⟨_, b_law_hand T (by omega)  hg hr, ok_law_hand⟩
  have d_law_hand : DFn P w K mg base (7 + 1) "_law_hand" ["script"] (spHand) := dfn_of F1 m1 b1 g_law_hand
  have g_law_draw : FnG P w K mg base CX0 (7 + 1) f2 fd2 ["hand", "many"] (spD K (spDraw)) := fnG_ok (k := 7) F2 sc_law_draw len_law_draw fun cdv A outer s H E hg hr => ⟨_, b_law_draw T (by omega)  hg hr, ok_law_draw⟩
  have d_law_draw : DFn P w K mg base (7 + 1) "_law_draw" ["hand", "many"] (spDraw) := dfn_of F2 m2 b2 g_law_draw
  have g_law_some : FnG P w K mg base CX0 (8 + 1) f3 fd3 ["hand", "things"] (spD K (spSome)) := fnG_ok (k := 8) F3 sc_law_some len_law_some fun cdv A outer s H E hg hr => ⟨_, b_law_some T (by omega) (d_law_draw.mono (by omega)) hg hr, ok_law_some⟩
  have d_law_some : DFn P w K mg base (8 + 1) "_law_some" ["hand", "things"] (spSome) := dfn_of F3 m3 b3 g_law_some
  have g_law_thing : FnG P w K mg base CX0 (9 + 1) f4 fd4 ["hand"] (spD K (spThing)) := fnG_ok (k := 9) F4 sc_law_thing len_law_thing fun cdv A outer s H E hg hr => ⟨_, b_law_thing T (by omega) (d_law_some.mono (by omega)) (d_law_draw.mono (by omega)) hg hr, ok_law_thing⟩
  have d_law_thing : DFn P w K mg base (9 + 1) "_law_thing" ["hand"] (spThing) := dfn_of F4 m4 b4 g_law_thing
  have g_law_made : FnG P w K mg base CX0 (7 + 1) f5 fd5 ["one", "two"] (spD K (spMade cls)) := fnG_ok (k := 7) F5 sc_law_made len_law_made fun cdv A outer s H E hg hr => ⟨_, b_law_made T (by omega) J  hg hr, ok_law_made⟩
  have d_law_made : DFn P w K mg base (7 + 1) "_law_made" ["one", "two"] (spMade cls) := dfn_of F5 m5 b5 g_law_made
  have g_law_kinds : FnG P w K mg base CX0 (7 + 1) f6 fd6 ["one"] (spD K (spKinds cls)) := fnG_ok (k := 7) F6 sc_law_kinds len_law_kinds fun cdv A outer s H E hg hr => ⟨_, b_law_kinds T (by omega) J  hg hr, ok_law_kinds J⟩
  have d_law_kinds : DFn P w K mg base (7 + 1) "_law_kinds" ["one"] (spKinds cls) := dfn_of F6 m6 b6 g_law_kinds
  have g_law_fields : FnG P w K mg base CX0 (7 + 1) f7 fd7 ["errors"] (spD K (spFields cls)) := fnG_ok (k := 7) F7 sc_law_fields len_law_fields fun cdv A outer s H E hg hr => ⟨_, b_law_fields T (by omega) J  hg hr, ok_law_fields J⟩
  have d_law_fields : DFn P w K mg base (7 + 1) "_law_fields" ["errors"] (spFields cls) := dfn_of F7 m7 b7 g_law_fields
  have d_law_raise : DFnX P w K mg base cls (7 + 1) "_law_raise" ["which", "one", "two"] (spRaise) := ⟨⟨f8, fd8, fnX_ok (k := 7) (cls := cls) F8 sc_law_raise len_law_raise fun cdv A outer s H E hg hr => ⟨_, b_law_raise T (by omega) J  hg hr, ok_law_raise⟩, m8, F8.kp, b8⟩⟩
  have g_law_caught : FnG P w K mg base CX0 (8 + 1) f9 fd9 ["which", "one", "two"] (spD K (spCaught)) := fnG_ok (k := 8) F9 sc_law_caught len_law_caught fun cdv A outer s H E hg hr => ⟨_, b_law_caught T (by omega) J (d_law_raise.mono (by omega)) hg hr, ok_law_caught⟩
  have d_law_caught : DFn P w K mg base (8 + 1) "_law_caught" ["which", "one", "two"] (spCaught) := dfn_of F9 m9 b9 g_law_caught
  have g_law_is_based : FnG P w K mg base CX0 (8 + 1) f10 fd10 ["which", "one", "two"] (spD K (spBased)) := fnG_ok (k := 8) F10 sc_law_is_based len_law_is_based fun cdv A outer s H E hg hr => ⟨_, b_law_is_based T (by omega) J (d_law_raise.mono (by omega)) hg hr, ok_law_is_based⟩
  have d_law_is_based : DFn P w K mg base (8 + 1) "_law_is_based" ["which", "one", "two"] (spBased) := dfn_of F10 m10 b10 g_law_is_based
  have g_law : FnG P w K mg base CX0 (10 + 1) f11 fd11 ["script"] (spD K (spLaw)) := fnG_ok (k := 10) F11 sc_law len_law fun cdv A outer s H E hg hr => ⟨_, b_law T (by omega) J hsys (d_law_hand.mono (by omega)) (d_law_thing.mono (by omega)) (d_law_made.mono (by omega)) (d_law_kinds.mono (by omega)) (d_law_fields.mono (by omega)) (d_law_is_based.mono (by omega)) (d_law_caught.mono (by omega)) hg hr, ok_law J⟩
  have d_law : DFn P w K mg base (10 + 1) "law" ["script"] (spLaw) := dfn_of F11 m11 b11 g_law
  exact g_law
abbrev s_I_BadBook : Stmt := inClass (top 2) 0
theorem txt_BadBook : Txt1 s_I_BadBook "part" "BadBook.__init__" := by
  refine ⟨⟨_, _, _, _, _, _, _, _, _, _, rfl, ⟨_, fun env => by rfl⟩, fun env => by rfl, fun env => by rfl⟩, ?_, ?_, ?_, ?_, ?_, ?_, ?_, ⟨_, rfl, rfl⟩, by decide +kernel⟩
  · intro B kVT dcT pmT anT cdT ctT ccT a u
    first | rfl | with_unfolding_all rfl
  · decide +kernel
  · first | rfl | decide +kernel
  · first | rfl | decide +kernel
  · first | rfl | decide +kernel
  · first | rfl | decide +kernel
  · first | exact ⟨rfl, rfl, rfl⟩ | decide +kernel
abbrev s_I_BadTable : Stmt := inClass (top 3) 0
theorem txt_BadTable : Txt1 s_I_BadTable "part" "BadTable.__init__" := by
  refine ⟨⟨_, _, _, _, _, _, _, _, _, _, rfl, ⟨_, fun env => by rfl⟩, fun env => by rfl, fun env => by rfl⟩, ?_, ?_, ?_, ?_, ?_, ?_, ?_, ⟨_, rfl, rfl⟩, by decide +kernel⟩
  · intro B kVT dcT pmT anT cdT ctT ccT a u
    first | rfl | with_unfolding_all rfl
  · decide +kernel
  · first | rfl | decide +kernel
  · first | rfl | decide +kernel
  · first | rfl | decide +kernel
  · first | rfl | decide +kernel
  · first | exact ⟨rfl, rfl, rfl⟩ | decide +kernel
abbrev s_I_BadProgram : Stmt := inClass (top 4) 0
theorem txt_BadProgram : Txt1 s_I_BadProgram "part" "BadProgram.__init__" := by
  refine ⟨⟨_, _, _, _, _, _, _, _, _, _, rfl, ⟨_, fun env => by rfl⟩, fun env => by rfl, fun env => by rfl⟩, ?_, ?_, ?_, ?_, ?_, ?_, ?_, ⟨_, rfl, rfl⟩, by decide +kernel⟩
  · intro B kVT dcT pmT anT cdT ctT ccT a u
    first | rfl | with_unfolding_all rfl
  · decide +kernel
  · first | rfl | decide +kernel
  · first | rfl | decide +kernel
  · first | rfl | decide +kernel
  · first | rfl | decide +kernel
  · first | exact ⟨rfl, rfl, rfl⟩ | decide +kernel
abbrev s_I_BadText : Stmt := inClass (top 5) 0
theorem txt_BadText : Txt1 s_I_BadText "place" "BadText.__init__" := by
  refine ⟨⟨_, _, _, _, _, _, _, _, _, _, rfl, ⟨_, fun env => by rfl⟩, fun env => by rfl, fun env => by rfl⟩, ?_, ?_, ?_, ?_, ?_, ?_, ?_, ⟨_, rfl, rfl⟩, by decide +kernel⟩
  · intro B kVT dcT pmT anT cdT ctT ccT a u
    first | rfl | with_unfolding_all rfl
  · decide +kernel
  · first | rfl | decide +kernel
  · first | rfl | decide +kernel
  · first | rfl | decide +kernel
  · first | rfl | decide +kernel
  · first | exact ⟨rfl, rfl, rfl⟩ | decide +kernel
abbrev s_I_TooMany : Stmt := inClass (top 6) 0
theorem txt_TooMany : Txt1 s_I_TooMany "most" "TooMany.__init__" := by
  refine ⟨⟨_, _, _, _, _, _, _, _, _, _, rfl, ⟨_, fun env => by rfl⟩, fun env => by rfl, fun env => by rfl⟩, ?_, ?_, ?_, ?_, ?_, ?_, ?_, ⟨_, rfl, rfl⟩, by decide +kernel⟩
  · intro B kVT dcT pmT anT cdT ctT ccT a u
    first | rfl | with_unfolding_all rfl
  · decide +kernel
  · first | rfl | decide +kernel
  · first | rfl | decide +kernel
  · first | rfl | decide +kernel
  · first | rfl | decide +kernel
  · first | exact ⟨rfl, rfl, rfl⟩ | decide +kernel
abbrev s_I_NeedsItself : Stmt := inClass (top 7) 0
theorem txt_NeedsItself : Txt2 s_I_NeedsItself "family" "use" "NeedsItself.__init__" := by
  refine ⟨⟨_, _, _, _, _, _, _, _, _, _, _, _, _, _, _, rfl, ⟨_, fun env => by rfl⟩, fun env => by rfl, fun env => by rfl, fun env => by rfl⟩, ?_, ?_, ?_, ?_, ?_, ?_, ?_, ?_, ⟨_, rfl, rfl⟩, by decide +kernel, by decide +kernel⟩
  · intro B kVT dcT pmT anT cdT ctT ccT a u u2
    first | rfl | with_unfolding_all rfl
  · decide +kernel
  · first | rfl | decide +kernel
  · first | rfl | decide +kernel
  · first | rfl | decide +kernel
  · first | rfl | decide +kernel
  · first | rfl | decide +kernel
  · first | exact ⟨rfl, rfl, rfl⟩ | decide +kernel
abbrev s_I_Unclear : Stmt := inClass (top 8) 0
theorem txt_Unclear : Txt2 s_I_Unclear "family" "use" "Unclear.__init__" := by
  refine ⟨⟨_, _, _, _, _, _, _, _, _, _, _, _, _, _, _, rfl, ⟨_, fun env => by rfl⟩, fun env => by rfl, fun env => by rfl, fun env => by rfl⟩, ?_, ?_, ?_, ?_, ?_, ?_, ?_, ?_, ⟨_, rfl, rfl⟩, by decide +kernel, by decide +kernel⟩
  · intro B kVT dcT pmT anT cdT ctT ccT a u u2
    first | rfl | with_unfolding_all rfl
  · decide +kernel
  · first | rfl | decide +kernel
  · first | rfl | decide +kernel
  · first | rfl | decide +kernel
  · first | rfl | decide +kernel
  · first | rfl | decide +kernel
  · first | exact ⟨rfl, rfl, rfl⟩ | decide +kernel
abbrev s_I_Unmet : Stmt := inClass (top 9) 0
theorem txt_Unmet : Txt2 s_I_Unmet "family" "use" "Unmet.__init__" := by
  refine ⟨⟨_, _, _, _, _, _, _, _, _, _, _, _, _, _, _, rfl, ⟨_, fun env => by rfl⟩, fun env => by rfl, fun env => by rfl, fun env => by rfl⟩, ?_, ?_, ?_, ?_, ?_, ?_, ?_, ?_, ⟨_, rfl, rfl⟩, by decide +kernel, by decide +kernel⟩
  · intro B kVT dcT pmT anT cdT ctT ccT a u u2
    first | rfl | with_unfolding_all rfl
  · decide +kernel
  · first | rfl | decide +kernel
  · first | rfl | decide +kernel
  · first | rfl | decide +kernel
  · first | rfl | decide +kernel
  · first | rfl | decide +kernel
  · first | exact ⟨rfl, rfl, rfl⟩ | decide +kernel
abbrev s_I_NoName : Stmt := inClass (top 10) 0
theorem txt_NoName : Txt1 s_I_NoName "name" "NoName.__init__" := by
  refine ⟨⟨_, _, _, _, _, _, _, _, _, _, rfl, ⟨_, fun env => by rfl⟩, fun env => by rfl, fun env => by rfl⟩, ?_, ?_, ?_, ?_, ?_, ?_, ?_, ⟨_, rfl, rfl⟩, by decide +kernel⟩
  · intro B kVT dcT pmT anT cdT ctT ccT a u
    first | rfl | with_unfolding_all rfl
  · decide +kernel
  · first | rfl | decide +kernel
  · first | rfl | decide +kernel
  · first | rfl | decide +kernel
  · first | rfl | decide +kernel
  · first | exact ⟨rfl, rfl, rfl⟩ | decide +kernel
abbrev s_I_Kept : Stmt := inClass (top 11) 0
theorem txt_Kept : Txt1 s_I_Kept "name" "Kept.__init__" := by
  refine ⟨⟨_, _, _, _, _, _, _, _, _, _, rfl, ⟨_, fun env => by rfl⟩, fun env => by rfl, fun env => by rfl⟩, ?_, ?_, ?_, ?_, ?_, ?_, ?_, ⟨_, rfl, rfl⟩, by decide +kernel⟩
  · intro B kVT dcT pmT anT cdT ctT ccT a u
    first | rfl | with_unfolding_all rfl
  · decide +kernel
  · first | rfl | decide +kernel
  · first | rfl | decide +kernel
  · first | rfl | decide +kernel
  · first | rfl | decide +kernel
  · first | exact ⟨rfl, rfl, rfl⟩ | decide +kernel
theorem errNames_nd : errNames.Nodup := by decide +kernel
theorem topE_mk {l : PySem.W.OpenLaw} {K : PySem.W.Frag} {h : Heap} {mg : Str → Option Value} (X : K.In h) (G : h.Ns mainGlobals mg) {c0 c1 c2 c3 c4 c5 c6 c7 c8 c9 c10 c11 c12 c13 c14 c15 c16 c17 c18 c19 c20 c21 c22 c23 c24 c25 c26 c27 c28 : Addr} (L : ErG l K mg)
    (E0 : ErB K mg c0 "KindError" c0 "KindError" ∧ PySem.W.excIn K c0 veMro "ValueError.__new__" = true)
    (E1 : ErB K mg c0 "KindError" c1 "BadBook" ∧ (ErG l K mg → SupC l.prog K c1 "part" mg))
    (E2 : ErB K mg c0 "KindError" c2 "BadTable" ∧ (ErG l K mg → SupC l.prog K c2 "part" mg))
    (E3 : ErB K mg c0 "KindError" c3 "BadProgram" ∧ (ErG l K mg → SupC l.prog K c3 "part" mg))
    (E4 : ErB K mg c0 "KindError" c4 "BadText" ∧ (ErG l K mg → SupC l.prog K c4 "place" mg))
    (E5 : ErB K mg c0 "KindError" c5 "TooMany" ∧ (ErG l K mg → SupC l.prog K c5 "most" mg))
    (E6 : ErB K mg c0 "KindError" c6 "NeedsItself" ∧ (ErG l K mg → SupC2 l.prog K c6 "family" "use" mg))
    (E7 : ErB K mg c0 "KindError" c7 "Unclear" ∧ (ErG l K mg → SupC2 l.prog K c7 "family" "use" mg))
    (E8 : ErB K mg c0 "KindError" c8 "Unmet" ∧ (ErG l K mg → SupC2 l.prog K c8 "family" "use" mg))
    (E9 : ErB K mg c0 "KindError" c9 "NoName" ∧ (ErG l K mg → SupC l.prog K c9 "name" mg))
    (E10 : ErB K mg c0 "KindError" c10 "Kept" ∧ (ErG l K mg → SupC l.prog K c10 "name" mg))
    (E11 : ErB K mg c0 "KindError" c11 "NoSorts" ∧ PySem.W.excIn K c11 veMro "ValueError.__new__" = true)
    (E12 : ErB K mg c0 "KindError" c12 "NoUse" ∧ PySem.W.excIn K c12 veMro "ValueError.__new__" = true)
    (E13 : ErB K mg c0 "KindError" c13 "NoFacts" ∧ PySem.W.excIn K c13 veMro "ValueError.__new__" = true)
    (E14 : ErB K mg c0 "KindError" c14 "NoRow" ∧ PySem.W.excIn K c14 veMro "ValueError.__new__" = true)
    (E15 : ErB K mg c0 "KindError" c15 "NoLot" ∧ PySem.W.excIn K c15 veMro "ValueError.__new__" = true)
    (E16 : ErB K mg c0 "KindError" c16 "NoWish" ∧ PySem.W.excIn K c16 veMro "ValueError.__new__" = true)
    (E17 : ErB K mg c0 "KindError" c17 "NoTree" ∧ PySem.W.excIn K c17 veMro "ValueError.__new__" = true)
    (E18 : ErB K mg c0 "KindError" c18 "NoFamily" ∧ PySem.W.excIn K c18 veMro "ValueError.__new__" = true)
    (E19 : ErB K mg c0 "KindError" c19 "NoMany" ∧ PySem.W.excIn K c19 veMro "ValueError.__new__" = true)
    (E20 : ErB K mg c0 "KindError" c20 "NoTerm" ∧ PySem.W.excIn K c20 veMro "ValueError.__new__" = true)
    (E21 : ErB K mg c0 "KindError" c21 "NoStanding" ∧ PySem.W.excIn K c21 veMro "ValueError.__new__" = true)
    (E22 : ErB K mg c0 "KindError" c22 "NoLine" ∧ PySem.W.excIn K c22 veMro "ValueError.__new__" = true)
    (E23 : ErB K mg c0 "KindError" c23 "NoText" ∧ PySem.W.excIn K c23 veMro "ValueError.__new__" = true)
    (E24 : ErB K mg c0 "KindError" c24 "NothingDone" ∧ PySem.W.excIn K c24 veMro "ValueError.__new__" = true)
    (E25 : ErB K mg c0 "KindError" c25 "NotClear" ∧ PySem.W.excIn K c25 veMro "ValueError.__new__" = true)
    (E26 : ErB K mg c0 "KindError" c26 "NotRooted" ∧ PySem.W.excIn K c26 veMro "ValueError.__new__" = true)
    (E27 : ErB K mg c0 "KindError" c27 "OtherPlaces" ∧ PySem.W.excIn K c27 veMro "ValueError.__new__" = true)
    (E28 : ErB K mg c0 "KindError" c28 "TooGreat" ∧ PySem.W.excIn K c28 veMro "ValueError.__new__" = true)
    (mV : PySem.W.nsIn K mainGlobals "ValueError" = some none) (hn : PySem.W.specialIn K (.builtin "object.__class__") "__get__" = some (some (.builtin "getset_descriptor.__get__"))) (ht : PySem.W.takesIn K (.builtin "object.__class__") = some true)
    : TopE l.prog K mg (tabC errNames [c0, c1, c2, c3, c4, c5, c6, c7, c8, c9, c10, c11, c12, c13, c14, c15, c16, c17, c18, c19, c20, c21, c22, c23, c24, c25, c26, c27, c28]) := by
  obtain ⟨cls, hcls⟩ : ∃ cls, cls = tabC errNames [c0, c1, c2, c3, c4, c5, c6, c7, c8, c9, c10, c11, c12, c13, c14, c15, c16, c17, c18, c19, c20, c21, c22, c23, c24, c25, c26, c27, c28] := ⟨_, rfl⟩
  have e0 : cls "KindError" = c0 := by rw [hcls]; exact tabC_get errNames_nd (i := 0) rfl rfl
  have e1 : cls "BadBook" = c1 := by rw [hcls]; exact tabC_get errNames_nd (i := 1) rfl rfl
  have e2 : cls "BadTable" = c2 := by rw [hcls]; exact tabC_get errNames_nd (i := 2) rfl rfl
  have e3 : cls "BadProgram" = c3 := by rw [hcls]; exact tabC_get errNames_nd (i := 3) rfl rfl
  have e4 : cls "BadText" = c4 := by rw [hcls]; exact tabC_get errNames_nd (i := 4) rfl rfl
  have e5 : cls "TooMany" = c5 := by rw [hcls]; exact tabC_get errNames_nd (i := 5) rfl rfl
  have e6 : cls "NeedsItself" = c6 := by rw [hcls]; exact tabC_get errNames_nd (i := 6) rfl rfl
  have e7 : cls "Unclear" = c7 := by rw [hcls]; exact tabC_get errNames_nd (i := 7) rfl rfl
  have e8 : cls "Unmet" = c8 := by rw [hcls]; exact tabC_get errNames_nd (i := 8) rfl rfl
  have e9 : cls "NoName" = c9 := by rw [hcls]; exact tabC_get errNames_nd (i := 9) rfl rfl
  have e10 : cls "Kept" = c10 := by rw [hcls]; exact tabC_get errNames_nd (i := 10) rfl rfl
  have e11 : cls "NoSorts" = c11 := by rw [hcls]; exact tabC_get errNames_nd (i := 11) rfl rfl
  have e12 : cls "NoUse" = c12 := by rw [hcls]; exact tabC_get errNames_nd (i := 12) rfl rfl
  have e13 : cls "NoFacts" = c13 := by rw [hcls]; exact tabC_get errNames_nd (i := 13) rfl rfl
  have e14 : cls "NoRow" = c14 := by rw [hcls]; exact tabC_get errNames_nd (i := 14) rfl rfl
  have e15 : cls "NoLot" = c15 := by rw [hcls]; exact tabC_get errNames_nd (i := 15) rfl rfl
  have e16 : cls "NoWish" = c16 := by rw [hcls]; exact tabC_get errNames_nd (i := 16) rfl rfl
  have e17 : cls "NoTree" = c17 := by rw [hcls]; exact tabC_get errNames_nd (i := 17) rfl rfl
  have e18 : cls "NoFamily" = c18 := by rw [hcls]; exact tabC_get errNames_nd (i := 18) rfl rfl
  have e19 : cls "NoMany" = c19 := by rw [hcls]; exact tabC_get errNames_nd (i := 19) rfl rfl
  have e20 : cls "NoTerm" = c20 := by rw [hcls]; exact tabC_get errNames_nd (i := 20) rfl rfl
  have e21 : cls "NoStanding" = c21 := by rw [hcls]; exact tabC_get errNames_nd (i := 21) rfl rfl
  have e22 : cls "NoLine" = c22 := by rw [hcls]; exact tabC_get errNames_nd (i := 22) rfl rfl
  have e23 : cls "NoText" = c23 := by rw [hcls]; exact tabC_get errNames_nd (i := 23) rfl rfl
  have e24 : cls "NothingDone" = c24 := by rw [hcls]; exact tabC_get errNames_nd (i := 24) rfl rfl
  have e25 : cls "NotClear" = c25 := by rw [hcls]; exact tabC_get errNames_nd (i := 25) rfl rfl
  have e26 : cls "NotRooted" = c26 := by rw [hcls]; exact tabC_get errNames_nd (i := 26) rfl rfl
  have e27 : cls "OtherPlaces" = c27 := by rw [hcls]; exact tabC_get errNames_nd (i := 27) rfl rfl
  have e28 : cls "TooGreat" = c28 := by rw [hcls]; exact tabC_get errNames_nd (i := 28) rfl rfl
  rw [← hcls]
  have er : ∀ n ∈ errNames, ErC K cls "KindError" n ∧ mg n = some (.ref (cls n)) := (List.forall_mem_cons.mpr ⟨(ErB.of e0 e0 E0.1), (List.forall_mem_cons.mpr ⟨(ErB.of e0 e1 E1.1), (List.forall_mem_cons.mpr ⟨(ErB.of e0 e2 E2.1), (List.forall_mem_cons.mpr ⟨(ErB.of e0 e3 E3.1), (List.forall_mem_cons.mpr ⟨(ErB.of e0 e4 E4.1), (List.forall_mem_cons.mpr ⟨(ErB.of e0 e5 E5.1), (List.forall_mem_cons.mpr ⟨(ErB.of e0 e6 E6.1), (List.forall_mem_cons.mpr ⟨(ErB.of e0 e7 E7.1), (List.forall_mem_cons.mpr ⟨(ErB.of e0 e8 E8.1), (List.forall_mem_cons.mpr ⟨(ErB.of e0 e9 E9.1), (List.forall_mem_cons.mpr ⟨(ErB.of e0 e10 E10.1), (List.forall_mem_cons.mpr ⟨(ErB.of e0 e11 E11.1), (List.forall_mem_cons.mpr ⟨(ErB.of e0 e12 E12.1), (List.forall_mem_cons.mpr ⟨(ErB.of e0 e13 E13.1), (List.forall_mem_cons.mpr ⟨(ErB.of e0 e14 E14.1), (List.forall_mem_cons.mpr ⟨(ErB.of e0 e15 E15.1), (List.forall_mem_cons.mpr ⟨(ErB.of e0 e16 E16.1), (List.forall_mem_cons.mpr ⟨(ErB.of e0 e17 E17.1), (List.forall_mem_cons.mpr ⟨(ErB.of e0 e18 E18.1), (List.forall_mem_cons.mpr ⟨(ErB.of e0 e19 E19.1), (List.forall_mem_cons.mpr ⟨(ErB.of e0 e20 E20.1), (List.forall_mem_cons.mpr ⟨(ErB.of e0 e21 E21.1), (List.forall_mem_cons.mpr ⟨(ErB.of e0 e22 E22.1), (List.forall_mem_cons.mpr ⟨(ErB.of e0 e23 E23.1), (List.forall_mem_cons.mpr ⟨(ErB.of e0 e24 E24.1), (List.forall_mem_cons.mpr ⟨(ErB.of e0 e25 E25.1), (List.forall_mem_cons.mpr ⟨(ErB.of e0 e26 E26.1), (List.forall_mem_cons.mpr ⟨(ErB.of e0 e27 E27.1), (List.forall_mem_cons.mpr ⟨(ErB.of e0 e28 E28.1), (fun _ z => nomatch z)⟩)⟩)⟩)⟩)⟩)⟩)⟩)⟩)⟩)⟩)⟩)⟩)⟩)⟩)⟩)⟩)⟩)⟩)⟩)⟩)⟩)⟩)⟩)⟩)⟩)⟩)⟩)⟩)⟩)
  have pl : ∀ n ∈ plainNames, PySem.W.excIn K (cls n) veMro "ValueError.__new__" = true := (List.forall_mem_cons.mpr ⟨(e0 ▸ E0.2), (List.forall_mem_cons.mpr ⟨(e11 ▸ E11.2), (List.forall_mem_cons.mpr ⟨(e12 ▸ E12.2), (List.forall_mem_cons.mpr ⟨(e13 ▸ E13.2), (List.forall_mem_cons.mpr ⟨(e14 ▸ E14.2), (List.forall_mem_cons.mpr ⟨(e15 ▸ E15.2), (List.forall_mem_cons.mpr ⟨(e16 ▸ E16.2), (List.forall_mem_cons.mpr ⟨(e17 ▸ E17.2), (List.forall_mem_cons.mpr ⟨(e18 ▸ E18.2), (List.forall_mem_cons.mpr ⟨(e19 ▸ E19.2), (List.forall_mem_cons.mpr ⟨(e20 ▸ E20.2), (List.forall_mem_cons.mpr ⟨(e21 ▸ E21.2), (List.forall_mem_cons.mpr ⟨(e22 ▸ E22.2), (List.forall_mem_cons.mpr ⟨(e23 ▸ E23.2), (List.forall_mem_cons.mpr ⟨(e24 ▸ E24.2), (List.forall_mem_cons.mpr ⟨(e25 ▸ E25.2), (List.forall_mem_cons.mpr ⟨(e26 ▸ E26.2), (List.forall_mem_cons.mpr ⟨(e27 ▸ E27.2), (List.forall_mem_cons.mpr ⟨(e28 ▸ E28.2), (fun _ z => nomatch z)⟩)⟩)⟩)⟩)⟩)⟩)⟩)⟩)⟩)⟩)⟩)⟩)⟩)⟩)⟩)⟩)⟩)⟩)⟩)
  have s1 : ∀ p ∈ oneNames, SupC l.prog K (cls p.1) p.2 mg := (List.forall_mem_cons.mpr ⟨(e1 ▸ E1.2 L), (List.forall_mem_cons.mpr ⟨(e2 ▸ E2.2 L), (List.forall_mem_cons.mpr ⟨(e3 ▸ E3.2 L), (List.forall_mem_cons.mpr ⟨(e4 ▸ E4.2 L), (List.forall_mem_cons.mpr ⟨(e5 ▸ E5.2 L), (List.forall_mem_cons.mpr ⟨(e9 ▸ E9.2 L), (List.forall_mem_cons.mpr ⟨(e10 ▸ E10.2 L), (fun _ z => nomatch z)⟩)⟩)⟩)⟩)⟩)⟩)⟩)
  have s2 : ∀ n ∈ twoNames, SupC2 l.prog K (cls n) "family" "use" mg := (List.forall_mem_cons.mpr ⟨(e6 ▸ E6.2 L), (List.forall_mem_cons.mpr ⟨(e7 ▸ E7.2 L), (List.forall_mem_cons.mpr ⟨(e8 ▸ E8.2 L), (fun _ z => nomatch z)⟩)⟩)⟩)
  exact ⟨er, pl, s1, s2, PySem.W.mg_none_of X G mV, ⟨hn, ht⟩⟩
theorem all_mk {l : PySem.W.OpenLaw} {w : World} {K : PySem.W.Frag} {h : Heap} {mg : Str → Option Value} {cls : Str → Addr} {fa f1 f2 f3 f4 f5 f6 f7 f8 f9 f10 f11 : Addr} (X : K.In h) (G : h.Ns mainGlobals mg) (hfa : mg "law" = some (.ref fa)) (J : TopE l.prog K mg cls)
    {od1 an1 od2 an2 od3 an3 od4 an4 od5 an5 od6 an6 od7 an7 od8 an8 od9 an9 od10 an10 od11 an11 : Option Addr} {sl1 sl2 sl3 sl4 sl5 sl6 sl7 sl8 sl9 sl10 sl11 : Array (Option Value)}
    {oc1 kV1 dc1 pm1 cd1 ct1 oc2 kV2 dc2 pm2 cd2 ct2 oc3 kV3 dc3 pm3 cd3 ct3 oc4 kV4 dc4 pm4 cd4 ct4 oc5 kV5 dc5 pm5 cd5 ct5 oc6 kV6 dc6 pm6 cd6 ct6 oc7 kV7 dc7 pm7 cd7 ct7 oc8 kV8 dc8 pm8 cd8 ct8 oc9 kV9 dc9 pm9 cd9 ct9 oc10 kV10 dc10 pm10 cd10 ct10 oc11 kV11 dc11 pm11 cd11 ct11 : Value}
    (a1 : PySem.W.nsIn K mainGlobals "_law_hand" = some (some (.ref f1)))
    (l1 : K.lookup f1 = some ⟨oc1, od1, .func (PySem.W.fnOf "_law_hand" "_law_hand" (defArgs s_law_hand) (defBody s_law_hand) (defScope s_law_hand) .none kV1 dc1 pm1 an1 cd1 ct1), sl1⟩)
    (q1 : PySem.W.codeIn K cd1 "_law_hand" = true) (k1 : PySem.W.keepIn K (.ref f1) = true)
    (a2 : PySem.W.nsIn K mainGlobals "_law_draw" = some (some (.ref f2)))
    (l2 : K.lookup f2 = some ⟨oc2, od2, .func (PySem.W.fnOf "_law_draw" "_law_draw" (defArgs s_law_draw) (defBody s_law_draw) (defScope s_law_draw) .none kV2 dc2 pm2 an2 cd2 ct2), sl2⟩)
    (q2 : PySem.W.codeIn K cd2 "_law_draw" = true) (k2 : PySem.W.keepIn K (.ref f2) = true)
    (a3 : PySem.W.nsIn K mainGlobals "_law_some" = some (some (.ref f3)))
    (l3 : K.lookup f3 = some ⟨oc3, od3, .func (PySem.W.fnOf "_law_some" "_law_some" (defArgs s_law_some) (defBody s_law_some) (defScope s_law_some) .none kV3 dc3 pm3 an3 cd3 ct3), sl3⟩)
    (q3 : PySem.W.codeIn K cd3 "_law_some" = true) (k3 : PySem.W.keepIn K (.ref f3) = true)
    (a4 : PySem.W.nsIn K mainGlobals "_law_thing" = some (some (.ref f4)))
    (l4 : K.lookup f4 = some ⟨oc4, od4, .func (PySem.W.fnOf "_law_thing" "_law_thing" (defArgs s_law_thing) (defBody s_law_thing) (defScope s_law_thing) .none kV4 dc4 pm4 an4 cd4 ct4), sl4⟩)
    (q4 : PySem.W.codeIn K cd4 "_law_thing" = true) (k4 : PySem.W.keepIn K (.ref f4) = true)
    (a5 : PySem.W.nsIn K mainGlobals "_law_made" = some (some (.ref f5)))
    (l5 : K.lookup f5 = some ⟨oc5, od5, .func (PySem.W.fnOf "_law_made" "_law_made" (defArgs s_law_made) (defBody s_law_made) (defScope s_law_made) .none kV5 dc5 pm5 an5 cd5 ct5), sl5⟩)
    (q5 : PySem.W.codeIn K cd5 "_law_made" = true) (k5 : PySem.W.keepIn K (.ref f5) = true)
    (a6 : PySem.W.nsIn K mainGlobals "_law_kinds" = some (some (.ref f6)))
    (l6 : K.lookup f6 = some ⟨oc6, od6, .func (PySem.W.fnOf "_law_kinds" "_law_kinds" (defArgs s_law_kinds) (defBody s_law_kinds) (defScope s_law_kinds) .none kV6 dc6 pm6 an6 cd6 ct6), sl6⟩)
    (q6 : PySem.W.codeIn K cd6 "_law_kinds" = true) (k6 : PySem.W.keepIn K (.ref f6) = true)
    (a7 : PySem.W.nsIn K mainGlobals "_law_fields" = some (some (.ref f7)))
    (l7 : K.lookup f7 = some ⟨oc7, od7, .func (PySem.W.fnOf "_law_fields" "_law_fields" (defArgs s_law_fields) (defBody s_law_fields) (defScope s_law_fields) .none kV7 dc7 pm7 an7 cd7 ct7), sl7⟩)
    (q7 : PySem.W.codeIn K cd7 "_law_fields" = true) (k7 : PySem.W.keepIn K (.ref f7) = true)
    (a8 : PySem.W.nsIn K mainGlobals "_law_raise" = some (some (.ref f8)))
    (l8 : K.lookup f8 = some ⟨oc8, od8, .func (PySem.W.fnOf "_law_raise" "_law_raise" (defArgs s_law_raise) (defBody s_law_raise) (defScope s_law_raise) .none kV8 dc8 pm8 an8 cd8 ct8), sl8⟩)
    (q8 : PySem.W.codeIn K cd8 "_law_raise" = true) (k8 : PySem.W.keepIn K (.ref f8) = true)
    (a9 : PySem.W.nsIn K mainGlobals "_law_caught" = some (some (.ref f9)))
    (l9 : K.lookup f9 = some ⟨oc9, od9, .func (PySem.W.fnOf "_law_caught" "_law_caught" (defArgs s_law_caught) (defBody s_law_caught) (defScope s_law_caught) .none kV9 dc9 pm9 an9 cd9 ct9), sl9⟩)
    (q9 : PySem.W.codeIn K cd9 "_law_caught" = true) (k9 : PySem.W.keepIn K (.ref f9) = true)
    (a10 : PySem.W.nsIn K mainGlobals "_law_is_based" = some (some (.ref f10)))
    (l10 : K.lookup f10 = some ⟨oc10, od10, .func (PySem.W.fnOf "_law_is_based" "_law_is_based" (defArgs s_law_is_based) (defBody s_law_is_based) (defScope s_law_is_based) .none kV10 dc10 pm10 an10 cd10 ct10), sl10⟩)
    (q10 : PySem.W.codeIn K cd10 "_law_is_based" = true) (k10 : PySem.W.keepIn K (.ref f10) = true)
    (a11 : PySem.W.nsIn K mainGlobals "law" = some (some (.ref f11)))
    (l11 : K.lookup f11 = some ⟨oc11, od11, .func (PySem.W.fnOf "law" "law" (defArgs s_law) (defBody s_law) (defScope s_law) .none kV11 dc11 pm11 an11 cd11 ct11), sl11⟩)
    (q11 : PySem.W.codeIn K cd11 "law" = true) (k11 : PySem.W.keepIn K (.ref f11) = true)
    (z_abs : PySem.W.nsIn K mainGlobals "abs" = some none)
    (z_any : PySem.W.nsIn K mainGlobals "any" = some none)
    (z_enumerate : PySem.W.nsIn K mainGlobals "enumerate" = some none)
    (z_int : PySem.W.nsIn K mainGlobals "int" = some none)
    (z_isinstance : PySem.W.nsIn K mainGlobals "isinstance" = some none)
    (z_len : PySem.W.nsIn K mainGlobals "len" = some none)
    (z_range : PySem.W.nsIn K mainGlobals "range" = some none)
    (z_repr : PySem.W.nsIn K mainGlobals "repr" = some none)
    : ∃ fd : FuncData, (∀ (s : Shared) (v : Value), BindsTo s fd ⟨[v], []⟩ [("script", v)]) ∧ ∀ base : Heap, K.In base → base.Ns mainGlobals mg → (∃ o, base.get? sysModules = some o) → FnG l.prog w K mg base CX0 11 fa fd ["script"] (spD K spLaw) := by
  have e := hfa.symm.trans (PySem.W.mg_of X G a11)
  cases e
  have T : Top mg := ⟨PySem.W.mg_none_of X G z_abs, PySem.W.mg_none_of X G z_any, PySem.W.mg_none_of X G z_enumerate, PySem.W.mg_none_of X G z_int, PySem.W.mg_none_of X G z_isinstance, PySem.W.mg_none_of X G z_len, PySem.W.mg_none_of X G z_range, PySem.W.mg_none_of X G z_repr⟩
  have F1 := fun_mk (st := s_law_hand) l1 q1 k1
  have b1 := F1.binds (ps := ["script"]) fun _ _ _ _ _ _ us hl => match us, hl with | [_], _ => rfl
  have F2 := fun_mk (st := s_law_draw) l2 q2 k2
  have b2 := F2.binds (ps := ["hand", "many"]) fun _ _ _ _ _ _ us hl => match us, hl with | [_, _], _ => rfl
  have F3 := fun_mk (st := s_law_some) l3 q3 k3
  have b3 := F3.binds (ps := ["hand", "things"]) fun _ _ _ _ _ _ us hl => match us, hl with | [_, _], _ => rfl
  have F4 := fun_mk (st := s_law_thing) l4 q4 k4
  have b4 := F4.binds (ps := ["hand"]) fun _ _ _ _ _ _ us hl => match us, hl with | [_], _ => rfl
  have F5 := fun_mk (st := s_law_made) l5 q5 k5
  have b5 := F5.binds (ps := ["one", "two"]) fun _ _ _ _ _ _ us hl => match us, hl with | [_, _], _ => rfl
  have F6 := fun_mk (st := s_law_kinds) l6 q6 k6
  have b6 := F6.binds (ps := ["one"]) fun _ _ _ _ _ _ us hl => match us, hl with | [_], _ => rfl
  have F7 := fun_mk (st := s_law_fields) l7 q7 k7
  have b7 := F7.binds (ps := ["errors"]) fun _ _ _ _ _ _ us hl => match us, hl with | [_], _ => rfl
  have F8 := fun_mk (st := s_law_raise) l8 q8 k8
  have b8 := F8.binds (ps := ["which", "one", "two"]) fun _ _ _ _ _ _ us hl => match us, hl with | [_, _, _], _ => rfl
  have F9 := fun_mk (st := s_law_caught) l9 q9 k9
  have b9 := F9.binds (ps := ["which", "one", "two"]) fun _ _ _ _ _ _ us hl => match us, hl with | [_, _, _], _ => rfl
  have F10 := fun_mk (st := s_law_is_based) l10 q10 k10
  have b10 := F10.binds (ps := ["which", "one", "two"]) fun _ _ _ _ _ _ us hl => match us, hl with | [_, _, _], _ => rfl
  have F11 := fun_mk (st := s_law) l11 q11 k11
  have b11 := F11.binds (ps := ["script"]) fun _ _ _ _ _ _ us hl => match us, hl with | [_], _ => rfl
  exact ⟨_, fun s v => .of_eq rfl, fun base _ _ hs => law_goes_on (cls := cls) T J hs F1 (PySem.W.mg_of X G a1) b1 F2 (PySem.W.mg_of X G a2) b2 F3 (PySem.W.mg_of X G a3) b3 F4 (PySem.W.mg_of X G a4) b4 F5 (PySem.W.mg_of X G a5) b5 F6 (PySem.W.mg_of X G a6) b6 F7 (PySem.W.mg_of X G a7) b7 F8 (PySem.W.mg_of X G a8) b8 F9 (PySem.W.mg_of X G a9) b9 F10 (PySem.W.mg_of X G a10) b10 F11 (PySem.W.mg_of X G a11) b11⟩
end DL

open PySem PySem.W PyProof.Rows
set_option maxRecDepth 100000 in
set_option maxHeartbeats 0 in
theorem PySem.Challenge.cw_nearestkinds_k00_errors_keep_what_is_pas_holds : PySem.Challenge.rw_nearestkinds_k00_errors_keep_what_is_pas.Holds := by
  w_on; o_law; k_head; (case hw => w_witness2)
  k_fill
  haveI : DL.Wsh := ⟨fun _ => 0, fun _ _ _ _ => False⟩
  refine DL.walkGS (l := PySem.Challenge.rw_nearestkinds_k00_errors_keep_what_is_pas) (n := 63) (k := 11) (x := "script") (dsp := DL.spLaw) rfl (by decide) rfl ⟨rfl, by decide, by decide⟩ ?I (fun w h Y => PySem.W.kIn_of Y) ?F ?S
  case I => first | rfl | decide +kernel
  case S => exact fun ns hl => ⟨ns, hl, rfl, rfl, fun _ => rfl⟩
  case F =>
    intro w mg fa h KX G hmg0
    have hmg : mg "law" = some (.ref fa) := hmg0
    clear hmg0
    refine' DL.all_mk (l := PySem.Challenge.rw_nearestkinds_k00_errors_keep_what_is_pas) KX G hmg (DL.topE_mk (l := PySem.Challenge.rw_nearestkinds_k00_errors_keep_what_is_pas) KX G (DL.erG_mk (l := PySem.Challenge.rw_nearestkinds_k00_errors_keep_what_is_pas) KX G ?eq ?eop ?ems) (DL.er0_mk (b := "KindError") (n := "KindError") KX G ?n0 ?l0_ ?h0 ?ga0 ?gg0 ?cc0 ?kp0 ?pl0)
      (DL.er1_mk (l := PySem.Challenge.rw_nearestkinds_k00_errors_keep_what_is_pas) (b := "KindError") (n := "BadBook") DL.txt_BadBook KX G ?n1 ?l1_ ?h1 ?ga1 ?gg1 ?cc1 ?kp1 ?esa1 ?ei1 ?eit1 ?el1 ?ec1 ?ed1 ?ev1 ?ep1 ?ecc1 ?exi1 ?enf1 ?esu1)
      (DL.er1_mk (l := PySem.Challenge.rw_nearestkinds_k00_errors_keep_what_is_pas) (b := "KindError") (n := "BadTable") DL.txt_BadTable KX G ?n2 ?l2_ ?h2 ?ga2 ?gg2 ?cc2 ?kp2 ?esa2 ?ei2 ?eit2 ?el2 ?ec2 ?ed2 ?ev2 ?ep2 ?ecc2 ?exi2 ?enf2 ?esu2)
      (DL.er1_mk (l := PySem.Challenge.rw_nearestkinds_k00_errors_keep_what_is_pas) (b := "KindError") (n := "BadProgram") DL.txt_BadProgram KX G ?n3 ?l3_ ?h3 ?ga3 ?gg3 ?cc3 ?kp3 ?esa3 ?ei3 ?eit3 ?el3 ?ec3 ?ed3 ?ev3 ?ep3 ?ecc3 ?exi3 ?enf3 ?esu3)
      (DL.er1_mk (l := PySem.Challenge.rw_nearestkinds_k00_errors_keep_what_is_pas) (b := "KindError") (n := "BadText") DL.txt_BadText KX G ?n4 ?l4_ ?h4 ?ga4 ?gg4 ?cc4 ?kp4 ?esa4 ?ei4 ?eit4 ?el4 ?ec4 ?ed4 ?ev4 ?ep4 ?ecc4 ?exi4 ?enf4 ?esu4)
      (DL.er1_mk (l := PySem.Challenge.rw_nearestkinds_k00_errors_keep_what_is_pas) (b := "KindError") (n := "TooMany") DL.txt_TooMany KX G ?n5 ?l5_ ?h5 ?ga5 ?gg5 ?cc5 ?kp5 ?esa5 ?ei5 ?eit5 ?el5 ?ec5 ?ed5 ?ev5 ?ep5 ?ecc5 ?exi5 ?enf5 ?esu5)
      (DL.er2_mk (l := PySem.Challenge.rw_nearestkinds_k00_errors_keep_what_is_pas) (b := "KindError") (n := "NeedsItself") DL.txt_NeedsItself KX G ?n6 ?l6_ ?h6 ?ga6 ?gg6 ?cc6 ?kp6 ?esa6 ?ei6 ?eit6 ?el6 ?ec6 ?ed6 ?ev6 ?ep6 ?ecc6 ?exi6 ?enf6 ?esu6 ?enff6)
      (DL.er2_mk (l := PySem.Challenge.rw_nearestkinds_k00_errors_keep_what_is_pas) (b := "KindError") (n := "Unclear") DL.txt_Unclear KX G ?n7 ?l7_ ?h7 ?ga7 ?gg7 ?cc7 ?kp7 ?esa7 ?ei7 ?eit7 ?el7 ?ec7 ?ed7 ?ev7 ?ep7 ?ecc7 ?exi7 ?enf7 ?esu7 ?enff7)
      (DL.er2_mk (l := PySem.Challenge.rw_nearestkinds_k00_errors_keep_what_is_pas) (b := "KindError") (n := "Unmet") DL.txt_Unmet KX G ?n8 ?l8_ ?h8 ?ga8 ?gg8 ?cc8 ?kp8 ?esa8 ?ei8 ?eit8 ?el8 ?ec8 ?ed8 ?ev8 ?ep8 ?ecc8 ?exi8 ?enf8 ?esu8 ?enff8)
      (DL.er1_mk (l := PySem.Challenge.rw_nearestkinds_k00_errors_keep_what_is_pas) (b := "KindError") (n := "NoName") DL.txt_NoName KX G ?n9 ?l9_ ?h9 ?ga9 ?gg9 ?cc9 ?kp9 ?esa9 ?ei9 ?eit9 ?el9 ?ec9 ?ed9 ?ev9 ?ep9 ?ecc9 ?exi9 ?enf9 ?esu9)
      (DL.er1_mk (l := PySem.Challenge.rw_nearestkinds_k00_errors_keep_what_is_pas) (b := "KindError") (n := "Kept") DL.txt_Kept KX G ?n10 ?l10_ ?h10 ?ga10 ?gg10 ?cc10 ?kp10 ?esa10 ?ei10 ?eit10 ?el10 ?ec10 ?ed10 ?ev10 ?ep10 ?ecc10 ?exi10 ?enf10 ?esu10)
      (DL.er0_mk (b := "KindError") (n := "NoSorts") KX G ?n11 ?l11_ ?h11 ?ga11 ?gg11 ?cc11 ?kp11 ?pl11)
      (DL.er0_mk (b := "KindError") (n := "NoUse") KX G ?n12 ?l12_ ?h12 ?ga12 ?gg12 ?cc12 ?kp12 ?pl12)
      (DL.er0_mk (b := "KindError") (n := "NoFacts") KX G ?n13 ?l13_ ?h13 ?ga13 ?gg13 ?cc13 ?kp13 ?pl13)
      (DL.er0_mk (b := "KindError") (n := "NoRow") KX G ?n14 ?l14_ ?h14 ?ga14 ?gg14 ?cc14 ?kp14 ?pl14)
      (DL.er0_mk (b := "KindError") (n := "NoLot") KX G ?n15 ?l15_ ?h15 ?ga15 ?gg15 ?cc15 ?kp15 ?pl15)
      (DL.er0_mk (b := "KindError") (n := "NoWish") KX G ?n16 ?l16_ ?h16 ?ga16 ?gg16 ?cc16 ?kp16 ?pl16)
      (DL.er0_mk (b := "KindError") (n := "NoTree") KX G ?n17 ?l17_ ?h17 ?ga17 ?gg17 ?cc17 ?kp17 ?pl17)
      (DL.er0_mk (b := "KindError") (n := "NoFamily") KX G ?n18 ?l18_ ?h18 ?ga18 ?gg18 ?cc18 ?kp18 ?pl18)
      (DL.er0_mk (b := "KindError") (n := "NoMany") KX G ?n19 ?l19_ ?h19 ?ga19 ?gg19 ?cc19 ?kp19 ?pl19)
      (DL.er0_mk (b := "KindError") (n := "NoTerm") KX G ?n20 ?l20_ ?h20 ?ga20 ?gg20 ?cc20 ?kp20 ?pl20)
      (DL.er0_mk (b := "KindError") (n := "NoStanding") KX G ?n21 ?l21_ ?h21 ?ga21 ?gg21 ?cc21 ?kp21 ?pl21)
      (DL.er0_mk (b := "KindError") (n := "NoLine") KX G ?n22 ?l22_ ?h22 ?ga22 ?gg22 ?cc22 ?kp22 ?pl22)
      (DL.er0_mk (b := "KindError") (n := "NoText") KX G ?n23 ?l23_ ?h23 ?ga23 ?gg23 ?cc23 ?kp23 ?pl23)
      (DL.er0_mk (b := "KindError") (n := "NothingDone") KX G ?n24 ?l24_ ?h24 ?ga24 ?gg24 ?cc24 ?kp24 ?pl24)
      (DL.er0_mk (b := "KindError") (n := "NotClear") KX G ?n25 ?l25_ ?h25 ?ga25 ?gg25 ?cc25 ?kp25 ?pl25)
      (DL.er0_mk (b := "KindError") (n := "NotRooted") KX G ?n26 ?l26_ ?h26 ?ga26 ?gg26 ?cc26 ?kp26 ?pl26)
      (DL.er0_mk (b := "KindError") (n := "OtherPlaces") KX G ?n27 ?l27_ ?h27 ?ga27 ?gg27 ?cc27 ?kp27 ?pl27)
      (DL.er0_mk (b := "KindError") (n := "TooGreat") KX G ?n28 ?l28_ ?h28 ?ga28 ?gg28 ?cc28 ?kp28 ?pl28) ?emv ?ehn ?eht) ?a1 ?l1 ?q1 ?k1 ?a2 ?l2 ?q2 ?k2 ?a3 ?l3 ?q3 ?k3 ?a4 ?l4 ?q4 ?k4 ?a5 ?l5 ?q5 ?k5 ?a6 ?l6 ?q6 ?k6 ?a7 ?l7 ?q7 ?k7 ?a8 ?l8 ?q8 ?k8 ?a9 ?l9 ?q9 ?k9 ?a10 ?l10 ?q10 ?k10 ?a11 ?l11 ?q11 ?k11 ?z_abs ?z_any ?z_enumerate ?z_int ?z_isinstance ?z_len ?z_range ?z_repr
    (case eq => first | k_is | ks_is | kernel_rfl | rfl | decide +kernel)
    (case eop => first | k_is | ks_is | kernel_rfl | rfl | decide +kernel)
    (case ems => first | k_is | ks_is | kernel_rfl | rfl | decide +kernel)
    (case n0 => k_is)
    (case l0_ => k_is)
    (case h0 => first | rfl | decide +kernel)
    (case ga0 => k_is)
    (case gg0 => k_is)
    (case cc0 => k_is)
    (case kp0 => k_is)
    (case pl0 => first | k_is | ks_is | kernel_rfl | rfl | decide +kernel)
    (case n1 => k_is)
    (case l1_ => k_is)
    (case h1 => first | rfl | decide +kernel)
    (case ga1 => k_is)
    (case gg1 => k_is)
    (case cc1 => k_is)
    (case kp1 => k_is)
    (case esa1 => first | k_is | ks_is | kernel_rfl | rfl | decide +kernel)
    (case ei1 => first | k_is | ks_is | kernel_rfl | rfl | decide +kernel)
    (case eit1 => first | k_is | ks_is | kernel_rfl | rfl | decide +kernel)
    (case el1 => first | k_is | ks_is | kernel_rfl | rfl | decide +kernel)
    (case ec1 => first | k_is | ks_is | kernel_rfl | rfl | decide +kernel)
    (case ed1 => first | k_is | ks_is | kernel_rfl | rfl | decide +kernel)
    (case ev1 => rfl)
    (case ep1 => first | k_is | ks_is | kernel_rfl | rfl | decide +kernel)
    (case ecc1 => first | k_is | ks_is | kernel_rfl | rfl | decide +kernel)
    (case exi1 => first | k_is | ks_is | kernel_rfl | rfl | decide +kernel)
    (case enf1 => first | k_is | ks_is | kernel_rfl | rfl | decide +kernel)
    (case esu1 => first | k_is | ks_is | kernel_rfl | rfl | decide +kernel)
    (case n2 => k_is)
    (case l2_ => k_is)
    (case h2 => first | rfl | decide +kernel)
    (case ga2 => k_is)
    (case gg2 => k_is)
    (case cc2 => k_is)
    (case kp2 => k_is)
    (case esa2 => first | k_is | ks_is | kernel_rfl | rfl | decide +kernel)
    (case ei2 => first | k_is | ks_is | kernel_rfl | rfl | decide +kernel)
    (case eit2 => first | k_is | ks_is | kernel_rfl | rfl | decide +kernel)
    (case el2 => first | k_is | ks_is | kernel_rfl | rfl | decide +kernel)
    (case ec2 => first | k_is | ks_is | kernel_rfl | rfl | decide +kernel)
    (case ed2 => first | k_is | ks_is | kernel_rfl | rfl | decide +kernel)
    (case ev2 => rfl)
    (case ep2 => first | k_is | ks_is | kernel_rfl | rfl | decide +kernel)
    (case ecc2 => first | k_is | ks_is | kernel_rfl | rfl | decide +kernel)
    (case exi2 => first | k_is | ks_is | kernel_rfl | rfl | decide +kernel)
    (case enf2 => first | k_is | ks_is | kernel_rfl | rfl | decide +kernel)
    (case esu2 => first | k_is | ks_is | kernel_rfl | rfl | decide +kernel)
    (case n3 => k_is)
    (case l3_ => k_is)
    (case h3 => first | rfl | decide +kernel)
    (case ga3 => k_is)
    (case gg3 => k_is)
    (case cc3 => k_is)
    (case kp3 => k_is)
    (case esa3 => first | k_is | ks_is | kernel_rfl | rfl | decide +kernel)
    (case ei3 => first | k_is | ks_is | kernel_rfl | rfl | decide +kernel)
    (case eit3 => first | k_is | ks_is | kernel_rfl | rfl | decide +kernel)
    (case el3 => first | k_is | ks_is | kernel_rfl | rfl | decide +kernel)
    (case ec3 => first | k_is | ks_is | kernel_rfl | rfl | decide +kernel)
    (case ed3 => first | k_is | ks_is | kernel_rfl | rfl | decide +kernel)
    (case ev3 => rfl)
    (case ep3 => first | k_is | ks_is | kernel_rfl | rfl | decide +kernel)
    (case ecc3 => first | k_is | ks_is | kernel_rfl | rfl | decide +kernel)
    (case exi3 => first | k_is | ks_is | kernel_rfl | rfl | decide +kernel)
    (case enf3 => first | k_is | ks_is | kernel_rfl | rfl | decide +kernel)
    (case esu3 => first | k_is | ks_is | kernel_rfl | rfl | decide +kernel)
    (case n4 => k_is)
    (case l4_ => k_is)
    (case h4 => first | rfl | decide +kernel)
    (case ga4 => k_is)
    (case gg4 => k_is)
    (case cc4 => k_is)
    (case kp4 => k_is)
    (case esa4 => first | k_is | ks_is | kernel_rfl | rfl | decide +kernel)
    (case ei4 => first | k_is | ks_is | kernel_rfl | rfl | decide +kernel)
    (case eit4 => first | k_is | ks_is | kernel_rfl | rfl | decide +kernel)
    (case el4 => first | k_is | ks_is | kernel_rfl | rfl | decide +kernel)
    (case ec4 => first | k_is | ks_is | kernel_rfl | rfl | decide +kernel)
    (case ed4 => first | k_is | ks_is | kernel_rfl | rfl | decide +kernel)
    (case ev4 => rfl)
    (case ep4 => first | k_is | ks_is | kernel_rfl | rfl | decide +kernel)
    (case ecc4 => first | k_is | ks_is | kernel_rfl | rfl | decide +kernel)
    (case exi4 => first | k_is | ks_is | kernel_rfl | rfl | decide +kernel)
    (case enf4 => first | k_is | ks_is | kernel_rfl | rfl | decide +kernel)
    (case esu4 => first | k_is | ks_is | kernel_rfl | rfl | decide +kernel)
    (case n5 => k_is)
    (case l5_ => k_is)
    (case h5 => first | rfl | decide +kernel)
    (case ga5 => k_is)
    (case gg5 => k_is)
    (case cc5 => k_is)
    (case kp5 => k_is)
    (case esa5 => first | k_is | ks_is | kernel_rfl | rfl | decide +kernel)
    (case ei5 => first | k_is | ks_is | kernel_rfl | rfl | decide +kernel)
    (case eit5 => first | k_is | ks_is | kernel_rfl | rfl | decide +kernel)
    (case el5 => first | k_is | ks_is | kernel_rfl | rfl | decide +kernel)
    (case ec5 => first | k_is | ks_is | kernel_rfl | rfl | decide +kernel)
    (case ed5 => first | k_is | ks_is | kernel_rfl | rfl | decide +kernel)
    (case ev5 => rfl)
    (case ep5 => first | k_is | ks_is | kernel_rfl | rfl | decide +kernel)
    (case ecc5 => first | k_is | ks_is | kernel_rfl | rfl | decide +kernel)
    (case exi5 => first | k_is | ks_is | kernel_rfl | rfl | decide +kernel)
    (case enf5 => first | k_is | ks_is | kernel_rfl | rfl | decide +kernel)
    (case esu5 => first | k_is | ks_is | kernel_rfl | rfl | decide +kernel)
    (case n6 => k_is)
    (case l6_ => k_is)
    (case h6 => first | rfl | decide +kernel)
    (case ga6 => k_is)
    (case gg6 => k_is)
    (case cc6 => k_is)
    (case kp6 => k_is)
    (case esa6 => first | k_is | ks_is | kernel_rfl | rfl | decide +kernel)
    (case ei6 => first | k_is | ks_is | kernel_rfl | rfl | decide +kernel)
    (case eit6 => first | k_is | ks_is | kernel_rfl | rfl | decide +kernel)
    (case el6 => first | k_is | ks_is | kernel_rfl | rfl | decide +kernel)
    (case ec6 => first | k_is | ks_is | kernel_rfl | rfl | decide +kernel)
    (case ed6 => first | k_is | ks_is | kernel_rfl | rfl | decide +kernel)
    (case ev6 => rfl)
    (case ep6 => first | k_is | ks_is | kernel_rfl | rfl | decide +kernel)
    (case ecc6 => first | k_is | ks_is | kernel_rfl | rfl | decide +kernel)
    (case exi6 => first | k_is | ks_is | kernel_rfl | rfl | decide +kernel)
    (case enf6 => first | k_is | ks_is | kernel_rfl | rfl | decide +kernel)
    (case esu6 => first | k_is | ks_is | kernel_rfl | rfl | decide +kernel)
    (case enff6 => first | k_is | ks_is | kernel_rfl | rfl | decide +kernel)
    (case n7 => k_is)
    (case l7_ => k_is)
    (case h7 => first | rfl | decide +kernel)
    (case ga7 => k_is)
    (case gg7 => k_is)
    (case cc7 => k_is)
    (case kp7 => k_is)
    (case esa7 => first | k_is | ks_is | kernel_rfl | rfl | decide +kernel)
    (case ei7 => first | k_is | ks_is | kernel_rfl | rfl | decide +kernel)
    (case eit7 => first | k_is | ks_is | kernel_rfl | rfl | decide +kernel)
    (case el7 => first | k_is | ks_is | kernel_rfl | rfl | decide +kernel)
    (case ec7 => first | k_is | ks_is | kernel_rfl | rfl | decide +kernel)
    (case ed7 => first | k_is | ks_is | kernel_rfl | rfl | decide +kernel)
    (case ev7 => rfl)
    (case ep7 => first | k_is | ks_is | kernel_rfl | rfl | decide +kernel)
    (case ecc7 => first | k_is | ks_is | kernel_rfl | rfl | decide +kernel)
    (case exi7 => first | k_is | ks_is | kernel_rfl | rfl | decide +kernel)
    (case enf7 => first | k_is | ks_is | kernel_rfl | rfl | decide +kernel)
    (case esu7 => first | k_is | ks_is | kernel_rfl | rfl | decide +kernel)
    (case enff7 => first | k_is | ks_is | kernel_rfl | rfl | decide +kernel)
    (case n8 => k_is)
    (case l8_ => k_is)
    (case h8 => first | rfl | decide +kernel)
    (case ga8 => k_is)
    (case gg8 => k_is)
    (case cc8 => k_is)
    (case kp8 => k_is)
    (case esa8 => first | k_is | ks_is | kernel_rfl | rfl | decide +kernel)
    (case ei8 => first | k_is | ks_is | kernel_rfl | rfl | decide +kernel)
    (case eit8 => first | k_is | ks_is | kernel_rfl | rfl | decide +kernel)
    (case el8 => first | k_is | ks_is | kernel_rfl | rfl | decide +kernel)
    (case ec8 => first | k_is | ks_is | kernel_rfl | rfl | decide +kernel)
    (case ed8 => first | k_is | ks_is | kernel_rfl | rfl | decide +kernel)
    (case ev8 => rfl)
    (case ep8 => first | k_is | ks_is | kernel_rfl | rfl | decide +kernel)
    (case ecc8 => first | k_is | ks_is | kernel_rfl | rfl | decide +kernel)
    (case exi8 => first | k_is | ks_is | kernel_rfl | rfl | decide +kernel)
    (case enf8 => first | k_is | ks_is | kernel_rfl | rfl | decide +kernel)
    (case esu8 => first | k_is | ks_is | kernel_rfl | rfl | decide +kernel)
    (case enff8 => first | k_is | ks_is | kernel_rfl | rfl | decide +kernel)
    (case n9 => k_is)
    (case l9_ => k_is)
    (case h9 => first | rfl | decide +kernel)
    (case ga9 => k_is)
    (case gg9 => k_is)
    (case cc9 => k_is)
    (case kp9 => k_is)
    (case esa9 => first | k_is | ks_is | kernel_rfl | rfl | decide +kernel)
    (case ei9 => first | k_is | ks_is | kernel_rfl | rfl | decide +kernel)
    (case eit9 => first | k_is | ks_is | kernel_rfl | rfl | decide +kernel)
    (case el9 => first | k_is | ks_is | kernel_rfl | rfl | decide +kernel)
    (case ec9 => first | k_is | ks_is | kernel_rfl | rfl | decide +kernel)
    (case ed9 => first | k_is | ks_is | kernel_rfl | rfl | decide +kernel)
    (case ev9 => rfl)
    (case ep9 => first | k_is | ks_is | kernel_rfl | rfl | decide +kernel)
    (case ecc9 => first | k_is | ks_is | kernel_rfl | rfl | decide +kernel)
    (case exi9 => first | k_is | ks_is | kernel_rfl | rfl | decide +kernel)
    (case enf9 => first | k_is | ks_is | kernel_rfl | rfl | decide +kernel)
    (case esu9 => first | k_is | ks_is | kernel_rfl | rfl | decide +kernel)
    (case n10 => k_is)
    (case l10_ => k_is)
    (case h10 => first | rfl | decide +kernel)
    (case ga10 => k_is)
    (case gg10 => k_is)
    (case cc10 => k_is)
    (case kp10 => k_is)
    (case esa10 => first | k_is | ks_is | kernel_rfl | rfl | decide +kernel)
    (case ei10 => first | k_is | ks_is | kernel_rfl | rfl | decide +kernel)
    (case eit10 => first | k_is | ks_is | kernel_rfl | rfl | decide +kernel)
    (case el10 => first | k_is | ks_is | kernel_rfl | rfl | decide +kernel)
    (case ec10 => first | k_is | ks_is | kernel_rfl | rfl | decide +kernel)
    (case ed10 => first | k_is | ks_is | kernel_rfl | rfl | decide +kernel)
    (case ev10 => rfl)
    (case ep10 => first | k_is | ks_is | kernel_rfl | rfl | decide +kernel)
    (case ecc10 => first | k_is | ks_is | kernel_rfl | rfl | decide +kernel)
    (case exi10 => first | k_is | ks_is | kernel_rfl | rfl | decide +kernel)
    (case enf10 => first | k_is | ks_is | kernel_rfl | rfl | decide +kernel)
    (case esu10 => first | k_is | ks_is | kernel_rfl | rfl | decide +kernel)
    (case n11 => k_is)
    (case l11_ => k_is)
    (case h11 => first | rfl | decide +kernel)
    (case ga11 => k_is)
    (case gg11 => k_is)
    (case cc11 => k_is)
    (case kp11 => k_is)
    (case pl11 => first | k_is | ks_is | kernel_rfl | rfl | decide +kernel)
    (case n12 => k_is)
    (case l12_ => k_is)
    (case h12 => first | rfl | decide +kernel)
    (case ga12 => k_is)
    (case gg12 => k_is)
    (case cc12 => k_is)
    (case kp12 => k_is)
    (case pl12 => first | k_is | ks_is | kernel_rfl | rfl | decide +kernel)
    (case n13 => k_is)
    (case l13_ => k_is)
    (case h13 => first | rfl | decide +kernel)
    (case ga13 => k_is)
    (case gg13 => k_is)
    (case cc13 => k_is)
    (case kp13 => k_is)
    (case pl13 => first | k_is | ks_is | kernel_rfl | rfl | decide +kernel)
    (case n14 => k_is)
    (case l14_ => k_is)
    (case h14 => first | rfl | decide +kernel)
    (case ga14 => k_is)
    (case gg14 => k_is)
    (case cc14 => k_is)
    (case kp14 => k_is)
    (case pl14 => first | k_is | ks_is | kernel_rfl | rfl | decide +kernel)
    (case n15 => k_is)
    (case l15_ => k_is)
    (case h15 => first | rfl | decide +kernel)
    (case ga15 => k_is)
    (case gg15 => k_is)
    (case cc15 => k_is)
    (case kp15 => k_is)
    (case pl15 => first | k_is | ks_is | kernel_rfl | rfl | decide +kernel)
    (case n16 => k_is)
    (case l16_ => k_is)
    (case h16 => first | rfl | decide +kernel)
    (case ga16 => k_is)
    (case gg16 => k_is)
    (case cc16 => k_is)
    (case kp16 => k_is)
    (case pl16 => first | k_is | ks_is | kernel_rfl | rfl | decide +kernel)
    (case n17 => k_is)
    (case l17_ => k_is)
    (case h17 => first | rfl | decide +kernel)
    (case ga17 => k_is)
    (case gg17 => k_is)
    (case cc17 => k_is)
    (case kp17 => k_is)
    (case pl17 => first | k_is | ks_is | kernel_rfl | rfl | decide +kernel)
    (case n18 => k_is)
    (case l18_ => k_is)
    (case h18 => first | rfl | decide +kernel)
    (case ga18 => k_is)
    (case gg18 => k_is)
    (case cc18 => k_is)
    (case kp18 => k_is)
    (case pl18 => first | k_is | ks_is | kernel_rfl | rfl | decide +kernel)
    (case n19 => k_is)
    (case l19_ => k_is)
    (case h19 => first | rfl | decide +kernel)
    (case ga19 => k_is)
    (case gg19 => k_is)
    (case cc19 => k_is)
    (case kp19 => k_is)
    (case pl19 => first | k_is | ks_is | kernel_rfl | rfl | decide +kernel)
    (case n20 => k_is)
    (case l20_ => k_is)
    (case h20 => first | rfl | decide +kernel)
    (case ga20 => k_is)
    (case gg20 => k_is)
    (case cc20 => k_is)
    (case kp20 => k_is)
    (case pl20 => first | k_is | ks_is | kernel_rfl | rfl | decide +kernel)
    (case n21 => k_is)
    (case l21_ => k_is)
    (case h21 => first | rfl | decide +kernel)
    (case ga21 => k_is)
    (case gg21 => k_is)
    (case cc21 => k_is)
    (case kp21 => k_is)
    (case pl21 => first | k_is | ks_is | kernel_rfl | rfl | decide +kernel)
    (case n22 => k_is)
    (case l22_ => k_is)
    (case h22 => first | rfl | decide +kernel)
    (case ga22 => k_is)
    (case gg22 => k_is)
    (case cc22 => k_is)
    (case kp22 => k_is)
    (case pl22 => first | k_is | ks_is | kernel_rfl | rfl | decide +kernel)
    (case n23 => k_is)
    (case l23_ => k_is)
    (case h23 => first | rfl | decide +kernel)
    (case ga23 => k_is)
    (case gg23 => k_is)
    (case cc23 => k_is)
    (case kp23 => k_is)
    (case pl23 => first | k_is | ks_is | kernel_rfl | rfl | decide +kernel)
    (case n24 => k_is)
    (case l24_ => k_is)
    (case h24 => first | rfl | decide +kernel)
    (case ga24 => k_is)
    (case gg24 => k_is)
    (case cc24 => k_is)
    (case kp24 => k_is)
    (case pl24 => first | k_is | ks_is | kernel_rfl | rfl | decide +kernel)
    (case n25 => k_is)
    (case l25_ => k_is)
    (case h25 => first | rfl | decide +kernel)
    (case ga25 => k_is)
    (case gg25 => k_is)
    (case cc25 => k_is)
    (case kp25 => k_is)
    (case pl25 => first | k_is | ks_is | kernel_rfl | rfl | decide +kernel)
    (case n26 => k_is)
    (case l26_ => k_is)
    (case h26 => first | rfl | decide +kernel)
    (case ga26 => k_is)
    (case gg26 => k_is)
    (case cc26 => k_is)
    (case kp26 => k_is)
    (case pl26 => first | k_is | ks_is | kernel_rfl | rfl | decide +kernel)
    (case n27 => k_is)
    (case l27_ => k_is)
    (case h27 => first | rfl | decide +kernel)
    (case ga27 => k_is)
    (case gg27 => k_is)
    (case cc27 => k_is)
    (case kp27 => k_is)
    (case pl27 => first | k_is | ks_is | kernel_rfl | rfl | decide +kernel)
    (case n28 => k_is)
    (case l28_ => k_is)
    (case h28 => first | rfl | decide +kernel)
    (case ga28 => k_is)
    (case gg28 => k_is)
    (case cc28 => k_is)
    (case kp28 => k_is)
    (case pl28 => first | k_is | ks_is | kernel_rfl | rfl | decide +kernel)
    (case emv => first | k_is | ks_is | kernel_rfl | rfl | decide +kernel)
    (case ehn => first | k_is | ks_is | kernel_rfl | rfl | decide +kernel)
    (case eht => first | k_is | ks_is | kernel_rfl | rfl | decide +kernel)
    (case a1 => k_is); (case l1 => k_is); (case q1 => k_is); (case k1 => k_is)
    (case a2 => k_is); (case l2 => k_is); (case q2 => k_is); (case k2 => k_is)
    (case a3 => k_is); (case l3 => k_is); (case q3 => k_is); (case k3 => k_is)
    (case a4 => k_is); (case l4 => k_is); (case q4 => k_is); (case k4 => k_is)
    (case a5 => k_is); (case l5 => k_is); (case q5 => k_is); (case k5 => k_is)
    (case a6 => k_is); (case l6 => k_is); (case q6 => k_is); (case k6 => k_is)
    (case a7 => k_is); (case l7 => k_is); (case q7 => k_is); (case k7 => k_is)
    (case a8 => k_is); (case l8 => k_is); (case q8 => k_is); (case k8 => k_is)
    (case a9 => k_is); (case l9 => k_is); (case q9 => k_is); (case k9 => k_is)
    (case a10 => k_is); (case l10 => k_is); (case q10 => k_is); (case k10 => k_is)
    (case a11 => k_is); (case l11 => k_is); (case q11 => k_is); (case k11 => k_is)
    (case z_abs => k_is); (case z_any => k_is); (case z_enumerate => k_is); (case z_int => k_is)
    (case z_isinstance => k_is); (case z_len => k_is); (case z_range => k_is); (case z_repr => k_is)

